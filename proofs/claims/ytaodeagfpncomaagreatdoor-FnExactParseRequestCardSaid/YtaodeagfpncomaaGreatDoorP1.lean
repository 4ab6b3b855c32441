/- The law FnExactParseRequest of the package laws answers true for all arguments and leaves them as they are (part 1). Conditions: none but what the row lists. -/
import Derived.Test.YtaodeagfpncomaaGreatDoorB2
set_option linter.unusedVariables false
set_option linter.unusedSimpArgs false
set_option maxRecDepth 100000
set_option maxHeartbeats 4000000
open Go.Lib renaming pow10Tab->uh
open Go.OpenSpec renaming ofChange->sU
open Go.Proofs.Tryz renaming f4->BI
open List renaming mem_cons->aO,map->aP,append_nil->iZ,not_mem_nil->jL
open Option renaming isSome_iff_exists->uA
open Option.some renaming inj->zn
open Prod.mk renaming injEq->aK
section
namespace Go.Ab
open Go
def C.qC : gI:=qs [qB 2 false] [0]<|.seq (qs [zM 11 0,ql 12 11,qk 13 .gtr 12 1048576] [0,13]<|qc 13 (qr [qB 2 true] [2]) .skip)<|qs [zM 15 0,q1 16 18 15,zM 14 16,qE 17 14 0,qE 18 14 1,zA 3 (.alloc 10 [xI 0,.c (.str []),.mM 1,.mM 1,xI 0,xI 0,.c (.str []),.mM 1,.mM 5,.mM 8]),qS 10 3 17,zM 4 18] [0,3,4]<|qs [zM 20 0,q1 21 19 20,zM 19 21,qE 22 19 0,qE 23 19 1,zA 5 (.alloc 11 [xI 0,.c (.str []),.mM 1,.mM 1,xI 0,xI 0,.c (.str []),.mM 1,.mM 5,.mM 8]),qS 10 5 22,zM 6 23] [0,3,4,5,6]<|.seq (qs [qT 24 10 5,qT 25 10 3,q2 26 20 24 25,qO 27 26,zM 28 27,qm 28 false 29 6,qm 28 false 30 4,zG 28 false 31 (.beq true (.t 29)<|.t 30),qQ 32 28 31] [0,3,4,5,32]<|qc 32 (qr [qB 2 false] [2]) .skip)<|qs [qI 7 1] [0,3,4,5,7]<|qs [qT 33 10 5,zM 34 7,q2 35 21 33 34,zM 7 35] [0,3,4,5,7]<|qs [qI 8 1] [0,3,4,5,7,8]<|qs [qT 36 10 5,zM 37 8,q2 38 22 36 37,zM 8 38] [0,3,4,5,7,8]<|.seq (qs [zM 39 8,qk 40 .lss 39 0] [0,3,4,5,7,8,40]<|qc 40 (qr [qB 2 false] [2]) .skip)<|.seq (qs [zM 41 8,zM 42 7,qb 43 .neq 41 42] [0,3,4,5,7,43]<|qc 43 (qr [qB 2 false] [2]) .skip)<|qs [zM 45 0,q1 46 19 45,zM 44 46,qE 47 44 0,qE 48 44 1,zA 9 (.alloc 12 [xI 0,.c (.str []),.mM 1,.mM 1,xI 0,xI 0,.c (.str []),.mM 1,.mM 5,.mM 8]),qS 10 9 47,zM 10 48] [3,4,5,7,9,10]<|.seq (qs [qT 49 10 9,qT 50 10 3,q2 51 20 49 50,qO 52 51,zM 53 52,qm 53 false 54 10,qm 53 false 55 4,zG 53 false 56 (.beq true (.t 54)<|.t 55),qQ 57 53 56] [5,7,57]<|qc 57 (qr [qB 2 false] [2]) .skip)<|qs [qI 8 1] [5,7,8]<|qs [qT 58 10 5,zM 59 8,q2 60 22 58 59,zM 8 60] [7,8]<|.seq (qs [zM 61 8,qk 62 .lss 61 0] [7,8,62]<|qc 62 (qr [qB 2 false] [2]) .skip)<|.seq (qs [zM 63 8,zM 64 7,qb 65 .neq 63 64] [65]<|qc 65 (qr [qB 2 false] [2]) .skip)<|qr [qB 2 true] [2]
noncomputable abbrev DF : Program:=Go.Proofs.Tryz.prog
noncomputable abbrev IC : Func:=BI
noncomputable abbrev aar : Code:=(BI.body).getD .skip
theorem P8 : BI.body=some aar:=oK
theorem aeH : tC DF 66 0 aar C.qC=true:=oK
def Vq : G7
 |15=>some (25,1,[.str 0])
 |41=>some (41,5,[.int 0,.int 1,.str 2,.sub 3 15,.sub 4 41])
 |60=>some (44,8,[.int 0,.sub 1 15,.sub 2 15,.int 3,.int 4,.str 5,.sub 6 15,.sub 7 41])
 |_=>none
def VQ : Yp
 |59=>some (5,[.sl 3 15,.sl 4 41])
 |21=>some (10,[.sl 2 15,.sl 3 15,.st 4 5 59,.sl 9 60])
 |_=>none
theorem ae9 (f:Nat)(h:(Vq f).isSome=true):abO DF 40 Vq f=true:=by
 unfold Vq at h;split at h
 ·kernel_rfl
 ·kernel_rfl
 ·kernel_rfl
 ·cases h
theorem XT (f:Nat)(h:(VQ f).isSome=true):agO DF VQ f=true:=by
 unfold VQ at h;split at h
 ·kernel_rfl
 ·kernel_rfl
 ·cases h
theorem ahK : IU DF 40 tx:=λk h0 h1=>by obtain⟨n,hn⟩:=(abe ⟨h0,h1⟩).val;exact F.jF hn
theorem ai6 : MT Vq 15 41 25 41:=⟨rfl,rfl⟩
theorem amM : vw DF 25=1:=oK
theorem amN : vw DF 41=5:=oK
theorem amO : nP DF 41=[(3,25),(4,41)]:=oK
theorem amP : vw DF 44=8:=oK
theorem ajC : nP DF 44=[(1,25),(2,25),(6,25),(7,41)]:=oK
theorem amQ : TyH DF 25 41 44:=⟨amM,amN,amO,amP,ajC⟩
noncomputable abbrev adY : Code:=OA 3 aar
abbrev IV : gI:=C.qC
abbrev Td : gI:=TB 3 IV
noncomputable abbrev ahW : Code:=OA 3 adY
noncomputable abbrev aka : Code:=OA 1 ahW
abbrev adI : gI:=TB 1 (TB 3 Td)
theorem ami : tC DF 66 0 adY Td=true:=oK
theorem amj : tC DF 66 0 aka adI=true:=oK
def Qx : List OF:=[.vp 5 5 0,.row 5 ⟨2,25,100502⟩,.row 5 ⟨3,25,100503⟩,.row 5 ⟨7,25,100507⟩,.row 5 ⟨8,41,100508⟩,.row 5 ⟨9,44,100509⟩]
theorem akQ : (FX DF [] 3 aar IV []).isSome=true:=oK
theorem aml : (match FX DF [0,3,4] 3 adY Td []with|some Γ =>Qx.all Γ.contains|none=>false)=true:=oK
theorem akL : Zn DF 66 ahW=some (some 10,5,7,21,[33,34,35,7]):=oK
structure Pe (n:di)(p0:cZ)(p1:Bool):Prop where
 c0:decide ((n.length:Int)>1048576)=false
 w:∃m,G.gm m n=some (p0,p1)
 g:∃m,G.jh m n=some (p0,p1)
 e0:∃m,G.pI m p0 p0=some true
 h0:∃m,G.oM m (Zo p0 1) 1=some (1+(rqc p0:Int))
 q0:rqc p0<1000000000
abbrev agB (n:cZ):List AC:=[.c (.lit (.int .i64 n.gZ)),.c (.str n.rW),.c (.sl 1 (aP cS n.xZ)),.c (.sl 1 (aP cS n.tu)),.c (.lit (.int .i64 n.Body.dH)),.c (.lit (.int .i64 n.Body.ve)),.c (.str n.Body.oz),.c (.sl 1 (aP cS n.Body.dS)),.c (.sl 5 (aP au.cells n.Body.bC)),.c (.sl 8 (aP o6.cells n.vZ))]
abbrev aiq (n:cZ):List Cell:=[.lit (.int .i64 n.gZ),.str n.rW,.sl 1 (aP cS n.xZ),.sl 1 (aP cS n.tu),.lit (.int .i64 n.Body.dH),.lit (.int .i64 n.Body.ve),.str n.Body.oz,.sl 1 (aP cS n.Body.dS),.sl 5 (aP au.cells n.Body.bC),.sl 8 (aP o6.cells n.vZ)]
abbrev We (n:cZ):Slot:=.v true (.one (.EG (aiq n)))
abbrev EF (b:Bool):Slot:=.v true (.one (.c (.lit (.bool b))))
abbrev Ze (k:Int):Slot:=.v true (.one (.c (.lit (.int .i64 k))))
abbrev Ii (s:di):Slot:=.v true (.one (.c (.str s)))
theorem alc {n:di}{p0:cZ}{p1:Bool}(F0:Pe n p0 p1){K:iI->Prop}(zf:agn K (iI.of [(0,Ii n),(3,.v true (.one (.ptr 10 0))),(4,EF p1)] [(10,.var (agB p0))])):wpC DF (takeA 3 IV) (QA K (RL 2)) (st0 [.one (.c (.str n))] []):=by
 obtain⟨_,h1⟩:=F0.w;have zc:=pp (F.gm h1) <|()
 have c0:=F0.c0;clear F0;refine wR ?_;unfold IV C.qC;simp only[takeA];exact agW
theorem ald {n:di}{p0:cZ}{p1:Bool}(F0:Pe n p0 p1){K:iI->Prop}(zf:agn K (iI.of [(0,Ii n),(3,We p0),(4,EF p1),(5,.v true (.one (.ptr 11 0))),(7,Ze 1)] [(11,.var (agB p0))])):wpC DF (takeA 3 Td) (QA K (RL 2)) (iI.of [(0,Ii n),(3,We p0),(4,EF p1)] []):=by
 obtain⟨_,h1⟩:=F0.g;obtain⟨_,h2⟩:=F0.e0;have zc:=pp (F.jh h1) <|pp (F.pI h2) <|()
 clear F0;refine wR ?_;unfold Td IV C.qC;simp only[takeA,TB];exact agW
theorem ale {n:di}{p0:cZ}{p1:Bool}(F0:Pe n p0 p1):wpC DF adI (QF [.tmp 2] 0 (λr bs=>r=tH true/\bs=[])) (iI.of [(0,Ii n),(3,We p0),(4,EF p1),(5,We (Zo p0 1)),(7,Ze (1+(rqc p0:Int)))] []):=by
 obtain⟨_,h1⟩:=F0.g;obtain⟨_,h2⟩:=F0.e0;obtain⟨_,h3⟩:=F0.h0;have zc:=pp (F.jh h1) <|pp (F.pI h2) <|pp (F.oM h3) <|()
 have hk0:decide (1+(rqc p0:Int)<0)=false:=gW aI;clear F0;refine wR ?_;unfold adI Td IV C.qC;simp only[TB];exact agW
theorem alf {n:di}{K:iI->Prop}(hk0:decide ((n.length:Int)>1048576)=true):wpC DF (takeA 3 IV) (QA K (RL 2)) (st0 [.one (.c (.str n))] []):=by have zc:=();have zf:=();refine wR ?_;unfold IV C.qC;simp only[takeA];exact agW
theorem ahI {S:Slot}{I:IH}{ρ:Ren}{v:Value}{x:Value}(h:GSl I ρ v S)(e:S = .v true (.one (.c (.lit x)))):v=x:=by subst e;have h1:=h.1 rfl;cases h1;rfl
theorem ai4 {n:di}{p0:cZ}{p1:Bool}(F0:Pe n p0 p1):iW DF 4 [.one (.c (.str n))] (tH true):=by
 have hcr:CE DF IC.ntmps IC.results.toList [.tmp 2]=true:=by kernel_rfl
 obtain⟨Γ0,oA'⟩:=uA.1 akQ;refine acf (fn:=IC) (ac:=IV) oK P8 oK (by show 1<=IC.ntmps;exact(by kernel_rfl:decide (1<=IC.ntmps)=true) |> of_decide_eq_true) hcr aeH oA' (λK zf=>alc F0 zf) ?_;intro w0 wA JA I ρ g a w A;obtain⟨hT,hG⟩:=A.gx;have hJ:=VV (V:=ajA ρ (iI.of [(0,Ii n),(3,.v true (.one (.ptr 10 0))),(4,EF p1)] [(10,.var (agB p0))])) hG.agree;have s0:=afJ (x:=0) (c:=.str n) hG xR rfl hJ;have s3:=afK (x:=3) (b:=10) (cs:=aiq p0) hG xR rfl rfl rfl;have s4:=afJ (x:=4) (c:=.lit (.bool p1)) hG xR rfl hJ;have hA:=RU (V:=ajA ρ (iI.of [(0,Ii n),(3,.v true (.one (.ptr 10 0))),(4,EF p1)] [(10,.var (agB p0))])) hG.agree;generalize I.with w _=JB at hJ s0 s3 s4 hA;have hM:Mid DF IC.ntmps w0 JB [(0,Ii n),(3,We p0),(4,EF p1)] a w:=⟨A.tabs.mono (IH.le_trans A.Kq hJ),hA,λt s hs=>by
  simp only[aO,aK,jL,or_false]at hs;rcases hs with⟨rfl,rfl⟩|⟨rfl,rfl⟩|⟨rfl,rfl⟩
  ·exact s0
  ·exact s3
  ·exact s4,hG.size,hG.defers,A.Aj⟩
 clear A hG s0 s3 s4 hJ hA;have hsz:=hM.Aj.size;have hB:=aml;split at hB
 case h_2=>cases hB
 rename_i ΓB oB';refine acg hcr (pa:=[(0,a.tmps.getD 0 undef),(3,a.tmps.getD 3 undef),(4,a.tmps.getD 4 undef)]) (pl:=[0,3,4]) hM nV (by intro e he;simp only[aO,jL,or_false]at he;rcases he with rfl|rfl|rfl<;>rfl) ami oB' (λK zf=>ald F0 zf) ?_
 intro I1 ρ1 g1 a1 w1 A;have hmem:∀f,f∈Qx->f ∈ ΓB:=λf hf=>by have:=List.all_eq_true.1 hB f hf;simpa using this
 obtain⟨hT1,hG⟩:=A.gx;obtain⟨k5,v5,e5,p5,q5,n5,r5,⟨_,_,_,u5⟩,g5⟩:=ac4 (x:=5) (b:=11) (cs:=aiq p0) (rows:=[(2,25,100502),(3,25,100503),(7,25,100507),(8,41,100508),(9,44,100509)]) hG A.ow xR rfl rfl rfl (hmem _ (by simp[Qx])) (λr hr=>hmem _ (by revert r;decide));have S5:=ak9 A.ow.good A.tabs A.Ox A.old A.ag n5 r5 xR g5 (YR amQ p0 _ _ _ _ _);have K0:Mks DF IC.ntmps w0 w JB I1 g1 a1 w1:=⟨A.new,A.alP.size,A.old,A.Kq,A.ag,hG.size,hG.defers,A.Aj,hsz⟩;have c0:=ahI (hG.tm 7 xR) rfl;have zl5:=p5;refine aeN K0 S5 akL (ag8 (zl5) q5 n5) c0 (V8.any (QH (XT 21 rfl) rfl (afM ae9 XT ahK (ZP (sb:=VQ) (ty:=tyR [(2,25,100502),(3,25,100503),(7,25,100507),(8,41,100508),(9,44,100509)]) (fP:=60) (tP:=44) (fM:=59) ai6 rfl rfl rfl rfl rfl rfl rfl p0 aI (by have:=F0.q0;omega))))) ?_;intro b1 y1 J1 K1 S5 c1 tk1 fr1 kp1;have q5:=(fr1 _ _ _ _ u5).trans q5;have tg:∀t,t ∉ [33,34,35,7]->b1.tmps.getD t undef=a1.tmps.getD t undef:=λt ht=>by simp only[aO,jL,or_false,not_or]at ht;rw[tk1 t (by simp;omega)]
 have hJ5:=VV (V:=λk=>k=k5) K1.ag;have hA5:=RU (V:=λk=>k=k5) K1.ag;have hy5:=X4 (I:=J1) (V:=λk=>k=k5) rfl q5;generalize J1.with y1 _=JD at hJ5 hA5 hy5;have akk:=IH.le_trans K1.Kq hJ5;refine aeM hcr (ts:=[(0,Ii n),(3,We p0),(4,EF p1),(5,We (Zo p0 1)),(7,Ze (1+(rqc p0:Int)))]) ⟨hM.tabs.mono akk,hA5,λt s hs=>?_,K1.size,K1.defers,K1.Aj⟩ amj (ale F0);simp only[aO,aK,jL,or_false]at hs;have base:∀t s,(t,s)∈[(0,Ii n),(3,We p0),(4,EF p1)]->t ∉ [33,34,35,7]->(t,a.tmps.getD t undef)∈[(0,a.tmps.getD 0 undef),(3,a.tmps.getD 3 undef),(4,a.tmps.getD 4 undef)]->GSl JD V3 (b1.tmps.getD t undef) s:=λt s h1 h3 h5=>by rw[tg t h3,A.pa _ h5];exact(hM.sl t s h1).mono akk (λ_ _ h=>h)
 rcases hs with⟨rfl,rfl⟩|⟨rfl,rfl⟩|⟨rfl,rfl⟩|⟨rfl,rfl⟩|⟨rfl,rfl⟩
 iterate 3 exact base _ _ nV xR nV
 ·rw[tg 5 xR];exact Un (zl5) hy5 n5 λj v c hv hc=>(S5.rd j v c hv hc).mono hJ5
 ·rw[c1];exact⟨λ_=>.lit _ rfl,λe=>by cases e⟩
theorem agX {n:di}(hw:wpC DF (takeA 3 IV) (QA (λ_=>False) (RL 2)) (st0 [.one (.c (.str n))] [])):iW DF 4 [.one (.c (.str n))] (tH true):=by
 have hcr:CE DF IC.ntmps IC.results.toList [.tmp 2]=true:=by kernel_rfl
 obtain⟨Γ0,oA'⟩:=uA.1 akQ;exact ace (fn:=IC) (ac:=IV) oK P8 oK (by show 1<=IC.ntmps;exact(by kernel_rfl:decide (1<=IC.ntmps)=true) |> of_decide_eq_true) hcr aeH oA' hw
theorem akH {n:di}{q:Prop}(_:q):iW DF 4 [.one (.c (.str n))] (tH true):=by
 by_cases c:decide ((n.length:Int)>1048576)=true
 ·exact agX (alf c)
 have c':decide ((n.length:Int)>1048576)=false:=by simpa using c
 have hl:n.length<=1048576:=by simp only[aQ]at c';omega
 obtain⟨v,gv,hv⟩:=T.jh (s:=n) aI;obtain⟨w,gw,hw⟩:=T.gm n;obtain rfl:=hv.uniq hw;have r:=ajj hv;have rk:=r.k;exact ai4 (p0:=v.1) (p1:=v.2) {
  c0:=c',w:=gw.val,g:=gv.val
  e0:=(T.YW r.f).val,h0:=(T.WZ _ aI aI).val,q0:=by omega }
end Go.Ab
namespace Go.Proofs.YtaodeagfpncomaaGreatDoor.fnExactParseRequest
open Go Go.ChangeShapes Go.WideShapes Go.ChangeAt Go.RowKit Go.Ab
theorem own : ownKnob Tryz.prog.godebug=none:=oK
theorem laidOut : laidOutB Tryz.prog=true:=oK
theorem ajR {I:IH}{s:ByteArray}(h:s.size<=maxLen):Rd I (.string s) (.str s.data.toList):=Rd.str s.data.toList (by simpa using h)
theorem met {W:World}(h:laidMetH Tryz.prog Rows.fnExactParseRequestRow.laid W):laidMet Tryz.prog Rows.fnExactParseRequestRow.laid W:=by unfold laidMetH at h;rw[show(Rows.fnExactParseRequestRow.laid.filter λx=>x.2.handleName?.isSome)=[]from by kernel_rfl]at h;exact h
theorem amB {W:World} (hL:laidMetH Tryz.prog Rows.fnExactParseRequestRow.laid W):∀g,Tryz.prog.globalNamed "internal/strconv.uint64pow10" = some g->I0 W g=some (uh.map λz=>Go.Value.int .u64 z).toArray:=by
 have h:=JL 2 (met hL);rw[show Rows.fnExactParseRequestRow.laid.drop 2=("internal/strconv.uint64pow10",Lib.tabData .u64 uh)::Rows.fnExactParseRequestRow.laid.drop 3 from by kernel_rfl]at h
 exact aji (g:=3) (t:=221) (e:=149) oK oK oK oK oK oK h
theorem amC {W:World} (hS:W.ShapedOpen Tryz.prog):∀g,Tryz.prog.globalNamed "internal/bytealg.MaxLen" = some g->∃m,(I0 W).cell ⟨g,0,none⟩=some (.int .i64 m):=
 ai7 (g:=0) (t:=3) hS oK (of_decide_eq_true oK) oK oK oK oK
theorem aie : "*" ++ "errors.errorString" = "*errors.errorString" :=xR
theorem ala (u:TypeId) (h:Tryz.prog.typeName? 3 u=some "*errors.errorString"):u=229:=
 typeName_ptr_named (nm:= "errors.errorString") (by rw[aie];kernel_rfl) oK xR u (by rw[aie];exact h)
theorem amD {W:World} (hL:laidMetH Tryz.prog Rows.fnExactParseRequestRow.laid W):∀g,Tryz.prog.globalNamed "strconv.ErrSyntax" = some g->∃v,(I0 W).cell ⟨g,0,none⟩=some v/\(v = .nilIface\/∃t p,v = .iface t p):=by
 have h:=JL 5 (met hL);rw[show Rows.fnExactParseRequestRow.laid.drop 5=("strconv.ErrSyntax",.iface "*errors.errorString" (.ptr (.agg [.lit (.string [105,110,118,97,108,105,100,32,115,121,110,116,97,120])])))::Rows.fnExactParseRequestRow.laid.drop 6 from by kernel_rfl]at h
 exact aed (g:=4) (ti:=175) (tp:=229) (te:=231) (ts:=9) (ms:= #[("Error",151)]) (f:={ name:= "s",type:=9,offset:=0,embedded:=false,tag:= "",pkgPath:= "errors",byteOffset:=0 }) h oK oK oK ala oK oK rfl rfl oK oK oK
theorem amE {W:World} (hL:laidMetH Tryz.prog Rows.fnExactParseRequestRow.laid W):∀g,Tryz.prog.globalNamed "strconv.ErrRange" = some g->∃v,(I0 W).cell ⟨g,0,none⟩=some v/\(v = .nilIface\/∃t p,v = .iface t p):=by
 have h:=JL 4 (met hL);rw[show Rows.fnExactParseRequestRow.laid.drop 4=("strconv.ErrRange",.iface "*errors.errorString" (.ptr (.agg [.lit (.string [118,97,108,117,101,32,111,117,116,32,111,102,32,114,97,110,103,101])])))::Rows.fnExactParseRequestRow.laid.drop 5 from by kernel_rfl]at h
 exact aed (g:=5) (ti:=175) (tp:=229) (te:=231) (ts:=9) (ms:= #[("Error",151)]) (f:={ name:= "s",type:=9,offset:=0,embedded:=false,tag:= "",pkgPath:= "errors",byteOffset:=0 }) h oK oK oK ala oK oK rfl rfl oK oK oK
theorem tabs {W:World}(hS:W.ShapedOpen Tryz.prog)(hL:laidMetH Tryz.prog Rows.fnExactParseRequestRow.laid W):Tabs Tryz.prog (I0 W):=⟨amB hL,amC hS,amD hL,amE hL⟩
theorem contract (H:Type)(enc:TypeId×Value->H)(W:World)(base:Nat)(args:Array Value)(ds gs:List (DataW H))(before:List MemPlace)
 (hval:∀(j:Nat) t v,Tryz.f4.params[j]? = some t->args[j]? = some v->Value.okWide Tryz.prog W .any base t v)
 (hW:DataW.Whole enc Tryz.prog Tryz.f4.params.toList Rows.fnExactParseRequestSpec.vars false W args.toList ds gs before)
 (hS:W.ShapedOpen Tryz.prog) (hL:laidMetH Tryz.prog Rows.fnExactParseRequestRow.laid W) :
 Calls Tryz.prog 4 args W λe W'=>∃v,e = .returned v/\Rows.fnExactParseRequestSpec.post enc Tryz.prog Tryz.f4 false true false false W args v W':=by
 have hW':=hW;obtain⟨p,q,hA0,hV,rfl,hfz,hnd⟩:=hW;have hA:DataW.TrodAll enc Tryz.prog W 0 (λ_=>true) true Tryz.f4.params.toList args.toList ds p:=hA0;rw[Tryz.params4]at hA hval;obtain⟨v0,vs0,d0,ds0,p0,q0,hargs,rfl,rfl,h0,r0⟩:=trodAll_cons hA;obtain⟨rfl,rfl,rfl⟩:=trodAll_nil r0;obtain rfl:args = #[v0]:=by cases args;simp_all
 obtain⟨rfl,rfl⟩:=trodVars_none hV;clear hA0;simp only[iZ]at hW';have hlt:∀x∈p0,x.block<W.heap.size:=λx hx=>hW'.lt x (by simpa using hx);obtain⟨s0,rfl⟩:=okWide_string Tryz.underlying9 (hval 0 9 v0 rfl rfl);have hk0:=h0;obtain⟨f0,g0⟩:=h0;obtain⟨x0,e0,m0⟩:=afR oK g0;obtain rfl:s0=x0:=by simpa[Go.Value.cells]using e0
 have key:=ai1 (tabs hS hL) (ag5 (akX (ajR m0))) (akH m0);refine Calls.mono key λe W' ⟨he,hb⟩=>?_;subst he;have ht:DataW.TrodAll enc Tryz.prog W' 0 (λb=>decide (b<W.heap.size)) true [9] [_] [d0] (p0++[]):=trodAll_cons_mk (Below.trod laidOut oK (of_decide_eq_true oK) hk0 hb (λx hx=>hlt x hx)) (trodAll_mk0);simp only[iZ]at ht;exact⟨_,rfl,_,_,_,[],_,[],hW',trodAll_cons_mk (shut_bool Tryz.underlying4 _) trodAll_mk0,
  ht,rfl,hb.frame _,λh=>by cases h⟩
noncomputable def laidWorld (os:Os):World:=World.laidAll Tryz.prog os Rows.fnExactParseRequestRow.laid
theorem laid_met (os:Os):laidMet Tryz.prog Rows.fnExactParseRequestRow.laid ((laidWorld os).forCall (λ_ _=>0) ⟨#[],#[.string ⟨#[]⟩],[]⟩).memory:=
 laidMet_laidAll _ oK oK
theorem reads (os:Os){H:Type}(enc:TypeId×Value->H):∃places,DataW.whole enc Tryz.prog ((laidWorld os).forCall (λ_ _=>0) ⟨#[],#[.string ⟨#[]⟩],[]⟩).memory Tryz.f4.params.toList Rows.fnExactParseRequestSpec.vars false #[.string ⟨#[]⟩].toList 8=some ([.lit (.string [])],[],places):=
 ⟨[],oK⟩
theorem lifted (os:Os)(started:os.Started)(H:Type)(enc:TypeId×Value->H)(F:Stop.Interp) :
 ReturnsInHanded {} Tryz.checked os 4 .any ((sU Rows.fnExactParseRequestSpec).preRow enc Tryz.prog Tryz.f4 Rows.fnExactParseRequestRow.domain false Rows.fnExactParseRequestRow.laid) (((sU Rows.fnExactParseRequestSpec).at F).post enc Tryz.prog Tryz.f4 false true false false):=by
 obtain⟨places,hx⟩:=reads os enc;refine returnsInHanded_of_row (C:=Tryz.checked) (s:=sU Rows.fnExactParseRequestSpec) own started oK Tryz.func4
  (witness_row_atRef (enc:=enc) (C:=Tryz.checked) false (laidWorld os) #[.string ⟨#[]⟩] (World.laidAll_os _ _ _) oK oK oK
   (OpenSpec.preRow_of_cond 8 hx oK (λk hk=>by cases hk) oK (laid_met os))) ?_
 intro W base args ds gs before hval hW _ _ _ hL hS _;exact contract H enc W base args ds gs before hval hW hS hL
theorem j1 : (Rows.fnExactParseRequestRow.inPlace==Tryz.prog.inPlace 4)=true:=oK
theorem j2 : (Rows.fnExactParseRequestRow.unfollowed==Tryz.prog.unfollowed 4)=true:=oK
theorem j3 : (Rows.fnExactParseRequestRow.recurses==Tryz.prog.recurses 4)=true:=oK
theorem j4 : (Rows.fnExactParseRequestRow.named==Tryz.prog.varsNamed 4)=true:=oK
theorem j5 : joinedFacts Tryz.prog 4 Tryz.f4 (sU Rows.fnExactParseRequestSpec).bare Rows.fnExactParseRequestRow=true:=by
 unfold joinedFacts;rw[j1,j2,j3,j4]
 kernel_rfl
theorem j6 : Tryz.prog.funcNamed Rows.fnExactParseRequestRow.func=some 4:=oK
theorem said : Rows.FnExactParseRequestSaid:=
 OpenClaim.holds_of_cond 4 Tryz.f4 rfl rfl rfl rfl rfl rfl rfl ⟨rfl,rfl,rfl,rfl,rfl⟩ rfl rfl rfl rfl rfl j6 Tryz.func4 j5
  (of_decide_eq_true oK) (by unfold Func.isWrapper;first|(rw[aF (by decide +kernel)];kernel_rfl)|(rw[ai (by decide +kernel)];exact⟨rfl,rfl⟩))
  (λos started H enc _ F=>by rw[OpenClaim.pre_eq_preRow];exact lifted os started H enc F)
theorem jw : Rows.fnExactParseRequestRow.wfByText (sU Rows.fnExactParseRequestSpec)=true:=oK
theorem jm : Tryz.pinned.checked.prog.mainIs=some (Rows.fnExactParseRequestCard.stood.harness.1,Rows.fnExactParseRequestCard.stood.harness.2.toList):=oK
theorem jg : false=Rows.fnExactParseRequestRow.goesBy Tryz.pinned.checked.prog:=oK
theorem plain (f:FuncId)(fn:Func)(hf:Tryz.pinned.checked.prog.funcNamed Rows.fnExactParseRequestRow.func=some f)(hfn:Tryz.pinned.checked.prog.funcs[f]? = some fn) :
 true=Tryz.pinned.checked.prog.looks []/\∀(j:Nat) t,fn.params[j]? = some t->Tryz.pinned.checked.prog.wantsStandIn t=false:=by
 obtain rfl:f=4:=zn ((show Tryz.prog.funcNamed Rows.fnExactParseRequestRow.func=some 4 by kernel_rfl).symm.trans hf) |>.symm;obtain rfl:fn=Tryz.f4:=(zn (Tryz.func4.symm.trans hfn)).symm;refine⟨oK,λj t ht=>?_⟩;rw[Tryz.params4]at ht;obtain rfl:t=9:=by simpa using Array.mem_of_getElem? ht
 exact(show Tryz.prog.wantsStandIn 9=false by kernel_rfl)
theorem card : Rows.FnExactParseRequestCardSaid:=
 Claim7.holds_tied_plain_at .later [] _ _ _ _ said (λ_ h=>by cases h) jw (λ_ h=>by cases h) fnExactParseRequest_row_tie rfl ⟨rfl,rfl⟩ jm rfl plain jg
end Go.Proofs.YtaodeagfpncomaaGreatDoor.fnExactParseRequest
end
