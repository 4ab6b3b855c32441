/- The law FnExactIndexStore of the package laws answers true for all arguments and leaves them as they are (part 1). Conditions: none but what the row lists. -/
import Derived.Test.YtaodeagfpncomaaGreatDoorD2
set_option linter.unusedVariables false
set_option linter.unusedSimpArgs false
set_option maxRecDepth 100000
set_option maxHeartbeats 4000000
open Go.Lib renaming pow10Tab->o6
open Go.OpenSpec renaming ofChange->oL
open Go.Proofs.Tryz renaming f3->wY
open List renaming map->aW,mem_cons->au,not_mem_nil->fF,append_nil->mJ
open Nat renaming le_trans->dh
open Option renaming isSome_iff_exists->jB
open Option.some renaming inj->yz
open Prod.mk renaming injEq->cZ
section
namespace Go.Ab
open Go
def C.lq : eG:=qs [qX 2 10 0,qB 4 false] [1,2]<|qs [qI 5 1048576] [1,2,5]<|qs [qT 14 2 2,zM 15 5,q2 16 5 14 15,zM 5 16] [1,2,5]<|.seq (qs [zM 17 5,qk 18 .lss 17 0] [1,2,5,18]<|qc 18 (qr [qB 4 true] [4]) .skip)<|qs [zM 19 1,zM 20 5,q2 21 6 19 20,zM 5 21] [1,2,5]<|.seq (qs [zM 22 5,qk 23 .lss 22 0] [1,2,23]<|qc 23 (qr [qB 4 true] [4]) .skip)<|qs [qT 24 2 2,q1 25 8 24,zM 26 1,q1 27 9 26,q2 28 7 25 27,zM 6 28] [1,2,6]<|qs [qT 29 2 2,q1 30 8 29,zA 7 (.alloc 11 [.wC 7,JX 0]),qS 2 7 30] [1,2,6,7]<|qs [zM 31 1,q1 32 9 31,zM 8 32] [1,2,6,7,8]<|qs [qT 33 2 7,zM 34 8,q2 35 10 33 34,zM 9 35] [1,2,6,7,8,9]<|.seq (qs [zM 36 9,zM 37 6,q2 38 11 36 37,qO 39 38] [1,2,6,7,8,9,39]<|qc 39 (qr [qB 4 false] [4]) .skip)<|.seq (.seq (.wJ [(qT 40 2 7,[]),(qT 41 2 2,[]),(q1 42 8 41,[1]),(q2 43 12 40 42,[0,1,2]),(qO 44 43,Uf)] [1,2,6,7,8,9,44])<|qc 44 (qr [qB 4 false] [4]) .skip)<|.seq (qs [zM 45 8,zM 46 1,q1 47 9 46,q2 48 13 45 47,qO 49 48] [1,2,6,7,8,9,49]<|qc 49 (qr [qB 4 false] [4]) .skip)<|qs [qI 10 1] [1,2,6,7,8,9,10]<|qs [qT 50 2 7,zM 51 10,q2 52 14 50 51,zM 10 52] [1,2,6,8,9,10]<|qs [zM 53 8,zM 54 10,q2 55 15 53 54,zM 10 55] [1,2,6,9,10]<|.seq (qs [zM 56 10,qk 57 .lss 56 0,zM 58 57,qm 58 false 59 9,qm 58 false 60 6,⟨(some (58,false)),some 61,.call 11 [.t 59,.t 60]⟩,zG 58 false 62 (.not<|.t 61),qQ 63 58 62] [1,2,6,9,63]<|qc 63 (qr [qB 4 false] [4]) .skip)<|qs [qI 11 1] [1,2,6,9,11]<|qs [zM 64 9,zM 65 11,q2 66 16 64 65,zM 11 66] [1,2,6,9,11]<|qs [qI 12 1] [1,2,6,9,11,12]<|qs [zM 67 9,zM 68 12,q2 69 17 67 68,zM 12 69] [1,2,6,9,11,12]<|.seq (qs [zM 70 12,qk 71 .lss 70 0] [1,2,6,9,11,12,71]<|qc 71 (qr [qB 4 false] [4]) .skip)<|.seq (qs [zM 72 12,zM 73 11,qb 74 .neq 72 73] [1,2,6,9,11,74]<|qc 74 (qr [qB 4 false] [4]) .skip)<|qs [qT 75 2 2,q1 76 8 75,zM 77 1,q1 78 9 77,q2 79 10 76 78,zM 13 79] [6,9,11,13]<|.seq (qs [zM 80 13,zM 81 6,q2 82 11 80 81,qO 83 82] [9,11,83]<|qc 83 (qr [qB 4 false] [4]) .skip)<|qs [qI 12 1] [9,11,12]<|qs [zM 84 9,zM 85 12,q2 86 17 84 85,zM 12 86] [11,12]<|.seq (qs [zM 87 12,qk 88 .lss 87 0] [11,12,88]<|qc 88 (qr [qB 4 false] [4]) .skip)<|.seq (qs [zM 89 12,zM 90 11,qb 91 .neq 89 90] [91]<|qc 91 (qr [qB 4 false] [4]) .skip)<|qr [qB 4 true] [4]
noncomputable abbrev uG : Program:=Go.Proofs.Tryz.prog
noncomputable abbrev Bc : Func:=wY
noncomputable abbrev Wl : Code:=(wY.body).getD .skip
theorem KO : wY.body=some Wl:=lY
theorem aaA : oG uG 92 0 Wl C.lq=true:=lY
def Qo : yK
 |15=>some (25,1,[.str 0])
 |41=>some (41,5,[.int 0,.int 1,.str 2,.sub 3 15,.sub 4 41])
 |39=>some (30,7,Gl 15 41)
 |16=>some (28,6,Ik 15 41)
 |_=>none
def QM : Um
 |14=>some (2,[.sl 0 39])
 |_=>none
theorem Mc (f:Nat)(h:(Qo f).isSome=true):UI uG 40 Qo f=true:=by
 unfold Qo at h;split at h
 ·kernel_rfl
 ·kernel_rfl
 ·kernel_rfl
 ·kernel_rfl
 ·cases h
theorem TJ (f:Nat)(h:(QM f).isSome=true):acE uG QM f=true:=by
 unfold QM at h;split at h
 ·kernel_rfl
 ·cases h
theorem QO : Dq uG 40 tx:=λk h0 h1=>by obtain⟨n,hn⟩:=(TN ⟨h0,h1⟩).val;exact F.gm hn
theorem Vl : MT Qo 15 41 25 41:=⟨rfl,rfl⟩
theorem ag4 : oD uG 25=1:=lY
theorem aik : oD uG 41=5:=lY
theorem ail : kD uG 41=[(3,25),(4,41)]:=lY
theorem aim : oD uG 44=8:=lY
theorem ain : kD uG 44=[(1,25),(2,25),(6,25),(7,41)]:=lY
theorem ag5 : TyH uG 25 41 44:=⟨ag4,aik,ail,aim,ain⟩
theorem Zg : oD uG 28=6:=lY
theorem VY : kD uG 28=[(3,25),(4,41)]:=lY
theorem ab4 : oD uG 30=7:=lY
theorem Zh : kD uG 30=[(5,25),(6,41)]:=lY
noncomputable abbrev ZN : Code:=DZ 7 Wl
abbrev AZ : eG:=C.lq
abbrev KE : eG:=GI 7 AZ
noncomputable abbrev adK : Code:=DZ 7 ZN
noncomputable abbrev adL : Code:=DZ 1 adK
noncomputable abbrev ZM : Code:=DZ 1 adL
noncomputable abbrev adM : Code:=DZ 2 ZM
noncomputable abbrev afV : Code:=DZ 1 adM
abbrev NV : eG:=GI 2 (GI 7 KE)
abbrev Zz : eG:=GI 1 (GI 2 NV)
theorem ahV : oG uG 92 0 ZN KE=true:=lY
theorem ahW : oG uG 92 0 ZM NV=true:=lY
theorem ahX : oG uG 92 0 afV Zz=true:=lY
def D6 : List OF:=[.vp 7 7 0,.row 7 ⟨0,30,100700⟩,.ref 8 ⟨0,25,200800⟩,.ref 9 ⟨0,28,200900⟩]
theorem agE : (Aq uG [] 7 Wl AZ []).isSome=true:=lY
theorem ah0 : (match Aq uG [1,2,6] 7 ZN KE []with|some Γ =>D6.all Γ.contains|none=>false)=true:=lY
theorem ah1 : (Aq uG [1,2,6,9] 2 ZM NV []).isSome=true:=lY
theorem agC : LZ uG 92 adK=some (some 2,7,10,14,[50,51,52,10]):=lY
theorem agD : LZ uG 92 adL=some (none,8,10,15,[53,54,55,10]):=lY
theorem agy : LZ uG 92 adM=some (none,9,11,16,[64,65,66,11]):=lY
structure Gf (n:gQ)(o:List jE)(p0:List bI)(l1 l2:Int):Prop where
 s0:∃m,G.lu m n 1048576=some l1
 c0:decide (l1<0)=false
 t0:∃m,G.mV m n=some n
 a0:∃m,G.og m n n=some true
 k0:Bf n.dG<1000000000
 s1:∃m,G.gz m o l1=some l2
 c1:decide (l2<0)=false
 t1:∃m,G.ig m o=some o
 a1:∃m,G.iG m o o=some true
 k1:o.length<1000000000
 w:∃m,G.iY m n o=some p0
 g:∃m,G.dW m n o=some p0
 e0:∃m,G.iU m p0 p0=some true
 h0:∃m,G.iJ m (G9 p0 1) 1=some (1+(wR p0:Int))
 q0:wR p0<1000000000
abbrev KA (n:gQ):List AC:=[.c (.sl 7 (aW jc.cells n.dG)),.c (.lit (.int .i64 n.pW))]
abbrev aea (n:gQ):List Cell:=[.sl 7 (aW jc.cells n.dG),.lit (.int .i64 n.pW)]
abbrev NG (n:gQ):Slot:=.v true (.one (.zQ (aea n)))
abbrev xQ (n:List bI):Slot:=.v true (.one (.c (.sl 6 (aW bI.cells n))))
abbrev Gg (n:List jE):Slot:=.v true (.one (.c (.sl 1 (aW cS n))))
abbrev ahb (b:Bool):Slot:=.v true (.one (.c (.lit (.bool b))))
abbrev IL (k:Int):Slot:=.v true (.one (.c (.lit (.int .i64 k))))
theorem agX {n:gQ}{o:List jE}{p0:List bI}{l1 l2:Int}(F0:Gf n o p0 l1 l2){K:eH->Prop}(zf:Zq K (eH.of [(1,Gg o),(2,.v true (.one (.ptr 10 0))),(6,xQ p0)] [(10,.var (KA n))])):wpC uG (takeA 7 AZ) (QA K (RL 4)) (st0 [.agg (KA n),.one (.c (.sl 1 (aW cS o)))] []):=by
 obtain⟨_,h1⟩:=F0.s0;obtain⟨_,h2⟩:=F0.s1;obtain⟨_,h3⟩:=F0.t0;obtain⟨_,h4⟩:=F0.t1;obtain⟨_,h5⟩:=F0.w;have zc:=pp (F.lu h1) <|pp (F.gz h2) <|pp (F.mV h3) <|pp (F.ig h4) <|pp (F.iY h5) <|()
 have c0:=F0.c0;have c1:=F0.c1;clear F0;refine vK ?_;unfold AZ C.lq;simp only[takeA];exact X5
theorem agY {n:gQ}{o:List jE}{p0:List bI}{l1 l2:Int}(F0:Gf n o p0 l1 l2){K:eH->Prop}(zf:Zq K (eH.of [(1,Gg o),(2,NG n),(6,xQ p0),(7,.v true (.one (.ptr 11 0))),(8,Gg o),(9,xQ p0),(10,IL 1)] [(11,.var (KA n))])):wpC uG (takeA 7 KE) (QA K (RL 4)) (eH.of [(1,Gg o),(2,NG n),(6,xQ p0)] []):=by
 obtain⟨_,h1⟩:=F0.t0;obtain⟨_,h2⟩:=F0.t1;obtain⟨_,h3⟩:=F0.g;obtain⟨_,h4⟩:=F0.e0;obtain⟨_,h5⟩:=F0.a0;obtain⟨_,h6⟩:=F0.a1;have zc:=pp (F.mV h1) <|pp (F.ig h2) <|pp (F.dW h3) <|pp (F.iU h4) <|pp (F.og h5) <|pp (F.iG h6) <|()
 clear F0;refine vK ?_;unfold KE AZ C.lq;simp only[takeA,GI];exact X5
theorem agZ {n:gQ}{o:List jE}{p0:List bI}{l1 l2:Int}{k:Int}(F0:Gf n o p0 l1 l2)(hk:decide (k<0)=false){K:eH->Prop}(zf:Zq K (eH.of [(1,Gg o),(2,NG n),(6,xQ p0),(9,xQ p0),(11,IL 1)] [])):wpC uG (takeA 2 NV) (QA K (RL 4)) (eH.of [(1,Gg o),(2,NG n),(6,xQ p0),(9,xQ p0),(10,IL k)] []):=by
 obtain⟨_,h1⟩:=F0.e0;have zc:=pp (F.iU h1) <|()
 clear F0;refine vK ?_;unfold NV KE AZ C.lq;simp only[takeA,GI];exact X5
theorem ag1 {n:gQ}{o:List jE}{p0:List bI}{l1 l2:Int}(F0:Gf n o p0 l1 l2):wpC uG Zz (QF [.tmp 4] 0 (λr bs=>r=oV true/\bs=[])) (eH.of [(1,Gg o),(2,NG n),(6,xQ p0),(9,xQ (G9 p0 1)),(11,IL (1+(wR p0:Int)))] []):=by
 obtain⟨_,h1⟩:=F0.t0;obtain⟨_,h2⟩:=F0.t1;obtain⟨_,h3⟩:=F0.g;obtain⟨_,h4⟩:=F0.e0;obtain⟨_,h5⟩:=F0.h0;have zc:=pp (F.mV h1) <|pp (F.ig h2) <|pp (F.dW h3) <|pp (F.iU h4) <|pp (F.iJ h5) <|()
 have hk0:decide (1+(wR p0:Int)<0)=false:=bP aQ;clear F0;refine vK ?_;unfold Zz NV KE AZ C.lq;simp only[GI];exact X5
theorem ag2 {n:gQ}{o:List jE}{l1:Int}{K:eH->Prop}(h0:∃m,G.lu m n 1048576=some l1)(hk0:decide (l1<0)=true):wpC uG (takeA 7 AZ) (QA K (RL 4)) (st0 [.agg (KA n),.one (.c (.sl 1 (aW cS o)))] []):=by
 obtain⟨_,j0⟩:=h0;have zc:=pp (F.lu j0) <|()
 have zf:=();refine vK ?_;unfold AZ C.lq;simp only[takeA];exact X5
theorem ag3 {n:gQ}{o:List jE}{l1 l2:Int}{K:eH->Prop}(h0:∃m,G.lu m n 1048576=some l1)(hk0:decide (l1<0)=false)(h1:∃m,G.gz m o l1=some l2)(hk1:decide (l2<0)=true):wpC uG (takeA 7 AZ) (QA K (RL 4)) (st0 [.agg (KA n),.one (.c (.sl 1 (aW cS o)))] []):=by
 obtain⟨_,j0⟩:=h0;obtain⟨_,j1⟩:=h1;have zc:=pp (F.lu j0) <|pp (F.gz j1) <|()
 have zf:=();refine vK ?_;unfold AZ C.lq;simp only[takeA];exact X5
theorem Xr {S:Slot}{I:IH}{ρ:Ren}{v:Value}{x:Value}(h:Ub I ρ v S)(e:S = .v true (.one (.c (.lit x)))):v=x:=by subst e;have h1:=h.1 rfl;cases h1;rfl
theorem aeP {n:gQ}{o:List jE}{p0:List bI}{l1 l2:Int}(F0:Gf n o p0 l1 l2):gY uG 3 [.agg (KA n),.one (.c (.sl 1 (aW cS o)))] (oV true):=by
 have hcr:xP uG Bc.ntmps Bc.results.toList [.tmp 4]=true:=by kernel_rfl
 obtain⟨Γ0,oA'⟩:=jB.1 agE;refine Yk (fn:=Bc) (ac:=AZ) lY KO lY (by show 2<=Bc.ntmps;exact(by kernel_rfl:decide (2<=Bc.ntmps)=true) |> of_decide_eq_true) hcr aaA oA' (λK zf=>agX F0 zf) ?_;intro w0 wA JA I ρ g a w A;obtain⟨hT,hG⟩:=A.gx;have hJ:=Kt (V:=afm ρ (eH.of [(1,Gg o),(2,.v true (.one (.ptr 10 0))),(6,xQ p0)] [(10,.var (KA n))])) hG.agree;have s1:=abw (x:=1) (c:=.sl 1 (aW cS o)) hG zx rfl hJ;have s2:=abx (x:=2) (b:=10) (cs:=aea n) hG zx rfl rfl rfl;have s6:=abw (x:=6) (c:=.sl 6 (aW bI.cells p0)) hG zx rfl hJ;have hA:=F7 (V:=afm ρ (eH.of [(1,Gg o),(2,.v true (.one (.ptr 10 0))),(6,xQ p0)] [(10,.var (KA n))])) hG.agree;generalize I.with w _=JB at hJ s1 s2 s6 hA;have hM:Mid uG Bc.ntmps w0 JB [(1,Gg o),(2,NG n),(6,xQ p0)] a w:=⟨A.tabs.mono (IH.le_trans A.Ec hJ),hA,λt s hs=>by
  simp only[au,cZ,fF,or_false]at hs;rcases hs with⟨rfl,rfl⟩|⟨rfl,rfl⟩|⟨rfl,rfl⟩
  ·exact s1
  ·exact s2
  ·exact s6,hG.size,hG.defers,A.ve⟩
 clear A hG s1 s2 s6 hJ hA;have hsz:=hM.ve.size;have hB:=ah0;split at hB
 case h_2=>cases hB
 rename_i ΓB oB';refine Ou hcr (pa:=[(1,a.tmps.getD 1 undef),(2,a.tmps.getD 2 undef),(6,a.tmps.getD 6 undef)]) (pl:=[1,2,6]) hM kY (by intro e he;simp only[au,fF,or_false]at he;rcases he with rfl|rfl|rfl<;>rfl) ahV oB' (λK zf=>agY F0 zf) ?_
 intro I1 ρ1 g1 a1 w1 A;have hmem:∀f,f∈D6->f ∈ ΓB:=λf hf=>by have:=List.all_eq_true.1 hB f hf;simpa using this
 obtain⟨hT1,hG⟩:=A.gx;obtain⟨k7,v7,e7,p7,q7,n7,r7,⟨_,_,_,u7⟩,g7⟩:=Y4 (x:=7) (b:=11) (cs:=aea n) (rows:=[(0,30,100700)]) hG A.ow zx rfl rfl rfl (hmem _ (by simp[D6])) (λr hr=>hmem _ (by revert r;decide));obtain⟨r8,g8⟩:=O6 (x:=8) (T:=25) (m:=200800) (c:=.sl 1 (aW cS o)) hG A.ow zx rfl (hmem _ (by simp[D6]));obtain⟨v8,p8⟩:∃v,a1.tmps.getD 8 undef=v:=⟨_,rfl⟩;rw[p8]at r8 g8;obtain⟨r9,g9⟩:=O6 (x:=9) (T:=28) (m:=200900) (c:=.sl 6 (aW bI.cells p0)) hG A.ow zx rfl (hmem _ (by simp[D6]));obtain⟨v9,p9⟩:∃v,a1.tmps.getD 9 undef=v:=⟨_,rfl⟩;rw[p9]at r9 g9;have S7:=abI A.ow.good A.tabs A.Gm A.old A.ag n7 r7 zx g7 (ZQ ag5 ab4 Zh n _);have S8:=abI (vs:=[v8]) (cs:=[Cell.sl 1 (aW cS o)]) (rows:=[(0,25,200800)]) A.ow.good A.tabs A.Gm A.old A.ag rfl (abn r8) zx (aag g8) (Wn (H9 ag4 o));have S9:=abI (vs:=[v9]) (cs:=[Cell.sl 6 (aW bI.cells p0)]) (rows:=[(0,28,200900)]) A.ow.good A.tabs A.Gm A.old A.ag rfl (abn r9) zx (aag g9) (Wn (VP ag5 Zg VY p0));have K0:Mks uG Bc.ntmps w0 w JB I1 g1 a1 w1:=⟨A.new,A.acS.size,A.old,A.Ec,A.ag,hG.size,hG.defers,A.ve,hsz⟩;have c0:=Xr (hG.tm 10 zx) rfl;refine LV K0 S7 agC (acY (p7) q7 n7) c0 (QY.any (LH (TJ 14 rfl) rfl (abA Mc TJ QO (abB (sb:=QM) (ty:=tyR [(0,30,100700)]) (fI:=39) (tI:=30) Vl rfl rfl n aQ (by have:=F0.k0;have:=F0.k1;have:=F0.q0;omega))))) ?_;intro b1 y1 J1 K1 S7 c1 tk1 fr1 kp1;have S8:=kp1 S8 (apart zx zx zx);have S9:=kp1 S9 (apart zx zx zx);have q7:=(fr1 _ _ _ _ u7).trans q7;refine LV K1 S8 agD (WE ((tk1 8 zx).trans (p8))) c1 (TD Mc QO (J9 Vl o aQ (by have:=F0.k0;have:=F0.k1;have:=F0.q0;omega)) ⟨_,_,rfl⟩) ?_;intro b2 y2 J2 K2 S8 c2 tk2 fr2 kp2;have S9:=kp2 S9 (apart zx zx zx);have tk:∀t,t ∉ [50,51,52,10,53,54,55]->b2.tmps.getD t undef=a1.tmps.getD t undef:=λt ht=>by simp only[au,fF,or_false,not_or]at ht;rw[tk2 t (by simp;omega),tk1 t (by simp;omega)]
 have hJ:=Kt (V:=λ_=>False) K2.ag;have hA:=F7 (V:=λ_=>False) K2.ag;generalize J2.with y2 _=JC at hJ hA;have hJ':=IH.le_trans K2.Ec hJ;have hM3:Mid uG Bc.ntmps w0 JC [(1,Gg o),(2,NG n),(6,xQ p0),(9,xQ p0),(10,IL (1+Bf n.dG+o.length))] b2 y2:=⟨hM.tabs.mono hJ',hA,λt s hs=>by
  simp only[au,cZ,fF,or_false]at hs;have base:∀t s,(t,s)∈[(1,Gg o),(2,NG n),(6,xQ p0)]->t ∉ [50,51,52,10,53,54,55]->(t,a.tmps.getD t undef)∈[(1,a.tmps.getD 1 undef),(2,a.tmps.getD 2 undef),(6,a.tmps.getD 6 undef)]->Ub JC Ph (b2.tmps.getD t undef) s:=λt s h1 h2 h3=>by rw[tk t h2,A.pa _ h3];exact(hM.sl t s h1).mono hJ' (λ_ _ h=>h)
  rcases hs with⟨rfl,rfl⟩|⟨rfl,rfl⟩|⟨rfl,rfl⟩|⟨rfl,rfl⟩|⟨rfl,rfl⟩
  iterate 3 exact base _ _ kY zx kY
  ·rw[tk 9 zx];exact Xl ((S9.rd 0 _ _ rfl rfl).mono hJ) (p9)
  ·rw[c2];exact⟨λ_=>.lit _ rfl,λe=>by cases e⟩,K2.size,K2.defers,K2.ve⟩
 obtain⟨ΓE,oE'⟩:=jB.1 ah1;refine Ou hcr (pa:=[(1,b2.tmps.getD 1 undef),(2,b2.tmps.getD 2 undef),(6,b2.tmps.getD 6 undef),(9,b2.tmps.getD 9 undef)]) (pl:=[1,2,6,9]) hM3 kY (by intro e he;simp only[au,fF,or_false]at he;rcases he with rfl|rfl|rfl|rfl<;>rfl) ahW oE' (λK zf=>agZ F0 (bP aQ) zf) ?_
 intro I4 ρ4 g4 a4 w4 A4;obtain⟨hT4,hG4⟩:=A4.gx;have S9:=S9.quiet A4.acS;have zl9:=(A4.pa (9,b2.tmps.getD 9 undef) kY).trans ((tk 9 zx).trans p9);have c3:=Xr (hG4.tm 11 zx) rfl;have K3:Mks uG Bc.ntmps w0 w JB J2 g1 a4 w4:=⟨K2.new,dh K2.sz A4.acS.size,K2.old,K2.Ec,K2.ag.quiet A4.acS,hG4.size,hG4.defers,A4.ve,K2.sz0⟩;refine LV K3 S9 agy (WE (zl9)) c3 (TD Mc QO (aaZ Vl rfl p0 aQ (by have:=F0.k0;have:=F0.k1;have:=F0.q0;omega)) ⟨_,_,rfl⟩) ?_;intro b4 y4 J4 K4 S9 c4 tk4 fr4 kp4;have tg:∀t,t ∉ [64,65,66,11]->b4.tmps.getD t undef=a4.tmps.getD t undef:=λt ht=>by simp only[au,fF,or_false,not_or]at ht;rw[tk4 t (by simp;omega)]
 have hJ5:=Kt (V:=λ_=>False) K4.ag;have hA5:=F7 (V:=λ_=>False) K4.ag;generalize J4.with y4 _=JD at hJ5 hA5;have af5:=IH.le_trans K4.Ec hJ5;refine aaF hcr (ts:=[(1,Gg o),(2,NG n),(6,xQ p0),(9,xQ (G9 p0 1)),(11,IL (1+(wR p0:Int)))]) ⟨hM.tabs.mono af5,hA5,λt s hs=>?_,K4.size,K4.defers,K4.ve⟩ ahX (ag1 F0);simp only[au,cZ,fF,or_false]at hs;have base:∀t s,(t,s)∈[(1,Gg o),(2,NG n),(6,xQ p0)]->t ∉ [50,51,52,10,53,54,55]->t ∉ [64,65,66,11]->(t,b2.tmps.getD t undef)∈[(1,b2.tmps.getD 1 undef),(2,b2.tmps.getD 2 undef),(6,b2.tmps.getD 6 undef),(9,b2.tmps.getD 9 undef)]->(t,a.tmps.getD t undef)∈[(1,a.tmps.getD 1 undef),(2,a.tmps.getD 2 undef),(6,a.tmps.getD 6 undef)]->Ub JD Ph (b4.tmps.getD t undef) s:=λt s h1 h2 h3 h4 h5=>by
  rw[tg t h3,A4.pa _ h4]
  dsimp only
  rw[tk t h2,A.pa _ h5];exact(hM.sl t s h1).mono af5 (λ_ _ h=>h)
 rcases hs with⟨rfl,rfl⟩|⟨rfl,rfl⟩|⟨rfl,rfl⟩|⟨rfl,rfl⟩|⟨rfl,rfl⟩
 iterate 3 exact base _ _ kY zx zx kY kY
 ·rw[tg 9 zx];exact Xl ((S9.rd 0 _ _ rfl rfl).mono hJ5) (zl9)
 ·rw[c4];exact⟨λ_=>.lit _ rfl,λe=>by cases e⟩
theorem Wq {n:gQ}{o:List jE}(hw:wpC uG (takeA 7 AZ) (QA (λ_=>False) (RL 4)) (st0 [.agg (KA n),.one (.c (.sl 1 (aW cS o)))] [])):gY uG 3 [.agg (KA n),.one (.c (.sl 1 (aW cS o)))] (oV true):=by
 have hcr:xP uG Bc.ntmps Bc.results.toList [.tmp 4]=true:=by kernel_rfl
 obtain⟨Γ0,oA'⟩:=jB.1 agE;exact Yj (fn:=Bc) (ac:=AZ) lY KO lY (by show 2<=Bc.ntmps;exact(by kernel_rfl:decide (2<=Bc.ntmps)=true) |> of_decide_eq_true) hcr aaA oA' hw
theorem agu {n:gQ}{o:List jE}{D:Nat}(hn1:n.dG.length<=mx)(hn2:∀x,x∈n.dG->Pm mx D x)(ho1:o.length<=mx)(ho2:∀x,x∈o->x.length<=mx):gY uG 3 [.agg (KA n),.one (.c (.sl 1 (aW cS o)))] (oV true):=by
 obtain⟨l1,h1,b1,f1⟩:=T.abJ hn1 hn2 (left:=1048576) zx zx;by_cases c1:l1<0
 ·exact Wq (ag2 h1.val (dK c1))
 obtain⟨l2,h2,b2,f2⟩:=T.abK ho1 ho2 (left:=l1) aQ aQ;by_cases c2:l2<0
 ·exact Wq (ag3 h1.val (bP c1) h2.val (dK c2))
 obtain⟨f1,k1⟩:=f1 aQ;obtain⟨k2,f2⟩:=f2 aQ;have ol:o.length<=1048576:=by omega
 have hs:Sm o:=adX Qk ol λx hx=>by have:=f2 x hx;omega
 have r:=ac1 n o;have r3:=Zu.k r.v;have r3':EU rE _<=_:=r3;have r4:=r.len;have m1:=WH n.dG;exact aeP (p0:=DI n o) {
  s0:=h1.val,c0:=bP c1,t0:=(T.adw f1).val,a0:=(T.acO f1).val,k0:=by omega
  s1:=h2.val,c1:=bP c2,t1:=(T.abN (dh ol Qk)).val,a1:=(T.ZY (dh ol Qk)).val,k1:=by omega
  w:=(T0.iY f1 hs).val,g:=(T0.dW f1 hs).val
  e0:=(T.ZX r).val,h0:=(T.U6 _ aQ aQ aQ).val,q0:=by omega }
end Go.Ab
namespace Go.Proofs.YtaodeagfpncomaaGreatDoor.fnExactIndexStore
open Go Go.ChangeShapes Go.WideShapes Go.ChangeAt Go.RowKit Go.Ab
theorem own : ownKnob Tryz.prog.godebug=none:=lY
theorem laidOut : laidOutB Tryz.prog=true:=lY
theorem tyN : Po Tryz.prog 3 9 25 92 90:=⟨lY,lY,lY,lY,⟨_,Tryz.underlying92,lY⟩,lY,lY,lY,lY,lY⟩
theorem tyT : Un Tryz.prog 3 9 25 92 90 94 22 24:=⟨tyN,⟨_,Tryz.underlying94,lY⟩,lY,⟨_,Tryz.underlying24,lY⟩,lY,lY,lY⟩
theorem met {W:World}(h:laidMetH Tryz.prog Rows.fnExactIndexStoreRow.laid W):laidMet Tryz.prog Rows.fnExactIndexStoreRow.laid W:=by unfold laidMetH at h;rw[show(Rows.fnExactIndexStoreRow.laid.filter λx=>x.2.handleName?.isSome)=[]from by kernel_rfl]at h;exact h
theorem aib {W:World} (hL:laidMetH Tryz.prog Rows.fnExactIndexStoreRow.laid W):∀g,Tryz.prog.globalNamed "internal/strconv.uint64pow10" = some g->I0 W g=some (o6.map λz=>Go.Value.int .u64 z).toArray:=by
 have h:=Ot 2 (met hL);rw[show Rows.fnExactIndexStoreRow.laid.drop 2=("internal/strconv.uint64pow10",Lib.tabData .u64 o6)::Rows.fnExactIndexStoreRow.laid.drop 3 from by kernel_rfl]at h
 exact ae3 (g:=3) (t:=221) (e:=149) lY lY lY lY lY lY h
theorem aic {W:World} (hS:W.ShapedOpen Tryz.prog):∀g,Tryz.prog.globalNamed "internal/bytealg.MaxLen" = some g->∃m,(I0 W).cell ⟨g,0,none⟩=some (.int .i64 m):=
 aeQ (g:=0) (t:=3) hS lY (of_decide_eq_true lY) lY lY lY lY
theorem tabs {W:World}(hS:W.ShapedOpen Tryz.prog)(hL:laidMetH Tryz.prog Rows.fnExactIndexStoreRow.laid W):Tabs Tryz.prog (I0 W):=⟨aib hL,aic hS⟩
theorem contract (H:Type)(enc:TypeId×Value->H)(W:World)(base:Nat)(args:Array Value)(ds gs:List (DataW H))(before:List MemPlace)
 (hval:∀(j:Nat) t v,Tryz.f3.params[j]? = some t->args[j]? = some v->Value.okWide Tryz.prog W .any base t v)
 (hW:DataW.Whole enc Tryz.prog Tryz.f3.params.toList Rows.fnExactIndexStoreSpec.vars false W args.toList ds gs before)
 (hS:W.ShapedOpen Tryz.prog) (hL:laidMetH Tryz.prog Rows.fnExactIndexStoreRow.laid W) :
 Calls Tryz.prog 3 args W λe W'=>∃v,e = .returned v/\Rows.fnExactIndexStoreSpec.post enc Tryz.prog Tryz.f3 false true false false W args v W':=by
 have hW':=hW;obtain⟨p,q,hA0,hV,rfl,hfz,hnd⟩:=hW;have hA:DataW.TrodAll enc Tryz.prog W 0 (λ_=>true) true Tryz.f3.params.toList args.toList ds p:=hA0;rw[Tryz.params3]at hA hval;obtain⟨v0,vs0,d0,ds0,p0,q0,hargs,rfl,rfl,h0,r0⟩:=trodAll_cons hA;obtain⟨v1,vs1,d1,ds1,p1,q1,rfl,rfl,rfl,h1,r1⟩:=trodAll_cons r0;obtain⟨rfl,rfl,rfl⟩:=trodAll_nil r1;obtain rfl:args = #[v0,v1]:=by cases args;simp_all
 obtain⟨rfl,rfl⟩:=trodVars_none hV;clear hA0;simp only[mJ]at hW';have hlt:∀x∈(p0++p1),x.block<W.heap.size:=λx hx=>hW'.lt x (by simpa using hx);obtain⟨c0,rfl,_⟩:=okWide_struct Tryz.underlying24 (hval 0 24 v0 rfl rfl);have hk0:=h0;obtain⟨f0,g0⟩:=h0;obtain⟨x0,e0,_,m0,D0,n0⟩:=Vz tyT g0;obtain⟨a1,len1,cap1,rfl⟩:=okWide_slice Tryz.underlying25 (hval 1 25 v1 rfl rfl);have hk1:=h1;obtain⟨f1,g1⟩:=h1;obtain⟨x1,u1,m1,n1⟩:=OJ (t:=25) (tS:=9) lY lY lY g1;have key:=aeM (tabs hS hL) (acW (adh e0) (agK (Jl.fst (v:=.slice a1 len1 cap1) u1))) (agu m0 n0 (dh m1 aaU) (λs hs=>dh (n1 s hs) aaU));refine Calls.mono key λe W' ⟨he,hb⟩=>?_;subst he;have ht:DataW.TrodAll enc Tryz.prog W' 0 (λb=>decide (b<W.heap.size)) true [24,25] [_,_] [d0,d1] (p0++(p1++[])):=trodAll_cons_mk (Below.trod laidOut lY (of_decide_eq_true lY) hk0 hb (λx hx=>hlt x (List.mem_append_left _ hx))) (trodAll_cons_mk (Below.trod laidOut lY (of_decide_eq_true lY) hk1 hb (λx hx=>hlt x (List.mem_append_right _ hx))) (trodAll_mk0));simp only[mJ]at ht;exact⟨_,rfl,_,_,_,[],_,[],hW',trodAll_cons_mk (shut_bool Tryz.underlying4 _) trodAll_mk0,
  ht,rfl,hb.frame _,λh=>by cases h⟩
noncomputable def laidWorld (os:Os):World:=World.laidAll Tryz.prog os Rows.fnExactIndexStoreRow.laid
theorem laid_met (os:Os):laidMet Tryz.prog Rows.fnExactIndexStoreRow.laid ((laidWorld os).forCall (λ_ _=>0) ⟨#[],#[.agg #[.slice none 0 0,.int .i64 0],.slice none 0 0],[]⟩).memory:=
 laidMet_laidAll _ lY lY
theorem reads (os:Os){H:Type}(enc:TypeId×Value->H):∃places,DataW.whole enc Tryz.prog ((laidWorld os).forCall (λ_ _=>0) ⟨#[],#[.agg #[.slice none 0 0,.int .i64 0],.slice none 0 0],[]⟩).memory Tryz.f3.params.toList Rows.fnExactIndexStoreSpec.vars false #[.agg #[.slice none 0 0,.int .i64 0],.slice none 0 0].toList 8=some ([.agg [.nil,.lit (.int .i64 0)],.nil],[],places):=
 ⟨[],lY⟩
theorem lifted (os:Os)(started:os.Started)(H:Type)(enc:TypeId×Value->H)(F:Stop.Interp) :
 ReturnsInHanded {} Tryz.checked os 3 .any ((oL Rows.fnExactIndexStoreSpec).preRow enc Tryz.prog Tryz.f3 Rows.fnExactIndexStoreRow.domain false Rows.fnExactIndexStoreRow.laid) (((oL Rows.fnExactIndexStoreSpec).at F).post enc Tryz.prog Tryz.f3 false true false false):=by
 obtain⟨places,hx⟩:=reads os enc;refine returnsInHanded_of_row (C:=Tryz.checked) (s:=oL Rows.fnExactIndexStoreSpec) own started lY Tryz.func3
  (witness_row_atRef (enc:=enc) (C:=Tryz.checked) false (laidWorld os) #[.agg #[.slice none 0 0,.int .i64 0],.slice none 0 0] (World.laidAll_os _ _ _) lY lY lY
   (OpenSpec.preRow_of_cond 8 hx lY (λk hk=>by cases hk) lY (laid_met os))) ?_
 intro W base args ds gs before hval hW _ _ _ hL hS _;exact contract H enc W base args ds gs before hval hW hS hL
theorem j1 : (Rows.fnExactIndexStoreRow.inPlace==Tryz.prog.inPlace 3)=true:=lY
theorem j2 : (Rows.fnExactIndexStoreRow.unfollowed==Tryz.prog.unfollowed 3)=true:=lY
theorem j3 : (Rows.fnExactIndexStoreRow.recurses==Tryz.prog.recurses 3)=true:=lY
theorem j4 : (Rows.fnExactIndexStoreRow.named==Tryz.prog.varsNamed 3)=true:=lY
theorem j5 : joinedFacts Tryz.prog 3 Tryz.f3 (oL Rows.fnExactIndexStoreSpec).bare Rows.fnExactIndexStoreRow=true:=by
 unfold joinedFacts;rw[j1,j2,j3,j4]
 kernel_rfl
theorem j6 : Tryz.prog.funcNamed Rows.fnExactIndexStoreRow.func=some 3:=lY
theorem said : Rows.FnExactIndexStoreSaid:=
 OpenClaim.holds_of_cond 3 Tryz.f3 rfl rfl rfl rfl rfl rfl rfl ⟨rfl,rfl,rfl,rfl,rfl⟩ rfl rfl rfl rfl rfl j6 Tryz.func3 j5
  (of_decide_eq_true lY) (by unfold Func.isWrapper;first|(rw[aF (by decide +kernel)];kernel_rfl)|(rw[aj (by decide +kernel)];exact⟨rfl,rfl⟩))
  (λos started H enc _ F=>by rw[OpenClaim.pre_eq_preRow];exact lifted os started H enc F)
theorem jw : Rows.fnExactIndexStoreRow.wfByText (oL Rows.fnExactIndexStoreSpec)=true:=lY
theorem jm : Tryz.pinned.checked.prog.mainIs=some (Rows.fnExactIndexStoreCard.stood.harness.1,Rows.fnExactIndexStoreCard.stood.harness.2.toList):=lY
theorem jg : false=Rows.fnExactIndexStoreRow.goesBy Tryz.pinned.checked.prog:=lY
theorem plain (f:FuncId)(fn:Func)(hf:Tryz.pinned.checked.prog.funcNamed Rows.fnExactIndexStoreRow.func=some f)(hfn:Tryz.pinned.checked.prog.funcs[f]? = some fn) :
 true=Tryz.pinned.checked.prog.looks []/\∀(j:Nat) t,fn.params[j]? = some t->Tryz.pinned.checked.prog.wantsStandIn t=false:=by
 obtain rfl:f=3:=yz ((show Tryz.prog.funcNamed Rows.fnExactIndexStoreRow.func=some 3 by kernel_rfl).symm.trans hf) |>.symm;obtain rfl:fn=Tryz.f3:=(yz (Tryz.func3.symm.trans hfn)).symm;refine⟨lY,λj t ht=>?_⟩;rw[Tryz.params3]at ht;have ht':t=24\/t=25:=by simpa using Array.mem_of_getElem? ht
 rcases ht' with rfl|rfl
 ·exact(show Tryz.prog.wantsStandIn 24=false by kernel_rfl)
 ·exact(show Tryz.prog.wantsStandIn 25=false by kernel_rfl)
theorem card : Rows.FnExactIndexStoreCardSaid:=
 Claim7.holds_tied_plain_at .later [] _ _ _ _ said (λ_ h=>by cases h) jw (λ_ h=>by cases h) fnExactIndexStore_row_tie rfl ⟨rfl,rfl⟩ jm rfl plain jg
end Go.Proofs.YtaodeagfpncomaaGreatDoor.fnExactIndexStore
end
