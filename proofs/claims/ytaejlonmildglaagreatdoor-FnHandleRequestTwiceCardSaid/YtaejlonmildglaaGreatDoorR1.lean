/- The law FnHandleRequestTwice of the package laws answers true for every code of bytes and leaves it as it is (part 1). Conditions: none but what the row lists. -/
import Derived.Test.YtaejlonmildglaaGreatDoorB4
set_option linter.unusedVariables false
set_option linter.unusedSimpArgs false
section
namespace Go.Ab
open Go
set_option maxRecDepth 100000
set_option maxHeartbeats 4000000
set_option linter.unusedVariables false
set_option linter.unusedSimpArgs false
def G.dP.K1 (f:Nat) (v1:StoreT × RequestT) (v2:StoreT × aj):Option (Bool):=match f with
| 0=>none
| n+1 =>
((G.ji n v1.1 v1.2.Name).bind fun v14 =>
((G.lF n v14.1.Node).bind fun v15 =>
((G.aW n v2.1 (RequestT.mk 2 v1.2.Name [v15] [] v1.2.Body [])).bind fun v16 =>
(cond v14.2
(cond (v15==v2.2.Tag)
(some (true))
(some ((v16.2.Status==412))))
(some (false))))))
def G.dP (f:Nat) (dw:List Int):Option (Bool):=match f with
| 0=>none
| n+1 =>
(cond (decide (1048576<((dw.length:Nat):Int)))
(some (true))
((G.eX n dw).bind fun v1 =>
((G.aW n v1.1 v1.2).bind fun v2 =>
((G.dZ n v1.1 v1.2).bind fun v3 =>
((G.aK n v2.1 v3.1).bind fun v17 =>
(cond v17
((G.bG n v2.2 v3.2).bind fun v18 =>
(cond v18
(cond (v1.2.Method != 2)
((G.aK n v2.1 v3.1).bind fun v19 =>
(cond v19
((G.bG n v2.2 v3.2).bind fun v20 =>
(some (v20)))
(some (false))))
(cond (v2.2.Status != 200)
((G.aK n v2.1 v3.1).bind fun v21 =>
(cond v21
((G.bG n v2.2 v3.2).bind fun v22 =>
(some (v22)))
(some (false))))
(G.dP.K1 n v1 v2)))
((G.aK n v2.1 v3.1).bind fun v23 =>
(cond v23
((G.bG n v2.2 v3.2).bind fun v24 =>
(some (v24)))
(some (false))))))
((G.aK n v2.1 v3.1).bind fun v25 =>
(cond v25
((G.bG n v2.2 v3.2).bind fun v26 =>
(some (v26)))
(some (false))))))))))
end Go.Ab
end
section
namespace Go.Ab
open Go
set_option maxRecDepth 100000
set_option maxHeartbeats 4000000
set_option linter.unusedVariables false
set_option linter.unusedSimpArgs false
def C.dP:aT:=(.seq (.reg [qB 2 false] [0]) (.seq (.seq (.reg [zM 14 0,qL 15 14,zA 16 (.bin .gtr (.t 15) (kI 1048576))] [0,16]) (.cond (.t 16) (.seq (.reg [qB 2 true] [2]) .ret) .skip)) (.seq (.reg [zM 18 0,q1 19 12 18,zM 17 19,qE 20 17 0,qE 21 17 1,zA 3 (.alloc 10 [.cO 7,fD 0]),zA 4 (.alloc 11 [fD 0,.c (.str []),.cO 1,.cO 1,fD 0,fD 0,.c (.str []),.cO 1,.cO 5,.cO 8]),qS 2 3 20,qS 10 4 21] [3,4]) (.seq (.reg [qT 23 2 3,qT 24 10 4,q2 25 13 23 24,zM 22 25,qE 26 22 0,qE 27 22 1,zA 5 (.alloc 12 [.cO 7,fD 0]),zA 6 (.alloc 13 [fD 0,.c (.str []),fD 0,fD 0,fD 0,.c (.str []),.cO 1,.cO 5]),qS 2 5 26,qS 8 6 27] [3,4,5,6]) (.seq (.reg [qT 29 2 3,qT 30 10 4,q2 31 14 29 30,zM 28 31,qE 32 28 0,qE 33 28 1,zA 7 (.alloc 14 [.cO 7,fD 0]),zA 8 (.alloc 15 [fD 0,.c (.str []),fD 0,fD 0,fD 0,.c (.str []),.cO 1,.cO 5]),qS 2 7 32,qS 8 8 33] [3,4,5,6,7,8]) (.cut (.seq (.reg [qT 34 2 5,qT 35 2 7,q2 36 15 34 35,qO 37 36,zM 38 37,zG 38 false 39 (.load true 8 (.t 6)),zG 38 false 40 (.load true 8 (.t 8)),⟨(some (38,false)),some 41,.call 16 [.t 39,.t 40]⟩,zG 38 false 42 (.not (.t 41)),qQ 43 38 42,zM 44 43,zG 44 false 45 (.eH 0 (.t 4)),zG 44 false 46 (.load false 1 (.t 45)),zG 44 false 47 (.bin .neq (.t 46) (kI 2)),qQ 48 44 47,zM 49 48,zG 49 false 50 (.eH 0 (.t 6)),zG 49 false 51 (.load false 1 (.t 50)),zG 49 false 52 (.bin .neq (.t 51) (kI 200)),qQ 53 49 52] [3,4,5,6,7,8,53]) (.cond (.t 53) (.seq (.reg [qT 54 2 5,qT 55 2 7,q2 56 15 54 55,zM 57 56,zG 57 true 58 (.load true 8 (.t 6)),zG 57 true 59 (.load true 8 (.t 8)),⟨(some (57,true)),some 60,.call 16 [.t 58,.t 59]⟩,qP 61 57 60,zM 2 61] [2]) .ret) .skip)) (.seq (.reg [qT 63 2 3,qA 64 1 4,qF 65 1 64,q2 66 19 63 65,zM 62 66,qE 67 62 0,qE 68 62 1,zA 9 (.alloc 16 [.c (.str []),fD 0,fD 0,fD 0,.c (.str []),.cO 1,.cO 5]),qS 7 9 67,zM 10 68] [4,5,6,9,10]) (.seq (.reg [qA 69 2 9,qT 70 5 69,q1 71 18 70,zM 11 71] [4,5,6,10,11]) (.seq (.reg [qT 73 2 5,qA 74 1 4,qF 75 1 74,zM 76 11,zA 77 (.dJ 17 1 1 [.str []] [(0,.t 76)]),qA 78 4 4,qT 79 5 78,zA 80 (.build [fD 0,.c (.str []),.cO 1,.cO 1,fD 0,fD 0,.c (.str []),.cO 1,.cO 5,.cO 8] [(0,1,kI 2),(1,1,.t 75),(2,1,.t 77),(4,5,.t 79)]),q2 81 13 73 80,zM 72 81,qE 82 72 0,qE 83 72 1,zA 12 (.alloc 18 [.cO 7,fD 0]),zA 13 (.alloc 19 [fD 0,.c (.str []),fD 0,fD 0,fD 0,.c (.str []),.cO 1,.cO 5]),qS 2 12 82,qS 8 13 83] [6,10,11,13]) (.seq (.reg [zM 84 10,zM 85 84,zG 85 true 86 (.mv (.t 11)),zG 85 true 87 (.eH 1 (.t 6)),zG 85 true 88 (.load false 1 (.t 87)),zG 85 true 89 (.bin .eql (.t 86) (.t 88)),zG 85 true 90 (.mv (.t 89)),zG 90 false 91 (.eH 0 (.t 13)),zG 90 false 92 (.load false 1 (.t 91)),zG 90 false 93 (.bin .eql (.t 92) (kI 412)),zG 85 true 94 (.pick (.t 90) (kB true) (.t 93)),qP 95 85 94,zM 2 95] [2]) .ret))))))))))
theorem K.dP:dR pZ 5 1 0 C.dP [.tmp 2]=true:=by kernel_rfl
end Go.Ab
end
section
namespace Go.Ab
open Go
set_option maxRecDepth 100000
theorem VB {t:aG} (h:GI t=true):([42]:aG) ≠ t:=fun e=>by have:=NV h; rw [<- e] at this; simp at this
theorem T.yV {c:List Int} (hc:Bytes c):Ev (fun f=>G.dP f c) true:=by
  refine Ev.up ?_
  simp only [G.dP]
  refine Ev.ite (fun _=>Ev.ret _) (fun e => ?_)
  obtain ⟨⟨s,q⟩,g,hs,hq⟩:=D.sH hc (by simp at e; omega)
  have hI:=T.vI hs hq
  have hS:=T.Aw hs hq
  obtain ⟨v1,v2⟩:=rW s q
  have es:=pz (qm v1)
  have er:=xg v2
  refine Ev.bind g (Ev.bind hI (Ev.bind hS (Ev.bind es (Ev.ct rfl (Ev.bind er (Ev.ct rfl (Ev.ite (fun _=>Qj) (fun e2=>Ev.ite (fun _=>Qj) (fun e3 => ?_)))))))))
  have e2:q.Method=2:=by simpa using e2
  have e3:(l7 s q).2.Status=200:=by simpa using e3
  rcases EJ (s:=s) (q:=q) with ⟨h,_⟩ | ⟨hf,hr,h⟩
  · rw [h] at e3; cases e3
  have hput:∃ it m,qY s q.Name=some it/\vP s q.Name q.Body=some m/\l7 s q=(m,aj.mk 200 (pK q.Body) m.Clock mX):=by
    clear hI hS es er g v1 v2
    generalize l7 s q=p at h e3
    cases h with
    | no c h1 h2=>exact absurd e3 h1
    | get it h1=>omega
    | drop it m h1=>omega
    | made m h1 h2 h3=>cases e3
    | put it n m h1 h2 h3 h4 =>
      have:yY it.Node q=some q.Body:=by unfold yY; rw [if_neg (by omega),if_neg (by omega)]
      rw [this] at h3
      cases h3
      exact ⟨it,m,h2,h4,rfl⟩
  obtain ⟨it,m,hg,hp,hh⟩:=hput
  have hv:=(vK hp).2.2.2.2
  have hvn:=(ve hg).2.2.2
  have hG:=T.ji q.Name lW hs
  rw [hg] at hG
  have hT:=T.lF rH (jf hvn)
  have hl:=Gt it.Node
  have hq2:uU 60 (RequestT.mk 2 q.Name [pK it.Node] [] q.Body []):=⟨hq.IY,⟨by simp,fun t ht=>by rw [List.mem_singleton.1 ht]; omega⟩,Ac,hq.body,Bc⟩
  have k2:=T.vI (qm hv) hq2
  have hst:¬ pK it.Node=pK q.Body->(l7 m (RequestT.mk 2 q.Name [pK it.Node] [] q.Body [])).2.Status=412:=fun hne=>by
    have hs1:=IK hvn
    have hs2:=IK hr.body
    have ht:xC [pK it.Node]=true:=by unfold xC JJ; simp [hs1]
    have hr2:Jn (RequestT.mk 2 q.Name [pK it.Node] [] q.Body [])=true:=vk.2 ⟨by show (1:Int)<=2; omega,by show (2:Int)<=5; omega,hr.IY,ht,rfl,hr.body,rfl⟩
    have hck:uG [pK it.Node] [] (pK q.Body) false=412:=by
      have hn:Oo [pK it.Node] (pK q.Body)=false:=by
        unfold Oo
        rw [Bool.or_eq_false_iff,decide_eq_false_iff_not,decide_eq_false_iff_not,List.mem_singleton,List.mem_singleton]
        exact ⟨fun e=>hne e.symm,VB hs1⟩
      unfold uG
      rw [hn]
      simp
    have hget:=get_put hp
    unfold l7
    rw [hv,hr2]
    show (FU m _).2.Status=412
    unfold FU
    show (match qY m q.Name with
      | none=>_
      | some it'=>if uG [pK it.Node] [] (pK it'.Node) false=200 then Nl m _ it' else (m,ans (uG [pK it.Node] [] (pK it'.Node) false))).2.Status=412
    rw [hget]
    show (if uG [pK it.Node] [] (pK q.Body) false=200 then _ else (m,ans (uG [pK it.Node] [] (pK q.Body) false))).2.Status=412
    rw [hck,if_neg (by decide)]
    rfl
  rw [hh]
  refine Ev.up ?_
  simp only [G.dP.K1]
  refine Ev.bind hG (Ev.bind hT (Ev.bind k2 (Ev.ct rfl (Ev.ite (fun _=>Ev.ret _) (fun e=>Ev.ret' ?_)))))
  rw [hst (by simpa using e)]
  rfl
end Go.Ab
end
section
namespace Go.Ab
open Go
set_option maxRecDepth 100000
set_option maxHeartbeats 4000000
set_option linter.unusedVariables false
set_option linter.unusedSimpArgs false
theorem F.dP {n:Nat} : ∀ {dw r},G.dP n dw=some r->bF pZ 5 [.one (.c (.sl 1 (List.map cU dw)))] (.one (.c (.lit (.bool r)))):=by
 intro dw r h
 refine aH K.dP (kK ?_)
 unfold C.dP
 rcases n with _ | n<;>simp only [G.dP,reduceCtorEq] at h
 have z:=pp (pp @F.eX <| pp @F.aW <| pp @F.dZ <| pp @F.aK <| pp @F.bG <| pp @F.ji <| pp @F.lF ()) <| pp () <| pp () <| pp (pp (@pq ((StoreT × RequestT) × (StoreT × aj)) _ (fun n x=>G.dP.K1 n x.1 x.2) r (fun x=>dB.of [eP 3 101,eP 4 102,eP 5 103,eP 6 104,(53,.v true (.one (.c (.lit (.bool false)))))] [(101,.var [.c (.sl 7 (List.map aA.cells x.1.1.Items)),wI x.1.1.Clock]),(102,.var [wI x.1.2.Method,wS x.1.2.Name,wT x.1.2.Want,wT x.1.2.lT,wI x.1.2.Body.Kind,wI x.1.2.Body.Num,wS x.1.2.Body.Text,wT x.1.2.Body.Names,wK x.1.2.Body.Kids,.c (.sl 8 (List.map nO.cells x.1.2.Ops))]),(103,.var [.c (.sl 7 (List.map aA.cells x.2.1.Items)),wI x.2.1.Clock]),(104,.var [wI x.2.2.Status,wS x.2.2.Tag,wI x.2.2.Version,wI x.2.2.Body.Kind,wI x.2.2.Body.Num,wS x.2.2.Body.Text,wT x.2.2.Body.Names,wK x.2.2.Body.Kids])])) ()) <| pp (pp (And.intro @G.dP.K1.eq_1 <| @G.dP.K1.eq_2) ()) <| pp (pp (@bf [] [(101,10),(102,11),(103,12),(104,13)] []) ()) <| ()
 exact lD
end Go.Ab
end
section
namespace Go.Proofs.YtaejlonmildglaaGreatDoor.fnHandleRequestTwice
open Go Go.ChangeShapes Go.WideShapes Go.ChangeAt Go.RowKit Go.Ab
set_option maxRecDepth 100000
theorem own:ownKnob Tryz.prog.godebug=none:=by kernel_rfl
theorem laidOut:laidOutB Tryz.prog=true:=by kernel_rfl
theorem cellsB:Tryz.prog.cellsOf 5=1:=by kernel_rfl
theorem calls (zs:List Int) (hz:∀ z,z∈zs->0<=z/\z<256):bF Tryz.prog 5 [Lt 1 (zs.map xH)] (oQ true):=by
 obtain ⟨n,hn⟩:=(T.yV hz).val
 exact F.dP hn
theorem met {W:World} (h:laidMetH Tryz.prog Rows.fnHandleRequestTwiceRow.laid W):laidMet Tryz.prog Rows.fnHandleRequestTwiceRow.laid W:=by
 unfold laidMetH at h
 rw [show (Rows.fnHandleRequestTwiceRow.laid.filter fun x=>x.2.handleName?.isSome)=[] from by kernel_rfl] at h
 exact h
theorem tabs {W:World} (hL:laidMetH Tryz.prog Rows.fnHandleRequestTwiceRow.laid W):Tabs Tryz.prog (I0 W):=by
 have h:=sD 2 (met hL)
 rw [show Rows.fnHandleRequestTwiceRow.laid.drop 2=("internal/strconv.uint64pow10",Lib.tabData .u64 Lib.pow10Tab)::Rows.fnHandleRequestTwiceRow.laid.drop 3 from by kernel_rfl] at h
 exact wG (g:=1) (t:=209) (e:=171) (by kernel_rfl) (by kernel_rfl) (by kernel_rfl) (by kernel_rfl) (by kernel_rfl) (by kernel_rfl) h
theorem contract (H:Type) (enc:TypeId × Value->H) (W:World) (base:Nat) (args:Array Value) (ds gs:List (DataW H)) (before:List MemPlace)
  (hval:∀ (j:Nat) t v,Tryz.f5.params[j]? = some t->args[j]? = some v->Value.okWide Tryz.prog W .any base t v)
  (hW:DataW.Whole enc Tryz.prog Tryz.f5.params.toList Rows.fnHandleRequestTwiceSpec.vars false W args.toList ds gs before)
  (hL:laidMetH Tryz.prog Rows.fnHandleRequestTwiceRow.laid W) :
  Calls Tryz.prog 5 args W fun e W'=>∃ v,e = .returned v/\Rows.fnHandleRequestTwiceSpec.post enc Tryz.prog Tryz.f5 false true false false W args v W':=by
 have hW':=hW
 obtain ⟨p,q,hA0,hV,rfl,hfz,hnd⟩:=hW
 have hA:DataW.TrodAll enc Tryz.prog W 0 (fun _=>true) true Tryz.f5.params.toList args.toList ds p:=hA0
 rw [Tryz.params5] at hA hval
 obtain ⟨v0,Xz,d0,ds0,p0,q0,hargs,rfl,rfl,h0,r0⟩:=trodAll_cons hA
 obtain ⟨rfl,rfl,rfl⟩:=trodAll_nil r0
 obtain rfl:args = #[v0]:=by cases args; simp_all
 obtain ⟨rfl,rfl⟩:=trodVars_none hV
 clear hA0
 simp only [List.append_nil] at hW'
 have hlt:∀ x∈p0,x.block<W.heap.size:=fun x hx=>by simpa using hW'.lt x hx
 refine (sW (enc:=enc) (tabs hL) Tryz.underlying22 Tryz.underlying5 cellsB (hval 0 22 v0 rfl rfl) h0 (fun zs _ hz=>calls zs hz)).mono fun e W' ⟨he,hb⟩ => ?_
 subst he
 have ht:DataW.TrodAll enc Tryz.prog W' 0 (fun b=>decide (b<W.heap.size)) true [22] [v0] [d0] (p0++[]):=trodAll_cons_mk (Below.trod laidOut (by kernel_rfl) (of_decide_eq_true (by kernel_rfl)) h0 hb hlt) trodAll_mk0
 rw [List.append_nil] at ht
 exact ⟨_,rfl,_,_,_,[],p0,[],hW',trodAll_cons_mk (shut_bool Tryz.underlying4 _) trodAll_mk0,
  ht,rfl,hb.frame _,fun h=>by cases h⟩
def tab (k:IntKind) (l:List Int):Obj->Obj
 | .cells _ t frozen => .cells (l.map fun n=>Value.int k n).toArray t frozen
 | o=>o
noncomputable def laidWorld (os:Os):World :=
 { World.holding Tryz.prog os ⟨#[],#[],[]⟩ with heap:=((((World.holding Tryz.prog os ⟨#[],#[],[]⟩).heap).modify 2 (tab .u8 [0,1,28,2,29,14,24,3,30,22,20,15,25,17,4,8,31,27,13,23,21,19,16,7,26,12,18,6,11,5,10,9])).modify 3 (tab .u8 [0,1,56,2,57,49,28,3,61,58,42,50,38,29,17,4,62,47,59,36,45,43,51,22,53,39,33,30,24,18,12,5,63,55,48,27,60,41,37,16,46,35,44,21,52,32,23,11,54,26,40,15,34,20,31,10,25,14,19,9,13,8,7,6])).modify 1 (tab .u64 [1,10,100,1000,10000,100000,1000000,10000000,100000000,1000000000,10000000000,100000000000,1000000000000,10000000000000,100000000000000,1000000000000000,10000000000000000,100000000000000000,1000000000000000000,10000000000000000000]) }
theorem laid_met (os:Os):laidMet Tryz.prog Rows.fnHandleRequestTwiceRow.laid ((laidWorld os).forCall (fun _ _=>0) ⟨#[],#[.slice none 0 0],[]⟩).memory :=
 laidMet_of_run' 80 (by kernel_rfl) (by kernel_rfl)
theorem reads (os:Os) {H:Type} (enc:TypeId × Value->H):∃ places,DataW.whole enc Tryz.prog ((laidWorld os).forCall (fun _ _=>0) ⟨#[],#[.slice none 0 0],[]⟩).memory Tryz.f5.params.toList Rows.fnHandleRequestTwiceSpec.vars false #[Value.slice none 0 0].toList 8=some ([.nil],[],places) :=
 ⟨[],by kernel_rfl⟩
theorem lifted (os:Os) (started:os.Started) (H:Type) (enc:TypeId × Value->H) (F:Stop.Interp) :
  ReturnsInHanded {} Tryz.checked os 5 .any ((OpenSpec.ofChange Rows.fnHandleRequestTwiceSpec).preRow enc Tryz.prog Tryz.f5 Rows.fnHandleRequestTwiceRow.domain false Rows.fnHandleRequestTwiceRow.laid) (((OpenSpec.ofChange Rows.fnHandleRequestTwiceSpec).at F).post enc Tryz.prog Tryz.f5 false true false false):=by
 obtain ⟨places,hx⟩:=reads os enc
 refine returnsInHanded_of_row (C:=Tryz.checked) (s:=OpenSpec.ofChange Rows.fnHandleRequestTwiceSpec) own started (by kernel_rfl) Tryz.func5
  (witness_row_at (enc:=enc) (C:=Tryz.checked) false (laidWorld os) #[.slice none 0 0] rfl (by kernel_rfl) (by kernel_rfl) (by kernel_rfl)
   (OpenSpec.preRow_of_cond 8 hx (by kernel_rfl) (fun k hk=>by cases hk) (by kernel_rfl) (laid_met os))) ?_
 intro W base args ds gs before hval hW _ _ _ hL _ _
 exact contract H enc W base args ds gs before hval hW hL
theorem j1:(Rows.fnHandleRequestTwiceRow.inPlace==Tryz.prog.inPlace 5)=true:=by kernel_rfl
theorem j2:(Rows.fnHandleRequestTwiceRow.unfollowed==Tryz.prog.unfollowed 5)=true:=by kernel_rfl
theorem j3:(Rows.fnHandleRequestTwiceRow.recurses==Tryz.prog.recurses 5)=true:=by kernel_rfl
theorem j4:(Rows.fnHandleRequestTwiceRow.named==Tryz.prog.varsNamed 5)=true:=by kernel_rfl
theorem j5:joinedFacts Tryz.prog 5 Tryz.f5 (OpenSpec.ofChange Rows.fnHandleRequestTwiceSpec).bare Rows.fnHandleRequestTwiceRow=true:=by
 unfold joinedFacts
 rw [j1,j2,j3,j4]
 kernel_rfl
theorem j6:Tryz.prog.funcNamed Rows.fnHandleRequestTwiceRow.func=some 5:=by kernel_rfl
theorem said:Rows.FnHandleRequestTwiceSaid :=
 OpenClaim.holds_of_cond 5 Tryz.f5 rfl rfl rfl rfl rfl rfl rfl ⟨rfl,rfl,rfl,rfl,rfl⟩ rfl rfl rfl rfl rfl j6 Tryz.func5 j5
  (of_decide_eq_true (by kernel_rfl)) (by unfold Func.isWrapper; first | (rw [if_pos (by decide +kernel)]; kernel_rfl) | (rw [if_neg (by decide +kernel)]; exact ⟨rfl,rfl⟩))
  (fun os started H enc _ F=>by rw [OpenClaim.pre_eq_preRow]; exact lifted os started H enc F)
theorem jw:Rows.fnHandleRequestTwiceRow.wfByText (OpenSpec.ofChange Rows.fnHandleRequestTwiceSpec)=true:=by kernel_rfl
theorem jm:Tryz.pinned.checked.prog.mainIs=some (Rows.fnHandleRequestTwiceCard.stood.harness.1,Rows.fnHandleRequestTwiceCard.stood.harness.2.toList):=by kernel_rfl
theorem jg:false=Rows.fnHandleRequestTwiceRow.goesBy Tryz.pinned.checked.prog:=by kernel_rfl
theorem plain (f:FuncId) (fn:Func) (hf:Tryz.pinned.checked.prog.funcNamed Rows.fnHandleRequestTwiceRow.func=some f) (hfn:Tryz.pinned.checked.prog.funcs[f]? = some fn) :
  false=Tryz.pinned.checked.prog.looks []/\∀ (j:Nat) t,fn.params[j]? = some t->Tryz.pinned.checked.prog.wantsStandIn t=false:=by
 obtain rfl:f=5:=Option.some.inj ((show Tryz.prog.funcNamed Rows.fnHandleRequestTwiceRow.func=some 5 by kernel_rfl).symm.trans hf) |>.symm
 obtain rfl:fn=Tryz.f5:=(Option.some.inj (Tryz.func5.symm.trans hfn)).symm
 refine ⟨by kernel_rfl,fun j t ht => ?_⟩
 rw [Tryz.params5] at ht
 obtain rfl:t=22:=by simpa using Array.mem_of_getElem? ht
 exact (show Tryz.prog.wantsStandIn 22=false by kernel_rfl)
theorem card:Rows.FnHandleRequestTwiceCardSaid :=
 Claim7.holds_tied_plain_at .later [] _ _ _ _ said (fun _ h=>by cases h) jw (fun _ h=>by cases h) fnHandleRequestTwice_row_tie rfl ⟨rfl,rfl⟩ jm rfl plain jg
end Go.Proofs.YtaejlonmildglaaGreatDoor.fnHandleRequestTwice
end
