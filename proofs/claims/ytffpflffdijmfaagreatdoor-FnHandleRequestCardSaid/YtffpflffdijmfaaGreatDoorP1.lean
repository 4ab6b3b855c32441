/- The law FnHandleRequest of the package laws answers true for every code of bytes and leaves it as it is (part 1). Conditions: none but what the row lists. -/
import Derived.Test.YtffpflffdijmfaaGreatDoorB4
set_option linter.unusedVariables false
set_option linter.unusedSimpArgs false
section
namespace Go.Ab
open Go
set_option maxRecDepth 100000
set_option maxHeartbeats 4000000
set_option linter.unusedVariables false
set_option linter.unusedSimpArgs false
def G.fA.K1 (f:Nat) (v1:StoreT × RequestT) (v2:StoreT × bn):Option (Bool):=match f with
| 0=>none
| n+1 =>
(cond (v2.2.Status==200)
((G.aW n v2.1).bind fun v12 =>
(cond v12
(cond (v1.2.Method != 1)
(some (true))
((G.iy n v2.1 v1.1).bind fun v13 =>
(some (v13))))
(some (false))))
((G.aW n v2.1).bind fun v14 =>
(cond v14
(cond (v2.2.Status==201)
(cond (v1.2.Method != 1)
(some (true))
((G.iy n v2.1 v1.1).bind fun v15 =>
(some (v15))))
((G.iy n v2.1 v1.1).bind fun v16 =>
(some (v16))))
(some (false)))))
def G.fA (f:Nat) (nM:List Int):Option (Bool):=match f with
| 0=>none
| n+1 =>
(cond (decide (1048576<((nM.length:Nat):Int)))
(some (true))
((G.iC n nM).bind fun v1 =>
((G.bz n v1.1 v1.2).bind fun v2 =>
((G.gW n v1.1 v1.2).bind fun v3 =>
((G.iy n v2.1 v3.1).bind fun v17 =>
(cond v17
((G.iF n v2.2 v3.2).bind fun v18 =>
(cond v18
(cond (v2.2.Status==400)
((G.iy n v2.1 v3.1).bind fun v19 =>
(cond v19
((G.iF n v2.2 v3.2).bind fun v20 =>
(some (v20)))
(some (false))))
(G.fA.K1 n v1 v2))
((G.iy n v2.1 v3.1).bind fun v21 =>
(cond v21
((G.iF n v2.2 v3.2).bind fun v22 =>
(some (v22)))
(some (false))))))
((G.iy n v2.1 v3.1).bind fun v23 =>
(cond v23
((G.iF n v2.2 v3.2).bind fun v24 =>
(some (v24)))
(some (false))))))))))
end Go.Ab
end
section
namespace Go.Ab
open Go
set_option maxRecDepth 100000
set_option maxHeartbeats 4000000
set_option linter.unusedVariables false
set_option linter.unusedSimpArgs false
def C.fA:aP:=(.seq (.reg [ qB 2 false] [0]) (.seq (.seq (.reg [ zM 10 0,qL 11 10,zA 12 (.bin .gtr (.t 11) (kI 1048576))] [0,12]) (.cond (.t 12) (.seq (.reg [ qB 2 true] [2]) .ret) .skip)) (.seq (.reg [ zM 14 0,q1 15 21 14,zM 13 15,qE 16 13 0,qE 17 13 1,zA 3 (.alloc 10 [.fU 7,je 0]),zA 4 (.alloc 11 [je 0,.c (.str []),.fU 1,.fU 1,je 0,je 0,.c (.str []),.fU 1,.fU 5,.fU 8]),qS 2 3 16,qS 10 4 17] [3,4]) (.seq (.reg [ qT 19 2 3,qT 20 10 4,q2 21 15 19 20,zM 18 21,qE 22 18 0,qE 23 18 1,zA 5 (.alloc 12 [.fU 7,je 0]),zA 6 (.alloc 13 [je 0,.c (.str []),je 0,je 0,je 0,.c (.str []),.fU 1,.fU 5]),qS 2 5 22,qS 8 6 23] [3,4,5,6]) (.seq (.reg [ qT 25 2 3,qT 26 10 4,q2 27 22 25 26,zM 24 27,qE 28 24 0,qE 29 24 1,zA 7 (.alloc 14 [.fU 7,je 0]),zA 8 (.alloc 15 [je 0,.c (.str []),je 0,je 0,je 0,.c (.str []),.fU 1,.fU 5]),qS 2 7 28,qS 8 8 29] [3,4,5,6,7,8]) (.cut (.seq (.reg [ qT 30 2 5,qT 31 2 7,q2 32 16 30 31,qO 33 32,zM 34 33,zG 34 false 35 (.load true 8 (.t 6)),zG 34 false 36 (.load true 8 (.t 8)),⟨(some (34,false)),some 37,.call 23 [.t 35,.t 36]⟩,zG 34 false 38 (.not (.t 37)),qQ 39 34 38,zM 40 39,zG 40 false 41 (.fZ 0 (.t 6)),zG 40 false 42 (.load false 1 (.t 41)),zG 40 false 43 (.bin .eql (.t 42) (kI 400)),qQ 44 40 43] [3,4,5,6,7,8,44]) (.cond (.t 44) (.seq (.reg [ qT 45 2 5,qT 46 2 7,q2 47 16 45 46,zM 48 47,zG 48 true 49 (.load true 8 (.t 6)),zG 48 true 50 (.load true 8 (.t 8)),⟨(some (48,true)),some 51,.call 23 [.t 49,.t 50]⟩,qP 52 48 51,zM 2 52] [2]) .ret) .skip)) (.seq (.reg [ qA 53 0 6,qF 54 1 53,zA 55 (.bin .eql (.t 54) (kI 200)),zM 56 55,zG 56 false 57 (.fZ 0 (.t 6)),zG 56 false 58 (.load false 1 (.t 57)),zG 56 false 59 (.bin .eql (.t 58) (kI 201)),qQ 60 56 59,zM 9 60] [3,4,5,9]) (.seq (.reg [ qT 61 2 5,q1 62 24 61,zM 63 62,zG 63 true 64 (.mv (.t 9)),zG 63 true 65 (.mv (.t 64)),zG 65 true 66 (.fZ 0 (.t 4)),zG 65 true 67 (.load false 1 (.t 66)),zG 65 true 68 (.bin .neq (.t 67) (kI 1)),zG 63 true 69 (.pick (.t 65) (.t 68) (kB false)),zG 63 true 70 (.mv (.t 69)),zG 70 false 71 (.load true 2 (.t 5)),zG 70 false 72 (.load true 2 (.t 3)),⟨(some (70,false)),some 73,.call 16 [.t 71,.t 72]⟩,zG 63 true 74 (.pick (.t 70) (kB true) (.t 73)),qP 75 63 74,zM 2 75] [2]) .ret))))))))
theorem K.fA:dU pZ 6 1 0 C.fA [.tmp 2]=true:=by kernel_rfl
end Go.Ab
end
section
namespace Go.Ab
open Go
set_option maxRecDepth 100000
theorem T.Bg {c:List Int} (hc:Bytes c):Ev (fun f=>G.fA f c) true:=by
  refine Ev.up ?_
  simp only [G.fA]
  refine Ev.ite (fun _=>Ev.ret _) (fun e => ?_)
  obtain ⟨⟨s,q⟩,g,hs,hq⟩:=D.Ak hc (by simp at e; omega)
  have hI:=T.Rz hs hq
  have hS:=T.Tu hs hq
  obtain ⟨v1,v2⟩:=Rj s q
  have es:=Dw (Oe v1)
  have er:=MC v2
  refine Ev.bind g (Ev.bind hI (Ev.bind hS (Ev.bind es (Ev.ct rfl (Ev.bind er (Ev.ct rfl (Ev.ite (fun _=>Xl) (fun e=>Ev.up ?_))))))))
  rcases Rl (s:=s) (q:=q) with ⟨h,_⟩ | ⟨hf,hr,h⟩
  · rw [h] at e; cases e
  have iv:=T.aW mZ (Oe v1)
  simp only [G.fA.K1]
  have same:=Dw hs
  rw [v1] at iv
  generalize Ap s q=p at h iv
  have md:∀ {b:Bool},b=true->Ev (fun f=>cond b (some true) (Option.bind (G.iy f p.1 s) fun v13=>some v13)) true:=fun h=>Ev.ct h (Ev.ret _)
  cases h with
  | no c h1 h2=>exact Ev.cf (beq_eq_false_iff_ne.2 h1) (Ev.bind iv (Ev.ct rfl (Ev.cf (beq_eq_false_iff_ne.2 h2) (Ev.bind same (Ev.ret _)))))
  | get it h1=>exact Ev.ct rfl (Ev.bind iv (Ev.ct rfl (Ev.cf (by simpa using h1) (Ev.bind same (Ev.ret _)))))
  | drop it m h1 => exact Ev.ct rfl (Ev.bind iv (Ev.ct rfl (md (by have:q.Method ≠ 1:=by omega
                                                                   simpa using this))))
  | made m h1 => exact Ev.cf rfl (Ev.bind iv (Ev.ct rfl (Ev.ct rfl (md (by have:q.Method ≠ 1:=by omega
                                                                           simpa using this)))))
  | put it n m h1 => exact Ev.ct rfl (Ev.bind iv (Ev.ct rfl (md (by have:q.Method ≠ 1:=by omega
                                                                    simpa using this))))
end Go.Ab
end
section
namespace Go.Ab
open Go
set_option maxRecDepth 100000
set_option maxHeartbeats 4000000
set_option linter.unusedVariables false
set_option linter.unusedSimpArgs false
theorem F.fA {n:Nat} : ∀ {nM:List Int} {r:Bool},G.fA n nM=some r->bG pZ 6 [.one (.c (.sl 1 (List.map cU nM)))] (.one (.c (.lit (.bool r)))):=by
  intro nM r h
  refine aG K.fA (kF ?_)
  unfold C.fA
  rcases n with _ | n<;>simp only [G.fA,reduceCtorEq] at h
  obtain ⟨zc,zg,zk,zu,ze,zj,zt⟩:=pp (pp @F.iC <| pp @F.bz <| pp @F.gW <| pp @F.iy <| pp @F.iF <| pp @F.aW ()) <| pp () <| pp () <| pp (pp (@pO ((StoreT × RequestT) × (StoreT × bn)) _ (fun n x=>G.fA.K1 n x.1 x.2) r (fun x=>cu.of [eP 3 101,eP 4 102,eP 5 103,eP 6 104,(44,.v true (.one (.c (.lit (.bool false)))))] [(101,.var [.c (.sl 7 (List.map aB.cells x.1.1.Items)),wI x.1.1.Clock]),(102,.var [wI x.1.2.Method,wS x.1.2.Name,wT x.1.2.Want,wT x.1.2.l7,wI x.1.2.Body.Kind,wI x.1.2.Body.Num,wS x.1.2.Body.Text,wT x.1.2.Body.Names,wK x.1.2.Body.Kids,.c (.sl 8 (List.map lU.cells x.1.2.Ops))]),(103,.var [.c (.sl 7 (List.map aB.cells x.2.1.Items)),wI x.2.1.Clock]),(104,.var [wI x.2.2.Status,wS x.2.2.Tag,wI x.2.2.Version,wI x.2.2.Body.Kind,wI x.2.2.Body.Num,wS x.2.2.Body.Text,wT x.2.2.Body.Names,wK x.2.2.Body.Kids])])) ()) <| pp (pp (And.intro @G.fA.K1.eq_1 <| @G.fA.K1.eq_2) ()) <| pp (pp (@bg [] [(101,10),(102,11),(103,12),(104,13)] []) ()) <| ()
  simp only [wN,wI,wS,wT,wK,zN,eP,eI,eS,eT] at zc zk zu zt zj ⊢
  exact kN
end Go.Ab
end
section
namespace Go.Proofs.YtffpflffdijmfaaGreatDoor.fnHandleRequest
open Go Go.ChangeShapes Go.WideShapes Go.ChangeAt Go.RowKit Go.Ab
set_option maxRecDepth 100000
theorem own:ownKnob Tryz.prog.godebug=none:=by kernel_rfl
theorem laidOut:laidOutB Tryz.prog=true:=by kernel_rfl
theorem cellsB:Tryz.prog.cellsOf 5=1:=by kernel_rfl
theorem calls (zs:List Int) (hz:∀ z,z∈zs->0<=z/\z<256):bG Tryz.prog 6 [TF 1 (zs.map GK)] (oL true):=by
  obtain ⟨n,hn⟩:=(T.Bg hz).val
  exact F.fA hn
theorem met {W:World} (h:laidMetH Tryz.prog Rows.fnHandleRequestRow.laid W):laidMet Tryz.prog Rows.fnHandleRequestRow.laid W:=by
  unfold laidMetH at h
  rw [show (Rows.fnHandleRequestRow.laid.filter fun x=>x.2.handleName?.isSome)=[] from by kernel_rfl] at h
  exact h
theorem tabs {W:World} (hL:laidMetH Tryz.prog Rows.fnHandleRequestRow.laid W):Tabs Tryz.prog (I0 W):=by
  have h:=G7 2 (met hL)
  rw [show Rows.fnHandleRequestRow.laid.drop 2=("internal/strconv.uint64pow10",Lib.tabData .u64 Lib.pow10Tab)::Rows.fnHandleRequestRow.laid.drop 3 from by kernel_rfl] at h
  exact U5 (g:=1) (t:=175) (e:=164) (by kernel_rfl) (by kernel_rfl) (by kernel_rfl) (by kernel_rfl) (by kernel_rfl) (by kernel_rfl) h
theorem contract (H:Type) (enc:TypeId × Value->H) (W:World) (base:Nat) (args:Array Value) (ds gs:List (DataW H)) (before:List MemPlace)
    (hval:∀ (j:Nat) t v,Tryz.f6.params[j]? = some t->args[j]? = some v->Value.okWide Tryz.prog W .any base t v)
    (hW:DataW.Whole enc Tryz.prog Tryz.f6.params.toList Rows.fnHandleRequestSpec.vars false W args.toList ds gs before)
    (hL:laidMetH Tryz.prog Rows.fnHandleRequestRow.laid W) :
    Calls Tryz.prog 6 args W fun e W'=>∃ v,e = .returned v/\Rows.fnHandleRequestSpec.post enc Tryz.prog Tryz.f6 false true false false W args v W':=by
  have hW':=hW
  obtain ⟨p,q,hA0,hV,rfl,hfz,hnd⟩:=hW
  have hA:DataW.TrodAll enc Tryz.prog W 0 (fun _=>true) true Tryz.f6.params.toList args.toList ds p:=hA0
  rw [Tryz.params6] at hA hval
  obtain ⟨v0,YK,d0,ds0,p0,q0,hargs,rfl,rfl,h0,r0⟩:=trodAll_cons hA
  obtain ⟨rfl,rfl,rfl⟩:=trodAll_nil r0
  obtain rfl:args = #[v0]:=by cases args; simp_all
  obtain ⟨rfl,rfl⟩:=trodVars_none hV
  clear hA0
  simp only [List.append_nil] at hW'
  have hlt:∀ x∈p0,x.block<W.heap.size:=fun x hx=>by simpa using hW'.lt x hx
  refine (Pm (enc:=enc) (tabs hL) Tryz.underlying22 Tryz.underlying5 cellsB (hval 0 22 v0 rfl rfl) h0 (fun zs _ hz=>calls zs hz)).mono fun e W' ⟨he,hb⟩ => ?_
  subst he
  have ht:DataW.TrodAll enc Tryz.prog W' 0 (fun b=>decide (b<W.heap.size)) true [22] [v0] [d0] (p0++[]):=trodAll_cons_mk (Below.trod laidOut (by kernel_rfl) (of_decide_eq_true (by kernel_rfl)) h0 hb hlt) trodAll_mk0
  rw [List.append_nil] at ht
  exact ⟨_,rfl,_,_,_,[],p0,[],hW',trodAll_cons_mk (shut_bool Tryz.underlying4 _) trodAll_mk0,
    ht,rfl,hb.frame _,fun h=>by cases h⟩
def tab (k:IntKind) (l:List Int):Obj->Obj
  | .cells _ t frozen => .cells (l.map fun n=>Value.int k n).toArray t frozen
  | o=>o
noncomputable def laidWorld (os:Os):World :=
  { World.holding Tryz.prog os ⟨#[],#[],[]⟩ with heap:=((((World.holding Tryz.prog os ⟨#[],#[],[]⟩).heap).modify 2 (tab .u8 [0,1,28,2,29,14,24,3,30,22,20,15,25,17,4,8,31,27,13,23,21,19,16,7,26,12,18,6,11,5,10,9])).modify 3 (tab .u8 [0,1,56,2,57,49,28,3,61,58,42,50,38,29,17,4,62,47,59,36,45,43,51,22,53,39,33,30,24,18,12,5,63,55,48,27,60,41,37,16,46,35,44,21,52,32,23,11,54,26,40,15,34,20,31,10,25,14,19,9,13,8,7,6])).modify 1 (tab .u64 [1,10,100,1000,10000,100000,1000000,10000000,100000000,1000000000,10000000000,100000000000,1000000000000,10000000000000,100000000000000,1000000000000000,10000000000000000,100000000000000000,1000000000000000000,10000000000000000000]) }
theorem laid_met (os:Os):laidMet Tryz.prog Rows.fnHandleRequestRow.laid ((laidWorld os).forCall (fun _ _=>0) ⟨#[],#[.slice none 0 0],[]⟩).memory :=
  laidMet_of_run' 80 (by kernel_rfl) (by kernel_rfl)
theorem reads (os:Os) {H:Type} (enc:TypeId × Value->H):∃ places,DataW.whole enc Tryz.prog ((laidWorld os).forCall (fun _ _=>0) ⟨#[],#[.slice none 0 0],[]⟩).memory Tryz.f6.params.toList Rows.fnHandleRequestSpec.vars false #[Value.slice none 0 0].toList 8=some ([.nil],[],places) :=
  ⟨[],by kernel_rfl⟩
theorem lifted (os:Os) (started:os.Started) (H:Type) (enc:TypeId × Value->H) (F:Stop.Interp) :
    ReturnsInHanded {} Tryz.checked os 6 .any ((OpenSpec.ofChange Rows.fnHandleRequestSpec).preRow enc Tryz.prog Tryz.f6 Rows.fnHandleRequestRow.domain false Rows.fnHandleRequestRow.laid) (((OpenSpec.ofChange Rows.fnHandleRequestSpec).at F).post enc Tryz.prog Tryz.f6 false true false false):=by
  obtain ⟨places,hx⟩:=reads os enc
  refine returnsInHanded_of_row (C:=Tryz.checked) (s:=OpenSpec.ofChange Rows.fnHandleRequestSpec) own started (by kernel_rfl) Tryz.func6
    (witness_row_at (enc:=enc) (C:=Tryz.checked) false (laidWorld os) #[.slice none 0 0] rfl (by kernel_rfl) (by kernel_rfl) (by kernel_rfl)
      (OpenSpec.preRow_of_cond 8 hx (by kernel_rfl) (fun k hk=>by cases hk) (by kernel_rfl) (laid_met os))) ?_
  intro W base args ds gs before hval hW _ _ _ hL _ _
  exact contract H enc W base args ds gs before hval hW hL
theorem j1:(Rows.fnHandleRequestRow.inPlace==Tryz.prog.inPlace 6)=true:=by kernel_rfl
theorem j2:(Rows.fnHandleRequestRow.unfollowed==Tryz.prog.unfollowed 6)=true:=by kernel_rfl
theorem j3:(Rows.fnHandleRequestRow.recurses==Tryz.prog.recurses 6)=true:=by kernel_rfl
theorem j4:(Rows.fnHandleRequestRow.named==Tryz.prog.varsNamed 6)=true:=by kernel_rfl
theorem j5:joinedFacts Tryz.prog 6 Tryz.f6 (OpenSpec.ofChange Rows.fnHandleRequestSpec).bare Rows.fnHandleRequestRow=true:=by
  unfold joinedFacts
  rw [j1,j2,j3,j4]
  kernel_rfl
theorem j6:Tryz.prog.funcNamed Rows.fnHandleRequestRow.func=some 6:=by kernel_rfl
theorem said:Rows.FnHandleRequestSaid :=
  OpenClaim.holds_of_cond 6 Tryz.f6 rfl rfl rfl rfl rfl rfl rfl ⟨rfl,rfl,rfl,rfl,rfl⟩ rfl rfl rfl rfl rfl j6 Tryz.func6 j5
    (of_decide_eq_true (by kernel_rfl)) (by unfold Func.isWrapper; first | (rw [if_pos (by decide +kernel)]; kernel_rfl) | (rw [if_neg (by decide +kernel)]; exact ⟨rfl,rfl⟩))
    (fun os started H enc _ F=>by rw [OpenClaim.pre_eq_preRow]; exact lifted os started H enc F)
theorem jw:Rows.fnHandleRequestRow.wfByText (OpenSpec.ofChange Rows.fnHandleRequestSpec)=true:=by kernel_rfl
theorem jm:Tryz.pinned.checked.prog.mainIs=some (Rows.fnHandleRequestCard.stood.harness.1,Rows.fnHandleRequestCard.stood.harness.2.toList):=by kernel_rfl
theorem jg:false=Rows.fnHandleRequestRow.goesBy Tryz.pinned.checked.prog:=by kernel_rfl
theorem plain (f:FuncId) (fn:Func) (hf:Tryz.pinned.checked.prog.funcNamed Rows.fnHandleRequestRow.func=some f) (hfn:Tryz.pinned.checked.prog.funcs[f]? = some fn) :
    false=Tryz.pinned.checked.prog.looks []/\∀ (j:Nat) t,fn.params[j]? = some t->Tryz.pinned.checked.prog.wantsStandIn t=false:=by
  obtain rfl:f=6:=Option.some.inj ((show Tryz.prog.funcNamed Rows.fnHandleRequestRow.func=some 6 by kernel_rfl).symm.trans hf) |>.symm
  obtain rfl:fn=Tryz.f6:=(Option.some.inj (Tryz.func6.symm.trans hfn)).symm
  refine ⟨by kernel_rfl,fun j t ht => ?_⟩
  rw [Tryz.params6] at ht
  obtain rfl:t=22:=by simpa using Array.mem_of_getElem? ht
  exact (show Tryz.prog.wantsStandIn 22=false by kernel_rfl)
theorem card:Rows.FnHandleRequestCardSaid :=
  Claim7.holds_tied_plain_at .later [] _ _ _ _ said (fun _ h=>by cases h) jw (fun _ h=>by cases h) fnHandleRequest_row_tie rfl ⟨rfl,rfl⟩ jm rfl plain jg
end Go.Proofs.YtffpflffdijmfaaGreatDoor.fnHandleRequest
end
