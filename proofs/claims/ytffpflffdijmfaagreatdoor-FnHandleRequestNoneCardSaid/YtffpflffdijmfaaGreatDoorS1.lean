/- The law FnHandleRequestNone of the package laws answers true for every code of bytes and leaves it as it is (part 1). Conditions: none but what the row lists. -/
import Derived.Test.YtffpflffdijmfaaGreatDoorB4
set_option linter.unusedVariables false
set_option linter.unusedSimpArgs false
section
namespace Go.Ab
open Go
set_option maxRecDepth 100000
set_option maxHeartbeats 4000000
set_option linter.unusedVariables false
set_option linter.unusedSimpArgs false
def G.YO.K1 (f:Nat) (v1:StoreT × RequestT) (v2:StoreT × bn):Option (Bool):=match f with
| 0=>none
| n+1 =>
((G.lC n v1.1 v1.2.Name).bind fun v12 =>
(cond v12.2
(cond (v2.2.Status==404)
(some (false))
(cond (v2.2.Status != 201)
(some (true))
(some (false))))
(cond (v2.2.Status==404)
(cond (v1.2.Method != 2)
(cond (v2.2.Status != 201)
(some (true))
(some ((v1.2.Method==2))))
(some (false)))
(cond (v1.2.Method != 2)
(some (false))
(cond (v2.2.Status != 201)
(some (true))
(some ((v1.2.Method==2))))))))
def G.YO (f:Nat) (nM:List Int):Option (Bool):=match f with
| 0=>none
| n+1 =>
(cond (decide (1048576<((nM.length:Nat):Int)))
(some (true))
((G.iC n nM).bind fun v1 =>
((G.bz n v1.1 v1.2).bind fun v2 =>
((G.gW n v1.1 v1.2).bind fun v3 =>
((G.iy n v2.1 v3.1).bind fun v13 =>
(cond v13
((G.iF n v2.2 v3.2).bind fun v14 =>
(cond v14
(cond (v2.2.Status==400)
((G.iy n v2.1 v3.1).bind fun v15 =>
(cond v15
((G.iF n v2.2 v3.2).bind fun v16 =>
(some (v16)))
(some (false))))
(G.YO.K1 n v1 v2))
((G.iy n v2.1 v3.1).bind fun v17 =>
(cond v17
((G.iF n v2.2 v3.2).bind fun v18 =>
(some (v18)))
(some (false))))))
((G.iy n v2.1 v3.1).bind fun v19 =>
(cond v19
((G.iF n v2.2 v3.2).bind fun v20 =>
(some (v20)))
(some (false))))))))))
end Go.Ab
end
section
namespace Go.Ab
open Go
set_option maxRecDepth 100000
set_option maxHeartbeats 4000000
set_option linter.unusedVariables false
set_option linter.unusedSimpArgs false
def C.YO:aP:=(.seq (.reg [ qB 2 false] [0]) (.seq (.seq (.reg [ zM 11 0,qL 12 11,zA 13 (.bin .gtr (.t 12) (kI 1048576))] [0,13]) (.cond (.t 13) (.seq (.reg [ qB 2 true] [2]) .ret) .skip)) (.seq (.reg [ zM 15 0,q1 16 21 15,zM 14 16,qE 17 14 0,qE 18 14 1,zA 3 (.alloc 10 [.fU 7,je 0]),zA 4 (.alloc 11 [je 0,.c (.str []),.fU 1,.fU 1,je 0,je 0,.c (.str []),.fU 1,.fU 5,.fU 8]),qS 2 3 17,qS 10 4 18] [3,4]) (.seq (.reg [ qT 20 2 3,qT 21 10 4,q2 22 15 20 21,zM 19 22,qE 23 19 0,qE 24 19 1,zA 5 (.alloc 12 [.fU 7,je 0]),zA 6 (.alloc 13 [je 0,.c (.str []),je 0,je 0,je 0,.c (.str []),.fU 1,.fU 5]),qS 2 5 23,qS 8 6 24] [3,4,5,6]) (.seq (.reg [ qT 26 2 3,qT 27 10 4,q2 28 22 26 27,zM 25 28,qE 29 25 0,qE 30 25 1,zA 7 (.alloc 14 [.fU 7,je 0]),zA 8 (.alloc 15 [je 0,.c (.str []),je 0,je 0,je 0,.c (.str []),.fU 1,.fU 5]),qS 2 7 29,qS 8 8 30] [3,4,5,6,7,8]) (.cut (.seq (.reg [ qT 31 2 5,qT 32 2 7,q2 33 16 31 32,qO 34 33,zM 35 34,zG 35 false 36 (.load true 8 (.t 6)),zG 35 false 37 (.load true 8 (.t 8)),⟨(some (35,false)),some 38,.call 23 [.t 36,.t 37]⟩,zG 35 false 39 (.not (.t 38)),qQ 40 35 39,zM 41 40,zG 41 false 42 (.fZ 0 (.t 6)),zG 41 false 43 (.load false 1 (.t 42)),zG 41 false 44 (.bin .eql (.t 43) (kI 400)),qQ 45 41 44] [3,4,5,6,7,8,45]) (.cond (.t 45) (.seq (.reg [ qT 46 2 5,qT 47 2 7,q2 48 16 46 47,zM 49 48,zG 49 true 50 (.load true 8 (.t 6)),zG 49 true 51 (.load true 8 (.t 8)),⟨(some (49,true)),some 52,.call 23 [.t 50,.t 51]⟩,qP 53 49 52,zM 2 53] [2]) .ret) .skip)) (.seq (.reg [ qT 55 2 3,qA 56 1 4,qF 57 1 56,q2 58 20 55 57,zM 54 58,qE 59 54 0,qE 60 54 1,zA 9 (.alloc 16 [.c (.str []),je 0,je 0,je 0,.c (.str []),.fU 1,.fU 5]),qS 7 9 59,zM 10 60] [4,6,10]) (.seq (.reg [ qA 61 0 6,qF 62 1 61,zA 63 (.bin .eql (.t 62) (kI 404)),zM 64 10,qO 65 64,zM 66 65,zG 66 true 67 (.fZ 0 (.t 4)),zG 66 true 68 (.load false 1 (.t 67)),zG 66 true 69 (.bin .neq (.t 68) (kI 2)),qP 70 66 69,zA 71 (.beq false (.t 63) (.t 70)),zM 72 71,zG 72 true 73 (.fZ 0 (.t 6)),zG 72 true 74 (.load false 1 (.t 73)),zG 72 true 75 (.bin .neq (.t 74) (kI 201)),zG 72 true 76 (.mv (.t 75)),zG 76 false 77 (.mv (.t 10)),zG 76 false 78 (.not (.t 77)),zG 76 false 79 (.mv (.t 78)),zG 79 true 80 (.fZ 0 (.t 4)),zG 79 true 81 (.load false 1 (.t 80)),zG 79 true 82 (.bin .eql (.t 81) (kI 2)),zG 76 false 83 (.pick (.t 79) (.t 82) (kB false)),zG 72 true 84 (.pick (.t 76) (kB true) (.t 83)),qP 85 72 84,zM 2 85] [2]) .ret))))))))
theorem K.YO:dU pZ 9 1 0 C.YO [.tmp 2]=true:=by kernel_rfl
end Go.Ab
end
section
namespace Go.Ab
open Go
set_option maxRecDepth 100000
theorem T.Y2 {c:List Int} (hc:Bytes c):Ev (fun f=>G.YO f c) true:=by
  refine Ev.up ?_
  simp only [G.YO]
  refine Ev.ite (fun _=>Ev.ret _) (fun e => ?_)
  obtain ⟨⟨s,q⟩,g,hs,hq⟩:=D.Ak hc (by simp at e; omega)
  have hI:=T.Rz hs hq
  have hS:=T.Tu hs hq
  obtain ⟨v1,v2⟩:=Rj s q
  have es:=Dw (Oe v1)
  have er:=MC v2
  refine Ev.bind g (Ev.bind hI (Ev.bind hS (Ev.bind es (Ev.ct rfl (Ev.bind er (Ev.ct rfl (Ev.ite (fun _=>Xl) (fun e=>Ev.up ?_))))))))
  rcases Rl (s:=s) (q:=q) with ⟨h,_⟩ | ⟨hf,hr,h⟩
  · rw [h] at e; cases e
  have hG:=T.lC q.Name mZ hs
  simp only [G.YO.K1]
  clear hI hS es er g
  generalize Ap s q=p at h v1 v2 e ⊢
  refine Ev.bind hG ?_
  cases h with
  | no c h1 h2 h3 h4 =>
    have b1:(c != 201)=true:=by simpa using h2
    cases hg:wM s q.Name with
    | some it =>
      have:c ≠ 404:=fun h=>by have:=(h4.1 h).1; rw [hg] at this; cases this
      exact Ev.ct rfl (Ev.cf (beq_eq_false_iff_ne.2 this) (Ev.ct b1 (Ev.ret _)))
    | none =>
      by_cases c4:c=404
      · have:=(h4.1 c4).2
        exact Ev.cf rfl (Ev.ct (beq_iff_eq.2 c4) (Ev.ct (by simpa using this) (Ev.ct b1 (Ev.ret _))))
      · have:q.Method=2:=Classical.byContradiction fun h=>c4 (h4.2 ⟨hg,h⟩)
        exact Ev.cf rfl (Ev.cf (beq_eq_false_iff_ne.2 c4) (Ev.cf (by simpa using this) (Ev.ct b1 (Ev.ret _))))
  | get it h1 h2=>rw [h2]; exact Ev.ct rfl (Ev.cf rfl (Ev.ct rfl (Ev.ret _)))
  | drop it m h1 h2 h3=>rw [h2]; exact Ev.ct rfl (Ev.cf rfl (Ev.ct rfl (Ev.ret _)))
  | made m h1 h2 h3=>rw [h2]; exact Ev.cf rfl (Ev.cf rfl (Ev.cf (by simpa using h1) (Ev.cf rfl (Ev.ret' (by simpa using h1)))))
  | put it n m h1 h2 h3 h4=>rw [h2]; exact Ev.ct rfl (Ev.cf rfl (Ev.ct rfl (Ev.ret _)))
end Go.Ab
end
section
namespace Go.Ab
open Go
set_option maxRecDepth 100000
set_option maxHeartbeats 4000000
set_option linter.unusedVariables false
set_option linter.unusedSimpArgs false
theorem F.YO {n:Nat} : ∀ {nM:List Int} {r:Bool},G.YO n nM=some r->bG pZ 9 [.one (.c (.sl 1 (List.map cU nM)))] (.one (.c (.lit (.bool r)))):=by
  intro nM r h
  refine aG K.YO (kF ?_)
  unfold C.YO
  rcases n with _ | n<;>simp only [G.YO,reduceCtorEq] at h
  obtain ⟨zc,zg,zk,zu,ze,zj,zt⟩:=pp (pp @F.iC <| pp @F.bz <| pp @F.gW <| pp @F.iy <| pp @F.iF <| pp @F.lC ()) <| pp () <| pp () <| pp (pp (@pO ((StoreT × RequestT) × (StoreT × bn)) _ (fun n x=>G.YO.K1 n x.1 x.2) r (fun x=>cu.of [eP 3 101,eP 4 102,eP 5 103,eP 6 104,(45,.v true (.one (.c (.lit (.bool false)))))] [(101,.var [.c (.sl 7 (List.map aB.cells x.1.1.Items)),wI x.1.1.Clock]),(102,.var [wI x.1.2.Method,wS x.1.2.Name,wT x.1.2.Want,wT x.1.2.l7,wI x.1.2.Body.Kind,wI x.1.2.Body.Num,wS x.1.2.Body.Text,wT x.1.2.Body.Names,wK x.1.2.Body.Kids,.c (.sl 8 (List.map lU.cells x.1.2.Ops))]),(103,.var [.c (.sl 7 (List.map aB.cells x.2.1.Items)),wI x.2.1.Clock]),(104,.var [wI x.2.2.Status,wS x.2.2.Tag,wI x.2.2.Version,wI x.2.2.Body.Kind,wI x.2.2.Body.Num,wS x.2.2.Body.Text,wT x.2.2.Body.Names,wK x.2.2.Body.Kids])])) ()) <| pp (pp (And.intro @G.YO.K1.eq_1 <| @G.YO.K1.eq_2) ()) <| pp (pp (@bg [] [(101,10),(102,11),(103,12),(104,13)] []) ()) <| ()
  simp only [wN,wI,wS,wT,wK,zN,eP,eI,eS,eT] at zc zk zu zt zj ⊢
  exact kN
end Go.Ab
end
section
namespace Go.Proofs.YtffpflffdijmfaaGreatDoor.fnHandleRequestNone
open Go Go.ChangeShapes Go.WideShapes Go.ChangeAt Go.RowKit Go.Ab
set_option maxRecDepth 100000
theorem own:ownKnob Tryz.prog.godebug=none:=by kernel_rfl
theorem laidOut:laidOutB Tryz.prog=true:=by kernel_rfl
theorem cellsB:Tryz.prog.cellsOf 5=1:=by kernel_rfl
theorem calls (zs:List Int) (hz:∀ z,z∈zs->0<=z/\z<256):bG Tryz.prog 9 [TF 1 (zs.map GK)] (oL true):=by
  obtain ⟨n,hn⟩:=(T.Y2 hz).val
  exact F.YO hn
theorem met {W:World} (h:laidMetH Tryz.prog Rows.fnHandleRequestNoneRow.laid W):laidMet Tryz.prog Rows.fnHandleRequestNoneRow.laid W:=by
  unfold laidMetH at h
  rw [show (Rows.fnHandleRequestNoneRow.laid.filter fun x=>x.2.handleName?.isSome)=[] from by kernel_rfl] at h
  exact h
theorem tabs {W:World} (hL:laidMetH Tryz.prog Rows.fnHandleRequestNoneRow.laid W):Tabs Tryz.prog (I0 W):=by
  have h:=G7 2 (met hL)
  rw [show Rows.fnHandleRequestNoneRow.laid.drop 2=("internal/strconv.uint64pow10",Lib.tabData .u64 Lib.pow10Tab)::Rows.fnHandleRequestNoneRow.laid.drop 3 from by kernel_rfl] at h
  exact U5 (g:=1) (t:=175) (e:=164) (by kernel_rfl) (by kernel_rfl) (by kernel_rfl) (by kernel_rfl) (by kernel_rfl) (by kernel_rfl) h
theorem contract (H:Type) (enc:TypeId × Value->H) (W:World) (base:Nat) (args:Array Value) (ds gs:List (DataW H)) (before:List MemPlace)
    (hval:∀ (j:Nat) t v,Tryz.f9.params[j]? = some t->args[j]? = some v->Value.okWide Tryz.prog W .any base t v)
    (hW:DataW.Whole enc Tryz.prog Tryz.f9.params.toList Rows.fnHandleRequestNoneSpec.vars false W args.toList ds gs before)
    (hL:laidMetH Tryz.prog Rows.fnHandleRequestNoneRow.laid W) :
    Calls Tryz.prog 9 args W fun e W'=>∃ v,e = .returned v/\Rows.fnHandleRequestNoneSpec.post enc Tryz.prog Tryz.f9 false true false false W args v W':=by
  have hW':=hW
  obtain ⟨p,q,hA0,hV,rfl,hfz,hnd⟩:=hW
  have hA:DataW.TrodAll enc Tryz.prog W 0 (fun _=>true) true Tryz.f9.params.toList args.toList ds p:=hA0
  rw [Tryz.params9] at hA hval
  obtain ⟨v0,YK,d0,ds0,p0,q0,hargs,rfl,rfl,h0,r0⟩:=trodAll_cons hA
  obtain ⟨rfl,rfl,rfl⟩:=trodAll_nil r0
  obtain rfl:args = #[v0]:=by cases args; simp_all
  obtain ⟨rfl,rfl⟩:=trodVars_none hV
  clear hA0
  simp only [List.append_nil] at hW'
  have hlt:∀ x∈p0,x.block<W.heap.size:=fun x hx=>by simpa using hW'.lt x hx
  refine (Pm (enc:=enc) (tabs hL) Tryz.underlying22 Tryz.underlying5 cellsB (hval 0 22 v0 rfl rfl) h0 (fun zs _ hz=>calls zs hz)).mono fun e W' ⟨he,hb⟩ => ?_
  subst he
  have ht:DataW.TrodAll enc Tryz.prog W' 0 (fun b=>decide (b<W.heap.size)) true [22] [v0] [d0] (p0++[]):=trodAll_cons_mk (Below.trod laidOut (by kernel_rfl) (of_decide_eq_true (by kernel_rfl)) h0 hb hlt) trodAll_mk0
  rw [List.append_nil] at ht
  exact ⟨_,rfl,_,_,_,[],p0,[],hW',trodAll_cons_mk (shut_bool Tryz.underlying4 _) trodAll_mk0,
    ht,rfl,hb.frame _,fun h=>by cases h⟩
def tab (k:IntKind) (l:List Int):Obj->Obj
  | .cells _ t frozen => .cells (l.map fun n=>Value.int k n).toArray t frozen
  | o=>o
noncomputable def laidWorld (os:Os):World :=
  { World.holding Tryz.prog os ⟨#[],#[],[]⟩ with heap:=((((World.holding Tryz.prog os ⟨#[],#[],[]⟩).heap).modify 2 (tab .u8 [0,1,28,2,29,14,24,3,30,22,20,15,25,17,4,8,31,27,13,23,21,19,16,7,26,12,18,6,11,5,10,9])).modify 3 (tab .u8 [0,1,56,2,57,49,28,3,61,58,42,50,38,29,17,4,62,47,59,36,45,43,51,22,53,39,33,30,24,18,12,5,63,55,48,27,60,41,37,16,46,35,44,21,52,32,23,11,54,26,40,15,34,20,31,10,25,14,19,9,13,8,7,6])).modify 1 (tab .u64 [1,10,100,1000,10000,100000,1000000,10000000,100000000,1000000000,10000000000,100000000000,1000000000000,10000000000000,100000000000000,1000000000000000,10000000000000000,100000000000000000,1000000000000000000,10000000000000000000]) }
theorem laid_met (os:Os):laidMet Tryz.prog Rows.fnHandleRequestNoneRow.laid ((laidWorld os).forCall (fun _ _=>0) ⟨#[],#[.slice none 0 0],[]⟩).memory :=
  laidMet_of_run' 80 (by kernel_rfl) (by kernel_rfl)
theorem reads (os:Os) {H:Type} (enc:TypeId × Value->H):∃ places,DataW.whole enc Tryz.prog ((laidWorld os).forCall (fun _ _=>0) ⟨#[],#[.slice none 0 0],[]⟩).memory Tryz.f9.params.toList Rows.fnHandleRequestNoneSpec.vars false #[Value.slice none 0 0].toList 8=some ([.nil],[],places) :=
  ⟨[],by kernel_rfl⟩
theorem lifted (os:Os) (started:os.Started) (H:Type) (enc:TypeId × Value->H) (F:Stop.Interp) :
    ReturnsInHanded {} Tryz.checked os 9 .any ((OpenSpec.ofChange Rows.fnHandleRequestNoneSpec).preRow enc Tryz.prog Tryz.f9 Rows.fnHandleRequestNoneRow.domain false Rows.fnHandleRequestNoneRow.laid) (((OpenSpec.ofChange Rows.fnHandleRequestNoneSpec).at F).post enc Tryz.prog Tryz.f9 false true false false):=by
  obtain ⟨places,hx⟩:=reads os enc
  refine returnsInHanded_of_row (C:=Tryz.checked) (s:=OpenSpec.ofChange Rows.fnHandleRequestNoneSpec) own started (by kernel_rfl) Tryz.func9
    (witness_row_at (enc:=enc) (C:=Tryz.checked) false (laidWorld os) #[.slice none 0 0] rfl (by kernel_rfl) (by kernel_rfl) (by kernel_rfl)
      (OpenSpec.preRow_of_cond 8 hx (by kernel_rfl) (fun k hk=>by cases hk) (by kernel_rfl) (laid_met os))) ?_
  intro W base args ds gs before hval hW _ _ _ hL _ _
  exact contract H enc W base args ds gs before hval hW hL
theorem j1:(Rows.fnHandleRequestNoneRow.inPlace==Tryz.prog.inPlace 9)=true:=by kernel_rfl
theorem j2:(Rows.fnHandleRequestNoneRow.unfollowed==Tryz.prog.unfollowed 9)=true:=by kernel_rfl
theorem j3:(Rows.fnHandleRequestNoneRow.recurses==Tryz.prog.recurses 9)=true:=by kernel_rfl
theorem j4:(Rows.fnHandleRequestNoneRow.named==Tryz.prog.varsNamed 9)=true:=by kernel_rfl
theorem j5:joinedFacts Tryz.prog 9 Tryz.f9 (OpenSpec.ofChange Rows.fnHandleRequestNoneSpec).bare Rows.fnHandleRequestNoneRow=true:=by
  unfold joinedFacts
  rw [j1,j2,j3,j4]
  kernel_rfl
theorem j6:Tryz.prog.funcNamed Rows.fnHandleRequestNoneRow.func=some 9:=by kernel_rfl
theorem said:Rows.FnHandleRequestNoneSaid :=
  OpenClaim.holds_of_cond 9 Tryz.f9 rfl rfl rfl rfl rfl rfl rfl ⟨rfl,rfl,rfl,rfl,rfl⟩ rfl rfl rfl rfl rfl j6 Tryz.func9 j5
    (of_decide_eq_true (by kernel_rfl)) (by unfold Func.isWrapper; first | (rw [if_pos (by decide +kernel)]; kernel_rfl) | (rw [if_neg (by decide +kernel)]; exact ⟨rfl,rfl⟩))
    (fun os started H enc _ F=>by rw [OpenClaim.pre_eq_preRow]; exact lifted os started H enc F)
theorem jw:Rows.fnHandleRequestNoneRow.wfByText (OpenSpec.ofChange Rows.fnHandleRequestNoneSpec)=true:=by kernel_rfl
theorem jm:Tryz.pinned.checked.prog.mainIs=some (Rows.fnHandleRequestNoneCard.stood.harness.1,Rows.fnHandleRequestNoneCard.stood.harness.2.toList):=by kernel_rfl
theorem jg:false=Rows.fnHandleRequestNoneRow.goesBy Tryz.pinned.checked.prog:=by kernel_rfl
theorem plain (f:FuncId) (fn:Func) (hf:Tryz.pinned.checked.prog.funcNamed Rows.fnHandleRequestNoneRow.func=some f) (hfn:Tryz.pinned.checked.prog.funcs[f]? = some fn) :
    false=Tryz.pinned.checked.prog.looks []/\∀ (j:Nat) t,fn.params[j]? = some t->Tryz.pinned.checked.prog.wantsStandIn t=false:=by
  obtain rfl:f=9:=Option.some.inj ((show Tryz.prog.funcNamed Rows.fnHandleRequestNoneRow.func=some 9 by kernel_rfl).symm.trans hf) |>.symm
  obtain rfl:fn=Tryz.f9:=(Option.some.inj (Tryz.func9.symm.trans hfn)).symm
  refine ⟨by kernel_rfl,fun j t ht => ?_⟩
  rw [Tryz.params9] at ht
  obtain rfl:t=22:=by simpa using Array.mem_of_getElem? ht
  exact (show Tryz.prog.wantsStandIn 22=false by kernel_rfl)
theorem card:Rows.FnHandleRequestNoneCardSaid :=
  Claim7.holds_tied_plain_at .later [] _ _ _ _ said (fun _ h=>by cases h) jw (fun _ h=>by cases h) fnHandleRequestNone_row_tie rfl ⟨rfl,rfl⟩ jm rfl plain jg
end Go.Proofs.YtffpflffdijmfaaGreatDoor.fnHandleRequestNone
end
