/- The law FnHandleRequestDelete of the package laws answers true for every code of bytes and leaves it as it is (part 1). Conditions: none but what the row lists. -/
import Derived.Test.YtffpflffdijmfaaGreatDoorB4
set_option linter.unusedVariables false
set_option linter.unusedSimpArgs false
section
namespace Go.Ab
open Go
set_option maxRecDepth 100000
set_option maxHeartbeats 4000000
set_option linter.unusedVariables false
set_option linter.unusedSimpArgs false
def G.YM.K1 (f:Nat) (v1:StoreT × RequestT) (v2:StoreT × bn):Option (Bool):=match f with
| 0=>none
| n+1 =>
((G.bz n v2.1 (RequestT.mk 1 v1.2.Name [] [] (af.mk 0 0 [] [] []) [])).bind fun v14 =>
((G.bz n v2.1 (RequestT.mk 3 v1.2.Name [] [] (af.mk 0 0 [] [] []) [])).bind fun v15 =>
(cond (v14.2.Status==404)
(some ((v15.2.Status==404)))
(some (false)))))
def G.YM (f:Nat) (nM:List Int):Option (Bool):=match f with
| 0=>none
| n+1 =>
(cond (decide (1048576<((nM.length:Nat):Int)))
(some (true))
((G.iC n nM).bind fun v1 =>
((G.bz n v1.1 v1.2).bind fun v2 =>
((G.gW n v1.1 v1.2).bind fun v3 =>
((G.iy n v2.1 v3.1).bind fun v16 =>
(cond v16
((G.iF n v2.2 v3.2).bind fun v17 =>
(cond v17
(cond (v1.2.Method != 3)
((G.iy n v2.1 v3.1).bind fun v18 =>
(cond v18
((G.iF n v2.2 v3.2).bind fun v19 =>
(some (v19)))
(some (false))))
(cond (v2.2.Status != 200)
((G.iy n v2.1 v3.1).bind fun v20 =>
(cond v20
((G.iF n v2.2 v3.2).bind fun v21 =>
(some (v21)))
(some (false))))
(G.YM.K1 n v1 v2)))
((G.iy n v2.1 v3.1).bind fun v22 =>
(cond v22
((G.iF n v2.2 v3.2).bind fun v23 =>
(some (v23)))
(some (false))))))
((G.iy n v2.1 v3.1).bind fun v24 =>
(cond v24
((G.iF n v2.2 v3.2).bind fun v25 =>
(some (v25)))
(some (false))))))))))
end Go.Ab
end
section
namespace Go.Ab
open Go
set_option maxRecDepth 100000
set_option maxHeartbeats 4000000
set_option linter.unusedVariables false
set_option linter.unusedSimpArgs false
def C.YM:aP:=(.seq (.reg [ qB 2 false] [0]) (.seq (.seq (.reg [ zM 13 0,qL 14 13,zA 15 (.bin .gtr (.t 14) (kI 1048576))] [0,15]) (.cond (.t 15) (.seq (.reg [ qB 2 true] [2]) .ret) .skip)) (.seq (.reg [ zM 17 0,q1 18 21 17,zM 16 18,qE 19 16 0,qE 20 16 1,zA 3 (.alloc 10 [.fU 7,je 0]),zA 4 (.alloc 11 [je 0,.c (.str []),.fU 1,.fU 1,je 0,je 0,.c (.str []),.fU 1,.fU 5,.fU 8]),qS 2 3 19,qS 10 4 20] [3,4]) (.seq (.reg [ qT 22 2 3,qT 23 10 4,q2 24 15 22 23,zM 21 24,qE 25 21 0,qE 26 21 1,zA 5 (.alloc 12 [.fU 7,je 0]),zA 6 (.alloc 13 [je 0,.c (.str []),je 0,je 0,je 0,.c (.str []),.fU 1,.fU 5]),qS 2 5 25,qS 8 6 26] [3,4,5,6]) (.seq (.reg [ qT 28 2 3,qT 29 10 4,q2 30 22 28 29,zM 27 30,qE 31 27 0,qE 32 27 1,zA 7 (.alloc 14 [.fU 7,je 0]),zA 8 (.alloc 15 [je 0,.c (.str []),je 0,je 0,je 0,.c (.str []),.fU 1,.fU 5]),qS 2 7 31,qS 8 8 32] [4,5,6,7,8]) (.cut (.seq (.reg [ qT 33 2 5,qT 34 2 7,q2 35 16 33 34,qO 36 35,zM 37 36,zG 37 false 38 (.load true 8 (.t 6)),zG 37 false 39 (.load true 8 (.t 8)),⟨(some (37,false)),some 40,.call 23 [.t 38,.t 39]⟩,zG 37 false 41 (.not (.t 40)),qQ 42 37 41,zM 43 42,zG 43 false 44 (.fZ 0 (.t 4)),zG 43 false 45 (.load false 1 (.t 44)),zG 43 false 46 (.bin .neq (.t 45) (kI 3)),qQ 47 43 46,zM 48 47,zG 48 false 49 (.fZ 0 (.t 6)),zG 48 false 50 (.load false 1 (.t 49)),zG 48 false 51 (.bin .neq (.t 50) (kI 200)),qQ 52 48 51] [4,5,6,7,8,52]) (.cond (.t 52) (.seq (.reg [ qT 53 2 5,qT 54 2 7,q2 55 16 53 54,zM 56 55,zG 56 true 57 (.load true 8 (.t 6)),zG 56 true 58 (.load true 8 (.t 8)),⟨(some (56,true)),some 59,.call 23 [.t 57,.t 58]⟩,qP 60 56 59,zM 2 60] [2]) .ret) .skip)) (.seq (.reg [ qT 62 2 5,qA 63 1 4,qF 64 1 63,zA 65 (.build [je 0,.c (.str []),.fU 1,.fU 1,je 0,je 0,.c (.str []),.fU 1,.fU 5,.fU 8] [(0,1,kI 1),(1,1,.t 64)]),q2 66 15 62 65,zM 61 66,qE 67 61 0,qE 68 61 1,zA 9 (.alloc 16 [.fU 7,je 0]),zA 10 (.alloc 17 [je 0,.c (.str []),je 0,je 0,je 0,.c (.str []),.fU 1,.fU 5]),qS 2 9 67,qS 8 10 68] [4,5,10]) (.seq (.reg [ qT 70 2 5,qA 71 1 4,qF 72 1 71,zA 73 (.build [je 0,.c (.str []),.fU 1,.fU 1,je 0,je 0,.c (.str []),.fU 1,.fU 5,.fU 8] [(0,1,kI 3),(1,1,.t 72)]),q2 74 15 70 73,zM 69 74,qE 75 69 0,qE 76 69 1,zA 11 (.alloc 18 [.fU 7,je 0]),zA 12 (.alloc 19 [je 0,.c (.str []),je 0,je 0,je 0,.c (.str []),.fU 1,.fU 5]),qS 2 11 75,qS 8 12 76] [10,12]) (.seq (.reg [ qA 77 0 10,qF 78 1 77,zA 79 (.bin .eql (.t 78) (kI 404)),zM 80 79,zG 80 true 81 (.fZ 0 (.t 12)),zG 80 true 82 (.load false 1 (.t 81)),zG 80 true 83 (.bin .eql (.t 82) (kI 404)),qP 84 80 83,zM 2 84] [2]) .ret)))))))))
theorem K.YM:dU pZ 8 1 0 C.YM [.tmp 2]=true:=by kernel_rfl
end Go.Ab
end
section
namespace Go.Ab
open Go
set_option maxRecDepth 100000
theorem Ze {s:StoreT} {t:aC} {m:Int} (hs:wP s=true) (ht:KZ t=true) (hg:wM s t=none) (h1:1<=m) (h5:m<=5) (h2:m ≠ 2):Ap s (RequestT.mk m t [] [] lW [])=(s,ans 404):=by
  have hr:TZ (RequestT.mk m t [] [] lW [])=true:=Di.2 ⟨h1,h5,ht,rfl,rfl,uN,rfl⟩
  unfold Ap ML
  rw [hs,hr]
  show (match wM s t with
    | none=>if m=2 then _ else (s,ans 404)
    | some it=>_)=_
  rw [hg]
  exact if_neg h2
theorem Zd {s m:StoreT} {t:aC} (h:uS s t=some m):wM m t=none:=by
  obtain ⟨_,_,_,e,hv⟩:=JP h
  unfold wM
  rw [if_pos hv]
  have:Eh m.Items t=none:=by
    rw [e]
    refine J3.2 fun it hit => ?_
    simpa using (List.mem_filter.1 hit).2
  rw [this]; rfl
theorem T.Y0 {c:List Int} (hc:Bytes c):Ev (fun f=>G.YM f c) true:=by
  refine Ev.up ?_
  simp only [G.YM]
  refine Ev.ite (fun _=>Ev.ret _) (fun e => ?_)
  obtain ⟨⟨s,q⟩,g,hs,hq⟩:=D.Ak hc (by simp at e; omega)
  have hI:=T.Rz hs hq
  have hS:=T.Tu hs hq
  obtain ⟨v1,v2⟩:=Rj s q
  have es:=Dw (Oe v1)
  have er:=MC v2
  refine Ev.bind g (Ev.bind hI (Ev.bind hS (Ev.bind es (Ev.ct rfl (Ev.bind er (Ev.ct rfl (Ev.ite (fun _=>Xl) (fun e3=>Ev.ite (fun _=>Xl) (fun e=>Ev.up ?_)))))))))
  have e3:q.Method=3:=by simpa using e3
  have e:(Ap s q).2.Status=200:=by simpa using e
  rcases Rl (s:=s) (q:=q) with ⟨h,_⟩ | ⟨hf,hr,h⟩
  · rw [h] at e; cases e
  simp only [G.YM.K1]
  clear hI hS es er g
  generalize Ap s q=p at h v1 v2 e ⊢
  have no:wM p.1 q.Name=none:=by
    cases h with
    | no c h1 h2=>exact absurd e h1
    | get it h1=>omega
    | drop it m h1 h2 h3=>exact Zd h3
    | made m h1 h2 h3=>omega
    | put it n m h1 h2 h3 h4=>omega
  have k1:=T.Rz (Oe v1) (Y4 (m:=1) hq.Jo)
  have k3:=T.Rz (Oe v1) (Y4 (m:=3) hq.Jo)
  rw [Ze v1 hr.Jo no (by omega) (by omega) (by omega)] at k1 k3
  exact Ev.bind k1 (Ev.bind k3 (Ev.ct rfl (Ev.ret' rfl)))
end Go.Ab
end
section
namespace Go.Ab
open Go
set_option maxRecDepth 100000
set_option maxHeartbeats 4000000
set_option linter.unusedVariables false
set_option linter.unusedSimpArgs false
theorem F.YM {n:Nat} : ∀ {nM:List Int} {r:Bool},G.YM n nM=some r->bG pZ 8 [.one (.c (.sl 1 (List.map cU nM)))] (.one (.c (.lit (.bool r)))):=by
  intro nM r h
  refine aG K.YM (kF ?_)
  unfold C.YM
  rcases n with _ | n<;>simp only [G.YM,reduceCtorEq] at h
  obtain ⟨zc,zg,zk,zu,ze,zj,zt⟩:=pp (pp @F.iC <| pp @F.bz <| pp @F.gW <| pp @F.iy <| pp @F.iF ()) <| pp () <| pp () <| pp (pp (@pO ((StoreT × RequestT) × (StoreT × bn)) _ (fun n x=>G.YM.K1 n x.1 x.2) r (fun x=>cu.of [eP 4 101,eP 5 102,eP 6 103,(52,.v true (.one (.c (.lit (.bool false)))))] [(101,.var [wI x.1.2.Method,wS x.1.2.Name,wT x.1.2.Want,wT x.1.2.l7,wI x.1.2.Body.Kind,wI x.1.2.Body.Num,wS x.1.2.Body.Text,wT x.1.2.Body.Names,wK x.1.2.Body.Kids,.c (.sl 8 (List.map lU.cells x.1.2.Ops))]),(102,.var [.c (.sl 7 (List.map aB.cells x.2.1.Items)),wI x.2.1.Clock]),(103,.var [wI x.2.2.Status,wS x.2.2.Tag,wI x.2.2.Version,wI x.2.2.Body.Kind,wI x.2.2.Body.Num,wS x.2.2.Body.Text,wT x.2.2.Body.Names,wK x.2.2.Body.Kids])])) ()) <| pp (pp (And.intro @G.YM.K1.eq_1 <| @G.YM.K1.eq_2) ()) <| pp (pp (@bg [] [(101,11),(102,12),(103,13)] []) ()) <| ()
  simp only [wN,wI,wS,wT,wK,zN,eP,eI,eS,eT] at zc zk zu zt zj ⊢
  exact kN
end Go.Ab
end
section
namespace Go.Proofs.YtffpflffdijmfaaGreatDoor.fnHandleRequestDelete
open Go Go.ChangeShapes Go.WideShapes Go.ChangeAt Go.RowKit Go.Ab
set_option maxRecDepth 100000
theorem own:ownKnob Tryz.prog.godebug=none:=by kernel_rfl
theorem laidOut:laidOutB Tryz.prog=true:=by kernel_rfl
theorem cellsB:Tryz.prog.cellsOf 5=1:=by kernel_rfl
theorem calls (zs:List Int) (hz:∀ z,z∈zs->0<=z/\z<256):bG Tryz.prog 8 [TF 1 (zs.map GK)] (oL true):=by
  obtain ⟨n,hn⟩:=(T.Y0 hz).val
  exact F.YM hn
theorem met {W:World} (h:laidMetH Tryz.prog Rows.fnHandleRequestDeleteRow.laid W):laidMet Tryz.prog Rows.fnHandleRequestDeleteRow.laid W:=by
  unfold laidMetH at h
  rw [show (Rows.fnHandleRequestDeleteRow.laid.filter fun x=>x.2.handleName?.isSome)=[] from by kernel_rfl] at h
  exact h
theorem tabs {W:World} (hL:laidMetH Tryz.prog Rows.fnHandleRequestDeleteRow.laid W):Tabs Tryz.prog (I0 W):=by
  have h:=G7 2 (met hL)
  rw [show Rows.fnHandleRequestDeleteRow.laid.drop 2=("internal/strconv.uint64pow10",Lib.tabData .u64 Lib.pow10Tab)::Rows.fnHandleRequestDeleteRow.laid.drop 3 from by kernel_rfl] at h
  exact U5 (g:=1) (t:=175) (e:=164) (by kernel_rfl) (by kernel_rfl) (by kernel_rfl) (by kernel_rfl) (by kernel_rfl) (by kernel_rfl) h
theorem contract (H:Type) (enc:TypeId × Value->H) (W:World) (base:Nat) (args:Array Value) (ds gs:List (DataW H)) (before:List MemPlace)
    (hval:∀ (j:Nat) t v,Tryz.f8.params[j]? = some t->args[j]? = some v->Value.okWide Tryz.prog W .any base t v)
    (hW:DataW.Whole enc Tryz.prog Tryz.f8.params.toList Rows.fnHandleRequestDeleteSpec.vars false W args.toList ds gs before)
    (hL:laidMetH Tryz.prog Rows.fnHandleRequestDeleteRow.laid W) :
    Calls Tryz.prog 8 args W fun e W'=>∃ v,e = .returned v/\Rows.fnHandleRequestDeleteSpec.post enc Tryz.prog Tryz.f8 false true false false W args v W':=by
  have hW':=hW
  obtain ⟨p,q,hA0,hV,rfl,hfz,hnd⟩:=hW
  have hA:DataW.TrodAll enc Tryz.prog W 0 (fun _=>true) true Tryz.f8.params.toList args.toList ds p:=hA0
  rw [Tryz.params8] at hA hval
  obtain ⟨v0,YK,d0,ds0,p0,q0,hargs,rfl,rfl,h0,r0⟩:=trodAll_cons hA
  obtain ⟨rfl,rfl,rfl⟩:=trodAll_nil r0
  obtain rfl:args = #[v0]:=by cases args; simp_all
  obtain ⟨rfl,rfl⟩:=trodVars_none hV
  clear hA0
  simp only [List.append_nil] at hW'
  have hlt:∀ x∈p0,x.block<W.heap.size:=fun x hx=>by simpa using hW'.lt x hx
  refine (Pm (enc:=enc) (tabs hL) Tryz.underlying22 Tryz.underlying5 cellsB (hval 0 22 v0 rfl rfl) h0 (fun zs _ hz=>calls zs hz)).mono fun e W' ⟨he,hb⟩ => ?_
  subst he
  have ht:DataW.TrodAll enc Tryz.prog W' 0 (fun b=>decide (b<W.heap.size)) true [22] [v0] [d0] (p0++[]):=trodAll_cons_mk (Below.trod laidOut (by kernel_rfl) (of_decide_eq_true (by kernel_rfl)) h0 hb hlt) trodAll_mk0
  rw [List.append_nil] at ht
  exact ⟨_,rfl,_,_,_,[],p0,[],hW',trodAll_cons_mk (shut_bool Tryz.underlying4 _) trodAll_mk0,
    ht,rfl,hb.frame _,fun h=>by cases h⟩
def tab (k:IntKind) (l:List Int):Obj->Obj
  | .cells _ t frozen => .cells (l.map fun n=>Value.int k n).toArray t frozen
  | o=>o
noncomputable def laidWorld (os:Os):World :=
  { World.holding Tryz.prog os ⟨#[],#[],[]⟩ with heap:=((((World.holding Tryz.prog os ⟨#[],#[],[]⟩).heap).modify 2 (tab .u8 [0,1,28,2,29,14,24,3,30,22,20,15,25,17,4,8,31,27,13,23,21,19,16,7,26,12,18,6,11,5,10,9])).modify 3 (tab .u8 [0,1,56,2,57,49,28,3,61,58,42,50,38,29,17,4,62,47,59,36,45,43,51,22,53,39,33,30,24,18,12,5,63,55,48,27,60,41,37,16,46,35,44,21,52,32,23,11,54,26,40,15,34,20,31,10,25,14,19,9,13,8,7,6])).modify 1 (tab .u64 [1,10,100,1000,10000,100000,1000000,10000000,100000000,1000000000,10000000000,100000000000,1000000000000,10000000000000,100000000000000,1000000000000000,10000000000000000,100000000000000000,1000000000000000000,10000000000000000000]) }
theorem laid_met (os:Os):laidMet Tryz.prog Rows.fnHandleRequestDeleteRow.laid ((laidWorld os).forCall (fun _ _=>0) ⟨#[],#[.slice none 0 0],[]⟩).memory :=
  laidMet_of_run' 80 (by kernel_rfl) (by kernel_rfl)
theorem reads (os:Os) {H:Type} (enc:TypeId × Value->H):∃ places,DataW.whole enc Tryz.prog ((laidWorld os).forCall (fun _ _=>0) ⟨#[],#[.slice none 0 0],[]⟩).memory Tryz.f8.params.toList Rows.fnHandleRequestDeleteSpec.vars false #[Value.slice none 0 0].toList 8=some ([.nil],[],places) :=
  ⟨[],by kernel_rfl⟩
theorem lifted (os:Os) (started:os.Started) (H:Type) (enc:TypeId × Value->H) (F:Stop.Interp) :
    ReturnsInHanded {} Tryz.checked os 8 .any ((OpenSpec.ofChange Rows.fnHandleRequestDeleteSpec).preRow enc Tryz.prog Tryz.f8 Rows.fnHandleRequestDeleteRow.domain false Rows.fnHandleRequestDeleteRow.laid) (((OpenSpec.ofChange Rows.fnHandleRequestDeleteSpec).at F).post enc Tryz.prog Tryz.f8 false true false false):=by
  obtain ⟨places,hx⟩:=reads os enc
  refine returnsInHanded_of_row (C:=Tryz.checked) (s:=OpenSpec.ofChange Rows.fnHandleRequestDeleteSpec) own started (by kernel_rfl) Tryz.func8
    (witness_row_at (enc:=enc) (C:=Tryz.checked) false (laidWorld os) #[.slice none 0 0] rfl (by kernel_rfl) (by kernel_rfl) (by kernel_rfl)
      (OpenSpec.preRow_of_cond 8 hx (by kernel_rfl) (fun k hk=>by cases hk) (by kernel_rfl) (laid_met os))) ?_
  intro W base args ds gs before hval hW _ _ _ hL _ _
  exact contract H enc W base args ds gs before hval hW hL
theorem j1:(Rows.fnHandleRequestDeleteRow.inPlace==Tryz.prog.inPlace 8)=true:=by kernel_rfl
theorem j2:(Rows.fnHandleRequestDeleteRow.unfollowed==Tryz.prog.unfollowed 8)=true:=by kernel_rfl
theorem j3:(Rows.fnHandleRequestDeleteRow.recurses==Tryz.prog.recurses 8)=true:=by kernel_rfl
theorem j4:(Rows.fnHandleRequestDeleteRow.named==Tryz.prog.varsNamed 8)=true:=by kernel_rfl
theorem j5:joinedFacts Tryz.prog 8 Tryz.f8 (OpenSpec.ofChange Rows.fnHandleRequestDeleteSpec).bare Rows.fnHandleRequestDeleteRow=true:=by
  unfold joinedFacts
  rw [j1,j2,j3,j4]
  kernel_rfl
theorem j6:Tryz.prog.funcNamed Rows.fnHandleRequestDeleteRow.func=some 8:=by kernel_rfl
theorem said:Rows.FnHandleRequestDeleteSaid :=
  OpenClaim.holds_of_cond 8 Tryz.f8 rfl rfl rfl rfl rfl rfl rfl ⟨rfl,rfl,rfl,rfl,rfl⟩ rfl rfl rfl rfl rfl j6 Tryz.func8 j5
    (of_decide_eq_true (by kernel_rfl)) (by unfold Func.isWrapper; first | (rw [if_pos (by decide +kernel)]; kernel_rfl) | (rw [if_neg (by decide +kernel)]; exact ⟨rfl,rfl⟩))
    (fun os started H enc _ F=>by rw [OpenClaim.pre_eq_preRow]; exact lifted os started H enc F)
theorem jw:Rows.fnHandleRequestDeleteRow.wfByText (OpenSpec.ofChange Rows.fnHandleRequestDeleteSpec)=true:=by kernel_rfl
theorem jm:Tryz.pinned.checked.prog.mainIs=some (Rows.fnHandleRequestDeleteCard.stood.harness.1,Rows.fnHandleRequestDeleteCard.stood.harness.2.toList):=by kernel_rfl
theorem jg:false=Rows.fnHandleRequestDeleteRow.goesBy Tryz.pinned.checked.prog:=by kernel_rfl
theorem plain (f:FuncId) (fn:Func) (hf:Tryz.pinned.checked.prog.funcNamed Rows.fnHandleRequestDeleteRow.func=some f) (hfn:Tryz.pinned.checked.prog.funcs[f]? = some fn) :
    false=Tryz.pinned.checked.prog.looks []/\∀ (j:Nat) t,fn.params[j]? = some t->Tryz.pinned.checked.prog.wantsStandIn t=false:=by
  obtain rfl:f=8:=Option.some.inj ((show Tryz.prog.funcNamed Rows.fnHandleRequestDeleteRow.func=some 8 by kernel_rfl).symm.trans hf) |>.symm
  obtain rfl:fn=Tryz.f8:=(Option.some.inj (Tryz.func8.symm.trans hfn)).symm
  refine ⟨by kernel_rfl,fun j t ht => ?_⟩
  rw [Tryz.params8] at ht
  obtain rfl:t=22:=by simpa using Array.mem_of_getElem? ht
  exact (show Tryz.prog.wantsStandIn 22=false by kernel_rfl)
theorem card:Rows.FnHandleRequestDeleteCardSaid :=
  Claim7.holds_tied_plain_at .later [] _ _ _ _ said (fun _ h=>by cases h) jw (fun _ h=>by cases h) fnHandleRequestDelete_row_tie rfl ⟨rfl,rfl⟩ jm rfl plain jg
end Go.Proofs.YtffpflffdijmfaaGreatDoor.fnHandleRequestDelete
end
