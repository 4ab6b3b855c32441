/- The law FnSucceedsGet of the package laws answers true for every code of bytes and leaves it as it is (part 1). Conditions: none but what the row lists. -/
import Derived.Test.YtffpflffdijmfaaGreatDoorB4
set_option linter.unusedVariables false
set_option linter.unusedSimpArgs false
section
namespace Go.Ab
open Go
set_option maxRecDepth 100000
set_option maxHeartbeats 4000000
set_option linter.unusedVariables false
set_option linter.unusedSimpArgs false
def G.YS (f:Nat) (nM:List Int):Option (Bool):=match f with
| 0=>none
| n+1 =>
(cond (decide (1048576<((nM.length:Nat):Int)))
(some (true))
((G.YQ n nM).bind fun v1 =>
((G.YP n v1.1 v1.2).bind fun v2 =>
((G.YR n v1.1 v1.2).bind fun v3 =>
(cond v2
(cond v3
((G.lC n v1.1 v1.2.Name).bind fun v4 =>
((G.YP n v1.1 (RequestT.mk 1 v1.2.Name [] [] (af.mk 0 0 [] [] []) [])).bind fun v5 =>
(cond v5
(cond v4.2
(some (true))
(some (false)))
(cond v4.2
(some (false))
(some (true))))))
(some (false)))
(cond v3
(some (false))
((G.lC n v1.1 v1.2.Name).bind fun v6 =>
((G.YP n v1.1 (RequestT.mk 1 v1.2.Name [] [] (af.mk 0 0 [] [] []) [])).bind fun v7 =>
(cond v7
(cond v6.2
(some (true))
(some (false)))
(cond v6.2
(some (false))
(some (true))))))))))))
end Go.Ab
end
section
namespace Go.Ab
open Go
set_option maxRecDepth 100000
set_option maxHeartbeats 4000000
set_option linter.unusedVariables false
set_option linter.unusedSimpArgs false
def C.YS:aP:=(.seq (.reg [ qB 2 false] [0]) (.seq (.seq (.reg [ zM 8 0,qL 9 8,zA 10 (.bin .gtr (.t 9) (kI 1048576))] [0,10]) (.cond (.t 10) (.seq (.reg [ qB 2 true] [2]) .ret) .skip)) (.seq (.reg [ zM 12 0,q1 13 17 12,zM 11 13,qE 14 11 0,qE 15 11 1,zA 3 (.alloc 10 [.fU 7,je 0]),zA 4 (.alloc 11 [je 0,.c (.str []),.fU 1,.fU 1,je 0,je 0,.c (.str []),.fU 1,.fU 5,.fU 8]),qS 2 3 14,qS 10 4 15] [3,4]) (.seq (.reg [ qT 16 2 3,qT 17 10 4,q2 18 18 16 17,zM 5 18] [3,4,5]) (.seq (.seq (.reg [ zM 19 5,qT 20 2 3,qT 21 10 4,q2 22 19 20 21,zA 23 (.beq true (.t 19) (.t 22))] [3,4,23]) (.cond (.t 23) (.seq (.reg [ qB 2 false] [2]) .ret) .skip)) (.seq (.reg [ qT 25 2 3,qA 26 1 4,qF 27 1 26,q2 28 20 25 27,zM 24 28,qE 29 24 0,qE 30 24 1,zA 6 (.alloc 12 [.c (.str []),je 0,je 0,je 0,.c (.str []),.fU 1,.fU 5]),qS 7 6 29,zM 7 30] [3,4,7]) (.seq (.reg [ qT 31 2 3,qA 32 1 4,qF 33 1 32,zA 34 (.build [je 0,.c (.str []),.fU 1,.fU 1,je 0,je 0,.c (.str []),.fU 1,.fU 5,.fU 8] [(0,1,kI 1),(1,1,.t 33)]),q2 35 18 31 34,zM 36 7,zA 37 (.beq false (.t 35) (.t 36)),zM 2 37] [2]) .ret)))))))
theorem K.YS:dU pZ 5 1 0 C.YS [.tmp 2]=true:=by kernel_rfl
end Go.Ab
end
section
namespace Go.Ab
open Go
set_option maxRecDepth 100000
theorem Zg (t:aC) (b:Bool):vM [] [] t b=200:=rfl
theorem Zf {s:StoreT} {t:aC} : Za s (RequestT.mk 1 t [] [] lW [])=(wM s t).isSome:=by
  unfold Za Ap
  cases hv:wP s with
  | false=>unfold wM; rw [hv]; rfl
  | true =>
    cases hn:KZ t with
    | false =>
      have hr:TZ (RequestT.mk 1 t [] [] lW [])=false:=by unfold TZ; simp [hn]
      rw [hr]
      cases hg:wM s t with
      | none=>rfl
      | some it =>
        obtain ⟨h1,h2,h3,_⟩:=CB hg
        have:=(Ff.1 (h1.WZ it h2)).Jo
        rw [h3,hn] at this; cases this
    | true =>
      have hr:TZ (RequestT.mk 1 t [] [] lW [])=true:=Di.2 ⟨by show (1:Int)<=1; omega,by show (1:Int)<=5; omega,hn,rfl,rfl,uN,rfl⟩
      rw [hr]
      show good (ML s _).2.Status=_
      unfold ML
      cases hg:wM s t with
      | none=>rfl
      | some it =>
        show good (if vM [] [] (su it.Node) true=200 then Rk s _ it else _).2.Status=_
        rw [if_pos (Zg _ _)]
        rfl
theorem T.Y5 {c:List Int} (hc:Bytes c):Ev (fun f=>G.YS f c) true:=by
  refine Ev.up ?_
  simp only [G.YS]
  refine Ev.ite (fun _=>Ev.ret _) (fun e => ?_)
  obtain ⟨⟨s,q⟩,g,hs,hq⟩:=D.Y3 hc (by simp at e; omega)
  refine Ev.bind g (Ev.bind (T.YP hs hq) (Ev.bind (T.YR hs hq) ?_))
  have hG:=T.lC q.Name mZ hs
  have hU:=T.YP hs (Y4 (m:=1) hq.Jo)
  rw [Zf] at hU
  have e2:(N9 (wM s q.Name)).2=(wM s q.Name).isSome:=by cases wM s q.Name<;>rfl
  generalize (wM s q.Name).isSome=b at hU e2
  cases Za s q<;>cases b<;>first
    | exact Ev.ct rfl (Ev.ct rfl (Ev.bind hG (Ev.bind hU (Ev.cf rfl (Ev.cf e2 (Ev.ret _))))))
    | exact Ev.ct rfl (Ev.ct rfl (Ev.bind hG (Ev.bind hU (Ev.ct rfl (Ev.ct e2 (Ev.ret _))))))
    | exact Ev.cf rfl (Ev.cf rfl (Ev.bind hG (Ev.bind hU (Ev.cf rfl (Ev.cf e2 (Ev.ret _))))))
    | exact Ev.cf rfl (Ev.cf rfl (Ev.bind hG (Ev.bind hU (Ev.ct rfl (Ev.ct e2 (Ev.ret _))))))
end Go.Ab
end
section
namespace Go.Ab
open Go
set_option maxRecDepth 100000
set_option maxHeartbeats 4000000
set_option linter.unusedVariables false
set_option linter.unusedSimpArgs false
theorem F.YS {n:Nat} : ∀ {nM:List Int} {r:Bool},G.YS n nM=some r->bG pZ 5 [.one (.c (.sl 1 (List.map cU nM)))] (.one (.c (.lit (.bool r)))):=by
  intro nM r h
  refine aG K.YS (kF ?_)
  unfold C.YS
  rcases n with _ | n<;>simp only [G.YS,reduceCtorEq] at h
  obtain ⟨zc,zg,zk,zu,ze,zj,zt⟩:=pp (pp @F.YQ <| pp @F.YP <| pp @F.YR <| pp @F.lC ()) <| pp () <| pp () <| pp () <| pp () <| pp () <| ()
  simp only [wN,wI,wS,wT,wK,zN,eP,eI,eS,eT] at zc zk zu zt zj ⊢
  exact kN
end Go.Ab
end
section
namespace Go.Proofs.YtffpflffdijmfaaGreatDoor.fnSucceedsGet
open Go Go.ChangeShapes Go.WideShapes Go.ChangeAt Go.RowKit Go.Ab
set_option maxRecDepth 100000
theorem own:ownKnob Tryz.prog.godebug=none:=by kernel_rfl
theorem laidOut:laidOutB Tryz.prog=true:=by kernel_rfl
theorem cellsB:Tryz.prog.cellsOf 5=1:=by kernel_rfl
theorem calls (zs:List Int) (hz:∀ z,z∈zs->0<=z/\z<256):bG Tryz.prog 5 [TF 1 (zs.map GK)] (oL true):=by
  obtain ⟨n,hn⟩:=(T.Y5 hz).val
  exact F.YS hn
theorem met {W:World} (h:laidMetH Tryz.prog Rows.fnSucceedsGetRow.laid W):laidMet Tryz.prog Rows.fnSucceedsGetRow.laid W:=by
  unfold laidMetH at h
  rw [show (Rows.fnSucceedsGetRow.laid.filter fun x=>x.2.handleName?.isSome)=[] from by kernel_rfl] at h
  exact h
theorem tabs {W:World} (hL:laidMetH Tryz.prog Rows.fnSucceedsGetRow.laid W):Tabs Tryz.prog (I0 W):=by
  have h:=G7 2 (met hL)
  rw [show Rows.fnSucceedsGetRow.laid.drop 2=("internal/strconv.uint64pow10",Lib.tabData .u64 Lib.pow10Tab)::Rows.fnSucceedsGetRow.laid.drop 3 from by kernel_rfl] at h
  exact U5 (g:=1) (t:=175) (e:=164) (by kernel_rfl) (by kernel_rfl) (by kernel_rfl) (by kernel_rfl) (by kernel_rfl) (by kernel_rfl) h
theorem contract (H:Type) (enc:TypeId × Value->H) (W:World) (base:Nat) (args:Array Value) (ds gs:List (DataW H)) (before:List MemPlace)
    (hval:∀ (j:Nat) t v,Tryz.f5.params[j]? = some t->args[j]? = some v->Value.okWide Tryz.prog W .any base t v)
    (hW:DataW.Whole enc Tryz.prog Tryz.f5.params.toList Rows.fnSucceedsGetSpec.vars false W args.toList ds gs before)
    (hL:laidMetH Tryz.prog Rows.fnSucceedsGetRow.laid W) :
    Calls Tryz.prog 5 args W fun e W'=>∃ v,e = .returned v/\Rows.fnSucceedsGetSpec.post enc Tryz.prog Tryz.f5 false true false false W args v W':=by
  have hW':=hW
  obtain ⟨p,q,hA0,hV,rfl,hfz,hnd⟩:=hW
  have hA:DataW.TrodAll enc Tryz.prog W 0 (fun _=>true) true Tryz.f5.params.toList args.toList ds p:=hA0
  rw [Tryz.params5] at hA hval
  obtain ⟨v0,YK,d0,ds0,p0,q0,hargs,rfl,rfl,h0,r0⟩:=trodAll_cons hA
  obtain ⟨rfl,rfl,rfl⟩:=trodAll_nil r0
  obtain rfl:args = #[v0]:=by cases args; simp_all
  obtain ⟨rfl,rfl⟩:=trodVars_none hV
  clear hA0
  simp only [List.append_nil] at hW'
  have hlt:∀ x∈p0,x.block<W.heap.size:=fun x hx=>by simpa using hW'.lt x hx
  refine (Pm (enc:=enc) (tabs hL) Tryz.underlying22 Tryz.underlying5 cellsB (hval 0 22 v0 rfl rfl) h0 (fun zs _ hz=>calls zs hz)).mono fun e W' ⟨he,hb⟩ => ?_
  subst he
  have ht:DataW.TrodAll enc Tryz.prog W' 0 (fun b=>decide (b<W.heap.size)) true [22] [v0] [d0] (p0++[]):=trodAll_cons_mk (Below.trod laidOut (by kernel_rfl) (of_decide_eq_true (by kernel_rfl)) h0 hb hlt) trodAll_mk0
  rw [List.append_nil] at ht
  exact ⟨_,rfl,_,_,_,[],p0,[],hW',trodAll_cons_mk (shut_bool Tryz.underlying4 _) trodAll_mk0,
    ht,rfl,hb.frame _,fun h=>by cases h⟩
def tab (k:IntKind) (l:List Int):Obj->Obj
  | .cells _ t frozen => .cells (l.map fun n=>Value.int k n).toArray t frozen
  | o=>o
noncomputable def laidWorld (os:Os):World :=
  { World.holding Tryz.prog os ⟨#[],#[],[]⟩ with heap:=((((World.holding Tryz.prog os ⟨#[],#[],[]⟩).heap).modify 2 (tab .u8 [0,1,28,2,29,14,24,3,30,22,20,15,25,17,4,8,31,27,13,23,21,19,16,7,26,12,18,6,11,5,10,9])).modify 3 (tab .u8 [0,1,56,2,57,49,28,3,61,58,42,50,38,29,17,4,62,47,59,36,45,43,51,22,53,39,33,30,24,18,12,5,63,55,48,27,60,41,37,16,46,35,44,21,52,32,23,11,54,26,40,15,34,20,31,10,25,14,19,9,13,8,7,6])).modify 1 (tab .u64 [1,10,100,1000,10000,100000,1000000,10000000,100000000,1000000000,10000000000,100000000000,1000000000000,10000000000000,100000000000000,1000000000000000,10000000000000000,100000000000000000,1000000000000000000,10000000000000000000]) }
theorem laid_met (os:Os):laidMet Tryz.prog Rows.fnSucceedsGetRow.laid ((laidWorld os).forCall (fun _ _=>0) ⟨#[],#[.slice none 0 0],[]⟩).memory :=
  laidMet_of_run' 80 (by kernel_rfl) (by kernel_rfl)
theorem reads (os:Os) {H:Type} (enc:TypeId × Value->H):∃ places,DataW.whole enc Tryz.prog ((laidWorld os).forCall (fun _ _=>0) ⟨#[],#[.slice none 0 0],[]⟩).memory Tryz.f5.params.toList Rows.fnSucceedsGetSpec.vars false #[Value.slice none 0 0].toList 8=some ([.nil],[],places) :=
  ⟨[],by kernel_rfl⟩
theorem lifted (os:Os) (started:os.Started) (H:Type) (enc:TypeId × Value->H) (F:Stop.Interp) :
    ReturnsInHanded {} Tryz.checked os 5 .any ((OpenSpec.ofChange Rows.fnSucceedsGetSpec).preRow enc Tryz.prog Tryz.f5 Rows.fnSucceedsGetRow.domain false Rows.fnSucceedsGetRow.laid) (((OpenSpec.ofChange Rows.fnSucceedsGetSpec).at F).post enc Tryz.prog Tryz.f5 false true false false):=by
  obtain ⟨places,hx⟩:=reads os enc
  refine returnsInHanded_of_row (C:=Tryz.checked) (s:=OpenSpec.ofChange Rows.fnSucceedsGetSpec) own started (by kernel_rfl) Tryz.func5
    (witness_row_at (enc:=enc) (C:=Tryz.checked) false (laidWorld os) #[.slice none 0 0] rfl (by kernel_rfl) (by kernel_rfl) (by kernel_rfl)
      (OpenSpec.preRow_of_cond 8 hx (by kernel_rfl) (fun k hk=>by cases hk) (by kernel_rfl) (laid_met os))) ?_
  intro W base args ds gs before hval hW _ _ _ hL _ _
  exact contract H enc W base args ds gs before hval hW hL
theorem j1:(Rows.fnSucceedsGetRow.inPlace==Tryz.prog.inPlace 5)=true:=by kernel_rfl
theorem j2:(Rows.fnSucceedsGetRow.unfollowed==Tryz.prog.unfollowed 5)=true:=by kernel_rfl
theorem j3:(Rows.fnSucceedsGetRow.recurses==Tryz.prog.recurses 5)=true:=by kernel_rfl
theorem j4:(Rows.fnSucceedsGetRow.named==Tryz.prog.varsNamed 5)=true:=by kernel_rfl
theorem j5:joinedFacts Tryz.prog 5 Tryz.f5 (OpenSpec.ofChange Rows.fnSucceedsGetSpec).bare Rows.fnSucceedsGetRow=true:=by
  unfold joinedFacts
  rw [j1,j2,j3,j4]
  kernel_rfl
theorem j6:Tryz.prog.funcNamed Rows.fnSucceedsGetRow.func=some 5:=by kernel_rfl
theorem said:Rows.FnSucceedsGetSaid :=
  OpenClaim.holds_of_cond 5 Tryz.f5 rfl rfl rfl rfl rfl rfl rfl ⟨rfl,rfl,rfl,rfl,rfl⟩ rfl rfl rfl rfl rfl j6 Tryz.func5 j5
    (of_decide_eq_true (by kernel_rfl)) (by unfold Func.isWrapper; first | (rw [if_pos (by decide +kernel)]; kernel_rfl) | (rw [if_neg (by decide +kernel)]; exact ⟨rfl,rfl⟩))
    (fun os started H enc _ F=>by rw [OpenClaim.pre_eq_preRow]; exact lifted os started H enc F)
theorem jw:Rows.fnSucceedsGetRow.wfByText (OpenSpec.ofChange Rows.fnSucceedsGetSpec)=true:=by kernel_rfl
theorem jm:Tryz.pinned.checked.prog.mainIs=some (Rows.fnSucceedsGetCard.stood.harness.1,Rows.fnSucceedsGetCard.stood.harness.2.toList):=by kernel_rfl
theorem jg:false=Rows.fnSucceedsGetRow.goesBy Tryz.pinned.checked.prog:=by kernel_rfl
theorem plain (f:FuncId) (fn:Func) (hf:Tryz.pinned.checked.prog.funcNamed Rows.fnSucceedsGetRow.func=some f) (hfn:Tryz.pinned.checked.prog.funcs[f]? = some fn) :
    false=Tryz.pinned.checked.prog.looks []/\∀ (j:Nat) t,fn.params[j]? = some t->Tryz.pinned.checked.prog.wantsStandIn t=false:=by
  obtain rfl:f=5:=Option.some.inj ((show Tryz.prog.funcNamed Rows.fnSucceedsGetRow.func=some 5 by kernel_rfl).symm.trans hf) |>.symm
  obtain rfl:fn=Tryz.f5:=(Option.some.inj (Tryz.func5.symm.trans hfn)).symm
  refine ⟨by kernel_rfl,fun j t ht => ?_⟩
  rw [Tryz.params5] at ht
  obtain rfl:t=22:=by simpa using Array.mem_of_getElem? ht
  exact (show Tryz.prog.wantsStandIn 22=false by kernel_rfl)
theorem card:Rows.FnSucceedsGetCardSaid :=
  Claim7.holds_tied_plain_at .later [] _ _ _ _ said (fun _ h=>by cases h) jw (fun _ h=>by cases h) fnSucceedsGet_row_tie rfl ⟨rfl,rfl⟩ jm rfl plain jg
end Go.Proofs.YtffpflffdijmfaaGreatDoor.fnSucceedsGet
end
