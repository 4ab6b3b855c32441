/- The law FnRequestGet of the package laws answers true for every code of bytes and leaves it as it is (part 1). Conditions: none but what the row lists. -/
import Derived.Test.YtmfgjjhlnaibkaaGreatDoorB2
set_option linter.unusedVariables false
set_option linter.unusedSimpArgs false
section
namespace Go.Ab
open Go
set_option maxRecDepth 100000
set_option maxHeartbeats 4000000
set_option linter.unusedVariables false
set_option linter.unusedSimpArgs false
def G.jh (f:Nat) (ag:Int):Option (af):=match f with
| 0=>none
| n+1 =>
(some ((af.mk 1 ag [] [] [])))
def G.gJ (f:Nat) (iL:List Int):Option (Bool):=match f with
| 0=>none
| n+1 =>
(cond (decide (1048576<((iL.length:Nat):Int)))
(some (true))
((G.dH n iL).bind fun v1 =>
((G.ah n v1).bind fun v2 =>
((G.ay n v1).bind fun v3 =>
(cond (v2==v3)
(cond (v2==[])
((G.ay n v1).bind fun v4 =>
(some ((v2==v4))))
((G.jh n 1).bind fun v5 =>
((G.ah n (RequestT.mk 1 v1.Name [] [] v5 [])).bind fun v6 =>
(cond (v6==[])
((G.ah n (RequestT.mk 1 v1.Name [] [] (af.mk 0 0 [] [] []) [])).bind fun v7 =>
(chk (4+v1.Name.length<=maxLen)
(chk ((4+v1.Name.length)+7<=maxLen)
(some ((v7==(([103,101,116,32]++v1.Name)++[32,32,32,110,117,108,108])))))))
(some (false))))))
((G.ay n v1).bind fun v8 =>
(some ((v2==v8)))))))))
end Go.Ab
end
section
namespace Go.Ab
open Go
set_option maxRecDepth 100000
set_option maxHeartbeats 4000000
set_option linter.unusedVariables false
set_option linter.unusedSimpArgs false
def C.jh:bf:=(.seq (.reg [qZ 2 10] [0,2]) (.seq (.reg [zM 3 0,zA 4 (.build zN [(0,1,kI 1),(1,1,.t 3)]),qS 5 2 4] [2]) .ret))
theorem K.jh:fQ pZ 9 1 0 C.jh [.cell 2 true 5]=true:=by kernel_rfl
def C.gJ:bf:=(.seq (.reg [qB 2 false] [0]) (.seq (.seq (.reg [zM 5 0,qL 6 5,zA 7 (.bin .gtr (.t 6) (kI 1048576))] [0,7]) (.cond (.t 7) (.seq (.reg [qB 2 true] [2]) .ret) .skip)) (.seq (.reg [zM 8 0,q1 9 5 8,zA 3 (.alloc 10 [jP 0,.c (.str []),.fH 1,.fH 1,jP 0,jP 0,.c (.str []),.fH 1,.fH 5,.fH 8]),qS 10 3 9] [3]) (.seq (.reg [qT 10 10 3,q1 11 6 10,zM 4 11] [3,4]) (.seq (.seq (.reg [zM 12 4,qT 13 10 3,q1 14 7 13,zA 15 (.bin .neq (.t 12) (.t 14)),zM 16 15,zG 16 false 17 (.mv (.t 4)),zG 16 false 18 (.bin .eql (.t 17) (.k (.c (.str [])))),qQ 19 16 18] [3,4,19]) (.cond (.t 19) (.seq (.reg [zM 20 4,qT 21 10 3,q1 22 7 21,zA 23 (.bin .eql (.t 20) (.t 22)),zM 2 23] [2]) .ret) .skip)) (.seq (.jW [(qA 24 1 3,[]),(qF 25 1 24,[0]),(⟨none,some 26,.call 9 [kI 1]⟩,[]),(zA 27 (.build [jP 0,.c (.str []),.fH 1,.fH 1,jP 0,jP 0,.c (.str []),.fH 1,.fH 5,.fH 8] [(0,1,kI 1),(1,1,.t 25),(4,5,.t 26)]),[0,1,2]),(q1 28 6 27,[0,1,2,3]),(zA 29 (.bin .eql (.t 28) (.k (.c (.str [])))),[0,1,2,3,4]),(zM 30 29,[0,1,2,3,4,5]),(zG 30 true 31 (.eu 1 (.t 3)),[0,1,2,3,4,5,6]),(zG 30 true 32 (.load false 1 (.t 31)),[0,1,2,3,4,5,6,7]),(zG 30 true 33 (.build [jP 0,.c (.str []),.fH 1,.fH 1,jP 0,jP 0,.c (.str []),.fH 1,.fH 5,.fH 8] [(0,1,kI 1),(1,1,.t 32)]),[0,1,2,3,4,5,6,7,8]),(⟨(some (30,true)),some 34,.call 6 [.t 33]⟩,[0,1,2,3,4,5,6,7,8,9]),(zG 30 true 35 (.eu 1 (.t 3)),[0,1,2,3,4,5,6]),(zG 30 true 36 (.load false 1 (.t 35)),[0,1,2,3,4,5,6,11]),(zG 30 true 37 (.bin .add (.k (.c (.str [103,101,116,32]))) (.t 36)),[0,1,2,3,4,5,6,11,12]),(zG 30 true 38 (.bin .add (.t 37) (.k (.c (.str [32,32,32,110,117,108,108])))),[0,1,2,3,4,5,6,11,12,13]),(zG 30 true 39 (.bin .eql (.t 34) (.t 38)),[0,1,2,3,4,5,6,7,8,9,10,11,12,13,14]),(qP 40 30 39,[0,1,2,3,4,5,6,7,8,9,10,11,12,13,14,15]),(zM 2 40,[0,1,2,3,4,5,6,7,8,9,10,11,12,13,14,15,16])] [2]) .ret))))))
theorem K.gJ:fQ pZ 4 1 0 C.gJ [.tmp 2]=true:=by kernel_rfl
end Go.Ab
end
section
namespace Go.Ab
open Go
set_option maxRecDepth 100000
theorem T.zB {c:List Int} (hc:Bytes c):Ev (fun f=>G.gJ f c) true:=by
 have hM:=maxL
 refine Ev.up ?_
 simp only [G.gJ]
 refine Ev.ite (fun _=>Ev.ret _) (fun e => ?_)
 obtain ⟨q,g,hq⟩:=D.oG hc (by simp at e; omega)
 have hI:=T.ah hq
 have hS:=T.ay hq
 have same:Ev (fun f=>Option.bind (G.ay f q) fun v=>some (tX q==v)) true:=Ev.bind hS (Ev.ret' (by simp))
 refine Ev.bind g (Ev.bind hI (Ev.bind hS (Ev.ct (by simp) (Ev.ite (fun _=>same) (fun en => ?_)))))
 have en:tX q ≠ []:=by simpa using en
 obtain ⟨hr,_⟩:=NF en
 have hp:=RX hr
 have hn:=(rE hp.Ap).2
 have vn:Val (af.mk 1 1 [] [] [])=true:=by decide
 have hnum:Ev (fun f=>G.jh f 1) (af.mk 1 1 [] [] []):=by
  refine Ev.up ?_
  simp only [G.jh]
  exact Ev.ret _
 have f1:qo 60 (RequestT.mk 1 q.Name [] [] (af.mk 1 1 [] [] []) []):=⟨hq.Ap,o7,o7,⟨5,jR vn⟩,o6⟩
 have f2:qo 60 (RequestT.mk 1 q.Name [] [] mg []):=⟨hq.Ap,o7,o7,⟨5,jR uJ⟩,o6⟩
 have h1:=T.ah f1
 have h2:=T.ah f2
 have w1:tX (RequestT.mk 1 q.Name [] [] (af.mk 1 1 [] [] []) [])=[]:=by
  unfold tX
  have:lean (RequestT.mk 1 q.Name [] [] (af.mk 1 1 [] [] []) [])=false:=rfl
  rw [this]
  simp
 have w2:tX (RequestT.mk 1 q.Name [] [] mg [])=[103,101,116,32]++q.Name++[32,32,32,110,117,108,108]:=by
  have hv:NW (RequestT.mk 1 q.Name [] [] mg [])=true:=by
   unfold NW
   have hb:Val mg=true:=uJ
   simp only [hp.Ap,hb]
   rfl
  unfold tX
  rw [hv]
  show rU _=_
  unfold rU OQ
  rw [if_neg (show ¬ (1:Int)=4 by decide)]
  have e1:Hr.getD ((RequestT.mk 1 q.Name [] [] mg []).Method).toNat default=[103,101,116]:=rfl
  have e2:jS 5 (RequestT.mk 1 q.Name [] [] mg []).Body=[110,117,108,108]:=rfl
  rw [e1,e2,IG]
  simp
 rw [w1] at h1
 rw [w2] at h2
 exact Ev.bind hnum (Ev.bind h1 (Ev.ct rfl (Ev.bind h2 (Ev.chk (by omega) (Ev.chk (by omega) (Ev.ret' (by simp)))))))
end Go.Ab
end
section
namespace Go.Ab
open Go
set_option maxRecDepth 100000
set_option maxHeartbeats 4000000
set_option linter.unusedVariables false
set_option linter.unusedSimpArgs false
theorem F.jh {n:Nat} : ∀ {ag r},G.jh n ag=some r->dA pZ 9 [.one (wI ag)] (.agg (wN r)):=by
 intro ag r h
 refine aW K.jh (jB ?_)
 unfold C.jh
 rcases n with _ | n<;>simp only [G.jh,reduceCtorEq] at h
 have z:=pp () <| pp () <| pp () <| pp () <| pp () <| pp () <| ()
 exact jF
theorem F.gJ {n:Nat} : ∀ {iL r},G.gJ n iL=some r->dA pZ 4 [.one (.c (.sl 1 (List.map cU iL)))] (.one (.c (.lit (.bool r)))):=by
 intro iL r h
 refine aW K.gJ (jB ?_)
 unfold C.gJ
 rcases n with _ | n<;>simp only [G.gJ,reduceCtorEq] at h
 have z:=pp (pp @F.dH <| pp @F.ah <| pp @F.ay <| pp @F.jh ()) <| pp () <| pp () <| pp () <| pp () <| pp () <| ()
 exact jF
end Go.Ab
end
section
namespace Go.Proofs.YtmfgjjhlnaibkaaGreatDoor.fnRequestGet
open Go Go.ChangeShapes Go.WideShapes Go.ChangeAt Go.RowKit Go.Ab
set_option maxRecDepth 100000
theorem own:ownKnob Tryz.prog.godebug=none:=by kernel_rfl
theorem laidOut:laidOutB Tryz.prog=true:=by kernel_rfl
theorem cellsB:Tryz.prog.cellsOf 5=1:=by kernel_rfl
theorem calls (zs:List Int) (hz:∀ z,z∈zs->0<=z/\z<256):dA Tryz.prog 4 [KC 1 (zs.map yF)] (jK true):=by
 obtain ⟨n,hn⟩:=(T.zB hz).val
 exact F.gJ hn
theorem met {W:World} (h:laidMetH Tryz.prog Rows.fnRequestGetRow.laid W):laidMet Tryz.prog Rows.fnRequestGetRow.laid W:=by
 unfold laidMetH at h
 rw [show (Rows.fnRequestGetRow.laid.filter fun x=>x.2.handleName?.isSome)=[] from by kernel_rfl] at h
 exact h
theorem tabs {W:World} (hL:laidMetH Tryz.prog Rows.fnRequestGetRow.laid W):Tabs Tryz.prog (I0 W):=by
 have h:=wW 2 (met hL)
 rw [show Rows.fnRequestGetRow.laid.drop 2=("internal/strconv.uint64pow10",Lib.tabData .u64 Lib.pow10Tab)::Rows.fnRequestGetRow.laid.drop 3 from by kernel_rfl] at h
 exact IC (g:=1) (t:=131) (e:=121) (by kernel_rfl) (by kernel_rfl) (by kernel_rfl) (by kernel_rfl) (by kernel_rfl) (by kernel_rfl) h
theorem contract (H:Type) (enc:TypeId × Value->H) (W:World) (base:Nat) (args:Array Value) (ds gs:List (DataW H)) (before:List MemPlace)
  (hval:∀ (j:Nat) t v,Tryz.f4.params[j]? = some t->args[j]? = some v->Value.okWide Tryz.prog W .any base t v)
  (hW:DataW.Whole enc Tryz.prog Tryz.f4.params.toList Rows.fnRequestGetSpec.vars false W args.toList ds gs before)
  (hL:laidMetH Tryz.prog Rows.fnRequestGetRow.laid W) :
  Calls Tryz.prog 4 args W fun e W'=>∃ v,e = .returned v/\Rows.fnRequestGetSpec.post enc Tryz.prog Tryz.f4 false true false false W args v W':=by
 have hW':=hW
 obtain ⟨p,q,hA0,hV,rfl,hfz,hnd⟩:=hW
 have hA:DataW.TrodAll enc Tryz.prog W 0 (fun _=>true) true Tryz.f4.params.toList args.toList ds p:=hA0
 rw [Tryz.params4] at hA hval
 obtain ⟨v0,Uk,d0,ds0,p0,q0,hargs,rfl,rfl,h0,r0⟩:=trodAll_cons hA
 obtain ⟨rfl,rfl,rfl⟩:=trodAll_nil r0
 obtain rfl:args = #[v0]:=by cases args; simp_all
 obtain ⟨rfl,rfl⟩:=trodVars_none hV
 clear hA0
 simp only [List.append_nil] at hW'
 have hlt:∀ x∈p0,x.block<W.heap.size:=fun x hx=>by simpa using hW'.lt x hx
 refine (Bq (enc:=enc) (tabs hL) Tryz.underlying22 Tryz.underlying5 cellsB (hval 0 22 v0 rfl rfl) h0 (fun zs _ hz=>calls zs hz)).mono fun e W' ⟨he,hb⟩ => ?_
 subst he
 have ht:DataW.TrodAll enc Tryz.prog W' 0 (fun b=>decide (b<W.heap.size)) true [22] [v0] [d0] (p0++[]):=trodAll_cons_mk (Below.trod laidOut (by kernel_rfl) (of_decide_eq_true (by kernel_rfl)) h0 hb hlt) trodAll_mk0
 rw [List.append_nil] at ht
 exact ⟨_,rfl,_,_,_,[],p0,[],hW',trodAll_cons_mk (shut_bool Tryz.underlying4 _) trodAll_mk0,
  ht,rfl,hb.frame _,fun h=>by cases h⟩
def tab (k:IntKind) (l:List Int):Obj->Obj
 | .cells _ t frozen => .cells (l.map fun n=>Value.int k n).toArray t frozen
 | o=>o
noncomputable def laidWorld (os:Os):World :=
 { World.holding Tryz.prog os ⟨#[],#[],[]⟩ with heap:=((((World.holding Tryz.prog os ⟨#[],#[],[]⟩).heap).modify 2 (tab .u8 [0,1,28,2,29,14,24,3,30,22,20,15,25,17,4,8,31,27,13,23,21,19,16,7,26,12,18,6,11,5,10,9])).modify 3 (tab .u8 [0,1,56,2,57,49,28,3,61,58,42,50,38,29,17,4,62,47,59,36,45,43,51,22,53,39,33,30,24,18,12,5,63,55,48,27,60,41,37,16,46,35,44,21,52,32,23,11,54,26,40,15,34,20,31,10,25,14,19,9,13,8,7,6])).modify 1 (tab .u64 [1,10,100,1000,10000,100000,1000000,10000000,100000000,1000000000,10000000000,100000000000,1000000000000,10000000000000,100000000000000,1000000000000000,10000000000000000,100000000000000000,1000000000000000000,10000000000000000000]) }
theorem laid_met (os:Os):laidMet Tryz.prog Rows.fnRequestGetRow.laid ((laidWorld os).forCall (fun _ _=>0) ⟨#[],#[.slice none 0 0],[]⟩).memory :=
 laidMet_of_run' 80 (by kernel_rfl) (by kernel_rfl)
theorem reads (os:Os) {H:Type} (enc:TypeId × Value->H):∃ places,DataW.whole enc Tryz.prog ((laidWorld os).forCall (fun _ _=>0) ⟨#[],#[.slice none 0 0],[]⟩).memory Tryz.f4.params.toList Rows.fnRequestGetSpec.vars false #[Value.slice none 0 0].toList 8=some ([.nil],[],places) :=
 ⟨[],by kernel_rfl⟩
theorem lifted (os:Os) (started:os.Started) (H:Type) (enc:TypeId × Value->H) (F:Stop.Interp) :
  ReturnsInHanded {} Tryz.checked os 4 .any ((OpenSpec.ofChange Rows.fnRequestGetSpec).preRow enc Tryz.prog Tryz.f4 Rows.fnRequestGetRow.domain false Rows.fnRequestGetRow.laid) (((OpenSpec.ofChange Rows.fnRequestGetSpec).at F).post enc Tryz.prog Tryz.f4 false true false false):=by
 obtain ⟨places,hx⟩:=reads os enc
 refine returnsInHanded_of_row (C:=Tryz.checked) (s:=OpenSpec.ofChange Rows.fnRequestGetSpec) own started (by kernel_rfl) Tryz.func4
  (witness_row_at (enc:=enc) (C:=Tryz.checked) false (laidWorld os) #[.slice none 0 0] rfl (by kernel_rfl) (by kernel_rfl) (by kernel_rfl)
   (OpenSpec.preRow_of_cond 8 hx (by kernel_rfl) (fun k hk=>by cases hk) (by kernel_rfl) (laid_met os))) ?_
 intro W base args ds gs before hval hW _ _ _ hL _ _
 exact contract H enc W base args ds gs before hval hW hL
theorem j1:(Rows.fnRequestGetRow.inPlace==Tryz.prog.inPlace 4)=true:=by kernel_rfl
theorem j2:(Rows.fnRequestGetRow.unfollowed==Tryz.prog.unfollowed 4)=true:=by kernel_rfl
theorem j3:(Rows.fnRequestGetRow.recurses==Tryz.prog.recurses 4)=true:=by kernel_rfl
theorem j4:(Rows.fnRequestGetRow.named==Tryz.prog.varsNamed 4)=true:=by kernel_rfl
theorem j5:joinedFacts Tryz.prog 4 Tryz.f4 (OpenSpec.ofChange Rows.fnRequestGetSpec).bare Rows.fnRequestGetRow=true:=by
 unfold joinedFacts
 rw [j1,j2,j3,j4]
 kernel_rfl
theorem j6:Tryz.prog.funcNamed Rows.fnRequestGetRow.func=some 4:=by kernel_rfl
theorem said:Rows.FnRequestGetSaid :=
 OpenClaim.holds_of_cond 4 Tryz.f4 rfl rfl rfl rfl rfl rfl rfl ⟨rfl,rfl,rfl,rfl,rfl⟩ rfl rfl rfl rfl rfl j6 Tryz.func4 j5
  (of_decide_eq_true (by kernel_rfl)) (by unfold Func.isWrapper; first | (rw [if_pos (by decide +kernel)]; kernel_rfl) | (rw [if_neg (by decide +kernel)]; exact ⟨rfl,rfl⟩))
  (fun os started H enc _ F=>by rw [OpenClaim.pre_eq_preRow]; exact lifted os started H enc F)
theorem jw:Rows.fnRequestGetRow.wfByText (OpenSpec.ofChange Rows.fnRequestGetSpec)=true:=by kernel_rfl
theorem jm:Tryz.pinned.checked.prog.mainIs=some (Rows.fnRequestGetCard.stood.harness.1,Rows.fnRequestGetCard.stood.harness.2.toList):=by kernel_rfl
theorem jg:false=Rows.fnRequestGetRow.goesBy Tryz.pinned.checked.prog:=by kernel_rfl
theorem plain (f:FuncId) (fn:Func) (hf:Tryz.pinned.checked.prog.funcNamed Rows.fnRequestGetRow.func=some f) (hfn:Tryz.pinned.checked.prog.funcs[f]? = some fn) :
  false=Tryz.pinned.checked.prog.looks []/\∀ (j:Nat) t,fn.params[j]? = some t->Tryz.pinned.checked.prog.wantsStandIn t=false:=by
 obtain rfl:f=4:=Option.some.inj ((show Tryz.prog.funcNamed Rows.fnRequestGetRow.func=some 4 by kernel_rfl).symm.trans hf) |>.symm
 obtain rfl:fn=Tryz.f4:=(Option.some.inj (Tryz.func4.symm.trans hfn)).symm
 refine ⟨by kernel_rfl,fun j t ht => ?_⟩
 rw [Tryz.params4] at ht
 obtain rfl:t=22:=by simpa using Array.mem_of_getElem? ht
 exact (show Tryz.prog.wantsStandIn 22=false by kernel_rfl)
theorem card:Rows.FnRequestGetCardSaid :=
 Claim7.holds_tied_plain_at .later [] _ _ _ _ said (fun _ h=>by cases h) jw (fun _ h=>by cases h) fnRequestGet_row_tie rfl ⟨rfl,rfl⟩ jm rfl plain jg
end Go.Proofs.YtmfgjjhlnaibkaaGreatDoor.fnRequestGet
end
