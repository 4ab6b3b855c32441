/- The law FnRequestText of the package laws answers true for every code of bytes and leaves it as it is (part 1). Conditions: none but what the row lists. -/
import Derived.Test.YtmfgjjhlnaibkaaGreatDoorB2
set_option linter.unusedVariables false
set_option linter.unusedSimpArgs false
section
namespace Go.Ab
open Go
set_option maxRecDepth 100000
set_option maxHeartbeats 4000000
set_option linter.unusedVariables false
set_option linter.unusedSimpArgs false
def G.dM.K1 (f:Nat) (v1:RequestT) (v2:aK):Option (Bool):=match f with
| 0=>none
| n+1 =>
(chk (4+v1.Name.length<=maxLen)
(chk ((4+v1.Name.length)+3<=maxLen)
((G.dY n v1.Body).bind fun v9 =>
(chk (((4+v1.Name.length)+3)+v9.length<=maxLen)
(some ((v2==((([112,117,116,32]++v1.Name)++[32,32,32])++v9))))))))
def G.dM (f:Nat) (iL:List Int):Option (Bool):=match f with
| 0=>none
| n+1 =>
(cond (decide (1048576<((iL.length:Nat):Int)))
(some (true))
((G.dH n iL).bind fun v1 =>
((G.ah n v1).bind fun v2 =>
((G.ay n v1).bind fun v10 =>
(cond (v2==v10)
(cond (v2==[])
((G.ay n v1).bind fun v11 =>
(some ((v2==v11))))
(cond (decide (0<((v1.Want.length:Nat):Int)))
((G.ay n v1).bind fun v12 =>
(some ((v2==v12))))
(cond (decide (0<((v1.ja.length:Nat):Int)))
((G.ay n v1).bind fun v13 =>
(some ((v2==v13))))
(cond (v1.Method != 2)
((G.ay n v1).bind fun v14 =>
(some ((v2==v14))))
(G.dM.K1 n v1 v2)))))
((G.ay n v1).bind fun v15 =>
(some ((v2==v15)))))))))
end Go.Ab
end
section
namespace Go.Ab
open Go
set_option maxRecDepth 100000
set_option maxHeartbeats 4000000
set_option linter.unusedVariables false
set_option linter.unusedSimpArgs false
def C.dM:bf:=(.seq (.reg [qB 2 false] [0]) (.seq (.seq (.reg [zM 5 0,qL 6 5,zA 7 (.bin .gtr (.t 6) (kI 1048576))] [0,7]) (.cond (.t 7) (.seq (.reg [qB 2 true] [2]) .ret) .skip)) (.seq (.reg [zM 8 0,q1 9 5 8,zA 3 (.alloc 10 [jP 0,.c (.str []),.fH 1,.fH 1,jP 0,jP 0,.c (.str []),.fH 1,.fH 5,.fH 8]),qS 10 3 9] [3]) (.seq (.reg [qT 10 10 3,q1 11 6 10,zM 4 11] [3,4]) (.cut (.seq (.reg [zM 12 4,qT 13 10 3,q1 14 7 13,zA 15 (.bin .neq (.t 12) (.t 14)),zM 16 15,zG 16 false 17 (.mv (.t 4)),zG 16 false 18 (.bin .eql (.t 17) (.k (.c (.str [])))),qQ 19 16 18,zM 20 19,zG 20 false 21 (.eu 2 (.t 3)),zG 20 false 22 (.load false 1 (.t 21)),zG 20 false 23 (.len (.t 22)),zG 20 false 24 (.bin .gtr (.t 23) (kI 0)),qQ 25 20 24,zM 26 25,zG 26 false 27 (.eu 3 (.t 3)),zG 26 false 28 (.load false 1 (.t 27)),zG 26 false 29 (.len (.t 28)),zG 26 false 30 (.bin .gtr (.t 29) (kI 0)),qQ 31 26 30,zM 32 31,zG 32 false 33 (.eu 0 (.t 3)),zG 32 false 34 (.load false 1 (.t 33)),zG 32 false 35 (.bin .neq (.t 34) (kI 2)),qQ 36 32 35] [3,4,36]) (.cond (.t 36) (.seq (.reg [zM 37 4,qT 38 10 3,q1 39 7 38,zA 40 (.bin .eql (.t 37) (.t 39)),zM 2 40] [2]) .ret) .skip)) (.seq (.jW [(zM 41 4,[]),(qA 42 1 3,[]),(qF 43 1 42,[1]),(zA 44 (.bin .add (.k (.c (.str [112,117,116,32]))) (.t 43)),[1,2]),(zA 45 (.bin .add (.t 44) (.k (.c (.str [32,32,32])))),[1,2,3]),(qA 46 4 3,[]),(qT 47 5 46,[5]),(q1 48 8 47,[5,6]),(zA 49 (.bin .add (.t 45) (.t 48)),[1,2,3,4,5,6,7]),(zA 50 (.bin .eql (.t 41) (.t 49)),[0,1,2,3,4,5,6,7,8]),(zM 2 50,[0,1,2,3,4,5,6,7,8,9])] [2]) .ret))))))
theorem K.dM:fQ pZ 3 1 0 C.dM [.tmp 2]=true:=by kernel_rfl
end Go.Ab
end
section
namespace Go.Ab
open Go
set_option maxRecDepth 100000
theorem T.xR {c:List Int} (hc:Bytes c):Ev (fun f=>G.dM f c) true:=by
 have hM:=maxL
 refine Ev.up ?_
 simp only [G.dM]
 refine Ev.ite (fun _=>Ev.ret _) (fun e => ?_)
 obtain ⟨q,g,hq⟩:=D.oG hc (by simp at e; omega)
 have hI:=T.ah hq
 have hS:=T.ay hq
 have same:Ev (fun f=>Option.bind (G.ay f q) fun v=>some (tX q==v)) true:=Ev.bind hS (Ev.ret' (by simp))
 refine Ev.bind g (Ev.bind hI (Ev.bind hS (Ev.ct (by simp) (Ev.ite (fun _=>same) (fun en=>Ev.ite (fun _=>same) (fun ew=>Ev.ite (fun _=>same) (fun ea=>Ev.ite (fun _=>same) (fun em=>Ev.up ?_))))))))
 have en:tX q ≠ []:=by simpa using en
 obtain ⟨hr,hw⟩:=NF en
 have hp:=RX hr
 have ew:q.Want=[]:=by simpa using ew
 have ea:q.ja=[]:=by simpa using ea
 have em:q.Method=2:=by simpa using em
 obtain ⟨D,hD⟩:=hq.body
 have hF:=T.dY l9 hD
 have eF:IU q.Body=jS 5 q.Body:=by unfold IU; rw [if_pos hp.body]
 rw [eF] at hF
 have h5:=fmt5 hp.body
 have hn:=(rE hp.Ap).2
 simp only [G.dM.K1]
 refine Ev.chk (by omega) (Ev.chk (by omega) (Ev.bind hF (Ev.chk (by omega) (Ev.ret' ?_))))
 rw [hw]
 unfold rU OQ
 rw [em,ew,ea,IG,if_neg (by decide)]
 have:Hr.getD (2:Int).toNat default=[112,117,116]:=rfl
 rw [this]
 simp
end Go.Ab
end
section
namespace Go.Ab
open Go
set_option maxRecDepth 100000
set_option maxHeartbeats 4000000
set_option linter.unusedVariables false
set_option linter.unusedSimpArgs false
theorem F.dM {n:Nat} : ∀ {iL r},G.dM n iL=some r->dA pZ 3 [.one (.c (.sl 1 (List.map cU iL)))] (.one (.c (.lit (.bool r)))):=by
 intro iL r h
 refine aW K.dM (jB ?_)
 unfold C.dM
 rcases n with _ | n<;>simp only [G.dM,reduceCtorEq] at h
 have z:=pp (pp @F.dH <| pp @F.ah <| pp @F.ay <| pp @F.dY ()) <| pp () <| pp () <| pp (pp (@lg (RequestT × aK) _ (fun n x=>G.dM.K1 n x.1 x.2) r (fun x=>bF.of [eP 3 101,eS 4 x.2,(36,.v true (.one (.c (.lit (.bool false)))))] [(101,.var [wI x.1.Method,wS x.1.Name,wT x.1.Want,wT x.1.ja,wI x.1.Body.Kind,wI x.1.Body.Num,wS x.1.Body.Text,wT x.1.Body.Names,wK x.1.Body.Kids,.c (.sl 8 (List.map jr.cells x.1.Ops))])])) ()) <| pp (pp (And.intro @G.dM.K1.eq_1 <| @G.dM.K1.eq_2) ()) <| pp (pp (@bn [] [(101,10)] []) ()) <| ()
 exact jF
end Go.Ab
end
section
namespace Go.Proofs.YtmfgjjhlnaibkaaGreatDoor.fnRequestText
open Go Go.ChangeShapes Go.WideShapes Go.ChangeAt Go.RowKit Go.Ab
set_option maxRecDepth 100000
theorem own:ownKnob Tryz.prog.godebug=none:=by kernel_rfl
theorem laidOut:laidOutB Tryz.prog=true:=by kernel_rfl
theorem cellsB:Tryz.prog.cellsOf 5=1:=by kernel_rfl
theorem calls (zs:List Int) (hz:∀ z,z∈zs->0<=z/\z<256):dA Tryz.prog 3 [KC 1 (zs.map yF)] (jK true):=by
 obtain ⟨n,hn⟩:=(T.xR hz).val
 exact F.dM hn
theorem met {W:World} (h:laidMetH Tryz.prog Rows.fnRequestTextRow.laid W):laidMet Tryz.prog Rows.fnRequestTextRow.laid W:=by
 unfold laidMetH at h
 rw [show (Rows.fnRequestTextRow.laid.filter fun x=>x.2.handleName?.isSome)=[] from by kernel_rfl] at h
 exact h
theorem tabs {W:World} (hL:laidMetH Tryz.prog Rows.fnRequestTextRow.laid W):Tabs Tryz.prog (I0 W):=by
 have h:=wW 2 (met hL)
 rw [show Rows.fnRequestTextRow.laid.drop 2=("internal/strconv.uint64pow10",Lib.tabData .u64 Lib.pow10Tab)::Rows.fnRequestTextRow.laid.drop 3 from by kernel_rfl] at h
 exact IC (g:=1) (t:=131) (e:=121) (by kernel_rfl) (by kernel_rfl) (by kernel_rfl) (by kernel_rfl) (by kernel_rfl) (by kernel_rfl) h
theorem contract (H:Type) (enc:TypeId × Value->H) (W:World) (base:Nat) (args:Array Value) (ds gs:List (DataW H)) (before:List MemPlace)
  (hval:∀ (j:Nat) t v,Tryz.f3.params[j]? = some t->args[j]? = some v->Value.okWide Tryz.prog W .any base t v)
  (hW:DataW.Whole enc Tryz.prog Tryz.f3.params.toList Rows.fnRequestTextSpec.vars false W args.toList ds gs before)
  (hL:laidMetH Tryz.prog Rows.fnRequestTextRow.laid W) :
  Calls Tryz.prog 3 args W fun e W'=>∃ v,e = .returned v/\Rows.fnRequestTextSpec.post enc Tryz.prog Tryz.f3 false true false false W args v W':=by
 have hW':=hW
 obtain ⟨p,q,hA0,hV,rfl,hfz,hnd⟩:=hW
 have hA:DataW.TrodAll enc Tryz.prog W 0 (fun _=>true) true Tryz.f3.params.toList args.toList ds p:=hA0
 rw [Tryz.params3] at hA hval
 obtain ⟨v0,Uk,d0,ds0,p0,q0,hargs,rfl,rfl,h0,r0⟩:=trodAll_cons hA
 obtain ⟨rfl,rfl,rfl⟩:=trodAll_nil r0
 obtain rfl:args = #[v0]:=by cases args; simp_all
 obtain ⟨rfl,rfl⟩:=trodVars_none hV
 clear hA0
 simp only [List.append_nil] at hW'
 have hlt:∀ x∈p0,x.block<W.heap.size:=fun x hx=>by simpa using hW'.lt x hx
 refine (Bq (enc:=enc) (tabs hL) Tryz.underlying22 Tryz.underlying5 cellsB (hval 0 22 v0 rfl rfl) h0 (fun zs _ hz=>calls zs hz)).mono fun e W' ⟨he,hb⟩ => ?_
 subst he
 have ht:DataW.TrodAll enc Tryz.prog W' 0 (fun b=>decide (b<W.heap.size)) true [22] [v0] [d0] (p0++[]):=trodAll_cons_mk (Below.trod laidOut (by kernel_rfl) (of_decide_eq_true (by kernel_rfl)) h0 hb hlt) trodAll_mk0
 rw [List.append_nil] at ht
 exact ⟨_,rfl,_,_,_,[],p0,[],hW',trodAll_cons_mk (shut_bool Tryz.underlying4 _) trodAll_mk0,
  ht,rfl,hb.frame _,fun h=>by cases h⟩
def tab (k:IntKind) (l:List Int):Obj->Obj
 | .cells _ t frozen => .cells (l.map fun n=>Value.int k n).toArray t frozen
 | o=>o
noncomputable def laidWorld (os:Os):World :=
 { World.holding Tryz.prog os ⟨#[],#[],[]⟩ with heap:=((((World.holding Tryz.prog os ⟨#[],#[],[]⟩).heap).modify 2 (tab .u8 [0,1,28,2,29,14,24,3,30,22,20,15,25,17,4,8,31,27,13,23,21,19,16,7,26,12,18,6,11,5,10,9])).modify 3 (tab .u8 [0,1,56,2,57,49,28,3,61,58,42,50,38,29,17,4,62,47,59,36,45,43,51,22,53,39,33,30,24,18,12,5,63,55,48,27,60,41,37,16,46,35,44,21,52,32,23,11,54,26,40,15,34,20,31,10,25,14,19,9,13,8,7,6])).modify 1 (tab .u64 [1,10,100,1000,10000,100000,1000000,10000000,100000000,1000000000,10000000000,100000000000,1000000000000,10000000000000,100000000000000,1000000000000000,10000000000000000,100000000000000000,1000000000000000000,10000000000000000000]) }
theorem laid_met (os:Os):laidMet Tryz.prog Rows.fnRequestTextRow.laid ((laidWorld os).forCall (fun _ _=>0) ⟨#[],#[.slice none 0 0],[]⟩).memory :=
 laidMet_of_run' 80 (by kernel_rfl) (by kernel_rfl)
theorem reads (os:Os) {H:Type} (enc:TypeId × Value->H):∃ places,DataW.whole enc Tryz.prog ((laidWorld os).forCall (fun _ _=>0) ⟨#[],#[.slice none 0 0],[]⟩).memory Tryz.f3.params.toList Rows.fnRequestTextSpec.vars false #[Value.slice none 0 0].toList 8=some ([.nil],[],places) :=
 ⟨[],by kernel_rfl⟩
theorem lifted (os:Os) (started:os.Started) (H:Type) (enc:TypeId × Value->H) (F:Stop.Interp) :
  ReturnsInHanded {} Tryz.checked os 3 .any ((OpenSpec.ofChange Rows.fnRequestTextSpec).preRow enc Tryz.prog Tryz.f3 Rows.fnRequestTextRow.domain false Rows.fnRequestTextRow.laid) (((OpenSpec.ofChange Rows.fnRequestTextSpec).at F).post enc Tryz.prog Tryz.f3 false true false false):=by
 obtain ⟨places,hx⟩:=reads os enc
 refine returnsInHanded_of_row (C:=Tryz.checked) (s:=OpenSpec.ofChange Rows.fnRequestTextSpec) own started (by kernel_rfl) Tryz.func3
  (witness_row_at (enc:=enc) (C:=Tryz.checked) false (laidWorld os) #[.slice none 0 0] rfl (by kernel_rfl) (by kernel_rfl) (by kernel_rfl)
   (OpenSpec.preRow_of_cond 8 hx (by kernel_rfl) (fun k hk=>by cases hk) (by kernel_rfl) (laid_met os))) ?_
 intro W base args ds gs before hval hW _ _ _ hL _ _
 exact contract H enc W base args ds gs before hval hW hL
theorem j1:(Rows.fnRequestTextRow.inPlace==Tryz.prog.inPlace 3)=true:=by kernel_rfl
theorem j2:(Rows.fnRequestTextRow.unfollowed==Tryz.prog.unfollowed 3)=true:=by kernel_rfl
theorem j3:(Rows.fnRequestTextRow.recurses==Tryz.prog.recurses 3)=true:=by kernel_rfl
theorem j4:(Rows.fnRequestTextRow.named==Tryz.prog.varsNamed 3)=true:=by kernel_rfl
theorem j5:joinedFacts Tryz.prog 3 Tryz.f3 (OpenSpec.ofChange Rows.fnRequestTextSpec).bare Rows.fnRequestTextRow=true:=by
 unfold joinedFacts
 rw [j1,j2,j3,j4]
 kernel_rfl
theorem j6:Tryz.prog.funcNamed Rows.fnRequestTextRow.func=some 3:=by kernel_rfl
theorem said:Rows.FnRequestTextSaid :=
 OpenClaim.holds_of_cond 3 Tryz.f3 rfl rfl rfl rfl rfl rfl rfl ⟨rfl,rfl,rfl,rfl,rfl⟩ rfl rfl rfl rfl rfl j6 Tryz.func3 j5
  (of_decide_eq_true (by kernel_rfl)) (by unfold Func.isWrapper; first | (rw [if_pos (by decide +kernel)]; kernel_rfl) | (rw [if_neg (by decide +kernel)]; exact ⟨rfl,rfl⟩))
  (fun os started H enc _ F=>by rw [OpenClaim.pre_eq_preRow]; exact lifted os started H enc F)
theorem jw:Rows.fnRequestTextRow.wfByText (OpenSpec.ofChange Rows.fnRequestTextSpec)=true:=by kernel_rfl
theorem jm:Tryz.pinned.checked.prog.mainIs=some (Rows.fnRequestTextCard.stood.harness.1,Rows.fnRequestTextCard.stood.harness.2.toList):=by kernel_rfl
theorem jg:false=Rows.fnRequestTextRow.goesBy Tryz.pinned.checked.prog:=by kernel_rfl
theorem plain (f:FuncId) (fn:Func) (hf:Tryz.pinned.checked.prog.funcNamed Rows.fnRequestTextRow.func=some f) (hfn:Tryz.pinned.checked.prog.funcs[f]? = some fn) :
  false=Tryz.pinned.checked.prog.looks []/\∀ (j:Nat) t,fn.params[j]? = some t->Tryz.pinned.checked.prog.wantsStandIn t=false:=by
 obtain rfl:f=3:=Option.some.inj ((show Tryz.prog.funcNamed Rows.fnRequestTextRow.func=some 3 by kernel_rfl).symm.trans hf) |>.symm
 obtain rfl:fn=Tryz.f3:=(Option.some.inj (Tryz.func3.symm.trans hfn)).symm
 refine ⟨by kernel_rfl,fun j t ht => ?_⟩
 rw [Tryz.params3] at ht
 obtain rfl:t=22:=by simpa using Array.mem_of_getElem? ht
 exact (show Tryz.prog.wantsStandIn 22=false by kernel_rfl)
theorem card:Rows.FnRequestTextCardSaid :=
 Claim7.holds_tied_plain_at .later [] _ _ _ _ said (fun _ h=>by cases h) jw (fun _ h=>by cases h) fnRequestText_row_tie rfl ⟨rfl,rfl⟩ jm rfl plain jg
end Go.Proofs.YtmfgjjhlnaibkaaGreatDoor.fnRequestText
end
