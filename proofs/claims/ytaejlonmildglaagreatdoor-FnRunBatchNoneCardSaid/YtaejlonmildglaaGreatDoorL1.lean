/- The law FnRunBatchNone of the package laws answers true for every code of bytes and leaves it as it is (part 1). Conditions: none but what the row lists. -/
import Derived.Test.YtaejlonmildglaaGreatDoorB4
set_option linter.unusedVariables false
set_option linter.unusedSimpArgs false
section
namespace Go.Ab
open Go
set_option maxRecDepth 100000
set_option maxHeartbeats 4000000
set_option linter.unusedVariables false
set_option linter.unusedSimpArgs false
def G.bI.K2 (f:Nat) (v1:StoreT × List RequestT) (zL:Bool) (QM:Bool):Option (Bool):=match f with
| 0=>none
| n+1 =>
((G.fQ n v1.1 []).bind fun v14 =>
(cond v14.2.2
(cond (((v14.2.1.length:Nat):Int)==0)
((G.aK n v14.1 v1.1).bind fun v15 =>
(some (v15)))
(some (false)))
(some (false))))
def G.bI.K3 (f:Nat) (v1:StoreT × List RequestT) (v2:StoreT × List aj × Bool) (v3:StoreT × List aj × Bool) (BR:Bool) (uO:Bool) (dH:Bool):Option (Bool):=match f with
| 0=>none
| n+1 =>
(cond dH
((G.aK n v2.1 v3.1).bind fun v20 =>
(cond v20
((G.aN n v2.2.1 v3.2.1).bind fun v21 =>
(cond v21
(cond BR
(cond uO
(some (true))
(some (false)))
(cond uO
(some (false))
(some (true))))
(some (false))))
(some (false))))
(G.bI.K2 n v1 BR uO))
def G.bI (f:Nat) (dw:List Int):Option (Bool):=match f with
| 0=>none
| n+1 =>
(cond (decide (1048576<((dw.length:Nat):Int)))
(some (true))
((G.dY n dw).bind fun v1 =>
((G.fQ n v1.1 v1.2).bind fun v2 =>
((G.gY n v1.1 v1.2).bind fun v3 =>
((G.aK n v2.1 v3.1).bind fun v22 =>
(cond v22
((G.aN n v2.2.1 v3.2.1).bind fun v23 =>
(cond v23
(cond v2.2.2
(cond v3.2.2
((G.bg n v1.1).bind fun v24 =>
(G.bI.K3 n v1 v2 v3 true true (!v24)))
(G.bI.K3 n v1 v2 v3 true false true))
(cond v3.2.2
(G.bI.K3 n v1 v2 v3 false true true)
((G.bg n v1.1).bind fun v25 =>
(G.bI.K3 n v1 v2 v3 false false (!v25)))))
(G.bI.K3 n v1 v2 v3 v2.2.2 v3.2.2 true)))
(G.bI.K3 n v1 v2 v3 v2.2.2 v3.2.2 true)))))))
end Go.Ab
end
section
namespace Go.Ab
open Go
set_option maxRecDepth 100000
set_option maxHeartbeats 4000000
set_option linter.unusedVariables false
set_option linter.unusedSimpArgs false
def C.bI:aT:=(.seq (.reg [qB 2 false] [0]) (.seq (.seq (.reg [zM 14 0,qL 15 14,zA 16 (.bin .gtr (.t 15) (kI 1048576))] [0,16]) (.cond (.t 16) (.seq (.reg [qB 2 true] [2]) .ret) .skip)) (.seq (.reg [zM 18 0,q1 19 26 18,zM 17 19,qE 20 17 0,qE 21 17 1,zA 3 (.alloc 10 [.cO 7,fD 0]),qS 2 3 20,zM 4 21] [3,4]) (.seq (.reg [qT 23 2 3,zM 24 4,q2 25 27 23 24,zM 22 25,qE 26 22 0,qE 27 22 1,qE 28 22 2,zA 5 (.alloc 11 [.cO 7,fD 0]),qS 2 5 26,zM 6 27,zM 7 28] [3,4,5,6,7]) (.seq (.reg [qT 30 2 3,zM 31 4,q2 32 28 30 31,zM 29 32,qE 33 29 0,qE 34 29 1,qE 35 29 2,zA 8 (.alloc 12 [.cO 7,fD 0]),qS 2 8 33,zM 9 34,zM 10 35] [3,5,6,7,8,9,10]) (.cut (.cut (.reg [qT 36 2 5,qT 37 2 8,q2 38 15 36 37,qO 39 38,zM 40 39,zG 40 false 41 (.mv (.t 6)),zG 40 false 42 (.mv (.t 9)),⟨(some (40,false)),some 43,.call 23 [.t 41,.t 42]⟩,zG 40 false 44 (.not (.t 43)),qQ 45 40 44,zM 46 45,zG 46 false 47 (.mv (.t 7)),zG 46 false 48 (.mv (.t 10)),zG 46 false 49 (.beq true (.t 47) (.t 48)),qQ 50 46 49,zM 51 50,zG 51 false 52 (.load true 2 (.t 3)),⟨(some (51,false)),some 53,.call 29 [.t 52]⟩,zG 51 false 54 (.not (.t 53)),qQ 55 51 54] [3,5,6,7,8,9,10,55]) (.cond (.t 55) (.seq (.reg [qT 56 2 5,qT 57 2 8,q2 58 15 56 57,zM 59 58,zG 59 true 60 (.mv (.t 6)),zG 59 true 61 (.mv (.t 9)),⟨(some (59,true)),some 62,.call 23 [.t 60,.t 61]⟩,qP 63 59 62,zM 64 63,zG 64 true 65 (.mv (.t 7)),zG 64 true 66 (.mv (.t 10)),zG 64 true 67 (.beq false (.t 65) (.t 66)),qP 68 64 67,zM 2 68] [2]) .ret) .skip)) (.seq (.reg [qT 70 2 3,⟨none,some 71,.call 27 [.t 70,.k (.cO 10)]⟩,zM 69 71,qE 72 69 0,qE 73 69 1,qE 74 69 2,zA 11 (.alloc 13 [.cO 7,fD 0]),qS 2 11 72,zM 12 73,zM 13 74] [3,11,12,13]) (.seq (.reg [zM 75 13,zM 76 75,zG 76 true 77 (.mv (.t 12)),zG 76 true 78 (.len (.t 77)),zG 76 true 79 (.bin .eql (.t 78) (kI 0)),qP 80 76 79,zM 81 80,zG 81 true 82 (.load true 2 (.t 11)),zG 81 true 83 (.load true 2 (.t 3)),⟨(some (81,true)),some 84,.call 15 [.t 82,.t 83]⟩,qP 85 81 84,zM 2 85] [2]) .ret))))))))
theorem K.bI:dR pZ 10 1 0 C.bI [.tmp 2]=true:=by kernel_rfl
end Go.Ab
end
section
namespace Go.Ab
open Go
set_option maxRecDepth 100000
theorem T.ER {c:List Int} (hc:Bytes c):Ev (fun f=>G.bI f c) true:=by
 refine Ev.up ?_
 simp only [G.bI]
 refine Ev.ite (fun _=>Ev.ret _) (fun e => ?_)
 obtain ⟨⟨s,l⟩,g,hs,hl⟩:=D.yK hc (by simp at e; omega)
 have hI:=T.fQ hs hl
 have hS:=T.gY hs hl
 obtain ⟨v1,v2,v3⟩:=Vl (s:=s) hl
 have es:=pz (qm v1)
 have er:=uA v3 v2
 have hV:=T.bg lW hs
 have hN:=T.fQ hs (l:=[]) ⟨by simp,fun q h=>by cases h⟩
 have ess:=pz hs
 have K3:∀ ok b:Bool,(b=false->uj s=true)->Ev (fun f=>G.bI.K3 f (s,l) (yM s l) (yM s l) ok ok b) true:=fun ok b hb=>by
  refine Ev.up ?_
  simp only [G.bI.K3]
  refine Ev.ite (fun _ => ?_) (fun e => ?_)
  ·refine Ev.bind es (Ev.ct rfl (Ev.bind er (Ev.ct rfl ?_)))
   cases ok<;>exact Qj
  ·have h1:=hb e
   have u:yM s []=(s,[],true):=by rw [yC h1 rfl]; rfl
   rw [u] at hN
   refine Ev.up ?_
   simp only [G.bI.K2]
   exact Ev.bind hN (Ev.ct rfl (Ev.ct rfl (Ev.bind ess (Ev.ret _))))
 refine Ev.bind g (Ev.bind hI (Ev.bind hS (Ev.bind es (Ev.ct rfl (Ev.bind er (Ev.ct rfl ?_))))))
 refine Ev.ite (fun e1 => ?_) (fun e1 => ?_)
 ·exact Ev.ct e1 (Ev.bind hV (K3 true _ (fun h=>by simpa using h)))
 ·exact Ev.cf e1 (Ev.bind hV (K3 false _ (fun h=>by simpa using h)))
end Go.Ab
end
section
namespace Go.Ab
open Go
set_option maxRecDepth 100000
set_option maxHeartbeats 4000000
set_option linter.unusedVariables false
set_option linter.unusedSimpArgs false
theorem F.bI {n:Nat} : ∀ {dw r},G.bI n dw=some r->bF pZ 10 [.one (.c (.sl 1 (List.map cU dw)))] (.one (.c (.lit (.bool r)))):=by
 intro dw r h
 refine aH K.bI (kK ?_)
 unfold C.bI
 rcases n with _ | n<;>simp only [G.bI,reduceCtorEq] at h
 have:=Mk.mk 1; have:=Mk.mk 2
 have z:=pp (pp @F.dY <| pp @F.fQ <| pp @F.gY <| pp @F.aK <| pp @F.aN <| pp @F.bg ()) <| pp () <| pp () <| pp (pp (@pq ((StoreT × List RequestT) × Bool × Bool) _ (fun n x=>G.bI.K2 n x.1 x.2.1 x.2.2) r (fun x=>dB.of [eP 3 104,(7,.v true (.one (.c (.lit (.bool x.2.1))))),(10,.v true (.one (.c (.lit (.bool x.2.2))))),(55,.v true (.one (.c (.lit (.bool false)))))] [(104,.var [.c (.sl 7 (List.map aA.cells x.1.1.Items)),wI x.1.1.Clock])])) <| pp (@pq ((StoreT × List RequestT) × (StoreT × List aj × Bool) × (StoreT × List aj × Bool) × Bool × Bool × Bool) _ (fun n x=>G.bI.K3 n x.1 x.2.1 x.2.2.1 x.2.2.2.1 x.2.2.2.2.1 x.2.2.2.2.2) r (fun x=>dB.of [eP 3 107,eP 5 108,(6,.v true (.one (.c (.sl 8 (List.map aj.cells x.2.1.2.1))))),(7,.v true (.one (.c (.lit (.bool x.2.2.2.1))))),eP 8 109,(9,.v true (.one (.c (.sl 8 (List.map aj.cells x.2.2.1.2.1))))),(10,.v true (.one (.c (.lit (.bool x.2.2.2.2.1))))),(55,.v true (.one (.c (.lit (.bool x.2.2.2.2.2)))))] [(107,.var [.c (.sl 7 (List.map aA.cells x.1.1.Items)),wI x.1.1.Clock]),(108,.var [.c (.sl 7 (List.map aA.cells x.2.1.1.Items)),wI x.2.1.1.Clock]),(109,.var [.c (.sl 7 (List.map aA.cells x.2.2.1.1.Items)),wI x.2.2.1.1.Clock])])) ()) <| pp (pp (And.intro @G.bI.K2.eq_1 <| And.intro @G.bI.K2.eq_2 <| And.intro @G.bI.K3.eq_1 <| @G.bI.K3.eq_2) ()) <| pp (pp (@bf [] [(107,10),(108,11),(109,12)] []) <| pp (@bf [] [(104,107)] []) ()) <| pp () <| (pp (pp (rfl : @G.bI.K2=_) <| pp (rfl : @G.bI.K3=_) ()) <| pp (pp (rfl : @G.bI.K3=_) ()) ())
 exact Ht
end Go.Ab
end
section
namespace Go.Proofs.YtaejlonmildglaaGreatDoor.fnRunBatchNone
open Go Go.ChangeShapes Go.WideShapes Go.ChangeAt Go.RowKit Go.Ab
set_option maxRecDepth 100000
theorem own:ownKnob Tryz.prog.godebug=none:=by kernel_rfl
theorem laidOut:laidOutB Tryz.prog=true:=by kernel_rfl
theorem cellsB:Tryz.prog.cellsOf 5=1:=by kernel_rfl
theorem calls (zs:List Int) (hz:∀ z,z∈zs->0<=z/\z<256):bF Tryz.prog 10 [Lt 1 (zs.map xH)] (oQ true):=by
 obtain ⟨n,hn⟩:=(T.ER hz).val
 exact F.bI hn
theorem met {W:World} (h:laidMetH Tryz.prog Rows.fnRunBatchNoneRow.laid W):laidMet Tryz.prog Rows.fnRunBatchNoneRow.laid W:=by
 unfold laidMetH at h
 rw [show (Rows.fnRunBatchNoneRow.laid.filter fun x=>x.2.handleName?.isSome)=[] from by kernel_rfl] at h
 exact h
theorem tabs {W:World} (hL:laidMetH Tryz.prog Rows.fnRunBatchNoneRow.laid W):Tabs Tryz.prog (I0 W):=by
 have h:=sD 2 (met hL)
 rw [show Rows.fnRunBatchNoneRow.laid.drop 2=("internal/strconv.uint64pow10",Lib.tabData .u64 Lib.pow10Tab)::Rows.fnRunBatchNoneRow.laid.drop 3 from by kernel_rfl] at h
 exact wG (g:=1) (t:=209) (e:=171) (by kernel_rfl) (by kernel_rfl) (by kernel_rfl) (by kernel_rfl) (by kernel_rfl) (by kernel_rfl) h
theorem contract (H:Type) (enc:TypeId × Value->H) (W:World) (base:Nat) (args:Array Value) (ds gs:List (DataW H)) (before:List MemPlace)
  (hval:∀ (j:Nat) t v,Tryz.f10.params[j]? = some t->args[j]? = some v->Value.okWide Tryz.prog W .any base t v)
  (hW:DataW.Whole enc Tryz.prog Tryz.f10.params.toList Rows.fnRunBatchNoneSpec.vars false W args.toList ds gs before)
  (hL:laidMetH Tryz.prog Rows.fnRunBatchNoneRow.laid W) :
  Calls Tryz.prog 10 args W fun e W'=>∃ v,e = .returned v/\Rows.fnRunBatchNoneSpec.post enc Tryz.prog Tryz.f10 false true false false W args v W':=by
 have hW':=hW
 obtain ⟨p,q,hA0,hV,rfl,hfz,hnd⟩:=hW
 have hA:DataW.TrodAll enc Tryz.prog W 0 (fun _=>true) true Tryz.f10.params.toList args.toList ds p:=hA0
 rw [Tryz.params10] at hA hval
 obtain ⟨v0,Xz,d0,ds0,p0,q0,hargs,rfl,rfl,h0,r0⟩:=trodAll_cons hA
 obtain ⟨rfl,rfl,rfl⟩:=trodAll_nil r0
 obtain rfl:args = #[v0]:=by cases args; simp_all
 obtain ⟨rfl,rfl⟩:=trodVars_none hV
 clear hA0
 simp only [List.append_nil] at hW'
 have hlt:∀ x∈p0,x.block<W.heap.size:=fun x hx=>by simpa using hW'.lt x hx
 refine (sW (enc:=enc) (tabs hL) Tryz.underlying22 Tryz.underlying5 cellsB (hval 0 22 v0 rfl rfl) h0 (fun zs _ hz=>calls zs hz)).mono fun e W' ⟨he,hb⟩ => ?_
 subst he
 have ht:DataW.TrodAll enc Tryz.prog W' 0 (fun b=>decide (b<W.heap.size)) true [22] [v0] [d0] (p0++[]):=trodAll_cons_mk (Below.trod laidOut (by kernel_rfl) (of_decide_eq_true (by kernel_rfl)) h0 hb hlt) trodAll_mk0
 rw [List.append_nil] at ht
 exact ⟨_,rfl,_,_,_,[],p0,[],hW',trodAll_cons_mk (shut_bool Tryz.underlying4 _) trodAll_mk0,
  ht,rfl,hb.frame _,fun h=>by cases h⟩
def tab (k:IntKind) (l:List Int):Obj->Obj
 | .cells _ t frozen => .cells (l.map fun n=>Value.int k n).toArray t frozen
 | o=>o
noncomputable def laidWorld (os:Os):World :=
 { World.holding Tryz.prog os ⟨#[],#[],[]⟩ with heap:=((((World.holding Tryz.prog os ⟨#[],#[],[]⟩).heap).modify 2 (tab .u8 [0,1,28,2,29,14,24,3,30,22,20,15,25,17,4,8,31,27,13,23,21,19,16,7,26,12,18,6,11,5,10,9])).modify 3 (tab .u8 [0,1,56,2,57,49,28,3,61,58,42,50,38,29,17,4,62,47,59,36,45,43,51,22,53,39,33,30,24,18,12,5,63,55,48,27,60,41,37,16,46,35,44,21,52,32,23,11,54,26,40,15,34,20,31,10,25,14,19,9,13,8,7,6])).modify 1 (tab .u64 [1,10,100,1000,10000,100000,1000000,10000000,100000000,1000000000,10000000000,100000000000,1000000000000,10000000000000,100000000000000,1000000000000000,10000000000000000,100000000000000000,1000000000000000000,10000000000000000000]) }
theorem laid_met (os:Os):laidMet Tryz.prog Rows.fnRunBatchNoneRow.laid ((laidWorld os).forCall (fun _ _=>0) ⟨#[],#[.slice none 0 0],[]⟩).memory :=
 laidMet_of_run' 80 (by kernel_rfl) (by kernel_rfl)
theorem reads (os:Os) {H:Type} (enc:TypeId × Value->H):∃ places,DataW.whole enc Tryz.prog ((laidWorld os).forCall (fun _ _=>0) ⟨#[],#[.slice none 0 0],[]⟩).memory Tryz.f10.params.toList Rows.fnRunBatchNoneSpec.vars false #[Value.slice none 0 0].toList 8=some ([.nil],[],places) :=
 ⟨[],by kernel_rfl⟩
theorem lifted (os:Os) (started:os.Started) (H:Type) (enc:TypeId × Value->H) (F:Stop.Interp) :
  ReturnsInHanded {} Tryz.checked os 10 .any ((OpenSpec.ofChange Rows.fnRunBatchNoneSpec).preRow enc Tryz.prog Tryz.f10 Rows.fnRunBatchNoneRow.domain false Rows.fnRunBatchNoneRow.laid) (((OpenSpec.ofChange Rows.fnRunBatchNoneSpec).at F).post enc Tryz.prog Tryz.f10 false true false false):=by
 obtain ⟨places,hx⟩:=reads os enc
 refine returnsInHanded_of_row (C:=Tryz.checked) (s:=OpenSpec.ofChange Rows.fnRunBatchNoneSpec) own started (by kernel_rfl) Tryz.func10
  (witness_row_at (enc:=enc) (C:=Tryz.checked) false (laidWorld os) #[.slice none 0 0] rfl (by kernel_rfl) (by kernel_rfl) (by kernel_rfl)
   (OpenSpec.preRow_of_cond 8 hx (by kernel_rfl) (fun k hk=>by cases hk) (by kernel_rfl) (laid_met os))) ?_
 intro W base args ds gs before hval hW _ _ _ hL _ _
 exact contract H enc W base args ds gs before hval hW hL
theorem j1:(Rows.fnRunBatchNoneRow.inPlace==Tryz.prog.inPlace 10)=true:=by kernel_rfl
theorem j2:(Rows.fnRunBatchNoneRow.unfollowed==Tryz.prog.unfollowed 10)=true:=by kernel_rfl
theorem j3:(Rows.fnRunBatchNoneRow.recurses==Tryz.prog.recurses 10)=true:=by kernel_rfl
theorem j4:(Rows.fnRunBatchNoneRow.named==Tryz.prog.varsNamed 10)=true:=by kernel_rfl
theorem j5:joinedFacts Tryz.prog 10 Tryz.f10 (OpenSpec.ofChange Rows.fnRunBatchNoneSpec).bare Rows.fnRunBatchNoneRow=true:=by
 unfold joinedFacts
 rw [j1,j2,j3,j4]
 kernel_rfl
theorem j6:Tryz.prog.funcNamed Rows.fnRunBatchNoneRow.func=some 10:=by kernel_rfl
theorem said:Rows.FnRunBatchNoneSaid :=
 OpenClaim.holds_of_cond 10 Tryz.f10 rfl rfl rfl rfl rfl rfl rfl ⟨rfl,rfl,rfl,rfl,rfl⟩ rfl rfl rfl rfl rfl j6 Tryz.func10 j5
  (of_decide_eq_true (by kernel_rfl)) (by unfold Func.isWrapper; first | (rw [if_pos (by decide +kernel)]; kernel_rfl) | (rw [if_neg (by decide +kernel)]; exact ⟨rfl,rfl⟩))
  (fun os started H enc _ F=>by rw [OpenClaim.pre_eq_preRow]; exact lifted os started H enc F)
theorem jw:Rows.fnRunBatchNoneRow.wfByText (OpenSpec.ofChange Rows.fnRunBatchNoneSpec)=true:=by kernel_rfl
theorem jm:Tryz.pinned.checked.prog.mainIs=some (Rows.fnRunBatchNoneCard.stood.harness.1,Rows.fnRunBatchNoneCard.stood.harness.2.toList):=by kernel_rfl
theorem jg:false=Rows.fnRunBatchNoneRow.goesBy Tryz.pinned.checked.prog:=by kernel_rfl
theorem plain (f:FuncId) (fn:Func) (hf:Tryz.pinned.checked.prog.funcNamed Rows.fnRunBatchNoneRow.func=some f) (hfn:Tryz.pinned.checked.prog.funcs[f]? = some fn) :
  false=Tryz.pinned.checked.prog.looks []/\∀ (j:Nat) t,fn.params[j]? = some t->Tryz.pinned.checked.prog.wantsStandIn t=false:=by
 obtain rfl:f=10:=Option.some.inj ((show Tryz.prog.funcNamed Rows.fnRunBatchNoneRow.func=some 10 by kernel_rfl).symm.trans hf) |>.symm
 obtain rfl:fn=Tryz.f10:=(Option.some.inj (Tryz.func10.symm.trans hfn)).symm
 refine ⟨by kernel_rfl,fun j t ht => ?_⟩
 rw [Tryz.params10] at ht
 obtain rfl:t=22:=by simpa using Array.mem_of_getElem? ht
 exact (show Tryz.prog.wantsStandIn 22=false by kernel_rfl)
theorem card:Rows.FnRunBatchNoneCardSaid :=
 Claim7.holds_tied_plain_at .later [] _ _ _ _ said (fun _ h=>by cases h) jw (fun _ h=>by cases h) fnRunBatchNone_row_tie rfl ⟨rfl,rfl⟩ jm rfl plain jg
end Go.Proofs.YtaejlonmildglaaGreatDoor.fnRunBatchNone
end
