/- The law FnRunRequestsOne of the package laws answers true for every code of bytes and leaves it as it is (part 1). Conditions: none but what the row lists. -/
import Derived.Test.YtaejlonmildglaaGreatDoorB4
set_option linter.unusedVariables false
set_option linter.unusedSimpArgs false
section
namespace Go.Ab
open Go
set_option maxRecDepth 100000
set_option maxHeartbeats 4000000
set_option linter.unusedVariables false
set_option linter.unusedSimpArgs false
def G.gz.K1 (f:Nat) (v1:StoreT × RequestT) (v2:StoreT × aj):Option (Bool):=match f with
| 0=>none
| n+1 =>
((G.dF n v1.1 [v1.2]).bind fun v12 =>
((G.aK n v12.1 v2.1).bind fun v13 =>
(cond v13
((G.aN n v12.2 [v2.2]).bind fun v14 =>
(some (v14)))
(some (false)))))
def G.gz (f:Nat) (dw:List Int):Option (Bool):=match f with
| 0=>none
| n+1 =>
(cond (decide (1048576<((dw.length:Nat):Int)))
(some (true))
((G.eX n dw).bind fun v1 =>
((G.aW n v1.1 v1.2).bind fun v2 =>
((G.dZ n v1.1 v1.2).bind fun v3 =>
((G.aK n v2.1 v3.1).bind fun v15 =>
(cond v15
((G.bG n v2.2 v3.2).bind fun v16 =>
(cond v16
(cond (v2.2.Status==400)
((G.aK n v2.1 v3.1).bind fun v17 =>
(cond v17
((G.bG n v2.2 v3.2).bind fun v18 =>
(some (v18)))
(some (false))))
(G.gz.K1 n v1 v2))
((G.aK n v2.1 v3.1).bind fun v19 =>
(cond v19
((G.bG n v2.2 v3.2).bind fun v20 =>
(some (v20)))
(some (false))))))
((G.aK n v2.1 v3.1).bind fun v21 =>
(cond v21
((G.bG n v2.2 v3.2).bind fun v22 =>
(some (v22)))
(some (false))))))))))
end Go.Ab
end
section
namespace Go.Ab
open Go
set_option maxRecDepth 100000
set_option maxHeartbeats 4000000
set_option linter.unusedVariables false
set_option linter.unusedSimpArgs false
def C.gz:aT:=(.seq (.reg [qB 2 false] [0]) (.seq (.seq (.reg [zM 11 0,qL 12 11,zA 13 (.bin .gtr (.t 12) (kI 1048576))] [0,13]) (.cond (.t 13) (.seq (.reg [qB 2 true] [2]) .ret) .skip)) (.seq (.reg [zM 15 0,q1 16 12 15,zM 14 16,qE 17 14 0,qE 18 14 1,zA 3 (.alloc 10 [.cO 7,fD 0]),zA 4 (.alloc 11 [fD 0,.c (.str []),.cO 1,.cO 1,fD 0,fD 0,.c (.str []),.cO 1,.cO 5,.cO 8]),qS 2 3 17,qS 10 4 18] [3,4]) (.seq (.reg [qT 20 2 3,qT 21 10 4,q2 22 13 20 21,zM 19 22,qE 23 19 0,qE 24 19 1,zA 5 (.alloc 12 [.cO 7,fD 0]),zA 6 (.alloc 13 [fD 0,.c (.str []),fD 0,fD 0,fD 0,.c (.str []),.cO 1,.cO 5]),qS 2 5 23,qS 8 6 24] [3,4,5,6]) (.seq (.reg [qT 26 2 3,qT 27 10 4,q2 28 14 26 27,zM 25 28,qE 29 25 0,qE 30 25 1,zA 7 (.alloc 14 [.cO 7,fD 0]),zA 8 (.alloc 15 [fD 0,.c (.str []),fD 0,fD 0,fD 0,.c (.str []),.cO 1,.cO 5]),qS 2 7 29,qS 8 8 30] [3,4,5,6,7,8]) (.cut (.seq (.reg [qT 31 2 5,qT 32 2 7,q2 33 15 31 32,qO 34 33,zM 35 34,zG 35 false 36 (.load true 8 (.t 6)),zG 35 false 37 (.load true 8 (.t 8)),⟨(some (35,false)),some 38,.call 16 [.t 36,.t 37]⟩,zG 35 false 39 (.not (.t 38)),qQ 40 35 39,zM 41 40,zG 41 false 42 (.eH 0 (.t 6)),zG 41 false 43 (.load false 1 (.t 42)),zG 41 false 44 (.bin .eql (.t 43) (kI 400)),qQ 45 41 44] [3,4,5,6,7,8,45]) (.cond (.t 45) (.seq (.reg [qT 46 2 5,qT 47 2 7,q2 48 15 46 47,zM 49 48,zG 49 true 50 (.load true 8 (.t 6)),zG 49 true 51 (.load true 8 (.t 8)),⟨(some (49,true)),some 52,.call 16 [.t 50,.t 51]⟩,qP 53 49 52,zM 2 53] [2]) .ret) .skip)) (.seq (.reg [qT 55 2 3,qT 56 10 4,zA 57 (.dJ 16 10 1 [.lit (.int .i64 0),.str [],.sl 1 [],.sl 1 [],.lit (.int .i64 0),.lit (.int .i64 0),.str [],.sl 1 [],.sl 5 [],.sl 8 []] [(0,.t 56)]),q2 58 22 55 57,zM 54 58,qE 59 54 0,qE 60 54 1,zA 9 (.alloc 17 [.cO 7,fD 0]),qS 2 9 59,zM 10 60] [5,6,9,10]) (.seq (.reg [qT 61 2 9,qT 62 2 5,q2 63 15 61 62,zM 64 63,zG 64 true 65 (.mv (.t 10)),zG 64 true 66 (.load true 8 (.t 6)),zG 64 true 67 (.dJ 18 8 1 [.lit (.int .i64 0),.str [],.lit (.int .i64 0),.lit (.int .i64 0),.lit (.int .i64 0),.str [],.sl 1 [],.sl 5 []] [(0,.t 66)]),⟨(some (64,true)),some 68,.call 23 [.t 65,.t 67]⟩,qP 69 64 68,zM 2 69] [2]) .ret))))))))
theorem K.gz:dR pZ 6 1 0 C.gz [.tmp 2]=true:=by kernel_rfl
end Go.Ab
end
section
namespace Go.Ab
open Go
set_option maxRecDepth 100000
theorem T.CP {c:List Int} (hc:Bytes c):Ev (fun f=>G.gz f c) true:=by
 refine Ev.up ?_
 simp only [G.gz]
 refine Ev.ite (fun _=>Ev.ret _) (fun e => ?_)
 obtain ⟨⟨s,q⟩,g,hs,hq⟩:=D.sH hc (by simp at e; omega)
 have hI:=T.vI hs hq
 have hS:=T.Aw hs hq
 obtain ⟨v1,v2⟩:=rW s q
 have es:=pz (qm v1)
 have er:=xg v2
 refine Ev.bind g (Ev.bind hI (Ev.bind hS (Ev.bind es (Ev.ct rfl (Ev.bind er (Ev.ct rfl (Ev.ite (fun _=>Qj) (fun e=>Ev.up ?_))))))))
 rcases EJ (s:=s) (q:=q) with ⟨h,_⟩ | ⟨hf,hr,h⟩
 ·rw [h] at e; cases e
 have hR:=T.dF hs (l:=[q]) ⟨by simp,fun x hx=>by rw [List.mem_singleton.1 hx]; exact hq⟩
 have hB:wo [q]=true:=by unfold wo; simp [vk.2 hr]
 have e1:wu s [q]=((l7 s q).1,[(l7 s q).2]):=by unfold wu; rw [nD.2 hf,hB]; rfl
 rw [e1] at hR
 have Z5:=uA (l:=[(l7 s q).2]) (by simp) (fun r hr=>by rw [List.mem_singleton.1 hr]; exact v2)
 simp only [G.gz.K1]
 exact Ev.bind hR (Ev.bind es (Ev.ct rfl (Ev.bind Z5 (Ev.ret _))))
end Go.Ab
end
section
namespace Go.Ab
open Go
set_option maxRecDepth 100000
set_option maxHeartbeats 4000000
set_option linter.unusedVariables false
set_option linter.unusedSimpArgs false
theorem F.gz {n:Nat} : ∀ {dw r},G.gz n dw=some r->bF pZ 6 [.one (.c (.sl 1 (List.map cU dw)))] (.one (.c (.lit (.bool r)))):=by
 intro dw r h
 refine aH K.gz (kK ?_)
 unfold C.gz
 rcases n with _ | n<;>simp only [G.gz,reduceCtorEq] at h
 have z:=pp (pp @F.eX <| pp @F.aW <| pp @F.dZ <| pp @F.aK <| pp @F.bG <| pp @F.dF <| pp @F.aN ()) <| pp () <| pp () <| pp (pp (@pq ((StoreT × RequestT) × (StoreT × aj)) _ (fun n x=>G.gz.K1 n x.1 x.2) r (fun x=>dB.of [eP 3 101,eP 4 102,eP 5 103,eP 6 104,(45,.v true (.one (.c (.lit (.bool false)))))] [(101,.var [.c (.sl 7 (List.map aA.cells x.1.1.Items)),wI x.1.1.Clock]),(102,.var [wI x.1.2.Method,wS x.1.2.Name,wT x.1.2.Want,wT x.1.2.lT,wI x.1.2.Body.Kind,wI x.1.2.Body.Num,wS x.1.2.Body.Text,wT x.1.2.Body.Names,wK x.1.2.Body.Kids,.c (.sl 8 (List.map nO.cells x.1.2.Ops))]),(103,.var [.c (.sl 7 (List.map aA.cells x.2.1.Items)),wI x.2.1.Clock]),(104,.var [wI x.2.2.Status,wS x.2.2.Tag,wI x.2.2.Version,wI x.2.2.Body.Kind,wI x.2.2.Body.Num,wS x.2.2.Body.Text,wT x.2.2.Body.Names,wK x.2.2.Body.Kids])])) ()) <| pp (pp (And.intro @G.gz.K1.eq_1 <| @G.gz.K1.eq_2) ()) <| pp (pp (@bf [] [(101,10),(102,11),(103,12),(104,13)] []) ()) <| ()
 exact lD
end Go.Ab
end
section
namespace Go.Proofs.YtaejlonmildglaaGreatDoor.fnRunRequestsOne
open Go Go.ChangeShapes Go.WideShapes Go.ChangeAt Go.RowKit Go.Ab
set_option maxRecDepth 100000
theorem own:ownKnob Tryz.prog.godebug=none:=by kernel_rfl
theorem laidOut:laidOutB Tryz.prog=true:=by kernel_rfl
theorem cellsB:Tryz.prog.cellsOf 5=1:=by kernel_rfl
theorem calls (zs:List Int) (hz:∀ z,z∈zs->0<=z/\z<256):bF Tryz.prog 6 [Lt 1 (zs.map xH)] (oQ true):=by
 obtain ⟨n,hn⟩:=(T.CP hz).val
 exact F.gz hn
theorem met {W:World} (h:laidMetH Tryz.prog Rows.fnRunRequestsOneRow.laid W):laidMet Tryz.prog Rows.fnRunRequestsOneRow.laid W:=by
 unfold laidMetH at h
 rw [show (Rows.fnRunRequestsOneRow.laid.filter fun x=>x.2.handleName?.isSome)=[] from by kernel_rfl] at h
 exact h
theorem tabs {W:World} (hL:laidMetH Tryz.prog Rows.fnRunRequestsOneRow.laid W):Tabs Tryz.prog (I0 W):=by
 have h:=sD 2 (met hL)
 rw [show Rows.fnRunRequestsOneRow.laid.drop 2=("internal/strconv.uint64pow10",Lib.tabData .u64 Lib.pow10Tab)::Rows.fnRunRequestsOneRow.laid.drop 3 from by kernel_rfl] at h
 exact wG (g:=1) (t:=209) (e:=171) (by kernel_rfl) (by kernel_rfl) (by kernel_rfl) (by kernel_rfl) (by kernel_rfl) (by kernel_rfl) h
theorem contract (H:Type) (enc:TypeId × Value->H) (W:World) (base:Nat) (args:Array Value) (ds gs:List (DataW H)) (before:List MemPlace)
  (hval:∀ (j:Nat) t v,Tryz.f6.params[j]? = some t->args[j]? = some v->Value.okWide Tryz.prog W .any base t v)
  (hW:DataW.Whole enc Tryz.prog Tryz.f6.params.toList Rows.fnRunRequestsOneSpec.vars false W args.toList ds gs before)
  (hL:laidMetH Tryz.prog Rows.fnRunRequestsOneRow.laid W) :
  Calls Tryz.prog 6 args W fun e W'=>∃ v,e = .returned v/\Rows.fnRunRequestsOneSpec.post enc Tryz.prog Tryz.f6 false true false false W args v W':=by
 have hW':=hW
 obtain ⟨p,q,hA0,hV,rfl,hfz,hnd⟩:=hW
 have hA:DataW.TrodAll enc Tryz.prog W 0 (fun _=>true) true Tryz.f6.params.toList args.toList ds p:=hA0
 rw [Tryz.params6] at hA hval
 obtain ⟨v0,Xz,d0,ds0,p0,q0,hargs,rfl,rfl,h0,r0⟩:=trodAll_cons hA
 obtain ⟨rfl,rfl,rfl⟩:=trodAll_nil r0
 obtain rfl:args = #[v0]:=by cases args; simp_all
 obtain ⟨rfl,rfl⟩:=trodVars_none hV
 clear hA0
 simp only [List.append_nil] at hW'
 have hlt:∀ x∈p0,x.block<W.heap.size:=fun x hx=>by simpa using hW'.lt x hx
 refine (sW (enc:=enc) (tabs hL) Tryz.underlying22 Tryz.underlying5 cellsB (hval 0 22 v0 rfl rfl) h0 (fun zs _ hz=>calls zs hz)).mono fun e W' ⟨he,hb⟩ => ?_
 subst he
 have ht:DataW.TrodAll enc Tryz.prog W' 0 (fun b=>decide (b<W.heap.size)) true [22] [v0] [d0] (p0++[]):=trodAll_cons_mk (Below.trod laidOut (by kernel_rfl) (of_decide_eq_true (by kernel_rfl)) h0 hb hlt) trodAll_mk0
 rw [List.append_nil] at ht
 exact ⟨_,rfl,_,_,_,[],p0,[],hW',trodAll_cons_mk (shut_bool Tryz.underlying4 _) trodAll_mk0,
  ht,rfl,hb.frame _,fun h=>by cases h⟩
def tab (k:IntKind) (l:List Int):Obj->Obj
 | .cells _ t frozen => .cells (l.map fun n=>Value.int k n).toArray t frozen
 | o=>o
noncomputable def laidWorld (os:Os):World :=
 { World.holding Tryz.prog os ⟨#[],#[],[]⟩ with heap:=((((World.holding Tryz.prog os ⟨#[],#[],[]⟩).heap).modify 2 (tab .u8 [0,1,28,2,29,14,24,3,30,22,20,15,25,17,4,8,31,27,13,23,21,19,16,7,26,12,18,6,11,5,10,9])).modify 3 (tab .u8 [0,1,56,2,57,49,28,3,61,58,42,50,38,29,17,4,62,47,59,36,45,43,51,22,53,39,33,30,24,18,12,5,63,55,48,27,60,41,37,16,46,35,44,21,52,32,23,11,54,26,40,15,34,20,31,10,25,14,19,9,13,8,7,6])).modify 1 (tab .u64 [1,10,100,1000,10000,100000,1000000,10000000,100000000,1000000000,10000000000,100000000000,1000000000000,10000000000000,100000000000000,1000000000000000,10000000000000000,100000000000000000,1000000000000000000,10000000000000000000]) }
theorem laid_met (os:Os):laidMet Tryz.prog Rows.fnRunRequestsOneRow.laid ((laidWorld os).forCall (fun _ _=>0) ⟨#[],#[.slice none 0 0],[]⟩).memory :=
 laidMet_of_run' 80 (by kernel_rfl) (by kernel_rfl)
theorem reads (os:Os) {H:Type} (enc:TypeId × Value->H):∃ places,DataW.whole enc Tryz.prog ((laidWorld os).forCall (fun _ _=>0) ⟨#[],#[.slice none 0 0],[]⟩).memory Tryz.f6.params.toList Rows.fnRunRequestsOneSpec.vars false #[Value.slice none 0 0].toList 8=some ([.nil],[],places) :=
 ⟨[],by kernel_rfl⟩
theorem lifted (os:Os) (started:os.Started) (H:Type) (enc:TypeId × Value->H) (F:Stop.Interp) :
  ReturnsInHanded {} Tryz.checked os 6 .any ((OpenSpec.ofChange Rows.fnRunRequestsOneSpec).preRow enc Tryz.prog Tryz.f6 Rows.fnRunRequestsOneRow.domain false Rows.fnRunRequestsOneRow.laid) (((OpenSpec.ofChange Rows.fnRunRequestsOneSpec).at F).post enc Tryz.prog Tryz.f6 false true false false):=by
 obtain ⟨places,hx⟩:=reads os enc
 refine returnsInHanded_of_row (C:=Tryz.checked) (s:=OpenSpec.ofChange Rows.fnRunRequestsOneSpec) own started (by kernel_rfl) Tryz.func6
  (witness_row_at (enc:=enc) (C:=Tryz.checked) false (laidWorld os) #[.slice none 0 0] rfl (by kernel_rfl) (by kernel_rfl) (by kernel_rfl)
   (OpenSpec.preRow_of_cond 8 hx (by kernel_rfl) (fun k hk=>by cases hk) (by kernel_rfl) (laid_met os))) ?_
 intro W base args ds gs before hval hW _ _ _ hL _ _
 exact contract H enc W base args ds gs before hval hW hL
theorem j1:(Rows.fnRunRequestsOneRow.inPlace==Tryz.prog.inPlace 6)=true:=by kernel_rfl
theorem j2:(Rows.fnRunRequestsOneRow.unfollowed==Tryz.prog.unfollowed 6)=true:=by kernel_rfl
theorem j3:(Rows.fnRunRequestsOneRow.recurses==Tryz.prog.recurses 6)=true:=by kernel_rfl
theorem j4:(Rows.fnRunRequestsOneRow.named==Tryz.prog.varsNamed 6)=true:=by kernel_rfl
theorem j5:joinedFacts Tryz.prog 6 Tryz.f6 (OpenSpec.ofChange Rows.fnRunRequestsOneSpec).bare Rows.fnRunRequestsOneRow=true:=by
 unfold joinedFacts
 rw [j1,j2,j3,j4]
 kernel_rfl
theorem j6:Tryz.prog.funcNamed Rows.fnRunRequestsOneRow.func=some 6:=by kernel_rfl
theorem said:Rows.FnRunRequestsOneSaid :=
 OpenClaim.holds_of_cond 6 Tryz.f6 rfl rfl rfl rfl rfl rfl rfl ⟨rfl,rfl,rfl,rfl,rfl⟩ rfl rfl rfl rfl rfl j6 Tryz.func6 j5
  (of_decide_eq_true (by kernel_rfl)) (by unfold Func.isWrapper; first | (rw [if_pos (by decide +kernel)]; kernel_rfl) | (rw [if_neg (by decide +kernel)]; exact ⟨rfl,rfl⟩))
  (fun os started H enc _ F=>by rw [OpenClaim.pre_eq_preRow]; exact lifted os started H enc F)
theorem jw:Rows.fnRunRequestsOneRow.wfByText (OpenSpec.ofChange Rows.fnRunRequestsOneSpec)=true:=by kernel_rfl
theorem jm:Tryz.pinned.checked.prog.mainIs=some (Rows.fnRunRequestsOneCard.stood.harness.1,Rows.fnRunRequestsOneCard.stood.harness.2.toList):=by kernel_rfl
theorem jg:false=Rows.fnRunRequestsOneRow.goesBy Tryz.pinned.checked.prog:=by kernel_rfl
theorem plain (f:FuncId) (fn:Func) (hf:Tryz.pinned.checked.prog.funcNamed Rows.fnRunRequestsOneRow.func=some f) (hfn:Tryz.pinned.checked.prog.funcs[f]? = some fn) :
  false=Tryz.pinned.checked.prog.looks []/\∀ (j:Nat) t,fn.params[j]? = some t->Tryz.pinned.checked.prog.wantsStandIn t=false:=by
 obtain rfl:f=6:=Option.some.inj ((show Tryz.prog.funcNamed Rows.fnRunRequestsOneRow.func=some 6 by kernel_rfl).symm.trans hf) |>.symm
 obtain rfl:fn=Tryz.f6:=(Option.some.inj (Tryz.func6.symm.trans hfn)).symm
 refine ⟨by kernel_rfl,fun j t ht => ?_⟩
 rw [Tryz.params6] at ht
 obtain rfl:t=22:=by simpa using Array.mem_of_getElem? ht
 exact (show Tryz.prog.wantsStandIn 22=false by kernel_rfl)
theorem card:Rows.FnRunRequestsOneCardSaid :=
 Claim7.holds_tied_plain_at .later [] _ _ _ _ said (fun _ h=>by cases h) jw (fun _ h=>by cases h) fnRunRequestsOne_row_tie rfl ⟨rfl,rfl⟩ jm rfl plain jg
end Go.Proofs.YtaejlonmildglaaGreatDoor.fnRunRequestsOne
end
