/- The law FnHandleRequestPatch of the package laws answers true for every code of bytes and leaves it as it is (part 1). Conditions: none but what the row lists. -/
import Derived.Test.YtaejlonmildglaaGreatDoorB4
set_option linter.unusedVariables false
set_option linter.unusedSimpArgs false
section
namespace Go.Ab
open Go
set_option maxRecDepth 100000
set_option maxHeartbeats 4000000
set_option linter.unusedVariables false
set_option linter.unusedSimpArgs false
def G.aX.K2 (f:Nat) (v14:aA × Bool) (v15:aA × Bool) (VS:Bool) (y1:Int) (y2:Int) (y3:aG) (y4:List aG) (y5:List af):Option (Bool):=match f with
| 0=>none
| n+1 =>
(cond v14.2
(cond v15.2
(cond VS
((G.gu n (af.mk y1 y2 y3 y4 y5) v15.1.Node).bind fun v18 =>
(some (v18)))
(some (false)))
(some (false)))
(some (false)))
def G.aX.K1 (f:Nat) (v1:StoreT × RequestT) (v2:StoreT × aj):Option (Bool):=match f with
| 0=>none
| n+1 =>
((G.ji n v1.1 v1.2.Name).bind fun v14 =>
((G.ji n v2.1 v1.2.Name).bind fun v15 =>
((G.jK n v14.1.Node v1.2.Ops).bind fun v16 =>
(cond (v1.2.Method==5)
((G.jZ n v14.1.Node v1.2.Body).bind fun v19 =>
(G.aX.K2 n v14 v15 v19.2 v19.1.Kind v19.1.Num v19.1.Text v19.1.Names v19.1.Kids))
(G.aX.K2 n v14 v15 v16.2 v16.1.Kind v16.1.Num v16.1.Text v16.1.Names v16.1.Kids)))))
def G.aX (f:Nat) (dw:List Int):Option (Bool):=match f with
| 0=>none
| n+1 =>
(cond (decide (1048576<((dw.length:Nat):Int)))
(some (true))
((G.eX n dw).bind fun v1 =>
((G.aW n v1.1 v1.2).bind fun v2 =>
((G.dZ n v1.1 v1.2).bind fun v3 =>
((G.aK n v2.1 v3.1).bind fun v20 =>
(cond v20
((G.bG n v2.2 v3.2).bind fun v21 =>
(cond v21
(cond (decide (v1.2.Method<4))
((G.aK n v2.1 v3.1).bind fun v22 =>
(cond v22
((G.bG n v2.2 v3.2).bind fun v23 =>
(some (v23)))
(some (false))))
(cond (v2.2.Status != 200)
((G.aK n v2.1 v3.1).bind fun v24 =>
(cond v24
((G.bG n v2.2 v3.2).bind fun v25 =>
(some (v25)))
(some (false))))
(G.aX.K1 n v1 v2)))
((G.aK n v2.1 v3.1).bind fun v26 =>
(cond v26
((G.bG n v2.2 v3.2).bind fun v27 =>
(some (v27)))
(some (false))))))
((G.aK n v2.1 v3.1).bind fun v28 =>
(cond v28
((G.bG n v2.2 v3.2).bind fun v29 =>
(some (v29)))
(some (false))))))))))
end Go.Ab
end
section
namespace Go.Ab
open Go
set_option maxRecDepth 100000
set_option maxHeartbeats 4000000
set_option linter.unusedVariables false
set_option linter.unusedSimpArgs false
def C.aX:aT:=(.seq (.reg [qB 2 false] [0]) (.seq (.seq (.reg [zM 15 0,qL 16 15,zA 17 (.bin .gtr (.t 16) (kI 1048576))] [0,17]) (.cond (.t 17) (.seq (.reg [qB 2 true] [2]) .ret) .skip)) (.seq (.reg [zM 19 0,q1 20 12 19,zM 18 20,qE 21 18 0,qE 22 18 1,zA 3 (.alloc 10 [.cO 7,fD 0]),zA 4 (.alloc 11 [fD 0,.c (.str []),.cO 1,.cO 1,fD 0,fD 0,.c (.str []),.cO 1,.cO 5,.cO 8]),qS 2 3 21,qS 10 4 22] [3,4]) (.seq (.reg [qT 24 2 3,qT 25 10 4,q2 26 13 24 25,zM 23 26,qE 27 23 0,qE 28 23 1,zA 5 (.alloc 12 [.cO 7,fD 0]),zA 6 (.alloc 13 [fD 0,.c (.str []),fD 0,fD 0,fD 0,.c (.str []),.cO 1,.cO 5]),qS 2 5 27,qS 8 6 28] [3,4,5,6]) (.seq (.reg [qT 30 2 3,qT 31 10 4,q2 32 14 30 31,zM 29 32,qE 33 29 0,qE 34 29 1,zA 7 (.alloc 14 [.cO 7,fD 0]),zA 8 (.alloc 15 [fD 0,.c (.str []),fD 0,fD 0,fD 0,.c (.str []),.cO 1,.cO 5]),qS 2 7 33,qS 8 8 34] [3,4,5,6,7,8]) (.cut (.seq (.reg [qT 35 2 5,qT 36 2 7,q2 37 15 35 36,qO 38 37,zM 39 38,zG 39 false 40 (.load true 8 (.t 6)),zG 39 false 41 (.load true 8 (.t 8)),⟨(some (39,false)),some 42,.call 16 [.t 40,.t 41]⟩,zG 39 false 43 (.not (.t 42)),qQ 44 39 43,zM 45 44,zG 45 false 46 (.eH 0 (.t 4)),zG 45 false 47 (.load false 1 (.t 46)),zG 45 false 48 (.bin .lss (.t 47) (kI 4)),qQ 49 45 48,zM 50 49,zG 50 false 51 (.eH 0 (.t 6)),zG 50 false 52 (.load false 1 (.t 51)),zG 50 false 53 (.bin .neq (.t 52) (kI 200)),qQ 54 50 53] [3,4,5,6,7,8,54]) (.cond (.t 54) (.seq (.reg [qT 55 2 5,qT 56 2 7,q2 57 15 55 56,zM 58 57,zG 58 true 59 (.load true 8 (.t 6)),zG 58 true 60 (.load true 8 (.t 8)),⟨(some (58,true)),some 61,.call 16 [.t 59,.t 60]⟩,qP 62 58 61,zM 2 62] [2]) .ret) .skip)) (.seq (.reg [qT 64 2 3,qA 65 1 4,qF 66 1 65,q2 67 19 64 66,zM 63 67,qE 68 63 0,qE 69 63 1,zA 9 (.alloc 16 [.c (.str []),fD 0,fD 0,fD 0,.c (.str []),.cO 1,.cO 5]),qS 7 9 68,zM 10 69] [4,5,9,10]) (.seq (.reg [qT 71 2 5,qA 72 1 4,qF 73 1 72,q2 74 19 71 73,zM 70 74,qE 75 70 0,qE 76 70 1,zA 11 (.alloc 17 [.c (.str []),fD 0,fD 0,fD 0,.c (.str []),.cO 1,.cO 5]),qS 7 11 75,zM 12 76] [4,9,10,11,12]) (.seq (.reg [qA 78 2 9,qT 79 5 78,qA 80 9 4,qF 81 1 80,q2 82 20 79 81,zM 77 82,qE 83 77 0,qE 84 77 1,qZ 13 18,qS 5 13 83,zM 14 84] [4,9,10,11,12,13,14]) (.cut (.seq (.reg [qA 85 0 4,qF 86 1 85,zA 87 (.bin .eql (.t 86) (kI 5))] [4,9,10,11,12,13,14,87]) (.cond (.t 87) (.reg [qA 89 2 9,qT 90 5 89,qA 91 4 4,qT 92 5 91,q2 93 21 90 92,zM 88 93,qE 94 88 0,qE 95 88 1,qS 5 13 94,zM 14 95] [10,11,12,13,14]) .skip)) (.seq (.reg [zM 96 10,zM 97 96,zG 97 true 98 (.mv (.t 12)),qP 99 97 98,zM 100 99,zG 100 true 101 (.mv (.t 14)),qP 102 100 101,zM 103 102,zG 103 true 104 (.load true 5 (.t 13)),zG 103 true 105 (.eH 2 (.t 11)),zG 103 true 106 (.load true 5 (.t 105)),⟨(some (103,true)),some 107,.call 17 [.t 104,.t 106]⟩,qP 108 103 107,zM 2 108] [2]) .ret)))))))))))
theorem K.aX:dR pZ 4 1 0 C.aX [.tmp 2]=true:=by kernel_rfl
end Go.Ab
end
section
namespace Go.Ab
open Go
set_option maxRecDepth 100000
theorem T.yU {c:List Int} (hc:Bytes c):Ev (fun f=>G.aX f c) true:=by
 refine Ev.up ?_
 simp only [G.aX]
 refine Ev.ite (fun _=>Ev.ret _) (fun e => ?_)
 obtain ⟨⟨s,q⟩,g,hs,hq⟩:=D.sH hc (by simp at e; omega)
 have hI:=T.vI hs hq
 have hS:=T.Aw hs hq
 obtain ⟨v1,v2⟩:=rW s q
 have es:=pz (qm v1)
 have er:=xg v2
 refine Ev.bind g (Ev.bind hI (Ev.bind hS (Ev.bind es (Ev.ct rfl (Ev.bind er (Ev.ct rfl (Ev.ite (fun _=>Qj) (fun e2=>Ev.ite (fun _=>Qj) (fun e3 => ?_)))))))))
 have e2:4<=q.Method:=by simpa using e2
 have e3:(l7 s q).2.Status=200:=by simpa using e3
 rcases EJ (s:=s) (q:=q) with ⟨h,_⟩ | ⟨hf,hr,h⟩
 ·rw [h] at e3; cases e3
 have hput:∃ it n m,qY s q.Name=some it/\yY it.Node q=some n/\vP s q.Name n=some m/\(l7 s q).1=m:=by
  clear hI hS es er g v1 v2
  generalize l7 s q=p at h e3
  cases h with
  | no c h1 h2=>exact absurd e3 h1
  | get it h1=>omega
  | drop it m h1=>omega
  | made m h1 h2 h3=>cases e3
  | put it n m h1 h2 h3 h4=>exact ⟨it,n,m,h2,h3,h4,rfl⟩
 obtain ⟨it,n,m,hg,hn,hp,hh⟩:=hput
 have hvn:=(ve hg).2.2.2
 have hv:=Nz (vk.2 hr) hn
 have hG:=T.ji q.Name lW hs
 have hG2:=T.ji q.Name lW (qm v1)
 rw [hg] at hG
 rw [hh,get_put hp] at hG2
 have hA:=T.jK lW (nU hvn) hq.ops
 obtain ⟨D,hD⟩:=hq.body
 have hM:=T.jZ (nU hvn) hD
 have K:Ev (fun f=>G.aX.K2 f (it,true) (aA.mk q.Name (s.Clock+1) n,true) true n.Kind n.Num n.Text n.Names n.Kids) true:=by
  refine Ev.up ?_
  simp only [G.aX.K2,af.eta]
  exact Ev.ct rfl (Ev.ct rfl (Ev.ct rfl (Ev.bind (A8 hv) (Ev.ret _))))
 refine Ev.up ?_
 simp only [G.aX.K1]
 rw [hh]
 unfold yY at hn
 have hi:=hr.hi
 refine Ev.bind hG (Ev.bind hG2 (Ev.bind hA (Ev.ite (fun e5 => ?_) (fun e5 => ?_))))
 ·have e5:q.Method=5:=by simpa using e5
  rw [if_neg (by omega),if_pos e5] at hn
  unfold Om at hn
  rw [hn] at hM
  exact Ev.bind hM K
 ·have e5:¬ q.Method=5:=by simpa using e5
  rw [if_pos (by omega)] at hn
  rw [hn]
  exact K
end Go.Ab
end
section
namespace Go.Ab
open Go
set_option maxRecDepth 100000
set_option maxHeartbeats 4000000
set_option linter.unusedVariables false
set_option linter.unusedSimpArgs false
theorem F.aX {n:Nat} : ∀ {dw r},G.aX n dw=some r->bF pZ 4 [.one (.c (.sl 1 (List.map cU dw)))] (.one (.c (.lit (.bool r)))):=by
 intro dw r h
 refine aH K.aX (kK ?_)
 unfold C.aX
 rcases n with _ | n<;>simp only [G.aX,reduceCtorEq] at h
 have:=Mk.mk 1; have:=Mk.mk 2
 have z:=pp (pp @F.eX <| pp @F.aW <| pp @F.dZ <| pp @F.aK <| pp @F.bG <| pp @F.ji <| pp @F.jK <| pp @F.jZ <| pp @F.gu ()) <| pp () <| pp () <| pp (pp (@pq ((StoreT × RequestT) × (StoreT × aj)) _ (fun n x=>G.aX.K1 n x.1 x.2) r (fun x=>dB.of [eP 3 101,eP 4 102,eP 5 103,eP 6 104,(54,.v true (.one (.c (.lit (.bool false)))))] [(101,.var [.c (.sl 7 (List.map aA.cells x.1.1.Items)),wI x.1.1.Clock]),(102,.var [wI x.1.2.Method,wS x.1.2.Name,wT x.1.2.Want,wT x.1.2.lT,wI x.1.2.Body.Kind,wI x.1.2.Body.Num,wS x.1.2.Body.Text,wT x.1.2.Body.Names,wK x.1.2.Body.Kids,.c (.sl 8 (List.map nO.cells x.1.2.Ops))]),(103,.var [.c (.sl 7 (List.map aA.cells x.2.1.Items)),wI x.2.1.Clock]),(104,.var [wI x.2.2.Status,wS x.2.2.Tag,wI x.2.2.Version,wI x.2.2.Body.Kind,wI x.2.2.Body.Num,wS x.2.2.Body.Text,wT x.2.2.Body.Names,wK x.2.2.Body.Kids])])) <| pp (@pq ((aA × Bool) × (aA × Bool) × Bool × Int × Int × aG × List aG × List af) _ (fun n x=>G.aX.K2 n x.1 x.2.1 x.2.2.1 x.2.2.2.1 x.2.2.2.2.1 x.2.2.2.2.2.1 x.2.2.2.2.2.2.1 x.2.2.2.2.2.2.2) r (fun x=>dB.of [(10,.v true (.one (.c (.lit (.bool x.1.2))))),eP 11 107,(12,.v true (.one (.c (.lit (.bool x.2.1.2))))),eP 13 108,(14,.v true (.one (.c (.lit (.bool x.2.2.1)))))] [(107,.var [wS x.2.1.1.Name,wI x.2.1.1.Version,wI x.2.1.1.Node.Kind,wI x.2.1.1.Node.Num,wS x.2.1.1.Node.Text,wT x.2.1.1.Node.Names,wK x.2.1.1.Node.Kids]),(108,.var [wI x.2.2.2.1,wI x.2.2.2.2.1,wS x.2.2.2.2.2.1,wT x.2.2.2.2.2.2.1,wK x.2.2.2.2.2.2.2])])) ()) <| pp (pp (And.intro @G.aX.K1.eq_1 <| And.intro @G.aX.K1.eq_2 <| And.intro @G.aX.K2.eq_1 <| @G.aX.K2.eq_2) ()) <| pp (pp (@bf [] [(101,10),(102,11),(103,12),(104,13)] []) <| pp (@bf [] [(107,17),(108,18)] []) ()) <| pp () <| (pp (pp (rfl : @G.aX.K1=_) ()) <| pp (pp (rfl : @G.aX.K2=_) <| pp (rfl : @G.aX.K1=_) ()) ())
 exact Ht
end Go.Ab
end
section
namespace Go.Proofs.YtaejlonmildglaaGreatDoor.fnHandleRequestPatch
open Go Go.ChangeShapes Go.WideShapes Go.ChangeAt Go.RowKit Go.Ab
set_option maxRecDepth 100000
theorem own:ownKnob Tryz.prog.godebug=none:=by kernel_rfl
theorem laidOut:laidOutB Tryz.prog=true:=by kernel_rfl
theorem cellsB:Tryz.prog.cellsOf 5=1:=by kernel_rfl
theorem calls (zs:List Int) (hz:∀ z,z∈zs->0<=z/\z<256):bF Tryz.prog 4 [Lt 1 (zs.map xH)] (oQ true):=by
 obtain ⟨n,hn⟩:=(T.yU hz).val
 exact F.aX hn
theorem met {W:World} (h:laidMetH Tryz.prog Rows.fnHandleRequestPatchRow.laid W):laidMet Tryz.prog Rows.fnHandleRequestPatchRow.laid W:=by
 unfold laidMetH at h
 rw [show (Rows.fnHandleRequestPatchRow.laid.filter fun x=>x.2.handleName?.isSome)=[] from by kernel_rfl] at h
 exact h
theorem tabs {W:World} (hL:laidMetH Tryz.prog Rows.fnHandleRequestPatchRow.laid W):Tabs Tryz.prog (I0 W):=by
 have h:=sD 2 (met hL)
 rw [show Rows.fnHandleRequestPatchRow.laid.drop 2=("internal/strconv.uint64pow10",Lib.tabData .u64 Lib.pow10Tab)::Rows.fnHandleRequestPatchRow.laid.drop 3 from by kernel_rfl] at h
 exact wG (g:=1) (t:=209) (e:=171) (by kernel_rfl) (by kernel_rfl) (by kernel_rfl) (by kernel_rfl) (by kernel_rfl) (by kernel_rfl) h
theorem contract (H:Type) (enc:TypeId × Value->H) (W:World) (base:Nat) (args:Array Value) (ds gs:List (DataW H)) (before:List MemPlace)
  (hval:∀ (j:Nat) t v,Tryz.f4.params[j]? = some t->args[j]? = some v->Value.okWide Tryz.prog W .any base t v)
  (hW:DataW.Whole enc Tryz.prog Tryz.f4.params.toList Rows.fnHandleRequestPatchSpec.vars false W args.toList ds gs before)
  (hL:laidMetH Tryz.prog Rows.fnHandleRequestPatchRow.laid W) :
  Calls Tryz.prog 4 args W fun e W'=>∃ v,e = .returned v/\Rows.fnHandleRequestPatchSpec.post enc Tryz.prog Tryz.f4 false true false false W args v W':=by
 have hW':=hW
 obtain ⟨p,q,hA0,hV,rfl,hfz,hnd⟩:=hW
 have hA:DataW.TrodAll enc Tryz.prog W 0 (fun _=>true) true Tryz.f4.params.toList args.toList ds p:=hA0
 rw [Tryz.params4] at hA hval
 obtain ⟨v0,Xz,d0,ds0,p0,q0,hargs,rfl,rfl,h0,r0⟩:=trodAll_cons hA
 obtain ⟨rfl,rfl,rfl⟩:=trodAll_nil r0
 obtain rfl:args = #[v0]:=by cases args; simp_all
 obtain ⟨rfl,rfl⟩:=trodVars_none hV
 clear hA0
 simp only [List.append_nil] at hW'
 have hlt:∀ x∈p0,x.block<W.heap.size:=fun x hx=>by simpa using hW'.lt x hx
 refine (sW (enc:=enc) (tabs hL) Tryz.underlying22 Tryz.underlying5 cellsB (hval 0 22 v0 rfl rfl) h0 (fun zs _ hz=>calls zs hz)).mono fun e W' ⟨he,hb⟩ => ?_
 subst he
 have ht:DataW.TrodAll enc Tryz.prog W' 0 (fun b=>decide (b<W.heap.size)) true [22] [v0] [d0] (p0++[]):=trodAll_cons_mk (Below.trod laidOut (by kernel_rfl) (of_decide_eq_true (by kernel_rfl)) h0 hb hlt) trodAll_mk0
 rw [List.append_nil] at ht
 exact ⟨_,rfl,_,_,_,[],p0,[],hW',trodAll_cons_mk (shut_bool Tryz.underlying4 _) trodAll_mk0,
  ht,rfl,hb.frame _,fun h=>by cases h⟩
def tab (k:IntKind) (l:List Int):Obj->Obj
 | .cells _ t frozen => .cells (l.map fun n=>Value.int k n).toArray t frozen
 | o=>o
noncomputable def laidWorld (os:Os):World :=
 { World.holding Tryz.prog os ⟨#[],#[],[]⟩ with heap:=((((World.holding Tryz.prog os ⟨#[],#[],[]⟩).heap).modify 2 (tab .u8 [0,1,28,2,29,14,24,3,30,22,20,15,25,17,4,8,31,27,13,23,21,19,16,7,26,12,18,6,11,5,10,9])).modify 3 (tab .u8 [0,1,56,2,57,49,28,3,61,58,42,50,38,29,17,4,62,47,59,36,45,43,51,22,53,39,33,30,24,18,12,5,63,55,48,27,60,41,37,16,46,35,44,21,52,32,23,11,54,26,40,15,34,20,31,10,25,14,19,9,13,8,7,6])).modify 1 (tab .u64 [1,10,100,1000,10000,100000,1000000,10000000,100000000,1000000000,10000000000,100000000000,1000000000000,10000000000000,100000000000000,1000000000000000,10000000000000000,100000000000000000,1000000000000000000,10000000000000000000]) }
theorem laid_met (os:Os):laidMet Tryz.prog Rows.fnHandleRequestPatchRow.laid ((laidWorld os).forCall (fun _ _=>0) ⟨#[],#[.slice none 0 0],[]⟩).memory :=
 laidMet_of_run' 80 (by kernel_rfl) (by kernel_rfl)
theorem reads (os:Os) {H:Type} (enc:TypeId × Value->H):∃ places,DataW.whole enc Tryz.prog ((laidWorld os).forCall (fun _ _=>0) ⟨#[],#[.slice none 0 0],[]⟩).memory Tryz.f4.params.toList Rows.fnHandleRequestPatchSpec.vars false #[Value.slice none 0 0].toList 8=some ([.nil],[],places) :=
 ⟨[],by kernel_rfl⟩
theorem lifted (os:Os) (started:os.Started) (H:Type) (enc:TypeId × Value->H) (F:Stop.Interp) :
  ReturnsInHanded {} Tryz.checked os 4 .any ((OpenSpec.ofChange Rows.fnHandleRequestPatchSpec).preRow enc Tryz.prog Tryz.f4 Rows.fnHandleRequestPatchRow.domain false Rows.fnHandleRequestPatchRow.laid) (((OpenSpec.ofChange Rows.fnHandleRequestPatchSpec).at F).post enc Tryz.prog Tryz.f4 false true false false):=by
 obtain ⟨places,hx⟩:=reads os enc
 refine returnsInHanded_of_row (C:=Tryz.checked) (s:=OpenSpec.ofChange Rows.fnHandleRequestPatchSpec) own started (by kernel_rfl) Tryz.func4
  (witness_row_at (enc:=enc) (C:=Tryz.checked) false (laidWorld os) #[.slice none 0 0] rfl (by kernel_rfl) (by kernel_rfl) (by kernel_rfl)
   (OpenSpec.preRow_of_cond 8 hx (by kernel_rfl) (fun k hk=>by cases hk) (by kernel_rfl) (laid_met os))) ?_
 intro W base args ds gs before hval hW _ _ _ hL _ _
 exact contract H enc W base args ds gs before hval hW hL
theorem j1:(Rows.fnHandleRequestPatchRow.inPlace==Tryz.prog.inPlace 4)=true:=by kernel_rfl
theorem j2:(Rows.fnHandleRequestPatchRow.unfollowed==Tryz.prog.unfollowed 4)=true:=by kernel_rfl
theorem j3:(Rows.fnHandleRequestPatchRow.recurses==Tryz.prog.recurses 4)=true:=by kernel_rfl
theorem j4:(Rows.fnHandleRequestPatchRow.named==Tryz.prog.varsNamed 4)=true:=by kernel_rfl
theorem j5:joinedFacts Tryz.prog 4 Tryz.f4 (OpenSpec.ofChange Rows.fnHandleRequestPatchSpec).bare Rows.fnHandleRequestPatchRow=true:=by
 unfold joinedFacts
 rw [j1,j2,j3,j4]
 kernel_rfl
theorem j6:Tryz.prog.funcNamed Rows.fnHandleRequestPatchRow.func=some 4:=by kernel_rfl
theorem said:Rows.FnHandleRequestPatchSaid :=
 OpenClaim.holds_of_cond 4 Tryz.f4 rfl rfl rfl rfl rfl rfl rfl ⟨rfl,rfl,rfl,rfl,rfl⟩ rfl rfl rfl rfl rfl j6 Tryz.func4 j5
  (of_decide_eq_true (by kernel_rfl)) (by unfold Func.isWrapper; first | (rw [if_pos (by decide +kernel)]; kernel_rfl) | (rw [if_neg (by decide +kernel)]; exact ⟨rfl,rfl⟩))
  (fun os started H enc _ F=>by rw [OpenClaim.pre_eq_preRow]; exact lifted os started H enc F)
theorem jw:Rows.fnHandleRequestPatchRow.wfByText (OpenSpec.ofChange Rows.fnHandleRequestPatchSpec)=true:=by kernel_rfl
theorem jm:Tryz.pinned.checked.prog.mainIs=some (Rows.fnHandleRequestPatchCard.stood.harness.1,Rows.fnHandleRequestPatchCard.stood.harness.2.toList):=by kernel_rfl
theorem jg:false=Rows.fnHandleRequestPatchRow.goesBy Tryz.pinned.checked.prog:=by kernel_rfl
theorem plain (f:FuncId) (fn:Func) (hf:Tryz.pinned.checked.prog.funcNamed Rows.fnHandleRequestPatchRow.func=some f) (hfn:Tryz.pinned.checked.prog.funcs[f]? = some fn) :
  false=Tryz.pinned.checked.prog.looks []/\∀ (j:Nat) t,fn.params[j]? = some t->Tryz.pinned.checked.prog.wantsStandIn t=false:=by
 obtain rfl:f=4:=Option.some.inj ((show Tryz.prog.funcNamed Rows.fnHandleRequestPatchRow.func=some 4 by kernel_rfl).symm.trans hf) |>.symm
 obtain rfl:fn=Tryz.f4:=(Option.some.inj (Tryz.func4.symm.trans hfn)).symm
 refine ⟨by kernel_rfl,fun j t ht => ?_⟩
 rw [Tryz.params4] at ht
 obtain rfl:t=22:=by simpa using Array.mem_of_getElem? ht
 exact (show Tryz.prog.wantsStandIn 22=false by kernel_rfl)
theorem card:Rows.FnHandleRequestPatchCardSaid :=
 Claim7.holds_tied_plain_at .later [] _ _ _ _ said (fun _ h=>by cases h) jw (fun _ h=>by cases h) fnHandleRequestPatch_row_tie rfl ⟨rfl,rfl⟩ jm rfl plain jg
end Go.Proofs.YtaejlonmildglaaGreatDoor.fnHandleRequestPatch
end
