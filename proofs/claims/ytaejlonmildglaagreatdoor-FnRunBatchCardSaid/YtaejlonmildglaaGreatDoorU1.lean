/- The law FnRunBatch of the package laws answers true for every code of bytes and leaves it as it is (part 1). Conditions: none but what the row lists. -/
import Derived.Test.YtaejlonmildglaaGreatDoorB4
set_option linter.unusedVariables false
set_option linter.unusedSimpArgs false
section
namespace Go.Ab
open Go
set_option maxRecDepth 100000
set_option maxHeartbeats 4000000
set_option linter.unusedVariables false
set_option linter.unusedSimpArgs false
def G.dn.K2 (f:Nat) (v1:StoreT × List RequestT) (v2:StoreT × List aj × Bool) (zL:Bool) (QM:Bool):Option (Bool):=match f with
| 0=>none
| n+1 =>
((G.dF n v1.1 v1.2).bind fun v10 =>
(cond zL
((G.aK n v10.1 v2.1).bind fun v11 =>
(cond v11
((G.aN n v10.2 v2.2.1).bind fun v12 =>
(some (v12)))
(some (false))))
(chk (0<=(IntKind.wrap .i64 (((v2.2.1.length:Nat):Int)-1))/\(IntKind.wrap .i64 (((v2.2.1.length:Nat):Int)-1))<((v2.2.1.length:Nat):Int))
((G.aK n v2.1 v1.1).bind fun v13 =>
(cond v13
(cond (decide (((v2.2.1.length:Nat):Int)<=((v10.2.length:Nat):Int)))
(chk (0<=0/\0<=((v2.2.1.length:Nat):Int)/\((v2.2.1.length:Nat):Int)<=((v10.2.length:Nat):Int))
((G.aN n (v10.2.take v2.2.1.length) v2.2.1).bind fun v14 =>
(cond v14
(cond ((v2.2.1.getD (IntKind.wrap .i64 (((v2.2.1.length:Nat):Int)-1)).toNat default).Status != 200)
(some (((v2.2.1.getD (IntKind.wrap .i64 (((v2.2.1.length:Nat):Int)-1)).toNat default).Status != 201)))
(some (false)))
(some (false)))))
(some (false)))
(some (false)))))))
def G.dn.K3 (f:Nat) (v1:StoreT × List RequestT) (v2:StoreT × List aj × Bool) (v3:StoreT × List aj × Bool) (BR:Bool) (uO:Bool) (dH:Bool):Option (Bool):=match f with
| 0=>none
| n+1 =>
(cond dH
((G.aK n v2.1 v3.1).bind fun v17 =>
(cond v17
((G.aN n v2.2.1 v3.2.1).bind fun v18 =>
(cond v18
(cond BR
(cond uO
(some (true))
(some (false)))
(cond uO
(some (false))
(some (true))))
(some (false))))
(some (false))))
(G.dn.K2 n v1 v2 BR uO))
def G.dn (f:Nat) (dw:List Int):Option (Bool):=match f with
| 0=>none
| n+1 =>
(cond (decide (1048576<((dw.length:Nat):Int)))
(some (true))
((G.dY n dw).bind fun v1 =>
((G.fQ n v1.1 v1.2).bind fun v2 =>
((G.gY n v1.1 v1.2).bind fun v3 =>
((G.aK n v2.1 v3.1).bind fun v19 =>
(cond v19
((G.aN n v2.2.1 v3.2.1).bind fun v20 =>
(cond v20
(cond v2.2.2
(cond v3.2.2
(G.dn.K3 n v1 v2 v3 true true false)
(G.dn.K3 n v1 v2 v3 true false true))
(cond v3.2.2
(G.dn.K3 n v1 v2 v3 false true true)
(G.dn.K3 n v1 v2 v3 false false (((v2.2.1.length:Nat):Int)==0))))
(G.dn.K3 n v1 v2 v3 v2.2.2 v3.2.2 true)))
(G.dn.K3 n v1 v2 v3 v2.2.2 v3.2.2 true)))))))
end Go.Ab
end
section
namespace Go.Ab
open Go
set_option maxRecDepth 100000
set_option maxHeartbeats 4000000
set_option linter.unusedVariables false
set_option linter.unusedSimpArgs false
def C.dn:aT:=(.seq (.reg [qB 2 false] [0]) (.seq (.seq (.reg [zM 15 0,qL 16 15,zA 17 (.bin .gtr (.t 16) (kI 1048576))] [0,17]) (.cond (.t 17) (.seq (.reg [qB 2 true] [2]) .ret) .skip)) (.seq (.reg [zM 19 0,q1 20 26 19,zM 18 20,qE 21 18 0,qE 22 18 1,zA 3 (.alloc 10 [.cO 7,fD 0]),qS 2 3 21,zM 4 22] [3,4]) (.seq (.reg [qT 24 2 3,zM 25 4,q2 26 27 24 25,zM 23 26,qE 27 23 0,qE 28 23 1,qE 29 23 2,zA 5 (.alloc 11 [.cO 7,fD 0]),qS 2 5 27,zM 6 28,zM 7 29] [3,4,5,6,7]) (.seq (.reg [qT 31 2 3,zM 32 4,q2 33 28 31 32,zM 30 33,qE 34 30 0,qE 35 30 1,qE 36 30 2,zA 8 (.alloc 12 [.cO 7,fD 0]),qS 2 8 34,zM 9 35,zM 10 36] [3,4,5,6,7,8,9,10]) (.cut (.cut (.reg [qT 37 2 5,qT 38 2 8,q2 39 15 37 38,qO 40 39,zM 41 40,zG 41 false 42 (.mv (.t 6)),zG 41 false 43 (.mv (.t 9)),⟨(some (41,false)),some 44,.call 23 [.t 42,.t 43]⟩,zG 41 false 45 (.not (.t 44)),qQ 46 41 45,zM 47 46,zG 47 false 48 (.mv (.t 7)),zG 47 false 49 (.mv (.t 10)),zG 47 false 50 (.beq true (.t 48) (.t 49)),qQ 51 47 50,zM 52 51,zG 52 false 53 (.mv (.t 7)),zG 52 false 54 (.not (.t 53)),zG 52 false 55 (.mv (.t 54)),zG 55 true 56 (.mv (.t 6)),zG 55 true 57 (.len (.t 56)),zG 55 true 58 (.bin .eql (.t 57) (kI 0)),zG 52 false 59 (.pick (.t 55) (.t 58) (kB false)),qQ 60 52 59] [3,4,5,6,7,8,9,10,60]) (.cond (.t 60) (.seq (.reg [qT 61 2 5,qT 62 2 8,q2 63 15 61 62,zM 64 63,zG 64 true 65 (.mv (.t 6)),zG 64 true 66 (.mv (.t 9)),⟨(some (64,true)),some 67,.call 23 [.t 65,.t 66]⟩,qP 68 64 67,zM 69 68,zG 69 true 70 (.mv (.t 7)),zG 69 true 71 (.mv (.t 10)),zG 69 true 72 (.beq false (.t 70) (.t 71)),qP 73 69 72,zM 2 73] [2]) .ret) .skip)) (.seq (.reg [qT 75 2 3,zM 76 4,q2 77 22 75 76,zM 74 77,qE 78 74 0,qE 79 74 1,zA 11 (.alloc 13 [.cO 7,fD 0]),qS 2 11 78,zM 12 79] [3,5,6,7,11,12]) (.seq (.seq (.reg [zM 80 7] [3,5,6,11,12,80]) (.cond (.t 80) (.seq (.reg [qT 81 2 11,qT 82 2 5,q2 83 15 81 82,zM 84 83,zG 84 true 85 (.mv (.t 12)),zG 84 true 86 (.mv (.t 6)),⟨(some (84,true)),some 87,.call 23 [.t 85,.t 86]⟩,qP 88 84 87,zM 2 88] [2]) .ret) .skip)) (.seq (.reg [zM 89 6,qL 90 89,zM 13 90] [3,5,6,12,13]) (.seq (.reg [zM 91 6,zM 92 13,zA 93 (.bin .sub (.t 92) (kI 1)),qD 94 8 91 93,qA 95 0 94,qF 96 1 95,zM 14 96] [3,5,6,12,13,14]) (.seq (.reg [qT 97 2 5,qT 98 2 3,q2 99 15 97 98,zM 100 99,zG 100 true 101 (.mv (.t 13)),zG 100 true 102 (.mv (.t 12)),zG 100 true 103 (.len (.t 102)),zG 100 true 104 (.bin .leq (.t 101) (.t 103)),qP 105 100 104,zM 106 105,zG 106 true 107 (.mv (.t 12)),zG 106 true 108 (.mv (.t 13)),zG 106 true 109 (.uS 8 (.t 107) none (some (.t 108))),zG 106 true 110 (.mv (.t 6)),⟨(some (106,true)),some 111,.call 23 [.t 109,.t 110]⟩,qP 112 106 111,zM 113 112,zG 113 true 114 (.mv (.t 14)),zG 113 true 115 (.bin .neq (.t 114) (kI 200)),qP 116 113 115,zM 117 116,zG 117 true 118 (.mv (.t 14)),zG 117 true 119 (.bin .neq (.t 118) (kI 201)),qP 120 117 119,zM 2 120] [2]) .ret)))))))))))
theorem K.dn:dR pZ 8 1 0 C.dn [.tmp 2]=true:=by kernel_rfl
end Go.Ab
end
section
namespace Go.Ab
open Go
set_option maxRecDepth 100000
theorem T.KJ {c:List Int} (hc:Bytes c):Ev (fun f=>G.dn f c) true:=by
  refine Ev.up ?_
  simp only [G.dn]
  refine Ev.ite (fun _=>Ev.ret _) (fun e => ?_)
  obtain ⟨⟨s,l⟩,g,hs,hl⟩:=D.yK hc (by simp at e; omega)
  have hI:=T.fQ hs hl
  have hS:=T.gY hs hl
  obtain ⟨v1,v2,v3⟩:=Vl (s:=s) hl
  have es:=pz (qm v1)
  have er:=uA v3 v2
  have hR:=T.dF hs hl
  refine Ev.bind g (Ev.bind hI (Ev.bind hS (Ev.bind es (Ev.ct rfl (Ev.bind er (Ev.ct rfl ?_))))))
  cases hv:uj s&&wo l with
  | false =>
    rw [NR hv] at es er ⊢
    refine Ev.cf rfl (Ev.cf rfl (Ev.up ?_))
    simp only [G.dn.K3]
    exact Ev.ct rfl (Ev.bind es (Ev.ct rfl (Ev.bind er (Ev.ct rfl (Ev.cf rfl (Ev.cf rfl (Ev.ret _)))))))
  | true =>
    obtain ⟨h1,h2⟩:=Bool.and_eq_true_iff.1 hv
    have u1:wu s l=runM s l:=by unfold wu; rw [hv]; rfl
    rw [u1] at hR
    have hll:l.length<=1000:=hl.len
    obtain ⟨q1,q2,q3⟩:=yD (l:=l) h1
    rcases C9 (l:=l) (s:=s) with ⟨a1,a2,a3⟩ | ⟨a1,a2,a,r,b,a3,a4,a5⟩
    · have eB:yM s l=((runM s l).1,(runM s l).2,true):=by rw [yC h1 h2,a1,a3]; rfl
      rw [eB] at es er ⊢
      refine Ev.ct rfl (Ev.ct rfl (Ev.up ?_))
      simp only [G.dn.K3]
      refine Ev.cf rfl (Ev.up ?_)
      simp only [G.dn.K2]
      exact Ev.bind hR (Ev.ct rfl (Ev.bind es (Ev.ct rfl (Ev.bind er (Ev.ret _)))))
    · have eB:yM s l=(s,a++[r],false):=by rw [yC h1 h2,a1,a3]; rfl
      rw [eB] at es er v3 ⊢
      have v3:(a++[r]).length<=1000:=v3
      have hlen:(a++[r]).length=a.length+1:=by simp
      refine Ev.cf rfl (Ev.cf rfl (Ev.up ?_))
      simp only [G.dn.K3]
      refine Ev.cf (by rw [hlen]; simp; omega) (Ev.up ?_)
      have w:IntKind.wrap .i64 (((a.length+1:Nat):Int)-1)=((a.length:Nat):Int):=wrapN (by omega) (by omega)
      rw [hlen] at v3
      have tk:((runM s l).2.take (a.length+1))=a++[r]:=by rw [a5,<- hlen,List.take_left]
      have ml:a.length+1<=(runM s l).2.length:=by rw [a5,List.length_append,hlen]; omega
      have gl:(a++[r]).getD a.length default=r:=by simp [List.getD]
      have ng:r.Status ≠ 200/\r.Status ≠ 201:=by
        unfold good at a4
        simpa using a4
      simp only [G.dn.K2,hlen,w,Int.toNat_natCast,gl]
      refine Ev.bind hR (Ev.cf rfl (Ev.chk (by omega) (Ev.bind es (Ev.ct rfl (Ev.ct (decide_eq_true (by omega)) (Ev.chk (by omega) ?_))))))
      rw [tk]
      exact Ev.bind er (Ev.ct rfl (Ev.ct (by simpa using ng.1) (Ev.ret' (by simpa using ng.2))))
end Go.Ab
end
section
namespace Go.Ab
open Go
set_option maxRecDepth 100000
set_option maxHeartbeats 4000000
set_option linter.unusedVariables false
set_option linter.unusedSimpArgs false
theorem F.dn {n:Nat} : ∀ {dw r},G.dn n dw=some r->bF pZ 8 [.one (.c (.sl 1 (List.map cU dw)))] (.one (.c (.lit (.bool r)))):=by
 intro dw r h
 refine aH K.dn (kK ?_)
 unfold C.dn
 rcases n with _ | n<;>simp only [G.dn,reduceCtorEq] at h
 have:=Mk.mk 1; have:=Mk.mk 2
 have z:=pp (pp @F.dY <| pp @F.fQ <| pp @F.gY <| pp @F.aK <| pp @F.aN <| pp @F.dF ()) <| pp () <| pp () <| pp (pp (@pq ((StoreT × List RequestT) × (StoreT × List aj × Bool) × Bool × Bool) _ (fun n x=>G.dn.K2 n x.1 x.2.1 x.2.2.1 x.2.2.2) r (fun x=>dB.of [eP 3 104,(4,.v true (.one (.c (.sl 10 (List.map RequestT.cells x.1.2))))),eP 5 105,(6,.v true (.one (.c (.sl 8 (List.map aj.cells x.2.1.2.1))))),(7,.v true (.one (.c (.lit (.bool x.2.2.1))))),(10,.v true (.one (.c (.lit (.bool x.2.2.2))))),(60,.v true (.one (.c (.lit (.bool false)))))] [(104,.var [.c (.sl 7 (List.map aA.cells x.1.1.Items)),wI x.1.1.Clock]),(105,.var [.c (.sl 7 (List.map aA.cells x.2.1.1.Items)),wI x.2.1.1.Clock])])) <| pp (@pq ((StoreT × List RequestT) × (StoreT × List aj × Bool) × (StoreT × List aj × Bool) × Bool × Bool × Bool) _ (fun n x=>G.dn.K3 n x.1 x.2.1 x.2.2.1 x.2.2.2.1 x.2.2.2.2.1 x.2.2.2.2.2) r (fun x=>dB.of [eP 3 107,(4,.v true (.one (.c (.sl 10 (List.map RequestT.cells x.1.2))))),eP 5 108,(6,.v true (.one (.c (.sl 8 (List.map aj.cells x.2.1.2.1))))),(7,.v true (.one (.c (.lit (.bool x.2.2.2.1))))),eP 8 109,(9,.v true (.one (.c (.sl 8 (List.map aj.cells x.2.2.1.2.1))))),(10,.v true (.one (.c (.lit (.bool x.2.2.2.2.1))))),(60,.v true (.one (.c (.lit (.bool x.2.2.2.2.2)))))] [(107,.var [.c (.sl 7 (List.map aA.cells x.1.1.Items)),wI x.1.1.Clock]),(108,.var [.c (.sl 7 (List.map aA.cells x.2.1.1.Items)),wI x.2.1.1.Clock]),(109,.var [.c (.sl 7 (List.map aA.cells x.2.2.1.1.Items)),wI x.2.2.1.1.Clock])])) ()) <| pp (pp (And.intro @G.dn.K2.eq_1 <| And.intro @G.dn.K2.eq_2 <| And.intro @G.dn.K3.eq_1 <| @G.dn.K3.eq_2) ()) <| pp (pp (@bf [] [(107,10),(108,11),(109,12)] []) <| pp (@bf [] [(104,107),(105,108)] []) ()) <| pp () <| (pp (pp (rfl : @G.dn.K2=_) <| pp (rfl : @G.dn.K3=_) ()) <| pp (pp (rfl : @G.dn.K3=_) ()) ())
 exact Ht
end Go.Ab
end
section
namespace Go.Proofs.YtaejlonmildglaaGreatDoor.fnRunBatch
open Go Go.ChangeShapes Go.WideShapes Go.ChangeAt Go.RowKit Go.Ab
set_option maxRecDepth 100000
theorem own:ownKnob Tryz.prog.godebug=none:=by kernel_rfl
theorem laidOut:laidOutB Tryz.prog=true:=by kernel_rfl
theorem cellsB:Tryz.prog.cellsOf 5=1:=by kernel_rfl
theorem calls (zs:List Int) (hz:∀ z,z∈zs->0<=z/\z<256):bF Tryz.prog 8 [Lt 1 (zs.map xH)] (oQ true):=by
 obtain ⟨n,hn⟩:=(T.KJ hz).val
 exact F.dn hn
theorem met {W:World} (h:laidMetH Tryz.prog Rows.fnRunBatchRow.laid W):laidMet Tryz.prog Rows.fnRunBatchRow.laid W:=by
 unfold laidMetH at h
 rw [show (Rows.fnRunBatchRow.laid.filter fun x=>x.2.handleName?.isSome)=[] from by kernel_rfl] at h
 exact h
theorem tabs {W:World} (hL:laidMetH Tryz.prog Rows.fnRunBatchRow.laid W):Tabs Tryz.prog (I0 W):=by
 have h:=sD 2 (met hL)
 rw [show Rows.fnRunBatchRow.laid.drop 2=("internal/strconv.uint64pow10",Lib.tabData .u64 Lib.pow10Tab)::Rows.fnRunBatchRow.laid.drop 3 from by kernel_rfl] at h
 exact wG (g:=1) (t:=209) (e:=171) (by kernel_rfl) (by kernel_rfl) (by kernel_rfl) (by kernel_rfl) (by kernel_rfl) (by kernel_rfl) h
theorem contract (H:Type) (enc:TypeId × Value->H) (W:World) (base:Nat) (args:Array Value) (ds gs:List (DataW H)) (before:List MemPlace)
  (hval:∀ (j:Nat) t v,Tryz.f8.params[j]? = some t->args[j]? = some v->Value.okWide Tryz.prog W .any base t v)
  (hW:DataW.Whole enc Tryz.prog Tryz.f8.params.toList Rows.fnRunBatchSpec.vars false W args.toList ds gs before)
  (hL:laidMetH Tryz.prog Rows.fnRunBatchRow.laid W) :
  Calls Tryz.prog 8 args W fun e W'=>∃ v,e = .returned v/\Rows.fnRunBatchSpec.post enc Tryz.prog Tryz.f8 false true false false W args v W':=by
 have hW':=hW
 obtain ⟨p,q,hA0,hV,rfl,hfz,hnd⟩:=hW
 have hA:DataW.TrodAll enc Tryz.prog W 0 (fun _=>true) true Tryz.f8.params.toList args.toList ds p:=hA0
 rw [Tryz.params8] at hA hval
 obtain ⟨v0,Xz,d0,ds0,p0,q0,hargs,rfl,rfl,h0,r0⟩:=trodAll_cons hA
 obtain ⟨rfl,rfl,rfl⟩:=trodAll_nil r0
 obtain rfl:args = #[v0]:=by cases args; simp_all
 obtain ⟨rfl,rfl⟩:=trodVars_none hV
 clear hA0
 simp only [List.append_nil] at hW'
 have hlt:∀ x∈p0,x.block<W.heap.size:=fun x hx=>by simpa using hW'.lt x hx
 refine (sW (enc:=enc) (tabs hL) Tryz.underlying22 Tryz.underlying5 cellsB (hval 0 22 v0 rfl rfl) h0 (fun zs _ hz=>calls zs hz)).mono fun e W' ⟨he,hb⟩ => ?_
 subst he
 have ht:DataW.TrodAll enc Tryz.prog W' 0 (fun b=>decide (b<W.heap.size)) true [22] [v0] [d0] (p0++[]):=trodAll_cons_mk (Below.trod laidOut (by kernel_rfl) (of_decide_eq_true (by kernel_rfl)) h0 hb hlt) trodAll_mk0
 rw [List.append_nil] at ht
 exact ⟨_,rfl,_,_,_,[],p0,[],hW',trodAll_cons_mk (shut_bool Tryz.underlying4 _) trodAll_mk0,
  ht,rfl,hb.frame _,fun h=>by cases h⟩
def tab (k:IntKind) (l:List Int):Obj->Obj
 | .cells _ t frozen => .cells (l.map fun n=>Value.int k n).toArray t frozen
 | o=>o
noncomputable def laidWorld (os:Os):World :=
 { World.holding Tryz.prog os ⟨#[],#[],[]⟩ with heap:=((((World.holding Tryz.prog os ⟨#[],#[],[]⟩).heap).modify 2 (tab .u8 [0,1,28,2,29,14,24,3,30,22,20,15,25,17,4,8,31,27,13,23,21,19,16,7,26,12,18,6,11,5,10,9])).modify 3 (tab .u8 [0,1,56,2,57,49,28,3,61,58,42,50,38,29,17,4,62,47,59,36,45,43,51,22,53,39,33,30,24,18,12,5,63,55,48,27,60,41,37,16,46,35,44,21,52,32,23,11,54,26,40,15,34,20,31,10,25,14,19,9,13,8,7,6])).modify 1 (tab .u64 [1,10,100,1000,10000,100000,1000000,10000000,100000000,1000000000,10000000000,100000000000,1000000000000,10000000000000,100000000000000,1000000000000000,10000000000000000,100000000000000000,1000000000000000000,10000000000000000000]) }
theorem laid_met (os:Os):laidMet Tryz.prog Rows.fnRunBatchRow.laid ((laidWorld os).forCall (fun _ _=>0) ⟨#[],#[.slice none 0 0],[]⟩).memory :=
 laidMet_of_run' 80 (by kernel_rfl) (by kernel_rfl)
theorem reads (os:Os) {H:Type} (enc:TypeId × Value->H):∃ places,DataW.whole enc Tryz.prog ((laidWorld os).forCall (fun _ _=>0) ⟨#[],#[.slice none 0 0],[]⟩).memory Tryz.f8.params.toList Rows.fnRunBatchSpec.vars false #[Value.slice none 0 0].toList 8=some ([.nil],[],places) :=
 ⟨[],by kernel_rfl⟩
theorem lifted (os:Os) (started:os.Started) (H:Type) (enc:TypeId × Value->H) (F:Stop.Interp) :
  ReturnsInHanded {} Tryz.checked os 8 .any ((OpenSpec.ofChange Rows.fnRunBatchSpec).preRow enc Tryz.prog Tryz.f8 Rows.fnRunBatchRow.domain false Rows.fnRunBatchRow.laid) (((OpenSpec.ofChange Rows.fnRunBatchSpec).at F).post enc Tryz.prog Tryz.f8 false true false false):=by
 obtain ⟨places,hx⟩:=reads os enc
 refine returnsInHanded_of_row (C:=Tryz.checked) (s:=OpenSpec.ofChange Rows.fnRunBatchSpec) own started (by kernel_rfl) Tryz.func8
  (witness_row_at (enc:=enc) (C:=Tryz.checked) false (laidWorld os) #[.slice none 0 0] rfl (by kernel_rfl) (by kernel_rfl) (by kernel_rfl)
   (OpenSpec.preRow_of_cond 8 hx (by kernel_rfl) (fun k hk=>by cases hk) (by kernel_rfl) (laid_met os))) ?_
 intro W base args ds gs before hval hW _ _ _ hL _ _
 exact contract H enc W base args ds gs before hval hW hL
theorem j1:(Rows.fnRunBatchRow.inPlace==Tryz.prog.inPlace 8)=true:=by kernel_rfl
theorem j2:(Rows.fnRunBatchRow.unfollowed==Tryz.prog.unfollowed 8)=true:=by kernel_rfl
theorem j3:(Rows.fnRunBatchRow.recurses==Tryz.prog.recurses 8)=true:=by kernel_rfl
theorem j4:(Rows.fnRunBatchRow.named==Tryz.prog.varsNamed 8)=true:=by kernel_rfl
theorem j5:joinedFacts Tryz.prog 8 Tryz.f8 (OpenSpec.ofChange Rows.fnRunBatchSpec).bare Rows.fnRunBatchRow=true:=by
 unfold joinedFacts
 rw [j1,j2,j3,j4]
 kernel_rfl
theorem j6:Tryz.prog.funcNamed Rows.fnRunBatchRow.func=some 8:=by kernel_rfl
theorem said:Rows.FnRunBatchSaid :=
 OpenClaim.holds_of_cond 8 Tryz.f8 rfl rfl rfl rfl rfl rfl rfl ⟨rfl,rfl,rfl,rfl,rfl⟩ rfl rfl rfl rfl rfl j6 Tryz.func8 j5
  (of_decide_eq_true (by kernel_rfl)) (by unfold Func.isWrapper; first | (rw [if_pos (by decide +kernel)]; kernel_rfl) | (rw [if_neg (by decide +kernel)]; exact ⟨rfl,rfl⟩))
  (fun os started H enc _ F=>by rw [OpenClaim.pre_eq_preRow]; exact lifted os started H enc F)
theorem jw:Rows.fnRunBatchRow.wfByText (OpenSpec.ofChange Rows.fnRunBatchSpec)=true:=by kernel_rfl
theorem jm:Tryz.pinned.checked.prog.mainIs=some (Rows.fnRunBatchCard.stood.harness.1,Rows.fnRunBatchCard.stood.harness.2.toList):=by kernel_rfl
theorem jg:false=Rows.fnRunBatchRow.goesBy Tryz.pinned.checked.prog:=by kernel_rfl
theorem plain (f:FuncId) (fn:Func) (hf:Tryz.pinned.checked.prog.funcNamed Rows.fnRunBatchRow.func=some f) (hfn:Tryz.pinned.checked.prog.funcs[f]? = some fn) :
  false=Tryz.pinned.checked.prog.looks []/\∀ (j:Nat) t,fn.params[j]? = some t->Tryz.pinned.checked.prog.wantsStandIn t=false:=by
 obtain rfl:f=8:=Option.some.inj ((show Tryz.prog.funcNamed Rows.fnRunBatchRow.func=some 8 by kernel_rfl).symm.trans hf) |>.symm
 obtain rfl:fn=Tryz.f8:=(Option.some.inj (Tryz.func8.symm.trans hfn)).symm
 refine ⟨by kernel_rfl,fun j t ht => ?_⟩
 rw [Tryz.params8] at ht
 obtain rfl:t=22:=by simpa using Array.mem_of_getElem? ht
 exact (show Tryz.prog.wantsStandIn 22=false by kernel_rfl)
theorem card:Rows.FnRunBatchCardSaid :=
 Claim7.holds_tied_plain_at .later [] _ _ _ _ said (fun _ h=>by cases h) jw (fun _ h=>by cases h) fnRunBatch_row_tie rfl ⟨rfl,rfl⟩ jm rfl plain jg
end Go.Proofs.YtaejlonmildglaaGreatDoor.fnRunBatch
end
