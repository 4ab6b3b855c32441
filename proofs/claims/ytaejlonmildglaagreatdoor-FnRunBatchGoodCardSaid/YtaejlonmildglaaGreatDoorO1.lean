/- The law FnRunBatchGood of the package laws answers true for every code of bytes and leaves it as it is (part 1). Conditions: none but what the row lists. -/
import Derived.Test.YtaejlonmildglaaGreatDoorB4
set_option linter.unusedVariables false
set_option linter.unusedSimpArgs false
section
namespace Go.Ab
open Go
set_option maxRecDepth 100000
set_option maxHeartbeats 4000000
set_option linter.unusedVariables false
set_option linter.unusedSimpArgs false
def G.aJ.L3 (f:Nat) (zL:Bool) (v10:StoreT × List aj) (QN:Bool) (ak:Int):Option (Bool):=match f with
| 0=>none
| n+1 =>
(cond (decide (ak<((v10.2.length:Nat):Int)))
(cond QN
(chk (0<=ak/\ak<((v10.2.length:Nat):Int))
(cond ((v10.2.getD ak.toNat default).Status==200)
(G.aJ.L3 n zL v10 true (IntKind.wrap .i64 (ak+1)))
(chk (0<=ak/\ak<((v10.2.length:Nat):Int))
(G.aJ.L3 n zL v10 ((v10.2.getD ak.toNat default).Status==201) (IntKind.wrap .i64 (ak+1))))))
(G.aJ.L3 n zL v10 false (IntKind.wrap .i64 (ak+1))))
(cond QN
(cond zL
(some (true))
(some (false)))
(cond zL
(some (false))
(some (true)))))
def G.aJ.K2 (f:Nat) (v1:StoreT × List RequestT) (zL:Bool) (QM:Bool):Option (Bool):=match f with
| 0=>none
| n+1 =>
((G.dF n v1.1 v1.2).bind fun v10 =>
(G.aJ.L3 n zL v10 true 0))
def G.aJ.K4 (f:Nat) (v1:StoreT × List RequestT) (v2:StoreT × List aj × Bool) (v3:StoreT × List aj × Bool) (BR:Bool) (uO:Bool) (dH:Bool):Option (Bool):=match f with
| 0=>none
| n+1 =>
(cond dH
((G.aK n v2.1 v3.1).bind fun v13 =>
(cond v13
((G.aN n v2.2.1 v3.2.1).bind fun v14 =>
(cond v14
(cond BR
(cond uO
(some (true))
(some (false)))
(cond uO
(some (false))
(some (true))))
(some (false))))
(some (false))))
(G.aJ.K2 n v1 BR uO))
def G.aJ (f:Nat) (dw:List Int):Option (Bool):=match f with
| 0=>none
| n+1 =>
(cond (decide (1048576<((dw.length:Nat):Int)))
(some (true))
((G.dY n dw).bind fun v1 =>
((G.fQ n v1.1 v1.2).bind fun v2 =>
((G.gY n v1.1 v1.2).bind fun v3 =>
((G.aK n v2.1 v3.1).bind fun v15 =>
(cond v15
((G.aN n v2.2.1 v3.2.1).bind fun v16 =>
(cond v16
(cond v2.2.2
(cond v3.2.2
(G.aJ.K4 n v1 v2 v3 true true false)
(G.aJ.K4 n v1 v2 v3 true false true))
(cond v3.2.2
(G.aJ.K4 n v1 v2 v3 false true true)
(G.aJ.K4 n v1 v2 v3 false false (((v2.2.1.length:Nat):Int)==0))))
(G.aJ.K4 n v1 v2 v3 v2.2.2 v3.2.2 true)))
(G.aJ.K4 n v1 v2 v3 v2.2.2 v3.2.2 true)))))))
end Go.Ab
end
section
namespace Go.Ab
open Go
set_option maxRecDepth 100000
set_option maxHeartbeats 4000000
set_option linter.unusedVariables false
set_option linter.unusedSimpArgs false
def C.aJ:aT:=(.seq (.reg [qB 2 false] [0]) (.seq (.seq (.reg [zM 15 0,qL 16 15,zA 17 (.bin .gtr (.t 16) (kI 1048576))] [0,17]) (.cond (.t 17) (.seq (.reg [qB 2 true] [2]) .ret) .skip)) (.seq (.reg [zM 19 0,q1 20 26 19,zM 18 20,qE 21 18 0,qE 22 18 1,zA 3 (.alloc 10 [.cO 7,fD 0]),qS 2 3 21,zM 4 22] [3,4]) (.seq (.reg [qT 24 2 3,zM 25 4,q2 26 27 24 25,zM 23 26,qE 27 23 0,qE 28 23 1,qE 29 23 2,zA 5 (.alloc 11 [.cO 7,fD 0]),qS 2 5 27,zM 6 28,zM 7 29] [3,4,5,6,7]) (.seq (.reg [qT 31 2 3,zM 32 4,q2 33 28 31 32,zM 30 33,qE 34 30 0,qE 35 30 1,qE 36 30 2,zA 8 (.alloc 12 [.cO 7,fD 0]),qS 2 8 34,zM 9 35,zM 10 36] [3,4,5,6,7,8,9,10]) (.cut (.cut (.reg [qT 37 2 5,qT 38 2 8,q2 39 15 37 38,qO 40 39,zM 41 40,zG 41 false 42 (.mv (.t 6)),zG 41 false 43 (.mv (.t 9)),⟨(some (41,false)),some 44,.call 23 [.t 42,.t 43]⟩,zG 41 false 45 (.not (.t 44)),qQ 46 41 45,zM 47 46,zG 47 false 48 (.mv (.t 7)),zG 47 false 49 (.mv (.t 10)),zG 47 false 50 (.beq true (.t 48) (.t 49)),qQ 51 47 50,zM 52 51,zG 52 false 53 (.mv (.t 7)),zG 52 false 54 (.not (.t 53)),zG 52 false 55 (.mv (.t 54)),zG 55 true 56 (.mv (.t 6)),zG 55 true 57 (.len (.t 56)),zG 55 true 58 (.bin .eql (.t 57) (kI 0)),zG 52 false 59 (.pick (.t 55) (.t 58) (kB false)),qQ 60 52 59] [3,4,5,6,7,8,9,10,60]) (.cond (.t 60) (.seq (.reg [qT 61 2 5,qT 62 2 8,q2 63 15 61 62,zM 64 63,zG 64 true 65 (.mv (.t 6)),zG 64 true 66 (.mv (.t 9)),⟨(some (64,true)),some 67,.call 23 [.t 65,.t 66]⟩,qP 68 64 67,zM 69 68,zG 69 true 70 (.mv (.t 7)),zG 69 true 71 (.mv (.t 10)),zG 69 true 72 (.beq false (.t 70) (.t 71)),qP 73 69 72,zM 2 73] [2]) .ret) .skip)) (.seq (.reg [qT 75 2 3,zM 76 4,q2 77 22 75 76,zM 74 77,qE 78 74 0,qE 79 74 1,zA 11 (.alloc 13 [.cO 7,fD 0]),qS 2 11 78,zM 12 79] [7,12]) (.seq (.reg [qB 13 true] [7,12,13]) (.seq (.seq (.reg [qI 14 0] [7,12,13,14]) (.block 0 (.loop (.seq (.seq (.reg [zM 80 14,zM 81 12,qL 82 81,zA 83 (.bin .lss (.t 80) (.t 82))] [7,12,13,14,83]) (.cond (.t 83) .skip (.exit 0))) (.seq (.block 1 (.reg [zM 86 13,zM 87 86,zG 87 true 88 (.mv (.t 12)),zG 87 true 89 (.mv (.t 14)),zG 87 true 90 (.oD 8 (.t 88) (.t 89)),zG 87 true 91 (.eH 0 (.t 90)),zG 87 true 92 (.load false 1 (.t 91)),zG 87 true 93 (.bin .eql (.t 92) (kI 200)),zG 87 true 94 (.mv (.t 93)),zG 94 false 95 (.mv (.t 12)),zG 94 false 96 (.mv (.t 14)),zG 94 false 97 (.oD 8 (.t 95) (.t 96)),zG 94 false 98 (.eH 0 (.t 97)),zG 94 false 99 (.load false 1 (.t 98)),zG 94 false 100 (.bin .eql (.t 99) (kI 201)),zG 87 true 101 (.pick (.t 94) (kB true) (.t 100)),qP 102 87 101,zM 13 102] [7,12,13,14])) (.reg [zM 84 14,zA 85 (.bin .add (.t 84) (kI 1)),zM 14 85] [7,12,13,14])))))) (.seq (.reg [zM 103 13,zM 104 7,zA 105 (.beq false (.t 103) (.t 104)),zM 2 105] [2]) .ret))))))))))
theorem K.aJ:dR pZ 9 1 0 C.aJ [.tmp 2]=true:=by kernel_rfl
end Go.Ab
end
section
namespace Go.Ab
open Go
set_option maxRecDepth 100000
theorem T.EP {c:List Int} (hc:Bytes c):Ev (fun f=>G.aJ f c) true:=by
  refine Ev.up ?_
  simp only [G.aJ]
  refine Ev.ite (fun _=>Ev.ret _) (fun e => ?_)
  obtain ⟨⟨s,l⟩,g,hs,hl⟩:=D.yK hc (by simp at e; omega)
  have hI:=T.fQ hs hl
  have hS:=T.gY hs hl
  obtain ⟨v1,v2,v3⟩:=Vl (s:=s) hl
  have es:=pz (qm v1)
  have er:=uA v3 v2
  have hR:=T.dF hs hl
  refine Ev.bind g (Ev.bind hI (Ev.bind hS (Ev.bind es (Ev.ct rfl (Ev.bind er (Ev.ct rfl ?_))))))
  cases hv:uj s&&wo l with
  | false =>
    rw [NR hv] at es er ⊢
    refine Ev.cf rfl (Ev.cf rfl (Ev.up ?_))
    simp only [G.aJ.K4]
    exact Ev.ct rfl (Ev.bind es (Ev.ct rfl (Ev.bind er (Ev.ct rfl (Ev.cf rfl (Ev.cf rfl (Ev.ret _)))))))
  | true =>
    obtain ⟨h1,h2⟩:=Bool.and_eq_true_iff.1 hv
    have u1:wu s l=runM s l:=by unfold wu; rw [hv]; rfl
    rw [u1] at hR
    have hll:l.length<=1000:=hl.len
    obtain ⟨q1,q2,q3⟩:=yD (l:=l) h1
    have L:∀ (ok:Bool) (k i:Nat) (b:Bool),i+k=(runM s l).2.length->ok=(b&&qo ((runM s l).2.drop i))->Ev (fun f=>G.aJ.L3 f ok (runM s l) b i) true:=by
      intro ok k
      induction k with
      | zero =>
        intro i b hi hb
        rw [List.drop_of_length_le (by omega)] at hb
        refine Ev.up ?_
        simp only [G.aJ.L3]
        refine Ev.cf (decide_eq_false (by omega)) ?_
        have:qo []=true:=rfl
        rw [this,Bool.and_true] at hb
        rw [hb]
        cases b<;>exact Qj
      | succ k ih =>
        intro i b hi hb
        have hil:i<(runM s l).2.length:=by omega
        rw [bT default hil] at hb
        have e:qo ((runM s l).2.getD i default::(runM s l).2.drop (i+1))=(good ((runM s l).2.getD i default).Status&&qo ((runM s l).2.drop (i+1))):=by unfold qo; rw [List.all_cons]
        rw [e] at hb
        refine Ev.up ?_
        simp only [G.aJ.L3,Int.toNat_natCast,bP (show i+1<9223372036854775808 by omega)]
        refine Ev.ct (decide_eq_true (by omega)) ?_
        cases b with
        | false=>exact Ev.cf rfl (ih (i+1) false (by omega) (by rw [hb]; rfl))
        | true =>
          unfold good at hb
          refine Ev.ct rfl (Ev.chk (by omega) (Ev.ite (fun e2 => ?_) (fun e2 => ?_)))
          · exact ih (i+1) true (by omega) (by rw [hb,e2]; rfl)
          · exact Ev.chk (by omega) (ih (i+1) _ (by omega) (by rw [hb,e2]; rfl))
    have K:∀ ok fi:Bool,ok=qo (runM s l).2->Ev (fun f=>G.aJ.K2 f (s,l) ok fi) true:=fun ok fi hok=>by
      refine Ev.up ?_
      simp only [G.aJ.K2]
      exact Ev.bind hR (L ok _ 0 true (Nat.zero_add _) (by rw [hok,List.drop_zero]; rfl))
    rcases C9 (l:=l) (s:=s) with ⟨a1,a2,a3⟩ | ⟨a1,a2,a,r,b,a3,a4,a5⟩
    · have eB:yM s l=((runM s l).1,(runM s l).2,true):=by rw [yC h1 h2,a1,a3]; rfl
      rw [eB]
      refine Ev.ct rfl (Ev.ct rfl (Ev.up ?_))
      simp only [G.aJ.K4]
      exact Ev.cf rfl (K true true a2.symm)
    · have eB:yM s l=(s,a++[r],false):=by rw [yC h1 h2,a1,a3]; rfl
      rw [eB]
      have hlen:(a++[r]).length=a.length+1:=by simp
      refine Ev.cf rfl (Ev.cf rfl (Ev.up ?_))
      simp only [G.aJ.K4]
      exact Ev.cf (by rw [hlen]; simp; omega) (K false false a2.symm)
end Go.Ab
end
section
namespace Go.Ab
open Go
set_option maxRecDepth 100000
set_option maxHeartbeats 4000000
set_option linter.unusedVariables false
set_option linter.unusedSimpArgs false
theorem F.aJ {n:Nat} : ∀ {dw r},G.aJ n dw=some r->bF pZ 9 [.one (.c (.sl 1 (List.map cU dw)))] (.one (.c (.lit (.bool r)))):=by
 intro dw r h
 refine aH K.aJ (kK ?_)
 unfold C.aJ
 rcases n with _ | n<;>simp only [G.aJ,reduceCtorEq] at h
 have:=Mk.mk 1; have:=Mk.mk 2
 have z:=pp (pp @F.dY <| pp @F.fQ <| pp @F.gY <| pp @F.aK <| pp @F.aN <| pp @F.dF ()) <| pp () <| pp (pp (@lS (Bool × (StoreT × List aj) × Bool × Int) _ (fun n x=>G.aJ.L3 n x.1 x.2.1 x.2.2.1 x.2.2.2) r (fun x=>dB.of [(7,.v true (.one (.c (.lit (.bool x.1))))),(12,.v true (.one (.c (.sl 8 (List.map aj.cells x.2.1.2))))),(13,.v true (.one (.c (.lit (.bool x.2.2.1))))),eI 14 x.2.2.2] [])) ()) <| pp (pp (@pq ((StoreT × List RequestT) × Bool × Bool) _ (fun n x=>G.aJ.K2 n x.1 x.2.1 x.2.2) r (fun x=>dB.of [eP 3 104,(4,.v true (.one (.c (.sl 10 (List.map RequestT.cells x.1.2))))),(7,.v true (.one (.c (.lit (.bool x.2.1))))),(10,.v true (.one (.c (.lit (.bool x.2.2))))),(60,.v true (.one (.c (.lit (.bool false)))))] [(104,.var [.c (.sl 7 (List.map aA.cells x.1.1.Items)),wI x.1.1.Clock])])) <| pp (@pq ((StoreT × List RequestT) × (StoreT × List aj × Bool) × (StoreT × List aj × Bool) × Bool × Bool × Bool) _ (fun n x=>G.aJ.K4 n x.1 x.2.1 x.2.2.1 x.2.2.2.1 x.2.2.2.2.1 x.2.2.2.2.2) r (fun x=>dB.of [eP 3 107,(4,.v true (.one (.c (.sl 10 (List.map RequestT.cells x.1.2))))),eP 5 108,(6,.v true (.one (.c (.sl 8 (List.map aj.cells x.2.1.2.1))))),(7,.v true (.one (.c (.lit (.bool x.2.2.2.1))))),eP 8 109,(9,.v true (.one (.c (.sl 8 (List.map aj.cells x.2.2.1.2.1))))),(10,.v true (.one (.c (.lit (.bool x.2.2.2.2.1))))),(60,.v true (.one (.c (.lit (.bool x.2.2.2.2.2)))))] [(107,.var [.c (.sl 7 (List.map aA.cells x.1.1.Items)),wI x.1.1.Clock]),(108,.var [.c (.sl 7 (List.map aA.cells x.2.1.1.Items)),wI x.2.1.1.Clock]),(109,.var [.c (.sl 7 (List.map aA.cells x.2.2.1.1.Items)),wI x.2.2.1.1.Clock])])) ()) <| pp (pp (And.intro @G.aJ.K2.eq_1 <| And.intro @G.aJ.K2.eq_2 <| And.intro @G.aJ.K4.eq_1 <| And.intro @G.aJ.K4.eq_2 <| And.intro @G.aJ.L3.eq_1 <| @G.aJ.L3.eq_2) ()) <| pp (pp (@bf [] [(107,10),(108,11),(109,12)] []) <| pp (@bf [] [(104,107)] []) <| pp (@bf [] [] []) ()) <| pp () <| (pp (pp (rfl : @G.aJ.K2=_) <| pp (rfl : @G.aJ.K4=_) ()) <| pp (pp (rfl : @G.aJ.K4=_) ()) ())
 exact Ht
end Go.Ab
end
section
namespace Go.Proofs.YtaejlonmildglaaGreatDoor.fnRunBatchGood
open Go Go.ChangeShapes Go.WideShapes Go.ChangeAt Go.RowKit Go.Ab
set_option maxRecDepth 100000
theorem own:ownKnob Tryz.prog.godebug=none:=by kernel_rfl
theorem laidOut:laidOutB Tryz.prog=true:=by kernel_rfl
theorem cellsB:Tryz.prog.cellsOf 5=1:=by kernel_rfl
theorem calls (zs:List Int) (hz:∀ z,z∈zs->0<=z/\z<256):bF Tryz.prog 9 [Lt 1 (zs.map xH)] (oQ true):=by
 obtain ⟨n,hn⟩:=(T.EP hz).val
 exact F.aJ hn
theorem met {W:World} (h:laidMetH Tryz.prog Rows.fnRunBatchGoodRow.laid W):laidMet Tryz.prog Rows.fnRunBatchGoodRow.laid W:=by
 unfold laidMetH at h
 rw [show (Rows.fnRunBatchGoodRow.laid.filter fun x=>x.2.handleName?.isSome)=[] from by kernel_rfl] at h
 exact h
theorem tabs {W:World} (hL:laidMetH Tryz.prog Rows.fnRunBatchGoodRow.laid W):Tabs Tryz.prog (I0 W):=by
 have h:=sD 2 (met hL)
 rw [show Rows.fnRunBatchGoodRow.laid.drop 2=("internal/strconv.uint64pow10",Lib.tabData .u64 Lib.pow10Tab)::Rows.fnRunBatchGoodRow.laid.drop 3 from by kernel_rfl] at h
 exact wG (g:=1) (t:=209) (e:=171) (by kernel_rfl) (by kernel_rfl) (by kernel_rfl) (by kernel_rfl) (by kernel_rfl) (by kernel_rfl) h
theorem contract (H:Type) (enc:TypeId × Value->H) (W:World) (base:Nat) (args:Array Value) (ds gs:List (DataW H)) (before:List MemPlace)
  (hval:∀ (j:Nat) t v,Tryz.f9.params[j]? = some t->args[j]? = some v->Value.okWide Tryz.prog W .any base t v)
  (hW:DataW.Whole enc Tryz.prog Tryz.f9.params.toList Rows.fnRunBatchGoodSpec.vars false W args.toList ds gs before)
  (hL:laidMetH Tryz.prog Rows.fnRunBatchGoodRow.laid W) :
  Calls Tryz.prog 9 args W fun e W'=>∃ v,e = .returned v/\Rows.fnRunBatchGoodSpec.post enc Tryz.prog Tryz.f9 false true false false W args v W':=by
 have hW':=hW
 obtain ⟨p,q,hA0,hV,rfl,hfz,hnd⟩:=hW
 have hA:DataW.TrodAll enc Tryz.prog W 0 (fun _=>true) true Tryz.f9.params.toList args.toList ds p:=hA0
 rw [Tryz.params9] at hA hval
 obtain ⟨v0,Xz,d0,ds0,p0,q0,hargs,rfl,rfl,h0,r0⟩:=trodAll_cons hA
 obtain ⟨rfl,rfl,rfl⟩:=trodAll_nil r0
 obtain rfl:args = #[v0]:=by cases args; simp_all
 obtain ⟨rfl,rfl⟩:=trodVars_none hV
 clear hA0
 simp only [List.append_nil] at hW'
 have hlt:∀ x∈p0,x.block<W.heap.size:=fun x hx=>by simpa using hW'.lt x hx
 refine (sW (enc:=enc) (tabs hL) Tryz.underlying22 Tryz.underlying5 cellsB (hval 0 22 v0 rfl rfl) h0 (fun zs _ hz=>calls zs hz)).mono fun e W' ⟨he,hb⟩ => ?_
 subst he
 have ht:DataW.TrodAll enc Tryz.prog W' 0 (fun b=>decide (b<W.heap.size)) true [22] [v0] [d0] (p0++[]):=trodAll_cons_mk (Below.trod laidOut (by kernel_rfl) (of_decide_eq_true (by kernel_rfl)) h0 hb hlt) trodAll_mk0
 rw [List.append_nil] at ht
 exact ⟨_,rfl,_,_,_,[],p0,[],hW',trodAll_cons_mk (shut_bool Tryz.underlying4 _) trodAll_mk0,
  ht,rfl,hb.frame _,fun h=>by cases h⟩
def tab (k:IntKind) (l:List Int):Obj->Obj
 | .cells _ t frozen => .cells (l.map fun n=>Value.int k n).toArray t frozen
 | o=>o
noncomputable def laidWorld (os:Os):World :=
 { World.holding Tryz.prog os ⟨#[],#[],[]⟩ with heap:=((((World.holding Tryz.prog os ⟨#[],#[],[]⟩).heap).modify 2 (tab .u8 [0,1,28,2,29,14,24,3,30,22,20,15,25,17,4,8,31,27,13,23,21,19,16,7,26,12,18,6,11,5,10,9])).modify 3 (tab .u8 [0,1,56,2,57,49,28,3,61,58,42,50,38,29,17,4,62,47,59,36,45,43,51,22,53,39,33,30,24,18,12,5,63,55,48,27,60,41,37,16,46,35,44,21,52,32,23,11,54,26,40,15,34,20,31,10,25,14,19,9,13,8,7,6])).modify 1 (tab .u64 [1,10,100,1000,10000,100000,1000000,10000000,100000000,1000000000,10000000000,100000000000,1000000000000,10000000000000,100000000000000,1000000000000000,10000000000000000,100000000000000000,1000000000000000000,10000000000000000000]) }
theorem laid_met (os:Os):laidMet Tryz.prog Rows.fnRunBatchGoodRow.laid ((laidWorld os).forCall (fun _ _=>0) ⟨#[],#[.slice none 0 0],[]⟩).memory :=
 laidMet_of_run' 80 (by kernel_rfl) (by kernel_rfl)
theorem reads (os:Os) {H:Type} (enc:TypeId × Value->H):∃ places,DataW.whole enc Tryz.prog ((laidWorld os).forCall (fun _ _=>0) ⟨#[],#[.slice none 0 0],[]⟩).memory Tryz.f9.params.toList Rows.fnRunBatchGoodSpec.vars false #[Value.slice none 0 0].toList 8=some ([.nil],[],places) :=
 ⟨[],by kernel_rfl⟩
theorem lifted (os:Os) (started:os.Started) (H:Type) (enc:TypeId × Value->H) (F:Stop.Interp) :
  ReturnsInHanded {} Tryz.checked os 9 .any ((OpenSpec.ofChange Rows.fnRunBatchGoodSpec).preRow enc Tryz.prog Tryz.f9 Rows.fnRunBatchGoodRow.domain false Rows.fnRunBatchGoodRow.laid) (((OpenSpec.ofChange Rows.fnRunBatchGoodSpec).at F).post enc Tryz.prog Tryz.f9 false true false false):=by
 obtain ⟨places,hx⟩:=reads os enc
 refine returnsInHanded_of_row (C:=Tryz.checked) (s:=OpenSpec.ofChange Rows.fnRunBatchGoodSpec) own started (by kernel_rfl) Tryz.func9
  (witness_row_at (enc:=enc) (C:=Tryz.checked) false (laidWorld os) #[.slice none 0 0] rfl (by kernel_rfl) (by kernel_rfl) (by kernel_rfl)
   (OpenSpec.preRow_of_cond 8 hx (by kernel_rfl) (fun k hk=>by cases hk) (by kernel_rfl) (laid_met os))) ?_
 intro W base args ds gs before hval hW _ _ _ hL _ _
 exact contract H enc W base args ds gs before hval hW hL
theorem j1:(Rows.fnRunBatchGoodRow.inPlace==Tryz.prog.inPlace 9)=true:=by kernel_rfl
theorem j2:(Rows.fnRunBatchGoodRow.unfollowed==Tryz.prog.unfollowed 9)=true:=by kernel_rfl
theorem j3:(Rows.fnRunBatchGoodRow.recurses==Tryz.prog.recurses 9)=true:=by kernel_rfl
theorem j4:(Rows.fnRunBatchGoodRow.named==Tryz.prog.varsNamed 9)=true:=by kernel_rfl
theorem j5:joinedFacts Tryz.prog 9 Tryz.f9 (OpenSpec.ofChange Rows.fnRunBatchGoodSpec).bare Rows.fnRunBatchGoodRow=true:=by
 unfold joinedFacts
 rw [j1,j2,j3,j4]
 kernel_rfl
theorem j6:Tryz.prog.funcNamed Rows.fnRunBatchGoodRow.func=some 9:=by kernel_rfl
theorem said:Rows.FnRunBatchGoodSaid :=
 OpenClaim.holds_of_cond 9 Tryz.f9 rfl rfl rfl rfl rfl rfl rfl ⟨rfl,rfl,rfl,rfl,rfl⟩ rfl rfl rfl rfl rfl j6 Tryz.func9 j5
  (of_decide_eq_true (by kernel_rfl)) (by unfold Func.isWrapper; first | (rw [if_pos (by decide +kernel)]; kernel_rfl) | (rw [if_neg (by decide +kernel)]; exact ⟨rfl,rfl⟩))
  (fun os started H enc _ F=>by rw [OpenClaim.pre_eq_preRow]; exact lifted os started H enc F)
theorem jw:Rows.fnRunBatchGoodRow.wfByText (OpenSpec.ofChange Rows.fnRunBatchGoodSpec)=true:=by kernel_rfl
theorem jm:Tryz.pinned.checked.prog.mainIs=some (Rows.fnRunBatchGoodCard.stood.harness.1,Rows.fnRunBatchGoodCard.stood.harness.2.toList):=by kernel_rfl
theorem jg:false=Rows.fnRunBatchGoodRow.goesBy Tryz.pinned.checked.prog:=by kernel_rfl
theorem plain (f:FuncId) (fn:Func) (hf:Tryz.pinned.checked.prog.funcNamed Rows.fnRunBatchGoodRow.func=some f) (hfn:Tryz.pinned.checked.prog.funcs[f]? = some fn) :
  false=Tryz.pinned.checked.prog.looks []/\∀ (j:Nat) t,fn.params[j]? = some t->Tryz.pinned.checked.prog.wantsStandIn t=false:=by
 obtain rfl:f=9:=Option.some.inj ((show Tryz.prog.funcNamed Rows.fnRunBatchGoodRow.func=some 9 by kernel_rfl).symm.trans hf) |>.symm
 obtain rfl:fn=Tryz.f9:=(Option.some.inj (Tryz.func9.symm.trans hfn)).symm
 refine ⟨by kernel_rfl,fun j t ht => ?_⟩
 rw [Tryz.params9] at ht
 obtain rfl:t=22:=by simpa using Array.mem_of_getElem? ht
 exact (show Tryz.prog.wantsStandIn 22=false by kernel_rfl)
theorem card:Rows.FnRunBatchGoodCardSaid :=
 Claim7.holds_tied_plain_at .later [] _ _ _ _ said (fun _ h=>by cases h) jw (fun _ h=>by cases h) fnRunBatchGood_row_tie rfl ⟨rfl,rfl⟩ jm rfl plain jg
end Go.Proofs.YtaejlonmildglaaGreatDoor.fnRunBatchGood
end
