/- The law FnDiffNodesMerge of the package laws answers true for every code of bytes and leaves it as it is: the abstract interpreter of the program, the printed functions and proofs, the laws of the data, the statement (part 6 of the proof). Conditions: none but what the row lists. -/
import Derived.Test.YtjflgnaccghfmaaGreatDoorE3
set_option linter.unusedVariables false
set_option linter.unusedSimpArgs false
section
namespace Go.Ab
open Go
set_option maxRecDepth 100000
set_option maxHeartbeats 4000000
set_option linter.unusedVariables false
set_option linter.unusedSimpArgs false
theorem F.spec_anyPair {n : Nat} : ∀ {p_r1 : ReaderT} {r : NodeT × NodeT × ReaderT}, G.spec_anyPair n p_r1 = some r → ACalls Go.Proofs.Tryz.prog 36 [.one (.ptr 0 0)] [.var [.c (.sl 1 (List.map cU p_r1.b)), .c (.lit (.int .i64 p_r1.p))]] (fun r1 b1 => r1 = .tup [(true, [.c (.lit (.int .i64 r.1.Kind)), .c (.lit (.int .i64 r.1.Num)), .c (.str r.1.Text), .c (.sl 1 (List.map cS r.1.Names)), .c (.sl 5 (List.map NodeT.cells r.1.Kids))]), (true, [.c (.lit (.int .i64 r.2.1.Kind)), .c (.lit (.int .i64 r.2.1.Num)), .c (.str r.2.1.Text), .c (.sl 1 (List.map cS r.2.1.Names)), .c (.sl 5 (List.map NodeT.cells r.2.1.Kids))])] ∧ b1 = [.var [.c (.sl 1 (List.map cU r.2.2.b)), .c (.lit (.int .i64 r.2.2.p))]]) := by
  intro p_r1 r h
  refine fun_sound K.spec_anyPair (ofK ?_)
  unfold C.spec_anyPair
  rcases n with _ | n <;> simp only [G.spec_anyPair, reduceCtorEq] at h
  obtain ⟨zc, zg, zk, zu, ze, zj, zt⟩ := pp (pp @F.spec_validNode ()) <| pp (pp (pp @F.spec_anyNode (@cG [0] [])) <| pp (pp @F.spec_reader_pick (@cG [0] [])) <| pp (pp @F.spec_nearNode (@cG [0] [])) ()) <| pp () <| pp () <| pp () <| pp () <| (pp (@retX [] [(0, 0)] []) ())
  exact drv
theorem F.spec_merge_n : ∀ (n : Nat), ∀ {a_n1 : NodeT} {a_patch1 : NodeT} {r : NodeT}, G.spec_merge n a_n1 a_patch1 = some r → APure Go.Proofs.Tryz.prog 44 [.agg [.c (.lit (.int .i64 a_n1.Kind)), .c (.lit (.int .i64 a_n1.Num)), .c (.str a_n1.Text), .c (.sl 1 (List.map cS a_n1.Names)), .c (.sl 5 (List.map NodeT.cells a_n1.Kids))], .agg [.c (.lit (.int .i64 a_patch1.Kind)), .c (.lit (.int .i64 a_patch1.Num)), .c (.str a_patch1.Text), .c (.sl 1 (List.map cS a_patch1.Names)), .c (.sl 5 (List.map NodeT.cells a_patch1.Kids))]] (.agg [.c (.lit (.int .i64 r.Kind)), .c (.lit (.int .i64 r.Num)), .c (.str r.Text), .c (.sl 1 (List.map cS r.Names)), .c (.sl 5 (List.map NodeT.cells r.Kids))]) := by
  intro n
  induction n using Nat.strongRecOn with | _ n ih =>
  intro a_n1 a_patch1 r h
  refine fun_pure K.spec_merge (ofK ?_)
  unfold C.spec_merge
  rcases n with _ | n <;> simp only [G.spec_merge, reduceCtorEq] at h
  obtain ⟨zc, zg, zk, zu, ze, zj, zt⟩ := pp (pp ih <| pp @F.spec_copyNode <| pp @F.spec_place <| pp @F.spec_removeAt <| pp @F.spec_addHere <| pp @F.spec_withKid ()) <| pp () <| pp (pp (@lopX (Int × Int × Int × Txt × List Txt × List NodeT) _ (fun n x => G.spec_merge.L2 n a_patch1 x.1 x.2.1 x.2.2.1 x.2.2.2.1 x.2.2.2.2.1 x.2.2.2.2.2) r (fun x => ASt.of [(3, .v true (.one (.ptr 110 0))), (4, .v true (.one (.ptr 111 0))), (5, .v true (.one (.ptr 112 0))), (6, .v true (.one (.c (.lit (.int .i64 x.1)))))] [(110, .var [.c (.lit (.int .i64 a_patch1.Kind)), .c (.lit (.int .i64 a_patch1.Num)), .c (.str a_patch1.Text), .c (.sl 1 (List.map cS a_patch1.Names)), .c (.sl 5 (List.map NodeT.cells a_patch1.Kids))]), (111, .var [.c (.lit (.int .i64 0)), .c (.lit (.int .i64 0)), .c (.str []), .nsl 1, .nsl 5]), (112, .var [.c (.lit (.int .i64 x.2.1)), .c (.lit (.int .i64 x.2.2.1)), .c (.str x.2.2.2.1), .c (.sl 1 (List.map cS x.2.2.2.2.1)), .c (.sl 5 (List.map NodeT.cells x.2.2.2.2.2))])])) ()) <| pp (pp (@cutX (Int × Int × Txt × List Txt × List NodeT) _ (fun n x => G.spec_merge.K1 n a_patch1 x.1 x.2.1 x.2.2.1 x.2.2.2.1 x.2.2.2.2) r (fun x => ASt.of [(3, .v true (.one (.ptr 101 0))), (4, .v true (.one (.ptr 102 0))), (5, .v true (.one (.ptr 103 0)))] [(101, .var [.c (.lit (.int .i64 a_patch1.Kind)), .c (.lit (.int .i64 a_patch1.Num)), .c (.str a_patch1.Text), .c (.sl 1 (List.map cS a_patch1.Names)), .c (.sl 5 (List.map NodeT.cells a_patch1.Kids))]), (102, .var [.c (.lit (.int .i64 0)), .c (.lit (.int .i64 0)), .c (.str []), .nsl 1, .nsl 5]), (103, .var [.c (.lit (.int .i64 x.1)), .c (.lit (.int .i64 x.2.1)), .c (.str x.2.2.1), .c (.sl 1 (List.map cS x.2.2.2.1)), .c (.sl 5 (List.map NodeT.cells x.2.2.2.2))])])) ()) <| pp (pp (And.intro @G.spec_merge.K1.eq_1 <| And.intro @G.spec_merge.K1.eq_2 <| And.intro @G.spec_merge.L2.eq_1 <| @G.spec_merge.L2.eq_2) ()) <| pp (pp (@weakX [] [(101, 11), (102, 12), (103, 15)] []) <| pp (@weakX [13, 14] [(101, 11), (102, 12), (103, 15)] []) <| pp (@weakX [] [(110, 101), (111, 102), (112, 103)] []) <| pp (@weakX [] [(110, 110), (111, 111), (112, 112)] []) ()) <| ()
  exact drv
theorem F.spec_merge {n : Nat} : ∀ {a_n1 : NodeT} {a_patch1 : NodeT} {r : NodeT}, G.spec_merge n a_n1 a_patch1 = some r → APure Go.Proofs.Tryz.prog 44 [.agg [.c (.lit (.int .i64 a_n1.Kind)), .c (.lit (.int .i64 a_n1.Num)), .c (.str a_n1.Text), .c (.sl 1 (List.map cS a_n1.Names)), .c (.sl 5 (List.map NodeT.cells a_n1.Kids))], .agg [.c (.lit (.int .i64 a_patch1.Kind)), .c (.lit (.int .i64 a_patch1.Num)), .c (.str a_patch1.Text), .c (.sl 1 (List.map cS a_patch1.Names)), .c (.sl 5 (List.map NodeT.cells a_patch1.Kids))]] (.agg [.c (.lit (.int .i64 r.Kind)), .c (.lit (.int .i64 r.Num)), .c (.str r.Text), .c (.sl 1 (List.map cS r.Names)), .c (.sl 5 (List.map NodeT.cells r.Kids))]) := F.spec_merge_n n
theorem F.spec_newReader {n : Nat} : ∀ {a_code1 : List Int} {r : ReaderT}, G.spec_newReader n a_code1 = some r → ACalls Go.Proofs.Tryz.prog 37 [.one (.c (.sl 1 (List.map cU a_code1)))] [] (fun r1 b1 => r1 = .one (.ptr 0 0) ∧ b1 = [.var [.c (.sl 1 (List.map cU r.b)), .c (.lit (.int .i64 r.p))]]) := by
  intro a_code1 r h
  refine fun_sound K.spec_newReader (ofK ?_)
  unfold C.spec_newReader
  rcases n with _ | n <;> simp only [G.spec_newReader, reduceCtorEq] at h
  obtain ⟨zc, zg, zk, zu, ze, zj, zt⟩ := pp () <| pp () <| pp () <| pp () <| pp () <| pp () <| (pp (@retX [] [(0, 10)] []) ())
  exact drv
theorem F.spec_DrawMergeFor {n : Nat} : ∀ {a_code1 : List Int} {r : NodeT × NodeT}, G.spec_DrawMergeFor n a_code1 = some r → APure Go.Proofs.Tryz.prog 17 [.one (.c (.sl 1 (List.map cU a_code1)))] (.tup [(true, [.c (.lit (.int .i64 r.1.Kind)), .c (.lit (.int .i64 r.1.Num)), .c (.str r.1.Text), .c (.sl 1 (List.map cS r.1.Names)), .c (.sl 5 (List.map NodeT.cells r.1.Kids))]), (true, [.c (.lit (.int .i64 r.2.Kind)), .c (.lit (.int .i64 r.2.Num)), .c (.str r.2.Text), .c (.sl 1 (List.map cS r.2.Names)), .c (.sl 5 (List.map NodeT.cells r.2.Kids))])]) := by
  intro a_code1 r h
  refine fun_pure K.spec_DrawMergeFor (ofK ?_)
  unfold C.spec_DrawMergeFor
  rcases n with _ | n <;> simp only [G.spec_DrawMergeFor, reduceCtorEq] at h
  obtain ⟨zc, zg, zk, zu, ze, zj, zt⟩ := pp (pp @F.spec_validNode <| pp @F.spec_merge ()) <| pp (pp (pp @F.spec_newReader (@cG [] [101])) <| pp (pp @F.spec_anyPair (@cG [101] [])) <| pp (pp @F.spec_reader_pick (@cG [101] [])) ()) <| pp () <| pp () <| pp () <| pp () <| ()
  exact drv
theorem F.spec_checked {n : Nat} : ∀ {a_n1 : NodeT} {a_ok1 : Bool} {r : NodeT × Bool}, G.spec_checked n a_n1 a_ok1 = some r → APure Go.Proofs.Tryz.prog 49 [.agg [.c (.lit (.int .i64 a_n1.Kind)), .c (.lit (.int .i64 a_n1.Num)), .c (.str a_n1.Text), .c (.sl 1 (List.map cS a_n1.Names)), .c (.sl 5 (List.map NodeT.cells a_n1.Kids))], .one (.c (.lit (.bool a_ok1)))] (.tup [(true, [.c (.lit (.int .i64 r.1.Kind)), .c (.lit (.int .i64 r.1.Num)), .c (.str r.1.Text), .c (.sl 1 (List.map cS r.1.Names)), .c (.sl 5 (List.map NodeT.cells r.1.Kids))]), (false, [.c (.lit (.bool r.2))])]) := by
  intro a_n1 a_ok1 r h
  refine fun_pure K.spec_checked (ofK ?_)
  unfold C.spec_checked
  rcases n with _ | n <;> simp only [G.spec_checked, reduceCtorEq] at h
  obtain ⟨zc, zg, zk, zu, ze, zj, zt⟩ := pp (pp @F.spec_validNode ()) <| pp () <| pp () <| pp () <| pp () <| pp () <| ()
  exact drv
theorem F.spec_toInt {n : Nat} : ∀ {a_b1 : Bool} {r : Int}, G.spec_toInt n a_b1 = some r → APure Go.Proofs.Tryz.prog 198 [.one (.c (.lit (.bool a_b1)))] (.one (.c (.lit (.int .i64 r)))) := by
  intro a_b1 r h
  refine fun_pure K.spec_toInt (ofK ?_)
  unfold C.spec_toInt
  rcases n with _ | n <;> simp only [G.spec_toInt, reduceCtorEq] at h
  obtain ⟨zc, zg, zk, zu, ze, zj, zt⟩ := pp () <| pp () <| pp () <| pp () <| pp () <| pp () <| ()
  exact drv
theorem F.spec_order {n : Nat} : ∀ {a_a1 : Int} {a_b1 : Int} {r : Int}, G.spec_order n a_a1 a_b1 = some r → APure Go.Proofs.Tryz.prog 166 [.one (.c (.lit (.int .i64 a_a1))), .one (.c (.lit (.int .i64 a_b1)))] (.one (.c (.lit (.int .i64 r)))) := by
  intro a_a1 a_b1 r h
  refine fun_pure K.spec_order (ofK ?_)
  unfold C.spec_order
  rcases n with _ | n <;> simp only [G.spec_order, reduceCtorEq] at h
  obtain ⟨zc, zg, zk, zu, ze, zj, zt⟩ := pp (pp @F.spec_toInt ()) <| pp () <| pp () <| pp () <| pp () <| pp () <| ()
  exact drv
theorem F.spec_orderText {n : Nat} : ∀ {a_a1 : Txt} {a_b1 : Txt} {r : Int}, G.spec_orderText n a_a1 a_b1 = some r → APure Go.Proofs.Tryz.prog 167 [.one (.c (.str a_a1)), .one (.c (.str a_b1))] (.one (.c (.lit (.int .i64 r)))) := by
  intro a_a1 a_b1 r h
  refine fun_pure K.spec_orderText (ofK ?_)
  unfold C.spec_orderText
  rcases n with _ | n <;> simp only [G.spec_orderText, reduceCtorEq] at h
  obtain ⟨zc, zg, zk, zu, ze, zj, zt⟩ := pp (pp @F.spec_toInt ()) <| pp () <| pp () <| pp () <| pp () <| pp () <| ()
  exact drv
theorem F.spec_compare_n : ∀ (n : Nat), ∀ {a_a1 : NodeT} {a_b1 : NodeT} {r : Int}, G.spec_compare n a_a1 a_b1 = some r → APure Go.Proofs.Tryz.prog 116 [.agg [.c (.lit (.int .i64 a_a1.Kind)), .c (.lit (.int .i64 a_a1.Num)), .c (.str a_a1.Text), .c (.sl 1 (List.map cS a_a1.Names)), .c (.sl 5 (List.map NodeT.cells a_a1.Kids))], .agg [.c (.lit (.int .i64 a_b1.Kind)), .c (.lit (.int .i64 a_b1.Num)), .c (.str a_b1.Text), .c (.sl 1 (List.map cS a_b1.Names)), .c (.sl 5 (List.map NodeT.cells a_b1.Kids))]] (.one (.c (.lit (.int .i64 r)))) := by
  intro n
  induction n using Nat.strongRecOn with | _ n ih =>
  intro a_a1 a_b1 r h
  refine fun_pure K.spec_compare (ofK ?_)
  unfold C.spec_compare
  rcases n with _ | n <;> simp only [G.spec_compare, reduceCtorEq] at h
  obtain ⟨zc, zg, zk, zu, ze, zj, zt⟩ := pp (pp ih <| pp @F.spec_order <| pp @F.spec_orderText ()) <| pp () <| pp (pp (@lopX (Int) _ (fun n x => G.spec_compare.L1 n a_a1 a_b1 x) r (fun x => ASt.of [(2, .v true (.one (.ptr 105 0))), (3, .v true (.one (.ptr 106 0))), (5, .v true (.one (.c (.lit (.int .i64 x)))))] [(105, .var [.c (.lit (.int .i64 a_a1.Kind)), .c (.lit (.int .i64 a_a1.Num)), .c (.str a_a1.Text), .c (.sl 1 (List.map cS a_a1.Names)), .c (.sl 5 (List.map NodeT.cells a_a1.Kids))]), (106, .var [.c (.lit (.int .i64 a_b1.Kind)), .c (.lit (.int .i64 a_b1.Num)), .c (.str a_b1.Text), .c (.sl 1 (List.map cS a_b1.Names)), .c (.sl 5 (List.map NodeT.cells a_b1.Kids))])])) ()) <| pp () <| pp (pp (And.intro @G.spec_compare.L1.eq_1 <| @G.spec_compare.L1.eq_2) ()) <| pp (pp (@weakX [] [(105, 10), (106, 11)] []) <| pp (@weakX [] [(105, 105), (106, 106)] []) ()) <| ()
  exact drv
theorem F.spec_compare {n : Nat} : ∀ {a_a1 : NodeT} {a_b1 : NodeT} {r : Int}, G.spec_compare n a_a1 a_b1 = some r → APure Go.Proofs.Tryz.prog 116 [.agg [.c (.lit (.int .i64 a_a1.Kind)), .c (.lit (.int .i64 a_a1.Num)), .c (.str a_a1.Text), .c (.sl 1 (List.map cS a_a1.Names)), .c (.sl 5 (List.map NodeT.cells a_a1.Kids))], .agg [.c (.lit (.int .i64 a_b1.Kind)), .c (.lit (.int .i64 a_b1.Num)), .c (.str a_b1.Text), .c (.sl 1 (List.map cS a_b1.Names)), .c (.sl 5 (List.map NodeT.cells a_b1.Kids))]] (.one (.c (.lit (.int .i64 r)))) := F.spec_compare_n n
theorem F.spec_same {n : Nat} : ∀ {a_a1 : NodeT} {a_b1 : NodeT} {r : Bool}, G.spec_same n a_a1 a_b1 = some r → APure Go.Proofs.Tryz.prog 84 [.agg [.c (.lit (.int .i64 a_a1.Kind)), .c (.lit (.int .i64 a_a1.Num)), .c (.str a_a1.Text), .c (.sl 1 (List.map cS a_a1.Names)), .c (.sl 5 (List.map NodeT.cells a_a1.Kids))], .agg [.c (.lit (.int .i64 a_b1.Kind)), .c (.lit (.int .i64 a_b1.Num)), .c (.str a_b1.Text), .c (.sl 1 (List.map cS a_b1.Names)), .c (.sl 5 (List.map NodeT.cells a_b1.Kids))]] (.one (.c (.lit (.bool r)))) := by
  intro a_a1 a_b1 r h
  refine fun_pure K.spec_same (ofK ?_)
  unfold C.spec_same
  rcases n with _ | n <;> simp only [G.spec_same, reduceCtorEq] at h
  obtain ⟨zc, zg, zk, zu, ze, zj, zt⟩ := pp (pp @F.spec_compare ()) <| pp () <| pp () <| pp () <| pp () <| pp () <| ()
  exact drv
theorem F.spec_mergeFor_n : ∀ (n : Nat), ∀ {a_a1 : NodeT} {a_b1 : NodeT} {r : NodeT}, G.spec_mergeFor n a_a1 a_b1 = some r → APure Go.Proofs.Tryz.prog 50 [.agg [.c (.lit (.int .i64 a_a1.Kind)), .c (.lit (.int .i64 a_a1.Num)), .c (.str a_a1.Text), .c (.sl 1 (List.map cS a_a1.Names)), .c (.sl 5 (List.map NodeT.cells a_a1.Kids))], .agg [.c (.lit (.int .i64 a_b1.Kind)), .c (.lit (.int .i64 a_b1.Num)), .c (.str a_b1.Text), .c (.sl 1 (List.map cS a_b1.Names)), .c (.sl 5 (List.map NodeT.cells a_b1.Kids))]] (.agg [.c (.lit (.int .i64 r.Kind)), .c (.lit (.int .i64 r.Num)), .c (.str r.Text), .c (.sl 1 (List.map cS r.Names)), .c (.sl 5 (List.map NodeT.cells r.Kids))]) := by
  intro n
  induction n using Nat.strongRecOn with | _ n ih =>
  intro a_a1 a_b1 r h
  refine fun_pure K.spec_mergeFor (ofK ?_)
  unfold C.spec_mergeFor
  rcases n with _ | n <;> simp only [G.spec_mergeFor, reduceCtorEq] at h
  obtain ⟨zc, zg, zk, zu, ze, zj, zt⟩ := pp (pp ih <| pp @F.spec_copyNode <| pp @F.spec_place <| pp @F.spec_addHere <| pp @F.spec_same ()) <| pp () <| pp (pp (@lopX (Int × Int × Int × Txt × List Txt × List NodeT) _ (fun n x => G.spec_mergeFor.L1 n a_a1 a_b1 x.1 x.2.1 x.2.2.1 x.2.2.2.1 x.2.2.2.2.1 x.2.2.2.2.2) r (fun x => ASt.of [(2, .v true (.one (.ptr 111 0))), (3, .v true (.one (.ptr 112 0))), (4, .v true (.one (.ptr 113 0))), (5, .v true (.one (.ptr 114 0))), (6, .v true (.one (.c (.lit (.int .i64 x.1)))))] [(111, .var [.c (.lit (.int .i64 a_a1.Kind)), .c (.lit (.int .i64 a_a1.Num)), .c (.str a_a1.Text), .c (.sl 1 (List.map cS a_a1.Names)), .c (.sl 5 (List.map NodeT.cells a_a1.Kids))]), (112, .var [.c (.lit (.int .i64 a_b1.Kind)), .c (.lit (.int .i64 a_b1.Num)), .c (.str a_b1.Text), .c (.sl 1 (List.map cS a_b1.Names)), .c (.sl 5 (List.map NodeT.cells a_b1.Kids))]), (113, .var [.c (.lit (.int .i64 0)), .c (.lit (.int .i64 0)), .c (.str []), .nsl 1, .nsl 5]), (114, .var [.c (.lit (.int .i64 x.2.1)), .c (.lit (.int .i64 x.2.2.1)), .c (.str x.2.2.2.1), .c (.sl 1 (List.map cS x.2.2.2.2.1)), .c (.sl 5 (List.map NodeT.cells x.2.2.2.2.2))])])) <| pp (@lopX (Int × Int × Int × Txt × List Txt × List NodeT) _ (fun n x => G.spec_mergeFor.L2 n a_a1 a_b1 x.1 x.2.1 x.2.2.1 x.2.2.2.1 x.2.2.2.2.1 x.2.2.2.2.2) r (fun x => ASt.of [(2, .v true (.one (.ptr 123 0))), (3, .v true (.one (.ptr 124 0))), (4, .v true (.one (.ptr 125 0))), (5, .v true (.one (.ptr 126 0))), (8, .v true (.one (.c (.lit (.int .i64 x.1)))))] [(123, .var [.c (.lit (.int .i64 a_a1.Kind)), .c (.lit (.int .i64 a_a1.Num)), .c (.str a_a1.Text), .c (.sl 1 (List.map cS a_a1.Names)), .c (.sl 5 (List.map NodeT.cells a_a1.Kids))]), (124, .var [.c (.lit (.int .i64 a_b1.Kind)), .c (.lit (.int .i64 a_b1.Num)), .c (.str a_b1.Text), .c (.sl 1 (List.map cS a_b1.Names)), .c (.sl 5 (List.map NodeT.cells a_b1.Kids))]), (125, .var [.c (.lit (.int .i64 0)), .c (.lit (.int .i64 0)), .c (.str []), .nsl 1, .nsl 5]), (126, .var [.c (.lit (.int .i64 x.2.1)), .c (.lit (.int .i64 x.2.2.1)), .c (.str x.2.2.2.1), .c (.sl 1 (List.map cS x.2.2.2.2.1)), .c (.sl 5 (List.map NodeT.cells x.2.2.2.2.2))])])) ()) <| pp () <| pp (pp (And.intro @G.spec_mergeFor.L1.eq_1 <| And.intro @G.spec_mergeFor.L1.eq_2 <| And.intro @G.spec_mergeFor.L2.eq_1 <| @G.spec_mergeFor.L2.eq_2) ()) <| pp (pp (@weakX [13, 14] [(111, 10), (112, 11), (113, 12), (114, 15)] []) <| pp (@weakX [] [(111, 111), (112, 112), (113, 113), (114, 114)] []) <| pp (@weakX [] [(123, 111), (124, 112), (125, 113), (126, 114)] []) <| pp (@weakX [] [(123, 123), (124, 124), (125, 125), (126, 126)] []) ()) <| ()
  exact drv
theorem F.spec_mergeFor {n : Nat} : ∀ {a_a1 : NodeT} {a_b1 : NodeT} {r : NodeT}, G.spec_mergeFor n a_a1 a_b1 = some r → APure Go.Proofs.Tryz.prog 50 [.agg [.c (.lit (.int .i64 a_a1.Kind)), .c (.lit (.int .i64 a_a1.Num)), .c (.str a_a1.Text), .c (.sl 1 (List.map cS a_a1.Names)), .c (.sl 5 (List.map NodeT.cells a_a1.Kids))], .agg [.c (.lit (.int .i64 a_b1.Kind)), .c (.lit (.int .i64 a_b1.Num)), .c (.str a_b1.Text), .c (.sl 1 (List.map cS a_b1.Names)), .c (.sl 5 (List.map NodeT.cells a_b1.Kids))]] (.agg [.c (.lit (.int .i64 r.Kind)), .c (.lit (.int .i64 r.Num)), .c (.str r.Text), .c (.sl 1 (List.map cS r.Names)), .c (.sl 5 (List.map NodeT.cells r.Kids))]) := F.spec_mergeFor_n n
theorem F.spec_plain_n : ∀ (n : Nat), ∀ {a_n1 : NodeT} {r : Bool}, G.spec_plain n a_n1 = some r → APure Go.Proofs.Tryz.prog 48 [.agg [.c (.lit (.int .i64 a_n1.Kind)), .c (.lit (.int .i64 a_n1.Num)), .c (.str a_n1.Text), .c (.sl 1 (List.map cS a_n1.Names)), .c (.sl 5 (List.map NodeT.cells a_n1.Kids))]] (.one (.c (.lit (.bool r)))) := by
  intro n
  induction n using Nat.strongRecOn with | _ n ih =>
  intro a_n1 r h
  refine fun_pure K.spec_plain (ofK ?_)
  unfold C.spec_plain
  rcases n with _ | n <;> simp only [G.spec_plain, reduceCtorEq] at h
  obtain ⟨zc, zg, zk, zu, ze, zj, zt⟩ := pp (pp ih ()) <| pp () <| pp (pp (@lopX (Int) _ (fun n x => G.spec_plain.L1 n a_n1 x) r (fun x => ASt.of [(1, .v true (.one (.ptr 103 0))), (3, .v true (.one (.c (.lit (.int .i64 x)))))] [(103, .var [.c (.lit (.int .i64 a_n1.Kind)), .c (.lit (.int .i64 a_n1.Num)), .c (.str a_n1.Text), .c (.sl 1 (List.map cS a_n1.Names)), .c (.sl 5 (List.map NodeT.cells a_n1.Kids))])])) ()) <| pp () <| pp (pp (And.intro @G.spec_plain.L1.eq_1 <| @G.spec_plain.L1.eq_2) ()) <| pp (pp (@weakX [] [(103, 10)] []) <| pp (@weakX [] [(103, 103)] []) ()) <| ()
  exact drv
theorem F.spec_plain {n : Nat} : ∀ {a_n1 : NodeT} {r : Bool}, G.spec_plain n a_n1 = some r → APure Go.Proofs.Tryz.prog 48 [.agg [.c (.lit (.int .i64 a_n1.Kind)), .c (.lit (.int .i64 a_n1.Num)), .c (.str a_n1.Text), .c (.sl 1 (List.map cS a_n1.Names)), .c (.sl 5 (List.map NodeT.cells a_n1.Kids))]] (.one (.c (.lit (.bool r)))) := F.spec_plain_n n
theorem F.spec_MergeFor {n : Nat} : ∀ {a_a1 : NodeT} {a_b1 : NodeT} {r : NodeT × Bool}, G.spec_MergeFor n a_a1 a_b1 = some r → APure Go.Proofs.Tryz.prog 19 [.agg [.c (.lit (.int .i64 a_a1.Kind)), .c (.lit (.int .i64 a_a1.Num)), .c (.str a_a1.Text), .c (.sl 1 (List.map cS a_a1.Names)), .c (.sl 5 (List.map NodeT.cells a_a1.Kids))], .agg [.c (.lit (.int .i64 a_b1.Kind)), .c (.lit (.int .i64 a_b1.Num)), .c (.str a_b1.Text), .c (.sl 1 (List.map cS a_b1.Names)), .c (.sl 5 (List.map NodeT.cells a_b1.Kids))]] (.tup [(true, [.c (.lit (.int .i64 r.1.Kind)), .c (.lit (.int .i64 r.1.Num)), .c (.str r.1.Text), .c (.sl 1 (List.map cS r.1.Names)), .c (.sl 5 (List.map NodeT.cells r.1.Kids))]), (false, [.c (.lit (.bool r.2))])]) := by
  intro a_a1 a_b1 r h
  refine fun_pure K.spec_MergeFor (ofK ?_)
  unfold C.spec_MergeFor
  rcases n with _ | n <;> simp only [G.spec_MergeFor, reduceCtorEq] at h
  obtain ⟨zc, zg, zk, zu, ze, zj, zt⟩ := pp (pp @F.spec_validNode <| pp @F.spec_plain <| pp @F.spec_mergeFor <| pp @F.spec_checked ()) <| pp () <| pp () <| pp () <| pp () <| pp () <| ()
  exact drv
theorem F.laws_FnDiffNodesMerge {n : Nat} : ∀ {a_code1 : List Int} {r : Bool}, G.laws_FnDiffNodesMerge n a_code1 = some r → APure Go.Proofs.Tryz.prog 4 [.one (.c (.sl 1 (List.map cU a_code1)))] (.one (.c (.lit (.bool r)))) := by
  intro a_code1 r h
  refine fun_pure K.laws_FnDiffNodesMerge (ofK ?_)
  unfold C.laws_FnDiffNodesMerge
  rcases n with _ | n <;> simp only [G.laws_FnDiffNodesMerge, reduceCtorEq] at h
  obtain ⟨zc, zg, zk, zu, ze, zj, zt⟩ := pp (pp @F.spec_DrawMergeFor <| pp @F.impl_MergeFor <| pp @F.spec_MergeFor <| pp @F.laws_equalNode <| pp @F.impl_MergeNode <| pp @F.impl_DiffNodes <| pp @F.impl_ApplyPatch ()) <| pp () <| pp () <| pp (pp (@cutX ((NodeT × NodeT) × (NodeT × Bool)) _ (fun n x => G.laws_FnDiffNodesMerge.K1 n x.1 x.2) r (fun x => ASt.of [(3, .v true (.one (.ptr 101 0))), (4, .v true (.one (.ptr 102 0))), (5, .v true (.one (.ptr 103 0))), (6, .v true (.one (.c (.lit (.bool true))))), (8, .v true (.one (.c (.lit (.bool true))))), (47, .v true (.one (.c (.lit (.bool false)))))] [(101, .var [.c (.lit (.int .i64 x.1.1.Kind)), .c (.lit (.int .i64 x.1.1.Num)), .c (.str x.1.1.Text), .c (.sl 1 (List.map cS x.1.1.Names)), .c (.sl 5 (List.map NodeT.cells x.1.1.Kids))]), (102, .var [.c (.lit (.int .i64 x.1.2.Kind)), .c (.lit (.int .i64 x.1.2.Num)), .c (.str x.1.2.Text), .c (.sl 1 (List.map cS x.1.2.Names)), .c (.sl 5 (List.map NodeT.cells x.1.2.Kids))]), (103, .var [.c (.lit (.int .i64 x.2.1.Kind)), .c (.lit (.int .i64 x.2.1.Num)), .c (.str x.2.1.Text), .c (.sl 1 (List.map cS x.2.1.Names)), .c (.sl 5 (List.map NodeT.cells x.2.1.Kids))])])) ()) <| pp (pp (And.intro @G.laws_FnDiffNodesMerge.K1.eq_1 <| @G.laws_FnDiffNodesMerge.K1.eq_2) ()) <| pp (pp (@weakX [] [(101, 10), (102, 11), (103, 12)] []) ()) <| ()
  exact drv
end Go.Ab
end
