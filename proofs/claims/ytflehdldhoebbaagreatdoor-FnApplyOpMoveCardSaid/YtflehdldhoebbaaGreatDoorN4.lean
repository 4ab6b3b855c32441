/- The law FnApplyOpMove of the package laws answers true for every code of bytes and leaves it as it is: the abstract interpreter of the program, the printed functions and proofs, the laws of the data, the statement (part 6 of the proof). Conditions: none but what the row lists. -/
import Derived.Test.YtflehdldhoebbaaGreatDoorN3
set_option linter.unusedVariables false
set_option linter.unusedSimpArgs false
section
namespace Go.Ab
open Go
set_option maxRecDepth 100000
set_option maxHeartbeats 4000000
set_option linter.unusedVariables false
set_option linter.unusedSimpArgs false
theorem F.spec_order {n : Nat} : ∀ {a_a1 : Int} {a_b1 : Int} {r : Int}, G.spec_order n a_a1 a_b1 = some r → APure Go.Proofs.Tryz.prog 101 [.one (.c (.lit (.int .i64 a_a1))), .one (.c (.lit (.int .i64 a_b1)))] (.one (.c (.lit (.int .i64 r)))) := by
  intro a_a1 a_b1 r h
  refine fun_pure K.spec_order (ofK ?_)
  unfold C.spec_order
  rcases n with _ | n <;> simp only [G.spec_order, reduceCtorEq] at h
  repeat' first
  | ((with_reducible replace h := kq0 h); obtain ⟨_, _, h⟩ := h)
  | ((with_reducible replace h := kq1 h); obtain ⟨_, _, h⟩ := h)
  | ((with_reducible replace h := kq h); obtain ⟨_, h⟩ := h)
  | ((with_reducible replace h := sq h); subst h; have h := True.intro)
  | (try simp -dsimp only [egR, AOp.opds, AOp.f, AOp.rd, intBin, storeV, lvl, srcOf, reduceIte, Nat.reduceEqDiff, Nat.reduceAdd, Nat.reduceLeDiff, Nat.reduceBEq, reduceCtorEq, Int.reduceBNe, Int.reduceBEq, Int.reduceLT, Int.reduceLE, Int.reduceNeg, Nat.reduceLT, strBin, Int.reduceToNat, renC, *]
     repeat ((with_reducible refine And.intro ?_ ?_); focus first | (show logOK _ _ _ _ = true; kernel_rfl) | (show callOK _ _ = true; kernel_rfl) | omega | assumption | (show _ ≤ maxLen; decide))
     first
     | with_reducible refine callN ?_
     | ((with_reducible refine isCall ?_); (with_reducible replace h := bq h); first | (obtain ⟨v1, hv, h⟩ := h; (with_reducible have hc := F.spec_toInt hv); refine callL (fun _ => hc) rfl rfl ?_))
     | ((with_reducible replace h := cq h); rcases h with ⟨_, h⟩ | ⟨_, h⟩)
     | ((with_reducible refine isEnd ?_); (simp -dsimp only [peR, reduceIte, Nat.reduceEqDiff, Nat.reduceAdd, Nat.reduceLeDiff, reduceCtorEq] <;> simp [List.take_of_length_le]; done)))
theorem F.spec_orderText {n : Nat} : ∀ {a_a1 : Txt} {a_b1 : Txt} {r : Int}, G.spec_orderText n a_a1 a_b1 = some r → APure Go.Proofs.Tryz.prog 102 [.one (.c (.str a_a1)), .one (.c (.str a_b1))] (.one (.c (.lit (.int .i64 r)))) := by
  intro a_a1 a_b1 r h
  refine fun_pure K.spec_orderText (ofK ?_)
  unfold C.spec_orderText
  rcases n with _ | n <;> simp only [G.spec_orderText, reduceCtorEq] at h
  repeat' first
  | ((with_reducible replace h := kq0 h); obtain ⟨_, _, h⟩ := h)
  | ((with_reducible replace h := kq1 h); obtain ⟨_, _, h⟩ := h)
  | ((with_reducible replace h := kq h); obtain ⟨_, h⟩ := h)
  | ((with_reducible replace h := sq h); subst h; have h := True.intro)
  | (try simp -dsimp only [egR, AOp.opds, AOp.f, AOp.rd, intBin, storeV, lvl, srcOf, reduceIte, Nat.reduceEqDiff, Nat.reduceAdd, Nat.reduceLeDiff, Nat.reduceBEq, reduceCtorEq, Int.reduceBNe, Int.reduceBEq, Int.reduceLT, Int.reduceLE, Int.reduceNeg, Nat.reduceLT, strBin, Int.reduceToNat, renC, *]
     repeat ((with_reducible refine And.intro ?_ ?_); focus first | (show logOK _ _ _ _ = true; kernel_rfl) | (show callOK _ _ = true; kernel_rfl) | omega | assumption | (show _ ≤ maxLen; decide))
     first
     | with_reducible refine callN ?_
     | ((with_reducible refine isCall ?_); (with_reducible replace h := bq h); first | (obtain ⟨v1, hv, h⟩ := h; (with_reducible have hc := F.spec_toInt hv); refine callL (fun _ => hc) rfl rfl ?_))
     | ((with_reducible replace h := cq h); rcases h with ⟨_, h⟩ | ⟨_, h⟩)
     | ((with_reducible refine isEnd ?_); (simp -dsimp only [peR, reduceIte, Nat.reduceEqDiff, Nat.reduceAdd, Nat.reduceLeDiff, reduceCtorEq] <;> simp [List.take_of_length_le]; done)))
theorem F.spec_compare_n : ∀ (n : Nat), ∀ {a_a1 : NodeT} {a_b1 : NodeT} {r : Int}, G.spec_compare n a_a1 a_b1 = some r → APure Go.Proofs.Tryz.prog 90 [.agg [.c (.lit (.int .i64 a_a1.Kind)), .c (.lit (.int .i64 a_a1.Num)), .c (.str a_a1.Text), .c (.sl 1 (List.map cS a_a1.Names)), .c (.sl 5 (List.map NodeT.cells a_a1.Kids))], .agg [.c (.lit (.int .i64 a_b1.Kind)), .c (.lit (.int .i64 a_b1.Num)), .c (.str a_b1.Text), .c (.sl 1 (List.map cS a_b1.Names)), .c (.sl 5 (List.map NodeT.cells a_b1.Kids))]] (.one (.c (.lit (.int .i64 r)))) := by
  intro n
  induction n using Nat.strongRecOn with | _ n ih =>
  intro a_a1 a_b1 r h
  refine fun_pure K.spec_compare (ofK ?_)
  unfold C.spec_compare
  rcases n with _ | n <;> simp only [G.spec_compare, reduceCtorEq] at h
  repeat' first
  | (clear h; (with_reducible rintro ⟨n, x_i2⟩ ⟨hn, h⟩); (with_reducible replace h : G.spec_compare.L1 _ _ _ _ = some _ := h); rcases n with _ | n <;> simp only [G.spec_compare.L1, reduceCtorEq] at h <;> simp only at hn)
  | ((with_reducible replace h := kq0 h); obtain ⟨_, _, h⟩ := h)
  | ((with_reducible replace h := kq1 h); obtain ⟨_, _, h⟩ := h)
  | ((with_reducible replace h := kq h); obtain ⟨_, h⟩ := h)
  | ((with_reducible replace h := sq h); subst h; have h := True.intro)
  | (try simp -dsimp only [egR, AOp.opds, AOp.f, AOp.rd, intBin, storeV, lvl, srcOf, reduceIte, Nat.reduceEqDiff, Nat.reduceAdd, Nat.reduceLeDiff, Nat.reduceBEq, reduceCtorEq, Int.reduceBNe, Int.reduceBEq, Int.reduceLT, Int.reduceLE, Int.reduceNeg, Nat.reduceLT, strBin, Int.reduceToNat, renC, *]
     repeat ((with_reducible refine And.intro ?_ ?_); focus first | (show logOK _ _ _ _ = true; kernel_rfl) | (show callOK _ _ = true; kernel_rfl) | omega | assumption | (show _ ≤ maxLen; decide))
     first
     | with_reducible refine callN ?_
     | ((with_reducible refine isLoop ?_); refine loopE (X := Nat × Int) (fun x => x.1 ≤ n ∧ G.spec_compare.L1 x.1 a_a1 a_b1 x.2 = some r) (fun x => ASt.of [(2, .v true (.one (.ptr 105 0))), (3, .v true (.one (.ptr 106 0))), (5, .v true (.one (.c (.lit (.int .i64 x.2)))))] [(105, .var [.c (.lit (.int .i64 a_a1.Kind)), .c (.lit (.int .i64 a_a1.Num)), .c (.str a_a1.Text), .c (.sl 1 (List.map cS a_a1.Names)), .c (.sl 5 (List.map NodeT.cells a_a1.Kids))]), (106, .var [.c (.lit (.int .i64 a_b1.Kind)), .c (.lit (.int .i64 a_b1.Num)), .c (.str a_b1.Text), .c (.sl 1 (List.map cS a_b1.Names)), .c (.sl 5 (List.map NodeT.cells a_b1.Kids))])]) (fun x => x.1) (by simp only [Prod.exists]; exact ⟨_, _, ⟨Nat.le_refl _, h⟩, weak_of [] [(105, 10), (106, 11)] [] (by rfl) (by (simp -dsimp only [wkR, wkB, wkC, reduceIte, Nat.reduceEqDiff, reduceCtorEq] <;> simp [List.take_of_length_le]; done)) (by (simp -dsimp only [wkR, wkB, wkC, reduceIte, Nat.reduceEqDiff, reduceCtorEq] <;> simp [List.take_of_length_le]; done))⟩) ?_)
     | ((with_reducible refine isCall ?_); (with_reducible replace h := bq h); first | (obtain ⟨v1, hv, h⟩ := h; (with_reducible have hc := F.spec_order hv); refine callL (fun _ => hc) rfl rfl ?_) | (obtain ⟨v10, hv, h⟩ := h; (with_reducible have hc := F.spec_orderText hv); refine callL (fun _ => hc) rfl rfl ?_) | (obtain ⟨v9, hv, h⟩ := h; have hc := ih _ (by omega) hv; refine callL (fun _ => hc) rfl rfl ?_))
     | ((with_reducible replace h := cq h); rcases h with ⟨c, h⟩ | ⟨c, h⟩ <;> try (simp only [*, Bool.false_eq_true, reduceCtorEq] at c; done))
     | ((with_reducible refine isEx ?_); simp only [Prod.exists]; refine ⟨_, _, ⟨⟨?_, h⟩, ?_⟩, weak_of [] [(105, 105), (106, 106)] [] ?_ ?_ ?_⟩; (iterate 2 focus omega); (focus rfl); (iterate 2 focus (simp -dsimp only [wkR, wkB, wkC, reduceIte, Nat.reduceEqDiff, reduceCtorEq] <;> simp [List.take_of_length_le]; done)))
     | ((with_reducible refine isEnd ?_); (simp -dsimp only [peR, reduceIte, Nat.reduceEqDiff, Nat.reduceAdd, Nat.reduceLeDiff, reduceCtorEq] <;> simp [List.take_of_length_le]; done)))
theorem F.spec_compare {n : Nat} : ∀ {a_a1 : NodeT} {a_b1 : NodeT} {r : Int}, G.spec_compare n a_a1 a_b1 = some r → APure Go.Proofs.Tryz.prog 90 [.agg [.c (.lit (.int .i64 a_a1.Kind)), .c (.lit (.int .i64 a_a1.Num)), .c (.str a_a1.Text), .c (.sl 1 (List.map cS a_a1.Names)), .c (.sl 5 (List.map NodeT.cells a_a1.Kids))], .agg [.c (.lit (.int .i64 a_b1.Kind)), .c (.lit (.int .i64 a_b1.Num)), .c (.str a_b1.Text), .c (.sl 1 (List.map cS a_b1.Names)), .c (.sl 5 (List.map NodeT.cells a_b1.Kids))]] (.one (.c (.lit (.int .i64 r)))) := F.spec_compare_n n
theorem F.spec_same {n : Nat} : ∀ {a_a1 : NodeT} {a_b1 : NodeT} {r : Bool}, G.spec_same n a_a1 a_b1 = some r → APure Go.Proofs.Tryz.prog 73 [.agg [.c (.lit (.int .i64 a_a1.Kind)), .c (.lit (.int .i64 a_a1.Num)), .c (.str a_a1.Text), .c (.sl 1 (List.map cS a_a1.Names)), .c (.sl 5 (List.map NodeT.cells a_a1.Kids))], .agg [.c (.lit (.int .i64 a_b1.Kind)), .c (.lit (.int .i64 a_b1.Num)), .c (.str a_b1.Text), .c (.sl 1 (List.map cS a_b1.Names)), .c (.sl 5 (List.map NodeT.cells a_b1.Kids))]] (.one (.c (.lit (.bool r)))) := by
  intro a_a1 a_b1 r h
  refine fun_pure K.spec_same (ofK ?_)
  unfold C.spec_same
  rcases n with _ | n <;> simp only [G.spec_same, reduceCtorEq] at h
  repeat' first
  | ((with_reducible replace h := kq0 h); obtain ⟨_, _, h⟩ := h)
  | ((with_reducible replace h := kq1 h); obtain ⟨_, _, h⟩ := h)
  | ((with_reducible replace h := kq h); obtain ⟨_, h⟩ := h)
  | ((with_reducible replace h := sq h); subst h; have h := True.intro)
  | (try simp -dsimp only [egR, AOp.opds, AOp.f, AOp.rd, intBin, storeV, lvl, srcOf, reduceIte, Nat.reduceEqDiff, Nat.reduceAdd, Nat.reduceLeDiff, Nat.reduceBEq, reduceCtorEq, Int.reduceBNe, Int.reduceBEq, Int.reduceLT, Int.reduceLE, Int.reduceNeg, Nat.reduceLT, strBin, Int.reduceToNat, renC, *]
     repeat ((with_reducible refine And.intro ?_ ?_); focus first | (show logOK _ _ _ _ = true; kernel_rfl) | (show callOK _ _ = true; kernel_rfl) | omega | assumption | (show _ ≤ maxLen; decide))
     first
     | with_reducible refine callN ?_
     | ((with_reducible refine isCall ?_); (with_reducible replace h := bq h); first | (obtain ⟨v1, hv, h⟩ := h; (with_reducible have hc := F.spec_compare hv); refine callL (fun _ => hc) rfl rfl ?_))
     | ((with_reducible replace h := cq h); rcases h with ⟨_, h⟩ | ⟨_, h⟩)
     | ((with_reducible refine isEnd ?_); (simp -dsimp only [peR, reduceIte, Nat.reduceEqDiff, Nat.reduceAdd, Nat.reduceLeDiff, reduceCtorEq] <;> simp [List.take_of_length_le]; done)))
theorem F.spec_apply {n : Nat} : ∀ {a_n1 : NodeT} {a_o1 : OpT} {r : NodeT × Bool}, G.spec_apply n a_n1 a_o1 = some r → APure Go.Proofs.Tryz.prog 54 [.agg [.c (.lit (.int .i64 a_n1.Kind)), .c (.lit (.int .i64 a_n1.Num)), .c (.str a_n1.Text), .c (.sl 1 (List.map cS a_n1.Names)), .c (.sl 5 (List.map NodeT.cells a_n1.Kids))], .agg [.c (.lit (.int .i64 a_o1.Kind)), .c (.sl 1 (List.map cS a_o1.Path)), .c (.sl 1 (List.map cS a_o1.From)), .c (.lit (.int .i64 a_o1.Value.Kind)), .c (.lit (.int .i64 a_o1.Value.Num)), .c (.str a_o1.Value.Text), .c (.sl 1 (List.map cS a_o1.Value.Names)), .c (.sl 5 (List.map NodeT.cells a_o1.Value.Kids))]] (.tup [(true, [.c (.lit (.int .i64 r.1.Kind)), .c (.lit (.int .i64 r.1.Num)), .c (.str r.1.Text), .c (.sl 1 (List.map cS r.1.Names)), .c (.sl 5 (List.map NodeT.cells r.1.Kids))]), (false, [.c (.lit (.bool r.2))])]) := by
  intro a_n1 a_o1 r h
  refine fun_pure K.spec_apply (ofK ?_)
  unfold C.spec_apply
  rcases n with _ | n <;> simp only [G.spec_apply, reduceCtorEq] at h
  repeat' first
  | (clear h; (with_reducible rintro ⟨n, x_from1⟩ ⟨hn, h⟩); (with_reducible replace h : G.spec_apply.K1 _ _ _ _ = some _ := h); rcases n with _ | n <;> simp only [G.spec_apply.K1, reduceCtorEq] at h <;> simp only at hn)
  | ((with_reducible replace h := kq0 h); obtain ⟨_, _, h⟩ := h)
  | ((with_reducible replace h := kq1 h); obtain ⟨_, _, h⟩ := h)
  | ((with_reducible replace h := kq h); obtain ⟨_, h⟩ := h)
  | ((with_reducible replace h := sq h); subst h; have h := True.intro)
  | (try simp -dsimp only [egR, AOp.opds, AOp.f, AOp.rd, intBin, storeV, lvl, srcOf, reduceIte, Nat.reduceEqDiff, Nat.reduceAdd, Nat.reduceLeDiff, Nat.reduceBEq, reduceCtorEq, Int.reduceBNe, Int.reduceBEq, Int.reduceLT, Int.reduceLE, Int.reduceNeg, Nat.reduceLT, strBin, Int.reduceToNat, renC, *]
     repeat ((with_reducible refine And.intro ?_ ?_); focus first | (show logOK _ _ _ _ = true; kernel_rfl) | (show callOK _ _ = true; kernel_rfl) | omega | assumption | (show _ ≤ maxLen; decide))
     first
     | with_reducible refine callN ?_
     | ((with_reducible refine isCut ?_); refine cutK (X := Nat × List Txt) (fun x => x.1 ≤ n ∧ G.spec_apply.K1 x.1 a_n1 a_o1 x.2 = some r) (fun x => ASt.of [(2, .v true (.one (.ptr 101 0))), (3, .v true (.one (.ptr 102 0))), (4, .v true (.one (.ptr 103 0))), (6, .v true (.one (.c (.sl 1 (List.map cS x.2)))))] [(101, .var [.c (.lit (.int .i64 a_n1.Kind)), .c (.lit (.int .i64 a_n1.Num)), .c (.str a_n1.Text), .c (.sl 1 (List.map cS a_n1.Names)), .c (.sl 5 (List.map NodeT.cells a_n1.Kids))]), (102, .var [.c (.lit (.int .i64 a_o1.Kind)), .c (.sl 1 (List.map cS a_o1.Path)), .c (.sl 1 (List.map cS a_o1.From)), .c (.lit (.int .i64 a_o1.Value.Kind)), .c (.lit (.int .i64 a_o1.Value.Num)), .c (.str a_o1.Value.Text), .c (.sl 1 (List.map cS a_o1.Value.Names)), .c (.sl 5 (List.map NodeT.cells a_o1.Value.Kids))]), (103, .var [.c (.lit (.int .i64 0)), .c (.lit (.int .i64 0)), .c (.str []), .nsl 1, .nsl 5])]) ?_ ?_)
     | ((with_reducible refine isCall ?_); (with_reducible replace h := bq h); first | (obtain ⟨v1, hv, h⟩ := h; (with_reducible have hc := F.spec_addAt hv); refine callP hc rfl rfl ?_) | (obtain ⟨v2, hv, h⟩ := h; (with_reducible have hc := F.spec_removeAt hv); refine callP hc rfl rfl ?_) | (obtain ⟨v3, hv, h⟩ := h; (with_reducible have hc := F.spec_setAt hv); refine callP hc rfl rfl ?_) | (obtain ⟨v4, hv, h⟩ := h; (with_reducible have hc := F.spec_at hv); refine callP hc rfl rfl ?_) | (obtain ⟨v5, hv, h⟩ := h; (with_reducible have hc := F.spec_same hv); refine callL (fun _ => hc) rfl rfl ?_) | (obtain ⟨v7, hv, h⟩ := h; (with_reducible have hc := F.spec_begins hv); refine callL (fun _ => hc) rfl rfl ?_) | (obtain ⟨v8, hv, h⟩ := h; (with_reducible have hc := F.spec_copyNode hv); refine callP hc rfl rfl ?_))
     | ((with_reducible replace h := cq h); rcases h with ⟨c, h⟩ | ⟨c, h⟩ <;> try (simp only [*, Bool.false_eq_true, reduceCtorEq] at c; done))
     | ((with_reducible refine isEx ?_); simp only [Prod.exists]; refine ⟨_, _, ⟨?_, h⟩, weak_of [] [(101, 10), (102, 11), (103, 12)] [] ?_ ?_ ?_⟩; (focus omega); (focus rfl); (iterate 2 focus (simp -dsimp only [wkR, wkB, wkC, reduceIte, Nat.reduceEqDiff, reduceCtorEq] <;> simp [List.take_of_length_le]; done)))
     | ((with_reducible refine isEnd ?_); (simp -dsimp only [peR, reduceIte, Nat.reduceEqDiff, Nat.reduceAdd, Nat.reduceLeDiff, reduceCtorEq] <;> simp [List.take_of_length_le]; done)))
theorem F.spec_count_n : ∀ (n : Nat), ∀ {a_n1 : NodeT} {r : Int}, G.spec_count n a_n1 = some r → APure Go.Proofs.Tryz.prog 50 [.agg [.c (.lit (.int .i64 a_n1.Kind)), .c (.lit (.int .i64 a_n1.Num)), .c (.str a_n1.Text), .c (.sl 1 (List.map cS a_n1.Names)), .c (.sl 5 (List.map NodeT.cells a_n1.Kids))]] (.one (.c (.lit (.int .i64 r)))) := by
  intro n
  induction n using Nat.strongRecOn with | _ n ih =>
  intro a_n1 r h
  refine fun_pure K.spec_count (ofK ?_)
  unfold C.spec_count
  rcases n with _ | n <;> simp only [G.spec_count, reduceCtorEq] at h
  repeat' first
  | (clear h; (with_reducible rintro ⟨n, x_k2, x_i2⟩ ⟨hn, h⟩); (with_reducible replace h : G.spec_count.L1 _ _ _ _ = some _ := h); rcases n with _ | n <;> simp only [G.spec_count.L1, reduceCtorEq] at h <;> simp only at hn)
  | ((with_reducible replace h := kq0 h); obtain ⟨_, _, h⟩ := h)
  | ((with_reducible replace h := kq1 h); obtain ⟨_, _, h⟩ := h)
  | ((with_reducible replace h := kq h); obtain ⟨_, h⟩ := h)
  | ((with_reducible replace h := sq h); subst h; have h := True.intro)
  | (try simp -dsimp only [egR, AOp.opds, AOp.f, AOp.rd, intBin, storeV, lvl, srcOf, reduceIte, Nat.reduceEqDiff, Nat.reduceAdd, Nat.reduceLeDiff, Nat.reduceBEq, reduceCtorEq, Int.reduceBNe, Int.reduceBEq, Int.reduceLT, Int.reduceLE, Int.reduceNeg, Nat.reduceLT, strBin, Int.reduceToNat, renC, *]
     repeat ((with_reducible refine And.intro ?_ ?_); focus first | (show logOK _ _ _ _ = true; kernel_rfl) | (show callOK _ _ = true; kernel_rfl) | omega | assumption | (show _ ≤ maxLen; decide))
     first
     | with_reducible refine callN ?_
     | ((with_reducible refine isLoop ?_); refine loopE (X := Nat × Int × Int) (fun x => x.1 ≤ n ∧ G.spec_count.L1 x.1 a_n1 x.2.1 x.2.2 = some r) (fun x => ASt.of [(1, .v true (.one (.ptr 103 0))), (3, .v true (.one (.c (.lit (.int .i64 x.2.1))))), (4, .v true (.one (.c (.lit (.int .i64 x.2.2)))))] [(103, .var [.c (.lit (.int .i64 a_n1.Kind)), .c (.lit (.int .i64 a_n1.Num)), .c (.str a_n1.Text), .c (.sl 1 (List.map cS a_n1.Names)), .c (.sl 5 (List.map NodeT.cells a_n1.Kids))])]) (fun x => x.1) (by simp only [Prod.exists]; exact ⟨_, _, _, ⟨Nat.le_refl _, h⟩, weak_of [] [(103, 10)] [] (by rfl) (by (simp -dsimp only [wkR, wkB, wkC, reduceIte, Nat.reduceEqDiff, reduceCtorEq] <;> simp [List.take_of_length_le]; done)) (by (simp -dsimp only [wkR, wkB, wkC, reduceIte, Nat.reduceEqDiff, reduceCtorEq] <;> simp [List.take_of_length_le]; done))⟩) ?_)
     | ((with_reducible refine isCall ?_); (with_reducible replace h := bq h); first | (obtain ⟨v3, hv, h⟩ := h; have hc := ih _ (by omega) hv; refine callL (fun _ => hc) rfl rfl ?_))
     | ((with_reducible replace h := cq h); rcases h with ⟨c, h⟩ | ⟨c, h⟩ <;> try (simp only [*, Bool.false_eq_true, reduceCtorEq] at c; done))
     | ((with_reducible refine isEx ?_); simp only [Prod.exists]; refine ⟨_, _, _, ⟨⟨?_, h⟩, ?_⟩, weak_of [] [(103, 103)] [] ?_ ?_ ?_⟩; (iterate 2 focus omega); (focus rfl); (iterate 2 focus (simp -dsimp only [wkR, wkB, wkC, reduceIte, Nat.reduceEqDiff, reduceCtorEq] <;> simp [List.take_of_length_le]; done)))
     | ((with_reducible refine isEnd ?_); (simp -dsimp only [peR, reduceIte, Nat.reduceEqDiff, Nat.reduceAdd, Nat.reduceLeDiff, reduceCtorEq] <;> simp [List.take_of_length_le]; done)))
theorem F.spec_count {n : Nat} : ∀ {a_n1 : NodeT} {r : Int}, G.spec_count n a_n1 = some r → APure Go.Proofs.Tryz.prog 50 [.agg [.c (.lit (.int .i64 a_n1.Kind)), .c (.lit (.int .i64 a_n1.Num)), .c (.str a_n1.Text), .c (.sl 1 (List.map cS a_n1.Names)), .c (.sl 5 (List.map NodeT.cells a_n1.Kids))]] (.one (.c (.lit (.int .i64 r)))) := F.spec_count_n n
theorem F.spec_inRange {n : Nat} : ∀ {a_n1 : Int} {a_low1 : Int} {a_high1 : Int} {r : Bool}, G.spec_inRange n a_n1 a_low1 a_high1 = some r → APure Go.Proofs.Tryz.prog 51 [.one (.c (.lit (.int .i64 a_n1))), .one (.c (.lit (.int .i64 a_low1))), .one (.c (.lit (.int .i64 a_high1)))] (.one (.c (.lit (.bool r)))) := by
  intro a_n1 a_low1 a_high1 r h
  refine fun_pure K.spec_inRange (ofK ?_)
  unfold C.spec_inRange
  rcases n with _ | n <;> simp only [G.spec_inRange, reduceCtorEq] at h
  repeat' first
  | ((with_reducible replace h := kq0 h); obtain ⟨_, _, h⟩ := h)
  | ((with_reducible replace h := kq1 h); obtain ⟨_, _, h⟩ := h)
  | ((with_reducible replace h := kq h); obtain ⟨_, h⟩ := h)
  | ((with_reducible replace h := sq h); subst h; have h := True.intro)
  | (try simp -dsimp only [egR, AOp.opds, AOp.f, AOp.rd, intBin, storeV, lvl, srcOf, reduceIte, Nat.reduceEqDiff, Nat.reduceAdd, Nat.reduceLeDiff, Nat.reduceBEq, reduceCtorEq, Int.reduceBNe, Int.reduceBEq, Int.reduceLT, Int.reduceLE, Int.reduceNeg, Nat.reduceLT, strBin, Int.reduceToNat, renC, *]
     repeat ((with_reducible refine And.intro ?_ ?_); focus first | (show logOK _ _ _ _ = true; kernel_rfl) | (show callOK _ _ = true; kernel_rfl) | omega | assumption | (show _ ≤ maxLen; decide))
     first
     | with_reducible refine callN ?_
     | ((with_reducible replace h := cq h); rcases h with ⟨_, h⟩ | ⟨_, h⟩)
     | ((with_reducible refine isEnd ?_); (simp -dsimp only [peR, reduceIte, Nat.reduceEqDiff, Nat.reduceAdd, Nat.reduceLeDiff, reduceCtorEq] <;> simp [List.take_of_length_le]; done)))
theorem F.spec_validText {n : Nat} : ∀ {a_s1 : Txt} {r : Bool}, G.spec_validText n a_s1 = some r → APure Go.Proofs.Tryz.prog 67 [.one (.c (.str a_s1))] (.one (.c (.lit (.bool r)))) := by
  intro a_s1 r h
  refine fun_pure K.spec_validText (ofK ?_)
  unfold C.spec_validText
  rcases n with _ | n <;> simp only [G.spec_validText, reduceCtorEq] at h
  repeat' first
  | (clear h; (with_reducible rintro ⟨n, x_i2⟩ ⟨hn, h⟩); (with_reducible replace h : G.spec_validText.L1 _ _ _ = some _ := h); rcases n with _ | n <;> simp only [G.spec_validText.L1, reduceCtorEq] at h <;> simp only at hn)
  | ((with_reducible replace h := kq0 h); obtain ⟨_, _, h⟩ := h)
  | ((with_reducible replace h := kq1 h); obtain ⟨_, _, h⟩ := h)
  | ((with_reducible replace h := kq h); obtain ⟨_, h⟩ := h)
  | ((with_reducible replace h := sq h); subst h; have h := True.intro)
  | (try simp -dsimp only [egR, AOp.opds, AOp.f, AOp.rd, intBin, storeV, lvl, srcOf, reduceIte, Nat.reduceEqDiff, Nat.reduceAdd, Nat.reduceLeDiff, Nat.reduceBEq, reduceCtorEq, Int.reduceBNe, Int.reduceBEq, Int.reduceLT, Int.reduceLE, Int.reduceNeg, Nat.reduceLT, strBin, Int.reduceToNat, renC, *]
     repeat ((with_reducible refine And.intro ?_ ?_); focus first | (show logOK _ _ _ _ = true; kernel_rfl) | (show callOK _ _ = true; kernel_rfl) | omega | assumption | (show _ ≤ maxLen; decide))
     first
     | with_reducible refine callN ?_
     | ((with_reducible refine isLoop ?_); refine loopE (X := Nat × Int) (fun x => x.1 ≤ n ∧ G.spec_validText.L1 x.1 a_s1 x.2 = some r) (fun x => ASt.of [(0, .v true (.one (.c (.str a_s1)))), (3, .v true (.one (.c (.lit (.int .i64 x.2)))))] []) (fun x => x.1) (by simp only [Prod.exists]; exact ⟨_, _, ⟨Nat.le_refl _, h⟩, weak_of [] [] [] (by rfl) (by (simp -dsimp only [wkR, wkB, wkC, reduceIte, Nat.reduceEqDiff, reduceCtorEq] <;> simp [List.take_of_length_le]; done)) (by (simp -dsimp only [wkR, wkB, wkC, reduceIte, Nat.reduceEqDiff, reduceCtorEq] <;> simp [List.take_of_length_le]; done))⟩) ?_)
     | ((with_reducible refine isCall ?_); (with_reducible replace h := bq h); first | (obtain ⟨v3, hv, h⟩ := h; (with_reducible have hc := F.spec_inRange hv); refine callL (fun _ => hc) rfl rfl ?_))
     | ((with_reducible replace h := cq h); rcases h with ⟨c, h⟩ | ⟨c, h⟩ <;> try (simp only [*, Bool.false_eq_true, reduceCtorEq] at c; done))
     | ((with_reducible refine isEx ?_); simp only [Prod.exists]; refine ⟨_, _, ⟨⟨?_, h⟩, ?_⟩, weak_of [] [] [] ?_ ?_ ?_⟩; (iterate 2 focus omega); (focus rfl); (iterate 2 focus (simp -dsimp only [wkR, wkB, wkC, reduceIte, Nat.reduceEqDiff, reduceCtorEq] <;> simp [List.take_of_length_le]; done)))
     | ((with_reducible refine isEnd ?_); (simp -dsimp only [peR, reduceIte, Nat.reduceEqDiff, Nat.reduceAdd, Nat.reduceLeDiff, reduceCtorEq] <;> simp [List.take_of_length_le]; done)))
theorem F.spec_names {n : Nat} : ∀ {a_list1 : List Txt} {r : Bool}, G.spec_names n a_list1 = some r → APure Go.Proofs.Tryz.prog 69 [.one (.c (.sl 1 (List.map cS a_list1)))] (.one (.c (.lit (.bool r)))) := by
  intro a_list1 r h
  refine fun_pure K.spec_names (ofK ?_)
  unfold C.spec_names
  rcases n with _ | n <;> simp only [G.spec_names, reduceCtorEq] at h
  repeat' first
  | (clear h; (with_reducible rintro ⟨n, x_i2⟩ ⟨hn, h⟩); (with_reducible replace h : G.spec_names.L1 _ _ _ = some _ := h); rcases n with _ | n <;> simp only [G.spec_names.L1, reduceCtorEq] at h <;> simp only at hn)
  | ((with_reducible replace h := kq0 h); obtain ⟨_, _, h⟩ := h)
  | ((with_reducible replace h := kq1 h); obtain ⟨_, _, h⟩ := h)
  | ((with_reducible replace h := kq h); obtain ⟨_, h⟩ := h)
  | ((with_reducible replace h := sq h); subst h; have h := True.intro)
  | (try simp -dsimp only [egR, AOp.opds, AOp.f, AOp.rd, intBin, storeV, lvl, srcOf, reduceIte, Nat.reduceEqDiff, Nat.reduceAdd, Nat.reduceLeDiff, Nat.reduceBEq, reduceCtorEq, Int.reduceBNe, Int.reduceBEq, Int.reduceLT, Int.reduceLE, Int.reduceNeg, Nat.reduceLT, strBin, Int.reduceToNat, renC, *]
     repeat ((with_reducible refine And.intro ?_ ?_); focus first | (show logOK _ _ _ _ = true; kernel_rfl) | (show callOK _ _ = true; kernel_rfl) | omega | assumption | (show _ ≤ maxLen; decide))
     first
     | with_reducible refine callN ?_
     | ((with_reducible refine isLoop ?_); refine loopE (X := Nat × Int) (fun x => x.1 ≤ n ∧ G.spec_names.L1 x.1 a_list1 x.2 = some r) (fun x => ASt.of [(0, .v true (.one (.c (.sl 1 (List.map cS a_list1))))), (3, .v true (.one (.c (.lit (.int .i64 x.2)))))] []) (fun x => x.1) (by simp only [Prod.exists]; exact ⟨_, _, ⟨Nat.le_refl _, h⟩, weak_of [] [] [] (by rfl) (by (simp -dsimp only [wkR, wkB, wkC, reduceIte, Nat.reduceEqDiff, reduceCtorEq] <;> simp [List.take_of_length_le]; done)) (by (simp -dsimp only [wkR, wkB, wkC, reduceIte, Nat.reduceEqDiff, reduceCtorEq] <;> simp [List.take_of_length_le]; done))⟩) ?_)
     | ((with_reducible refine isCall ?_); (with_reducible replace h := bq h); first | (obtain ⟨v3, hv, h⟩ := h; (with_reducible have hc := F.spec_validText hv); refine callL (fun _ => hc) rfl rfl ?_))
     | ((with_reducible replace h := cq h); rcases h with ⟨c, h⟩ | ⟨c, h⟩ <;> try (simp only [*, Bool.false_eq_true, reduceCtorEq] at c; done))
     | ((with_reducible refine isEx ?_); simp only [Prod.exists]; refine ⟨_, _, ⟨⟨?_, h⟩, ?_⟩, weak_of [] [] [] ?_ ?_ ?_⟩; (iterate 2 focus omega); (focus rfl); (iterate 2 focus (simp -dsimp only [wkR, wkB, wkC, reduceIte, Nat.reduceEqDiff, reduceCtorEq] <;> simp [List.take_of_length_le]; done)))
     | ((with_reducible refine isEnd ?_); (simp -dsimp only [peR, reduceIte, Nat.reduceEqDiff, Nat.reduceAdd, Nat.reduceLeDiff, reduceCtorEq] <;> simp [List.take_of_length_le]; done)))
theorem F.scc_spec_kids : ∀ (n : Nat), (∀ {a_n1 : NodeT} {a_depth1 : Int} {r : Bool}, G.spec_kids n a_n1 a_depth1 = some r → APure Go.Proofs.Tryz.prog 68 [.agg [.c (.lit (.int .i64 a_n1.Kind)), .c (.lit (.int .i64 a_n1.Num)), .c (.str a_n1.Text), .c (.sl 1 (List.map cS a_n1.Names)), .c (.sl 5 (List.map NodeT.cells a_n1.Kids))], .one (.c (.lit (.int .i64 a_depth1)))] (.one (.c (.lit (.bool r))))) ∧ (∀ {a_n1 : NodeT} {a_depth1 : Int} {r : Bool}, G.spec_shape n a_n1 a_depth1 = some r → APure Go.Proofs.Tryz.prog 49 [.agg [.c (.lit (.int .i64 a_n1.Kind)), .c (.lit (.int .i64 a_n1.Num)), .c (.str a_n1.Text), .c (.sl 1 (List.map cS a_n1.Names)), .c (.sl 5 (List.map NodeT.cells a_n1.Kids))], .one (.c (.lit (.int .i64 a_depth1)))] (.one (.c (.lit (.bool r))))) := by
  intro n
  induction n using Nat.strongRecOn with | _ n ih =>
  refine ⟨?_, ?_⟩
  intro a_n1 a_depth1 r h
  refine fun_pure K.spec_kids (ofK ?_)
  unfold C.spec_kids
  rcases n with _ | n <;> simp only [G.spec_kids, reduceCtorEq] at h
  rotate_left
  intro a_n1 a_depth1 r h
  refine fun_pure K.spec_shape (ofK ?_)
  unfold C.spec_shape
  rcases n with _ | n <;> simp only [G.spec_shape, reduceCtorEq] at h
  rotate_left
  all_goals (have := Mk.mk 1; have := Mk.mk 1)
  all_goals repeat' first
  | (clear h; (with_reducible rintro ⟨n, x_i2⟩ ⟨hn, h⟩); (with_reducible replace h : G.spec_kids.L1 _ _ _ _ = some _ := h); rcases n with _ | n <;> simp only [G.spec_kids.L1, reduceCtorEq] at h <;> simp only at hn)
  | (clear h; (with_reducible rintro ⟨n, _⟩ ⟨hn, h⟩); (with_reducible replace h : G.spec_shape.K1 _ _ _ = some _ := h); rcases n with _ | n <;> simp only [G.spec_shape.K1, reduceCtorEq] at h <;> simp only at hn)
  | ((with_reducible replace h := kq0 h); obtain ⟨_, _, h⟩ := h)
  | ((with_reducible replace h := kq1 h); obtain ⟨_, _, h⟩ := h)
  | ((with_reducible replace h := kq h); obtain ⟨_, h⟩ := h)
  | ((with_reducible replace h := sq h); subst h; have h := True.intro)
  | (try simp -dsimp only [egR, AOp.opds, AOp.f, AOp.rd, intBin, storeV, lvl, srcOf, reduceIte, Nat.reduceEqDiff, Nat.reduceAdd, Nat.reduceLeDiff, Nat.reduceBEq, reduceCtorEq, Int.reduceBNe, Int.reduceBEq, Int.reduceLT, Int.reduceLE, Int.reduceNeg, Nat.reduceLT, strBin, Int.reduceToNat, renC, *]
     repeat ((with_reducible refine And.intro ?_ ?_); focus first | (show logOK _ _ _ _ = true; kernel_rfl) | (show callOK _ _ = true; kernel_rfl) | omega | assumption | (show _ ≤ maxLen; decide))
     first
     | with_reducible refine callN ?_
     | ((with_reducible refine isLoop ?_); rename Mk 1 => tk; clear tk; have : True := (by rewrite [show @G.spec_kids.L1 = _ from rfl] at h; exact True.intro); refine loopE (X := Nat × Int) (fun x => x.1 ≤ n ∧ G.spec_kids.L1 x.1 a_n1 a_depth1 x.2 = some r) (fun x => ASt.of [(1, .v true (.one (.c (.lit (.int .i64 a_depth1))))), (2, .v true (.one (.ptr 103 0))), (5, .v true (.one (.c (.lit (.int .i64 x.2)))))] [(103, .var [.c (.lit (.int .i64 a_n1.Kind)), .c (.lit (.int .i64 a_n1.Num)), .c (.str a_n1.Text), .c (.sl 1 (List.map cS a_n1.Names)), .c (.sl 5 (List.map NodeT.cells a_n1.Kids))])]) (fun x => x.1) (by simp only [Prod.exists]; exact ⟨_, _, ⟨Nat.le_refl _, h⟩, weak_of [] [(103, 10)] [] (by rfl) (by (simp -dsimp only [wkR, wkB, wkC, reduceIte, Nat.reduceEqDiff, reduceCtorEq] <;> simp [List.take_of_length_le]; done)) (by (simp -dsimp only [wkR, wkB, wkC, reduceIte, Nat.reduceEqDiff, reduceCtorEq] <;> simp [List.take_of_length_le]; done))⟩) ?_)
     | ((with_reducible refine isCut ?_); rename Mk 1 => tk; clear tk; have : True := (by rewrite [show @G.spec_shape.K1 = _ from rfl] at h; exact True.intro); refine cutK (X := Nat × Unit) (fun x => x.1 ≤ n ∧ G.spec_shape.K1 x.1 a_n1 a_depth1 = some r) (fun x => ASt.of [(1, .v true (.one (.c (.lit (.int .i64 a_depth1))))), (2, .v true (.one (.ptr 101 0))), (54, .v true (.one (.c (.lit (.bool false)))))] [(101, .var [.c (.lit (.int .i64 a_n1.Kind)), .c (.lit (.int .i64 a_n1.Num)), .c (.str a_n1.Text), .c (.sl 1 (List.map cS a_n1.Names)), .c (.sl 5 (List.map NodeT.cells a_n1.Kids))])]) ?_ ?_)
     | ((with_reducible refine isCall ?_); (with_reducible replace h := bq h); first | (obtain ⟨v1, hv, h⟩ := h; (with_reducible have hc := F.spec_inRange hv); refine callL (fun _ => hc) rfl rfl ?_) | (obtain ⟨v2, hv, h⟩ := h; (with_reducible have hc := F.spec_validText hv); refine callL (fun _ => hc) rfl rfl ?_) | (obtain ⟨v4, hv, h⟩ := h; (with_reducible have hc := F.spec_names hv); refine callL (fun _ => hc) rfl rfl ?_) | (obtain ⟨v3, hv, h⟩ := h; have hc := (ih _ (by omega)).2 hv; refine callL (fun _ => hc) rfl rfl ?_) | (obtain ⟨v3, hv, h⟩ := h; have hc := (ih _ (by omega)).1 hv; refine callL (fun _ => hc) rfl rfl ?_))
     | ((with_reducible replace h := cq h); rcases h with ⟨c, h⟩ | ⟨c, h⟩ <;> try (simp only [*, Bool.false_eq_true, reduceCtorEq] at c; done))
     | ((with_reducible refine isEx ?_); simp only [Prod.exists]; refine ⟨_, _, ⟨⟨?_, h⟩, ?_⟩, weak_of [] [(103, 103)] [] ?_ ?_ ?_⟩; (iterate 2 focus omega); (focus rfl); (iterate 2 focus (simp -dsimp only [wkR, wkB, wkC, reduceIte, Nat.reduceEqDiff, reduceCtorEq] <;> simp [List.take_of_length_le]; done)))
     | ((with_reducible refine isEx ?_); simp only [Prod.exists]; refine ⟨_, (), ⟨?_, h⟩, weak_of [] [(101, 10)] [] ?_ ?_ ?_⟩; (focus omega); (focus rfl); (iterate 2 focus (simp -dsimp only [wkR, wkB, wkC, reduceIte, Nat.reduceEqDiff, reduceCtorEq] <;> simp [List.take_of_length_le]; done)))
     | ((with_reducible refine isEnd ?_); (simp -dsimp only [peR, reduceIte, Nat.reduceEqDiff, Nat.reduceAdd, Nat.reduceLeDiff, reduceCtorEq] <;> simp [List.take_of_length_le]; done)))
theorem F.spec_kids {n : Nat} : ∀ {a_n1 : NodeT} {a_depth1 : Int} {r : Bool}, G.spec_kids n a_n1 a_depth1 = some r → APure Go.Proofs.Tryz.prog 68 [.agg [.c (.lit (.int .i64 a_n1.Kind)), .c (.lit (.int .i64 a_n1.Num)), .c (.str a_n1.Text), .c (.sl 1 (List.map cS a_n1.Names)), .c (.sl 5 (List.map NodeT.cells a_n1.Kids))], .one (.c (.lit (.int .i64 a_depth1)))] (.one (.c (.lit (.bool r)))) := (F.scc_spec_kids n).1
theorem F.spec_shape {n : Nat} : ∀ {a_n1 : NodeT} {a_depth1 : Int} {r : Bool}, G.spec_shape n a_n1 a_depth1 = some r → APure Go.Proofs.Tryz.prog 49 [.agg [.c (.lit (.int .i64 a_n1.Kind)), .c (.lit (.int .i64 a_n1.Num)), .c (.str a_n1.Text), .c (.sl 1 (List.map cS a_n1.Names)), .c (.sl 5 (List.map NodeT.cells a_n1.Kids))], .one (.c (.lit (.int .i64 a_depth1)))] (.one (.c (.lit (.bool r)))) := (F.scc_spec_kids n).2
theorem F.spec_validNode {n : Nat} : ∀ {a_n1 : NodeT} {r : Bool}, G.spec_validNode n a_n1 = some r → APure Go.Proofs.Tryz.prog 24 [.agg [.c (.lit (.int .i64 a_n1.Kind)), .c (.lit (.int .i64 a_n1.Num)), .c (.str a_n1.Text), .c (.sl 1 (List.map cS a_n1.Names)), .c (.sl 5 (List.map NodeT.cells a_n1.Kids))]] (.one (.c (.lit (.bool r)))) := by
  intro a_n1 r h
  refine fun_pure K.spec_validNode (ofK ?_)
  unfold C.spec_validNode
  rcases n with _ | n <;> simp only [G.spec_validNode, reduceCtorEq] at h
  repeat' first
  | ((with_reducible replace h := kq0 h); obtain ⟨_, _, h⟩ := h)
  | ((with_reducible replace h := kq1 h); obtain ⟨_, _, h⟩ := h)
  | ((with_reducible replace h := kq h); obtain ⟨_, h⟩ := h)
  | ((with_reducible replace h := sq h); subst h; have h := True.intro)
  | (try simp -dsimp only [egR, AOp.opds, AOp.f, AOp.rd, intBin, storeV, lvl, srcOf, reduceIte, Nat.reduceEqDiff, Nat.reduceAdd, Nat.reduceLeDiff, Nat.reduceBEq, reduceCtorEq, Int.reduceBNe, Int.reduceBEq, Int.reduceLT, Int.reduceLE, Int.reduceNeg, Nat.reduceLT, strBin, Int.reduceToNat, renC, *]
     repeat ((with_reducible refine And.intro ?_ ?_); focus first | (show logOK _ _ _ _ = true; kernel_rfl) | (show callOK _ _ = true; kernel_rfl) | omega | assumption | (show _ ≤ maxLen; decide))
     first
     | with_reducible refine callN ?_
     | ((with_reducible refine isCall ?_); (with_reducible replace h := bq h); first | (obtain ⟨v1, hv, h⟩ := h; (with_reducible have hc := F.spec_shape hv); refine callL (fun _ => hc) rfl rfl ?_) | (obtain ⟨v2, hv, h⟩ := h; (with_reducible have hc := F.spec_count hv); refine callL (fun _ => hc) rfl rfl ?_))
     | ((with_reducible replace h := cq h); rcases h with ⟨_, h⟩ | ⟨_, h⟩)
     | ((with_reducible refine isEnd ?_); (simp -dsimp only [peR, reduceIte, Nat.reduceEqDiff, Nat.reduceAdd, Nat.reduceLeDiff, reduceCtorEq] <;> simp [List.take_of_length_le]; done)))
theorem F.spec_checked {n : Nat} : ∀ {a_n1 : NodeT} {a_ok1 : Bool} {r : NodeT × Bool}, G.spec_checked n a_n1 a_ok1 = some r → APure Go.Proofs.Tryz.prog 53 [.agg [.c (.lit (.int .i64 a_n1.Kind)), .c (.lit (.int .i64 a_n1.Num)), .c (.str a_n1.Text), .c (.sl 1 (List.map cS a_n1.Names)), .c (.sl 5 (List.map NodeT.cells a_n1.Kids))], .one (.c (.lit (.bool a_ok1)))] (.tup [(true, [.c (.lit (.int .i64 r.1.Kind)), .c (.lit (.int .i64 r.1.Num)), .c (.str r.1.Text), .c (.sl 1 (List.map cS r.1.Names)), .c (.sl 5 (List.map NodeT.cells r.1.Kids))]), (false, [.c (.lit (.bool r.2))])]) := by
  intro a_n1 a_ok1 r h
  refine fun_pure K.spec_checked (ofK ?_)
  unfold C.spec_checked
  rcases n with _ | n <;> simp only [G.spec_checked, reduceCtorEq] at h
  repeat' first
  | ((with_reducible replace h := kq0 h); obtain ⟨_, _, h⟩ := h)
  | ((with_reducible replace h := kq1 h); obtain ⟨_, _, h⟩ := h)
  | ((with_reducible replace h := kq h); obtain ⟨_, h⟩ := h)
  | ((with_reducible replace h := sq h); subst h; have h := True.intro)
  | (try simp -dsimp only [egR, AOp.opds, AOp.f, AOp.rd, intBin, storeV, lvl, srcOf, reduceIte, Nat.reduceEqDiff, Nat.reduceAdd, Nat.reduceLeDiff, Nat.reduceBEq, reduceCtorEq, Int.reduceBNe, Int.reduceBEq, Int.reduceLT, Int.reduceLE, Int.reduceNeg, Nat.reduceLT, strBin, Int.reduceToNat, renC, *]
     repeat ((with_reducible refine And.intro ?_ ?_); focus first | (show logOK _ _ _ _ = true; kernel_rfl) | (show callOK _ _ = true; kernel_rfl) | omega | assumption | (show _ ≤ maxLen; decide))
     first
     | with_reducible refine callN ?_
     | ((with_reducible refine isCall ?_); (with_reducible replace h := bq h); first | (obtain ⟨v1, hv, h⟩ := h; (with_reducible have hc := F.spec_validNode hv); refine callL (fun _ => hc) rfl rfl ?_))
     | ((with_reducible replace h := cq h); rcases h with ⟨_, h⟩ | ⟨_, h⟩)
     | ((with_reducible refine isEnd ?_); (simp -dsimp only [peR, reduceIte, Nat.reduceEqDiff, Nat.reduceAdd, Nat.reduceLeDiff, reduceCtorEq] <;> simp [List.take_of_length_le]; done)))
theorem F.spec_checkedOp {n : Nat} : ∀ {a_n1 : NodeT} {a_o1 : OpT} {r : NodeT × Bool}, G.spec_checkedOp n a_n1 a_o1 = some r → APure Go.Proofs.Tryz.prog 26 [.agg [.c (.lit (.int .i64 a_n1.Kind)), .c (.lit (.int .i64 a_n1.Num)), .c (.str a_n1.Text), .c (.sl 1 (List.map cS a_n1.Names)), .c (.sl 5 (List.map NodeT.cells a_n1.Kids))], .agg [.c (.lit (.int .i64 a_o1.Kind)), .c (.sl 1 (List.map cS a_o1.Path)), .c (.sl 1 (List.map cS a_o1.From)), .c (.lit (.int .i64 a_o1.Value.Kind)), .c (.lit (.int .i64 a_o1.Value.Num)), .c (.str a_o1.Value.Text), .c (.sl 1 (List.map cS a_o1.Value.Names)), .c (.sl 5 (List.map NodeT.cells a_o1.Value.Kids))]] (.tup [(true, [.c (.lit (.int .i64 r.1.Kind)), .c (.lit (.int .i64 r.1.Num)), .c (.str r.1.Text), .c (.sl 1 (List.map cS r.1.Names)), .c (.sl 5 (List.map NodeT.cells r.1.Kids))]), (false, [.c (.lit (.bool r.2))])]) := by
  intro a_n1 a_o1 r h
  refine fun_pure K.spec_checkedOp (ofK ?_)
  unfold C.spec_checkedOp
  rcases n with _ | n <;> simp only [G.spec_checkedOp, reduceCtorEq] at h
  repeat' first
  | ((with_reducible replace h := kq0 h); obtain ⟨_, _, h⟩ := h)
  | ((with_reducible replace h := kq1 h); obtain ⟨_, _, h⟩ := h)
  | ((with_reducible replace h := kq h); obtain ⟨_, h⟩ := h)
  | ((with_reducible replace h := sq h); subst h; have h := True.intro)
  | (try simp -dsimp only [egR, AOp.opds, AOp.f, AOp.rd, intBin, storeV, lvl, srcOf, reduceIte, Nat.reduceEqDiff, Nat.reduceAdd, Nat.reduceLeDiff, Nat.reduceBEq, reduceCtorEq, Int.reduceBNe, Int.reduceBEq, Int.reduceLT, Int.reduceLE, Int.reduceNeg, Nat.reduceLT, strBin, Int.reduceToNat, renC, *]
     repeat ((with_reducible refine And.intro ?_ ?_); focus first | (show logOK _ _ _ _ = true; kernel_rfl) | (show callOK _ _ = true; kernel_rfl) | omega | assumption | (show _ ≤ maxLen; decide))
     first
     | with_reducible refine callN ?_
     | ((with_reducible refine isCall ?_); (with_reducible replace h := bq h); first | (obtain ⟨v1, hv, h⟩ := h; (with_reducible have hc := F.spec_apply hv); refine callP hc rfl rfl ?_) | (obtain ⟨v2, hv, h⟩ := h; (with_reducible have hc := F.spec_checked hv); refine callP hc rfl rfl ?_) | (obtain ⟨v3, hv, h⟩ := h; (with_reducible have hc := F.spec_copyNode hv); refine callP hc rfl rfl ?_))
     | ((with_reducible replace h := cq h); rcases h with ⟨_, h⟩ | ⟨_, h⟩)
     | ((with_reducible refine isEnd ?_); (simp -dsimp only [peR, reduceIte, Nat.reduceEqDiff, Nat.reduceAdd, Nat.reduceLeDiff, reduceCtorEq] <;> simp [List.take_of_length_le]; done)))
theorem F.spec_validPath {n : Nat} : ∀ {a_path1 : List Txt} {r : Bool}, G.spec_validPath n a_path1 = some r → APure Go.Proofs.Tryz.prog 52 [.one (.c (.sl 1 (List.map cS a_path1)))] (.one (.c (.lit (.bool r)))) := by
  intro a_path1 r h
  refine fun_pure K.spec_validPath (ofK ?_)
  unfold C.spec_validPath
  rcases n with _ | n <;> simp only [G.spec_validPath, reduceCtorEq] at h
  repeat' first
  | (clear h; (with_reducible rintro ⟨n, x_i2⟩ ⟨hn, h⟩); (with_reducible replace h : G.spec_validPath.L1 _ _ _ = some _ := h); rcases n with _ | n <;> simp only [G.spec_validPath.L1, reduceCtorEq] at h <;> simp only at hn)
  | ((with_reducible replace h := kq0 h); obtain ⟨_, _, h⟩ := h)
  | ((with_reducible replace h := kq1 h); obtain ⟨_, _, h⟩ := h)
  | ((with_reducible replace h := kq h); obtain ⟨_, h⟩ := h)
  | ((with_reducible replace h := sq h); subst h; have h := True.intro)
  | (try simp -dsimp only [egR, AOp.opds, AOp.f, AOp.rd, intBin, storeV, lvl, srcOf, reduceIte, Nat.reduceEqDiff, Nat.reduceAdd, Nat.reduceLeDiff, Nat.reduceBEq, reduceCtorEq, Int.reduceBNe, Int.reduceBEq, Int.reduceLT, Int.reduceLE, Int.reduceNeg, Nat.reduceLT, strBin, Int.reduceToNat, renC, *]
     repeat ((with_reducible refine And.intro ?_ ?_); focus first | (show logOK _ _ _ _ = true; kernel_rfl) | (show callOK _ _ = true; kernel_rfl) | omega | assumption | (show _ ≤ maxLen; decide))
     first
     | with_reducible refine callN ?_
     | ((with_reducible refine isLoop ?_); refine loopE (X := Nat × Int) (fun x => x.1 ≤ n ∧ G.spec_validPath.L1 x.1 a_path1 x.2 = some r) (fun x => ASt.of [(0, .v true (.one (.c (.sl 1 (List.map cS a_path1))))), (3, .v true (.one (.c (.lit (.int .i64 x.2)))))] []) (fun x => x.1) (by simp only [Prod.exists]; exact ⟨_, _, ⟨Nat.le_refl _, h⟩, weak_of [] [] [] (by rfl) (by (simp -dsimp only [wkR, wkB, wkC, reduceIte, Nat.reduceEqDiff, reduceCtorEq] <;> simp [List.take_of_length_le]; done)) (by (simp -dsimp only [wkR, wkB, wkC, reduceIte, Nat.reduceEqDiff, reduceCtorEq] <;> simp [List.take_of_length_le]; done))⟩) ?_)
     | ((with_reducible refine isCall ?_); (with_reducible replace h := bq h); first | (obtain ⟨v3, hv, h⟩ := h; (with_reducible have hc := F.spec_validText hv); refine callL (fun _ => hc) rfl rfl ?_))
     | ((with_reducible replace h := cq h); rcases h with ⟨c, h⟩ | ⟨c, h⟩ <;> try (simp only [*, Bool.false_eq_true, reduceCtorEq] at c; done))
     | ((with_reducible refine isEx ?_); simp only [Prod.exists]; refine ⟨_, _, ⟨⟨?_, h⟩, ?_⟩, weak_of [] [] [] ?_ ?_ ?_⟩; (iterate 2 focus omega); (focus rfl); (iterate 2 focus (simp -dsimp only [wkR, wkB, wkC, reduceIte, Nat.reduceEqDiff, reduceCtorEq] <;> simp [List.take_of_length_le]; done)))
     | ((with_reducible refine isEnd ?_); (simp -dsimp only [peR, reduceIte, Nat.reduceEqDiff, Nat.reduceAdd, Nat.reduceLeDiff, reduceCtorEq] <;> simp [List.take_of_length_le]; done)))
theorem F.spec_validOp {n : Nat} : ∀ {a_o1 : OpT} {r : Bool}, G.spec_validOp n a_o1 = some r → APure Go.Proofs.Tryz.prog 25 [.agg [.c (.lit (.int .i64 a_o1.Kind)), .c (.sl 1 (List.map cS a_o1.Path)), .c (.sl 1 (List.map cS a_o1.From)), .c (.lit (.int .i64 a_o1.Value.Kind)), .c (.lit (.int .i64 a_o1.Value.Num)), .c (.str a_o1.Value.Text), .c (.sl 1 (List.map cS a_o1.Value.Names)), .c (.sl 5 (List.map NodeT.cells a_o1.Value.Kids))]] (.one (.c (.lit (.bool r)))) := by
  intro a_o1 r h
  refine fun_pure K.spec_validOp (ofK ?_)
  unfold C.spec_validOp
  rcases n with _ | n <;> simp only [G.spec_validOp, reduceCtorEq] at h
  repeat' first
  | ((with_reducible replace h := kq0 h); obtain ⟨_, _, h⟩ := h)
  | ((with_reducible replace h := kq1 h); obtain ⟨_, _, h⟩ := h)
  | ((with_reducible replace h := kq h); obtain ⟨_, h⟩ := h)
  | ((with_reducible replace h := sq h); subst h; have h := True.intro)
  | (try simp -dsimp only [egR, AOp.opds, AOp.f, AOp.rd, intBin, storeV, lvl, srcOf, reduceIte, Nat.reduceEqDiff, Nat.reduceAdd, Nat.reduceLeDiff, Nat.reduceBEq, reduceCtorEq, Int.reduceBNe, Int.reduceBEq, Int.reduceLT, Int.reduceLE, Int.reduceNeg, Nat.reduceLT, strBin, Int.reduceToNat, renC, *]
     repeat ((with_reducible refine And.intro ?_ ?_); focus first | (show logOK _ _ _ _ = true; kernel_rfl) | (show callOK _ _ = true; kernel_rfl) | omega | assumption | (show _ ≤ maxLen; decide))
     first
     | with_reducible refine callN ?_
     | ((with_reducible refine isCall ?_); (with_reducible replace h := bq h); first | (obtain ⟨v1, hv, h⟩ := h; (with_reducible have hc := F.spec_inRange hv); refine callL (fun _ => hc) rfl rfl ?_) | (obtain ⟨v2, hv, h⟩ := h; (with_reducible have hc := F.spec_validPath hv); refine callL (fun _ => hc) rfl rfl ?_) | (obtain ⟨v4, hv, h⟩ := h; (with_reducible have hc := F.spec_validNode hv); refine callL (fun _ => hc) rfl rfl ?_))
     | ((with_reducible replace h := cq h); rcases h with ⟨_, h⟩ | ⟨_, h⟩)
     | ((with_reducible refine isEnd ?_); (simp -dsimp only [peR, reduceIte, Nat.reduceEqDiff, Nat.reduceAdd, Nat.reduceLeDiff, reduceCtorEq] <;> simp [List.take_of_length_le]; done)))
theorem F.spec_ApplyOp {n : Nat} : ∀ {a_n1 : NodeT} {a_o1 : OpT} {r : NodeT × Bool}, G.spec_ApplyOp n a_n1 a_o1 = some r → APure Go.Proofs.Tryz.prog 9 [.agg [.c (.lit (.int .i64 a_n1.Kind)), .c (.lit (.int .i64 a_n1.Num)), .c (.str a_n1.Text), .c (.sl 1 (List.map cS a_n1.Names)), .c (.sl 5 (List.map NodeT.cells a_n1.Kids))], .agg [.c (.lit (.int .i64 a_o1.Kind)), .c (.sl 1 (List.map cS a_o1.Path)), .c (.sl 1 (List.map cS a_o1.From)), .c (.lit (.int .i64 a_o1.Value.Kind)), .c (.lit (.int .i64 a_o1.Value.Num)), .c (.str a_o1.Value.Text), .c (.sl 1 (List.map cS a_o1.Value.Names)), .c (.sl 5 (List.map NodeT.cells a_o1.Value.Kids))]] (.tup [(true, [.c (.lit (.int .i64 r.1.Kind)), .c (.lit (.int .i64 r.1.Num)), .c (.str r.1.Text), .c (.sl 1 (List.map cS r.1.Names)), .c (.sl 5 (List.map NodeT.cells r.1.Kids))]), (false, [.c (.lit (.bool r.2))])]) := by
  intro a_n1 a_o1 r h
  refine fun_pure K.spec_ApplyOp (ofK ?_)
  unfold C.spec_ApplyOp
  rcases n with _ | n <;> simp only [G.spec_ApplyOp, reduceCtorEq] at h
  repeat' first
  | ((with_reducible replace h := kq0 h); obtain ⟨_, _, h⟩ := h)
  | ((with_reducible replace h := kq1 h); obtain ⟨_, _, h⟩ := h)
  | ((with_reducible replace h := kq h); obtain ⟨_, h⟩ := h)
  | ((with_reducible replace h := sq h); subst h; have h := True.intro)
  | (try simp -dsimp only [egR, AOp.opds, AOp.f, AOp.rd, intBin, storeV, lvl, srcOf, reduceIte, Nat.reduceEqDiff, Nat.reduceAdd, Nat.reduceLeDiff, Nat.reduceBEq, reduceCtorEq, Int.reduceBNe, Int.reduceBEq, Int.reduceLT, Int.reduceLE, Int.reduceNeg, Nat.reduceLT, strBin, Int.reduceToNat, renC, *]
     repeat ((with_reducible refine And.intro ?_ ?_); focus first | (show logOK _ _ _ _ = true; kernel_rfl) | (show callOK _ _ = true; kernel_rfl) | omega | assumption | (show _ ≤ maxLen; decide))
     first
     | with_reducible refine callN ?_
     | ((with_reducible refine isCall ?_); (with_reducible replace h := bq h); first | (obtain ⟨v1, hv, h⟩ := h; (with_reducible have hc := F.spec_validNode hv); refine callL (fun _ => hc) rfl rfl ?_) | (obtain ⟨v2, hv, h⟩ := h; (with_reducible have hc := F.spec_validOp hv); refine callL (fun _ => hc) rfl rfl ?_) | (obtain ⟨v3, hv, h⟩ := h; (with_reducible have hc := F.spec_checkedOp hv); refine callP hc rfl rfl ?_))
     | ((with_reducible replace h := cq h); rcases h with ⟨_, h⟩ | ⟨_, h⟩)
     | ((with_reducible refine isEnd ?_); (simp -dsimp only [peR, reduceIte, Nat.reduceEqDiff, Nat.reduceAdd, Nat.reduceLeDiff, reduceCtorEq] <;> simp [List.take_of_length_le]; done)))
theorem F.spec_reader_pick {n : Nat} : ∀ {p_r1 : ReaderT} {a_n1 : Int} {r : Int × ReaderT}, G.spec_reader_pick n p_r1 a_n1 = some r → ACalls Go.Proofs.Tryz.prog 42 [.one (.ptr 0 0), .one (.c (.lit (.int .i64 a_n1)))] [.var [.c (.sl 1 (List.map cU p_r1.b)), .c (.lit (.int .i64 p_r1.p))]] (fun r1 b1 => r1 = .one (.c (.lit (.int .i64 r.1))) ∧ b1 = [.var [.c (.sl 1 (List.map cU r.2.b)), .c (.lit (.int .i64 r.2.p))]]) := by
  intro p_r1 a_n1 r h
  refine fun_sound K.spec_reader_pick (ofK ?_)
  unfold C.spec_reader_pick
  rcases n with _ | n <;> simp only [G.spec_reader_pick, reduceCtorEq] at h
  repeat' first
  | ((with_reducible replace h := kq0 h); obtain ⟨_, _, h⟩ := h)
  | ((with_reducible replace h := kq1 h); obtain ⟨_, _, h⟩ := h)
  | ((with_reducible replace h := kq h); obtain ⟨_, h⟩ := h)
  | ((with_reducible replace h := sq h); subst h; have h := True.intro)
  | (try simp -dsimp only [egR, AOp.opds, AOp.f, AOp.rd, intBin, storeV, lvl, srcOf, reduceIte, Nat.reduceEqDiff, Nat.reduceAdd, Nat.reduceLeDiff, Nat.reduceBEq, reduceCtorEq, Int.reduceBNe, Int.reduceBEq, Int.reduceLT, Int.reduceLE, Int.reduceNeg, Nat.reduceLT, strBin, Int.reduceToNat, renC, *]
     repeat ((with_reducible refine And.intro ?_ ?_); focus first | (show logOK _ _ _ _ = true; kernel_rfl) | (show callOK _ _ = true; kernel_rfl) | omega | assumption | (show _ ≤ maxLen; decide))
     first
     | with_reducible refine callN ?_
     | ((with_reducible replace h := cq h); rcases h with ⟨_, h⟩ | ⟨_, h⟩)
     | ((with_reducible refine isRet ?_); (refine ret_of [] [(0, 0)] [] ?_ ?_ ?_ ?_; (focus rfl); (iterate 3 focus (simp -dsimp only [rwR, wkB, wkC, reduceIte, Nat.reduceEqDiff, reduceCtorEq, Nat.reduceAdd, Nat.reduceLeDiff] <;> simp [List.take_of_length_le]; done)))))
theorem F.spec_reader_one {n : Nat} : ∀ {p_r1 : ReaderT} {a_list1 : List Int} {r : Int × ReaderT}, G.spec_reader_one n p_r1 a_list1 = some r → ACalls Go.Proofs.Tryz.prog 43 [.one (.ptr 0 0), .one (.c (.sl 1 (List.map cI a_list1)))] [.var [.c (.sl 1 (List.map cU p_r1.b)), .c (.lit (.int .i64 p_r1.p))]] (fun r1 b1 => r1 = .one (.c (.lit (.int .i64 r.1))) ∧ b1 = [.var [.c (.sl 1 (List.map cU r.2.b)), .c (.lit (.int .i64 r.2.p))]]) := by
  intro p_r1 a_list1 r h
  refine fun_sound K.spec_reader_one (ofK ?_)
  unfold C.spec_reader_one
  rcases n with _ | n <;> simp only [G.spec_reader_one, reduceCtorEq] at h
  repeat' first
  | ((with_reducible replace h := kq0 h); obtain ⟨_, _, h⟩ := h)
  | ((with_reducible replace h := kq1 h); obtain ⟨_, _, h⟩ := h)
  | ((with_reducible replace h := kq h); obtain ⟨_, h⟩ := h)
  | ((with_reducible replace h := sq h); subst h; have h := True.intro)
  | (try simp -dsimp only [egR, AOp.opds, AOp.f, AOp.rd, intBin, storeV, lvl, srcOf, reduceIte, Nat.reduceEqDiff, Nat.reduceAdd, Nat.reduceLeDiff, Nat.reduceBEq, reduceCtorEq, Int.reduceBNe, Int.reduceBEq, Int.reduceLT, Int.reduceLE, Int.reduceNeg, Nat.reduceLT, strBin, Int.reduceToNat, renC, *]
     repeat ((with_reducible refine And.intro ?_ ?_); focus first | (show logOK _ _ _ _ = true; kernel_rfl) | (show callOK _ _ = true; kernel_rfl) | omega | assumption | (show _ ≤ maxLen; decide))
     first
     | with_reducible refine callN ?_
     | ((with_reducible refine isCall ?_); (with_reducible replace h := bq h); first | (obtain ⟨v1, hv, h⟩ := h; (with_reducible have hc := F.spec_reader_pick hv); (refine callG [0] [] hc rfl rfl ?_ ?_ rfl rfl ?_ rfl ?_; (iterate 2 focus (simp only [ggR, renC, reduceIte, Nat.reduceEqDiff, Nat.reduceLeDiff, Nat.reduceAdd] <;> fail)); (focus first | rfl | (simp only [ggR, renC, reduceIte, Nat.reduceEqDiff, Nat.reduceLeDiff, Nat.reduceAdd] <;> fail)))))
     | ((with_reducible replace h := cq h); rcases h with ⟨_, h⟩ | ⟨_, h⟩)
     | ((with_reducible refine isRet ?_); (refine ret_of [] [(0, 0)] [] ?_ ?_ ?_ ?_; (focus rfl); (iterate 3 focus (simp -dsimp only [rwR, wkB, wkC, reduceIte, Nat.reduceEqDiff, reduceCtorEq, Nat.reduceAdd, Nat.reduceLeDiff] <;> simp [List.take_of_length_le]; done)))))
theorem F.spec_reader_of {n : Nat} : ∀ {p_r1 : ReaderT} {a_list1 : List Txt} {r : Txt × ReaderT}, G.spec_reader_of n p_r1 a_list1 = some r → ACalls Go.Proofs.Tryz.prog 65 [.one (.ptr 0 0), .one (.c (.sl 1 (List.map cS a_list1)))] [.var [.c (.sl 1 (List.map cU p_r1.b)), .c (.lit (.int .i64 p_r1.p))]] (fun r1 b1 => r1 = .one (.c (.str r.1)) ∧ b1 = [.var [.c (.sl 1 (List.map cU r.2.b)), .c (.lit (.int .i64 r.2.p))]]) := by
  intro p_r1 a_list1 r h
  refine fun_sound K.spec_reader_of (ofK ?_)
  unfold C.spec_reader_of
  rcases n with _ | n <;> simp only [G.spec_reader_of, reduceCtorEq] at h
  repeat' first
  | ((with_reducible replace h := kq0 h); obtain ⟨_, _, h⟩ := h)
  | ((with_reducible replace h := kq1 h); obtain ⟨_, _, h⟩ := h)
  | ((with_reducible replace h := kq h); obtain ⟨_, h⟩ := h)
  | ((with_reducible replace h := sq h); subst h; have h := True.intro)
  | (try simp -dsimp only [egR, AOp.opds, AOp.f, AOp.rd, intBin, storeV, lvl, srcOf, reduceIte, Nat.reduceEqDiff, Nat.reduceAdd, Nat.reduceLeDiff, Nat.reduceBEq, reduceCtorEq, Int.reduceBNe, Int.reduceBEq, Int.reduceLT, Int.reduceLE, Int.reduceNeg, Nat.reduceLT, strBin, Int.reduceToNat, renC, *]
     repeat ((with_reducible refine And.intro ?_ ?_); focus first | (show logOK _ _ _ _ = true; kernel_rfl) | (show callOK _ _ = true; kernel_rfl) | omega | assumption | (show _ ≤ maxLen; decide))
     first
     | with_reducible refine callN ?_
     | ((with_reducible refine isCall ?_); (with_reducible replace h := bq h); first | (obtain ⟨v1, hv, h⟩ := h; (with_reducible have hc := F.spec_reader_pick hv); (refine callG [0] [] hc rfl rfl ?_ ?_ rfl rfl ?_ rfl ?_; (iterate 2 focus (simp only [ggR, renC, reduceIte, Nat.reduceEqDiff, Nat.reduceLeDiff, Nat.reduceAdd] <;> fail)); (focus first | rfl | (simp only [ggR, renC, reduceIte, Nat.reduceEqDiff, Nat.reduceLeDiff, Nat.reduceAdd] <;> fail)))))
     | ((with_reducible replace h := cq h); rcases h with ⟨_, h⟩ | ⟨_, h⟩)
     | ((with_reducible refine isRet ?_); (refine ret_of [] [(0, 0)] [] ?_ ?_ ?_ ?_; (focus rfl); (iterate 3 focus (simp -dsimp only [rwR, wkB, wkC, reduceIte, Nat.reduceEqDiff, reduceCtorEq, Nat.reduceAdd, Nat.reduceLeDiff] <;> simp [List.take_of_length_le]; done)))))
theorem F.spec_someText {n : Nat} : ∀ {p_r1 : ReaderT} {r : Txt × ReaderT}, G.spec_someText n p_r1 = some r → ACalls Go.Proofs.Tryz.prog 82 [.one (.ptr 0 0)] [.var [.c (.sl 1 (List.map cU p_r1.b)), .c (.lit (.int .i64 p_r1.p))]] (fun r1 b1 => r1 = .one (.c (.str r.1)) ∧ b1 = [.var [.c (.sl 1 (List.map cU r.2.b)), .c (.lit (.int .i64 r.2.p))]]) := by
  intro p_r1 r h
  refine fun_sound K.spec_someText (ofK ?_)
  unfold C.spec_someText
  rcases n with _ | n <;> simp only [G.spec_someText, reduceCtorEq] at h
  repeat' first
  | ((with_reducible replace h := kq0 h); obtain ⟨_, _, h⟩ := h)
  | ((with_reducible replace h := kq1 h); obtain ⟨_, _, h⟩ := h)
  | ((with_reducible replace h := kq h); obtain ⟨_, h⟩ := h)
  | ((with_reducible replace h := sq h); subst h; have h := True.intro)
  | (try simp -dsimp only [egR, AOp.opds, AOp.f, AOp.rd, intBin, storeV, lvl, srcOf, reduceIte, Nat.reduceEqDiff, Nat.reduceAdd, Nat.reduceLeDiff, Nat.reduceBEq, reduceCtorEq, Int.reduceBNe, Int.reduceBEq, Int.reduceLT, Int.reduceLE, Int.reduceNeg, Nat.reduceLT, strBin, Int.reduceToNat, renC, *]
     repeat ((with_reducible refine And.intro ?_ ?_); focus first | (show logOK _ _ _ _ = true; kernel_rfl) | (show callOK _ _ = true; kernel_rfl) | omega | assumption | (show _ ≤ maxLen; decide))
     first
     | with_reducible refine callN ?_
     | ((with_reducible refine isCall ?_); (with_reducible replace h := bq h); first | (obtain ⟨v1, hv, h⟩ := h; (with_reducible have hc := F.spec_reader_of hv); (refine callH [0] [] hc ?_ ?_ rfl rfl ?_ ?_ rfl rfl rfl ?_; (iterate 4 focus (simp only [ghR, renC, reduceIte, Nat.reduceEqDiff, Nat.reduceLeDiff, Nat.reduceAdd, Nat.reduceBEq] <;> fail)))))
     | ((with_reducible replace h := cq h); rcases h with ⟨_, h⟩ | ⟨_, h⟩)
     | ((with_reducible refine isRet ?_); (refine ret_of [] [(0, 0)] [] ?_ ?_ ?_ ?_; (focus rfl); (iterate 3 focus (simp -dsimp only [rwR, wkB, wkC, reduceIte, Nat.reduceEqDiff, reduceCtorEq, Nat.reduceAdd, Nat.reduceLeDiff] <;> simp [List.take_of_length_le]; done)))))
theorem F.spec_someName {n : Nat} : ∀ {p_r1 : ReaderT} {r : Txt × ReaderT}, G.spec_someName n p_r1 = some r → ACalls Go.Proofs.Tryz.prog 83 [.one (.ptr 0 0)] [.var [.c (.sl 1 (List.map cU p_r1.b)), .c (.lit (.int .i64 p_r1.p))]] (fun r1 b1 => r1 = .one (.c (.str r.1)) ∧ b1 = [.var [.c (.sl 1 (List.map cU r.2.b)), .c (.lit (.int .i64 r.2.p))]]) := by
  intro p_r1 r h
  refine fun_sound K.spec_someName (ofK ?_)
  unfold C.spec_someName
  rcases n with _ | n <;> simp only [G.spec_someName, reduceCtorEq] at h
  repeat' first
  | ((with_reducible replace h := kq0 h); obtain ⟨_, _, h⟩ := h)
  | ((with_reducible replace h := kq1 h); obtain ⟨_, _, h⟩ := h)
  | ((with_reducible replace h := kq h); obtain ⟨_, h⟩ := h)
  | ((with_reducible replace h := sq h); subst h; have h := True.intro)
  | (try simp -dsimp only [egR, AOp.opds, AOp.f, AOp.rd, intBin, storeV, lvl, srcOf, reduceIte, Nat.reduceEqDiff, Nat.reduceAdd, Nat.reduceLeDiff, Nat.reduceBEq, reduceCtorEq, Int.reduceBNe, Int.reduceBEq, Int.reduceLT, Int.reduceLE, Int.reduceNeg, Nat.reduceLT, strBin, Int.reduceToNat, renC, *]
     repeat ((with_reducible refine And.intro ?_ ?_); focus first | (show logOK _ _ _ _ = true; kernel_rfl) | (show callOK _ _ = true; kernel_rfl) | omega | assumption | (show _ ≤ maxLen; decide))
     first
     | with_reducible refine callN ?_
     | ((with_reducible refine isCall ?_); (with_reducible replace h := bq h); first | (obtain ⟨v1, hv, h⟩ := h; (with_reducible have hc := F.spec_reader_of hv); (refine callH [0] [] hc ?_ ?_ rfl rfl ?_ ?_ rfl rfl rfl ?_; (iterate 4 focus (simp only [ghR, renC, reduceIte, Nat.reduceEqDiff, Nat.reduceLeDiff, Nat.reduceAdd, Nat.reduceBEq] <;> fail)))))
     | ((with_reducible replace h := cq h); rcases h with ⟨_, h⟩ | ⟨_, h⟩)
     | ((with_reducible refine isRet ?_); (refine ret_of [] [(0, 0)] [] ?_ ?_ ?_ ?_; (focus rfl); (iterate 3 focus (simp -dsimp only [rwR, wkB, wkC, reduceIte, Nat.reduceEqDiff, reduceCtorEq, Nat.reduceAdd, Nat.reduceLeDiff] <;> simp [List.take_of_length_le]; done)))))
theorem F.scc_spec_randomMap : ∀ (n : Nat), (∀ {p_r1 : ReaderT} {a_depth1 : Int} {r : NodeT × ReaderT}, G.spec_randomMap n p_r1 a_depth1 = some r → ACalls Go.Proofs.Tryz.prog 62 [.one (.ptr 0 0), .one (.c (.lit (.int .i64 a_depth1)))] [.var [.c (.sl 1 (List.map cU p_r1.b)), .c (.lit (.int .i64 p_r1.p))]] (fun r1 b1 => r1 = .agg [.c (.lit (.int .i64 r.1.Kind)), .c (.lit (.int .i64 r.1.Num)), .c (.str r.1.Text), .c (.sl 1 (List.map cS r.1.Names)), .c (.sl 5 (List.map NodeT.cells r.1.Kids))] ∧ b1 = [.var [.c (.sl 1 (List.map cU r.2.b)), .c (.lit (.int .i64 r.2.p))]])) ∧ (∀ {p_r1 : ReaderT} {a_depth1 : Int} {r : NodeT × ReaderT}, G.spec_randomNode n p_r1 a_depth1 = some r → ACalls Go.Proofs.Tryz.prog 61 [.one (.ptr 0 0), .one (.c (.lit (.int .i64 a_depth1)))] [.var [.c (.sl 1 (List.map cU p_r1.b)), .c (.lit (.int .i64 p_r1.p))]] (fun r1 b1 => r1 = .agg [.c (.lit (.int .i64 r.1.Kind)), .c (.lit (.int .i64 r.1.Num)), .c (.str r.1.Text), .c (.sl 1 (List.map cS r.1.Names)), .c (.sl 5 (List.map NodeT.cells r.1.Kids))] ∧ b1 = [.var [.c (.sl 1 (List.map cU r.2.b)), .c (.lit (.int .i64 r.2.p))]])) := by
  intro n
  induction n using Nat.strongRecOn with | _ n ih =>
  refine ⟨?_, ?_⟩
  intro p_r1 a_depth1 r h
  refine fun_sound K.spec_randomMap (ofK ?_)
  unfold C.spec_randomMap
  rcases n with _ | n <;> simp only [G.spec_randomMap, reduceCtorEq] at h
  rotate_left
  intro p_r1 a_depth1 r h
  refine fun_sound K.spec_randomNode (ofK ?_)
  unfold C.spec_randomNode
  rcases n with _ | n <;> simp only [G.spec_randomNode, reduceCtorEq] at h
  rotate_left
  all_goals (have := Mk.mk 1; have := Mk.mk 1; have := Mk.mk 2)
  all_goals repeat' first
  | (clear h; (with_reducible rintro ⟨n, x_n2, y8, y9, y10, y11, y12, y13, y14⟩ ⟨hn, h⟩); (with_reducible replace h : G.spec_randomMap.L1 _ _ _ _ _ _ _ _ _ _ = some _ := h); rcases n with _ | n <;> simp only [G.spec_randomMap.L1, reduceCtorEq] at h <;> simp only at hn)
  | (clear h; (with_reducible rintro ⟨n, x_kind1, y1, y2⟩ ⟨hn, h⟩); (with_reducible replace h : G.spec_randomNode.K1 _ _ _ _ _ = some _ := h); rcases n with _ | n <;> simp only [G.spec_randomNode.K1, reduceCtorEq] at h <;> simp only at hn)
  | (clear h; (with_reducible rintro ⟨n, x_n2, y5, y6, z2⟩ ⟨hn, h⟩); (with_reducible replace h : G.spec_randomNode.L2 _ _ _ _ _ _ _ = some _ := h); rcases n with _ | n <;> simp only [G.spec_randomNode.L2, reduceCtorEq] at h <;> simp only at hn)
  | ((with_reducible replace h := kq0 h); obtain ⟨_, _, h⟩ := h)
  | ((with_reducible replace h := kq1 h); obtain ⟨_, _, h⟩ := h)
  | ((with_reducible replace h := kq h); obtain ⟨_, h⟩ := h)
  | ((with_reducible replace h := sq h); subst h; have h := True.intro)
  | (try simp -dsimp only [egR, AOp.opds, AOp.f, AOp.rd, intBin, storeV, lvl, srcOf, reduceIte, Nat.reduceEqDiff, Nat.reduceAdd, Nat.reduceLeDiff, Nat.reduceBEq, reduceCtorEq, Int.reduceBNe, Int.reduceBEq, Int.reduceLT, Int.reduceLE, Int.reduceNeg, Nat.reduceLT, strBin, Int.reduceToNat, renC, *]
     repeat ((with_reducible refine And.intro ?_ ?_); focus first | (show logOK _ _ _ _ = true; kernel_rfl) | (show callOK _ _ = true; kernel_rfl) | omega | assumption | (show _ ≤ maxLen; decide))
     first
     | with_reducible refine callN ?_
     | ((with_reducible refine isLoop ?_); rename Mk 1 => tk; clear tk; have : True := (by rewrite [show @G.spec_randomMap.L1 = _ from rfl] at h; exact True.intro); refine loopE (X := Nat × Int × List Int × Int × Int × Int × Txt × List Txt × List NodeT) (fun x => x.1 ≤ n ∧ G.spec_randomMap.L1 x.1 a_depth1 x.2.1 x.2.2.1 x.2.2.2.1 x.2.2.2.2.1 x.2.2.2.2.2.1 x.2.2.2.2.2.2.1 x.2.2.2.2.2.2.2.1 x.2.2.2.2.2.2.2.2 = some r) (fun x => ASt.of [(0, .v true (.one (.ptr 0 0))), (1, .v true (.one (.c (.lit (.int .i64 a_depth1))))), (4, .v true (.one (.ptr 107 0))), (5, .v true (.one (.ptr 108 0))), (6, .v true (.one (.c (.lit (.int .i64 x.2.1)))))] [(0, .var [.c (.sl 1 (List.map cU x.2.2.1)), .c (.lit (.int .i64 x.2.2.2.1))]), (107, .var [.c (.lit (.int .i64 0)), .c (.lit (.int .i64 0)), .c (.str []), .nsl 1, .nsl 5]), (108, .var [.c (.lit (.int .i64 x.2.2.2.2.1)), .c (.lit (.int .i64 x.2.2.2.2.2.1)), .c (.str x.2.2.2.2.2.2.1), .c (.sl 1 (List.map cS x.2.2.2.2.2.2.2.1)), .c (.sl 5 (List.map NodeT.cells x.2.2.2.2.2.2.2.2))])]) (fun x => x.1) (by simp only [Prod.exists]; exact ⟨_, _, _, _, _, _, _, _, _, ⟨Nat.le_refl _, h⟩, weak_of [11, 12] [(0, 0), (107, 10), (108, 13)] [] (by rfl) (by (simp -dsimp only [wkR, wkB, wkC, reduceIte, Nat.reduceEqDiff, reduceCtorEq] <;> simp [List.take_of_length_le]; done)) (by (simp -dsimp only [wkR, wkB, wkC, reduceIte, Nat.reduceEqDiff, reduceCtorEq] <;> simp [List.take_of_length_le]; done))⟩) ?_)
     | ((with_reducible refine isCut ?_); rename Mk 1 => tk; clear tk; have : True := (by rewrite [show @G.spec_randomNode.K1 = _ from rfl] at h; exact True.intro); refine cutK (X := Nat × Int × List Int × Int) (fun x => x.1 ≤ n ∧ G.spec_randomNode.K1 x.1 a_depth1 x.2.1 x.2.2.1 x.2.2.2 = some r) (fun x => ASt.of [(0, .v true (.one (.ptr 0 0))), (1, .v true (.one (.c (.lit (.int .i64 a_depth1))))), (4, .v true (.one (.ptr 101 0))), (5, .v true (.one (.c (.lit (.int .i64 x.2.1)))))] [(0, .var [.c (.sl 1 (List.map cU x.2.2.1)), .c (.lit (.int .i64 x.2.2.2))]), (101, .var [.c (.lit (.int .i64 0)), .c (.lit (.int .i64 0)), .c (.str []), .nsl 1, .nsl 5])]) ?_ ?_)
     | ((with_reducible refine isLoop ?_); rename Mk 2 => tk; clear tk; have : True := (by (first | rewrite [show @G.spec_randomNode.L2 = _ from rfl] at h | rewrite [show @G.spec_randomNode.K1 = _ from rfl] at h); exact True.intro); refine loopE (X := Nat × Int × List Int × Int × List NodeT) (fun x => x.1 ≤ n ∧ G.spec_randomNode.L2 x.1 a_depth1 x_kind1 x.2.1 x.2.2.1 x.2.2.2.1 x.2.2.2.2 = some r) (fun x => ASt.of [(0, .v true (.one (.ptr 0 0))), (1, .v true (.one (.c (.lit (.int .i64 a_depth1))))), (4, .v true (.one (.ptr 106 0))), (5, .v true (.one (.c (.lit (.int .i64 x_kind1))))), (6, .v true (.one (.own 107 x.2.2.2.2.length 5))), (7, .v true (.one (.c (.lit (.int .i64 x.2.1)))))] [(0, .var [.c (.sl 1 (List.map cU x.2.2.1)), .c (.lit (.int .i64 x.2.2.2.1))]), (106, .var [.c (.lit (.int .i64 0)), .c (.lit (.int .i64 0)), .c (.str []), .nsl 1, .nsl 5]), (107, .dat 5 (List.map NodeT.cells x.2.2.2.2))]) (fun x => x.1) (by simp only [Prod.exists]; exact ⟨_, _, _, _, _, ⟨Nat.le_refl _, h⟩, weak_of [] [(0, 0), (106, 101), (107, 12)] [] (by rfl) (by (simp -dsimp only [wkR, wkB, wkC, reduceIte, Nat.reduceEqDiff, reduceCtorEq] <;> simp [List.take_of_length_le]; done)) (by (simp -dsimp only [wkR, wkB, wkC, reduceIte, Nat.reduceEqDiff, reduceCtorEq] <;> simp [List.take_of_length_le]; done))⟩) ?_)
     | ((with_reducible refine isCall ?_); (with_reducible replace h := bq h); first | (obtain ⟨v1, hv, h⟩ := h; (with_reducible have hc := F.spec_reader_one hv); (refine callH [0] [] hc ?_ ?_ rfl rfl ?_ ?_ rfl rfl rfl ?_; (iterate 4 focus (simp only [ghR, renC, reduceIte, Nat.reduceEqDiff, Nat.reduceLeDiff, Nat.reduceAdd, Nat.reduceBEq] <;> fail)))) | (obtain ⟨v10, hv, h⟩ := h; (with_reducible have hc := F.spec_someName hv); (refine callG [0] [] hc rfl rfl ?_ ?_ rfl rfl ?_ rfl ?_; (iterate 2 focus (simp only [ggR, renC, reduceIte, Nat.reduceEqDiff, Nat.reduceLeDiff, Nat.reduceAdd] <;> fail)); (focus first | rfl | (simp only [ggR, renC, reduceIte, Nat.reduceEqDiff, Nat.reduceLeDiff, Nat.reduceAdd] <;> fail)))) | (obtain ⟨v12, hv, h⟩ := h; (with_reducible have hc := F.spec_place hv); refine callL (fun _ => hc) rfl rfl ?_) | (obtain ⟨v13, hv, h⟩ := h; (with_reducible have hc := F.spec_addHere hv); refine callP hc rfl rfl ?_) | (obtain ⟨v1, hv, h⟩ := h; (with_reducible have hc := F.spec_reader_pick hv); (refine callG [0] [] hc rfl rfl ?_ ?_ rfl rfl ?_ rfl ?_; (iterate 2 focus (simp only [ggR, renC, reduceIte, Nat.reduceEqDiff, Nat.reduceLeDiff, Nat.reduceAdd] <;> fail)); (focus first | rfl | (simp only [ggR, renC, reduceIte, Nat.reduceEqDiff, Nat.reduceLeDiff, Nat.reduceAdd] <;> fail)))) | (obtain ⟨v5, hv, h⟩ := h; (with_reducible have hc := F.spec_someText hv); (refine callG [0] [] hc rfl rfl ?_ ?_ rfl rfl ?_ rfl ?_; (iterate 2 focus (simp only [ggR, renC, reduceIte, Nat.reduceEqDiff, Nat.reduceLeDiff, Nat.reduceAdd] <;> fail)); (focus first | rfl | (simp only [ggR, renC, reduceIte, Nat.reduceEqDiff, Nat.reduceLeDiff, Nat.reduceAdd] <;> fail)))) | (obtain ⟨v11, hv, h⟩ := h; have hc := (ih _ (by omega)).2 hv; (refine callG [0] [] hc rfl rfl ?_ ?_ rfl rfl ?_ rfl ?_; (iterate 2 focus (simp only [ggR, renC, reduceIte, Nat.reduceEqDiff, Nat.reduceLeDiff, Nat.reduceAdd] <;> fail)); (focus first | rfl | (simp only [ggR, renC, reduceIte, Nat.reduceEqDiff, Nat.reduceLeDiff, Nat.reduceAdd] <;> fail)))) | (obtain ⟨v10, hv, h⟩ := h; have hc := (ih _ (by omega)).1 hv; (refine callG [0] [] hc rfl rfl ?_ ?_ rfl rfl ?_ rfl ?_; (iterate 2 focus (simp only [ggR, renC, reduceIte, Nat.reduceEqDiff, Nat.reduceLeDiff, Nat.reduceAdd] <;> fail)); (focus first | rfl | (simp only [ggR, renC, reduceIte, Nat.reduceEqDiff, Nat.reduceLeDiff, Nat.reduceAdd] <;> fail)))))
     | ((with_reducible replace h := cq h); rcases h with ⟨c, h⟩ | ⟨c, h⟩ <;> try (simp only [*, Bool.false_eq_true, reduceCtorEq] at c; done))
     | ((with_reducible refine isEx ?_); simp only [Prod.exists]; refine ⟨_, _, _, _, _, _, _, _, _, ⟨⟨?_, h⟩, ?_⟩, weak_of [] [(0, 0), (107, 107), (108, 108)] [] ?_ ?_ ?_⟩; (iterate 2 focus omega); (focus rfl); (iterate 2 focus (simp -dsimp only [wkR, wkB, wkC, reduceIte, Nat.reduceEqDiff, reduceCtorEq] <;> simp [List.take_of_length_le]; done)))
     | ((with_reducible refine isEx ?_); simp only [Prod.exists]; refine ⟨_, _, _, _, ⟨?_, h⟩, weak_of [] [(0, 0), (101, 10)] [] ?_ ?_ ?_⟩; (focus omega); (focus rfl); (iterate 2 focus (simp -dsimp only [wkR, wkB, wkC, reduceIte, Nat.reduceEqDiff, reduceCtorEq] <;> simp [List.take_of_length_le]; done)))
     | ((with_reducible refine isEx ?_); simp only [Prod.exists]; refine ⟨_, _, _, _, _, ⟨⟨?_, h⟩, ?_⟩, weak_of [] [(0, 0), (106, 106), (107, 14)] [] ?_ ?_ ?_⟩; (iterate 2 focus omega); (focus rfl); (iterate 2 focus (simp -dsimp only [wkR, wkB, wkC, reduceIte, Nat.reduceEqDiff, reduceCtorEq] <;> simp [List.take_of_length_le]; done)))
     | ((with_reducible refine isRet ?_); first | (refine ret_of [] [(0, 0)] [] ?_ ?_ ?_ ?_; (focus rfl); (iterate 3 focus (simp -dsimp only [rwR, wkB, wkC, reduceIte, Nat.reduceEqDiff, reduceCtorEq, Nat.reduceAdd, Nat.reduceLeDiff] <;> simp [List.take_of_length_le]; done))) | (refine ret_of [15, 107] [(0, 0)] [] ?_ ?_ ?_ ?_; (focus rfl); (iterate 3 focus (simp -dsimp only [rwR, wkB, wkC, reduceIte, Nat.reduceEqDiff, reduceCtorEq, Nat.reduceAdd, Nat.reduceLeDiff] <;> simp [List.take_of_length_le]; done)))))
theorem F.spec_randomMap {n : Nat} : ∀ {p_r1 : ReaderT} {a_depth1 : Int} {r : NodeT × ReaderT}, G.spec_randomMap n p_r1 a_depth1 = some r → ACalls Go.Proofs.Tryz.prog 62 [.one (.ptr 0 0), .one (.c (.lit (.int .i64 a_depth1)))] [.var [.c (.sl 1 (List.map cU p_r1.b)), .c (.lit (.int .i64 p_r1.p))]] (fun r1 b1 => r1 = .agg [.c (.lit (.int .i64 r.1.Kind)), .c (.lit (.int .i64 r.1.Num)), .c (.str r.1.Text), .c (.sl 1 (List.map cS r.1.Names)), .c (.sl 5 (List.map NodeT.cells r.1.Kids))] ∧ b1 = [.var [.c (.sl 1 (List.map cU r.2.b)), .c (.lit (.int .i64 r.2.p))]]) := (F.scc_spec_randomMap n).1
theorem F.spec_randomNode {n : Nat} : ∀ {p_r1 : ReaderT} {a_depth1 : Int} {r : NodeT × ReaderT}, G.spec_randomNode n p_r1 a_depth1 = some r → ACalls Go.Proofs.Tryz.prog 61 [.one (.ptr 0 0), .one (.c (.lit (.int .i64 a_depth1)))] [.var [.c (.sl 1 (List.map cU p_r1.b)), .c (.lit (.int .i64 p_r1.p))]] (fun r1 b1 => r1 = .agg [.c (.lit (.int .i64 r.1.Kind)), .c (.lit (.int .i64 r.1.Num)), .c (.str r.1.Text), .c (.sl 1 (List.map cS r.1.Names)), .c (.sl 5 (List.map NodeT.cells r.1.Kids))] ∧ b1 = [.var [.c (.sl 1 (List.map cU r.2.b)), .c (.lit (.int .i64 r.2.p))]]) := (F.scc_spec_randomMap n).2
theorem F.spec_randomMap_o {n : Nat} : ∀ {p_r1 : ReaderT} {a_depth1 : Int} {r : NodeT × ReaderT}, G.spec_randomMap n p_r1 a_depth1 = some r → ACalls Go.Proofs.Tryz.prog 62 [.one (.ptr 0 0), .one (.c (.lit (.int .i64 a_depth1)))] [.var [.c (.sl 1 (List.map cU p_r1.b)), .c (.lit (.int .i64 p_r1.p))]] (fun r1 b1 => r1 = .agg [.c (.lit (.int .i64 r.1.Kind)), .c (.lit (.int .i64 r.1.Num)), .c (.str r.1.Text), .own 1 r.1.Names.length 1, .own 2 r.1.Kids.length 5] ∧ b1 = [.var [.c (.sl 1 (List.map cU r.2.b)), .c (.lit (.int .i64 r.2.p))], .dat 1 (List.map cS r.1.Names), .dat 5 (List.map NodeT.cells r.1.Kids)]) := by
  intro p_r1 a_depth1 r h
  refine fun_sound K.spec_randomMap (ofK ?_)
  unfold C.spec_randomMap
  rcases n with _ | n <;> simp only [G.spec_randomMap, reduceCtorEq] at h
  repeat' first
  | (clear h; (with_reducible rintro ⟨n, x_n2, y6, y7, y8, y9, y10, z3, z4⟩ ⟨hn, h⟩); (with_reducible replace h : G.spec_randomMap.L1 _ _ _ _ _ _ _ _ _ _ = some _ := h); rcases n with _ | n <;> simp only [G.spec_randomMap.L1, reduceCtorEq] at h <;> simp only at hn)
  | ((with_reducible replace h := kq0 h); obtain ⟨_, _, h⟩ := h)
  | ((with_reducible replace h := kq1 h); obtain ⟨_, _, h⟩ := h)
  | ((with_reducible replace h := kq h); obtain ⟨_, h⟩ := h)
  | ((with_reducible replace h := sq h); subst h; have h := True.intro)
  | (try simp -dsimp only [egR, AOp.opds, AOp.f, AOp.rd, intBin, storeV, lvl, srcOf, reduceIte, Nat.reduceEqDiff, Nat.reduceAdd, Nat.reduceLeDiff, Nat.reduceBEq, reduceCtorEq, Int.reduceBNe, Int.reduceBEq, Int.reduceLT, Int.reduceLE, Int.reduceNeg, Nat.reduceLT, strBin, Int.reduceToNat, renC, *]
     repeat ((with_reducible refine And.intro ?_ ?_); focus first | (show logOK _ _ _ _ = true; kernel_rfl) | (show callOK _ _ = true; kernel_rfl) | omega | assumption | (show _ ≤ maxLen; decide))
     first
     | with_reducible refine callN ?_
     | ((with_reducible refine isLoop ?_); refine loopE (X := Nat × Int × List Int × Int × Int × Int × Txt × List Txt × List NodeT) (fun x => x.1 ≤ n ∧ G.spec_randomMap.L1 x.1 a_depth1 x.2.1 x.2.2.1 x.2.2.2.1 x.2.2.2.2.1 x.2.2.2.2.2.1 x.2.2.2.2.2.2.1 x.2.2.2.2.2.2.2.1 x.2.2.2.2.2.2.2.2 = some r) (fun x => ASt.of [(0, .v true (.one (.ptr 0 0))), (1, .v true (.one (.c (.lit (.int .i64 a_depth1))))), (4, .v true (.one (.ptr 113 0))), (5, .v true (.one (.ptr 114 0))), (6, .v true (.one (.c (.lit (.int .i64 x.2.1)))))] [(0, .var [.c (.sl 1 (List.map cU x.2.2.1)), .c (.lit (.int .i64 x.2.2.2.1))]), (113, .var [.c (.lit (.int .i64 0)), .c (.lit (.int .i64 0)), .c (.str []), .nsl 1, .nsl 5]), (114, .var [.c (.lit (.int .i64 x.2.2.2.2.1)), .c (.lit (.int .i64 x.2.2.2.2.2.1)), .c (.str x.2.2.2.2.2.2.1), .own 115 x.2.2.2.2.2.2.2.1.length 1, .own 116 x.2.2.2.2.2.2.2.2.length 5]), (115, .dat 1 (List.map cS x.2.2.2.2.2.2.2.1)), (116, .dat 5 (List.map NodeT.cells x.2.2.2.2.2.2.2.2))]) (fun x => x.1) (by simp only [Prod.exists]; exact ⟨_, _, _, _, _, _, _, _, _, ⟨Nat.le_refl _, h⟩, weak_of [] [(0, 0), (113, 10), (114, 13), (115, 11), (116, 12)] [] (by rfl) (by (simp -dsimp only [wkR, wkB, wkC, reduceIte, Nat.reduceEqDiff, reduceCtorEq] <;> simp [List.take_of_length_le]; done)) (by (simp -dsimp only [wkR, wkB, wkC, reduceIte, Nat.reduceEqDiff, reduceCtorEq] <;> simp [List.take_of_length_le]; done))⟩) ?_)
     | ((with_reducible refine isCall ?_); (with_reducible replace h := bq h); first | (obtain ⟨v1, hv, h⟩ := h; (with_reducible have hc := F.spec_reader_one hv); (refine callH [0] [] hc ?_ ?_ rfl rfl ?_ ?_ rfl rfl rfl ?_; (iterate 4 focus (simp only [ghR, renC, reduceIte, Nat.reduceEqDiff, Nat.reduceLeDiff, Nat.reduceAdd, Nat.reduceBEq] <;> fail)))) | (obtain ⟨v10, hv, h⟩ := h; (with_reducible have hc := F.spec_someName hv); (refine callG [0] [] hc rfl rfl ?_ ?_ rfl rfl ?_ rfl ?_; (iterate 2 focus (simp only [ggR, renC, reduceIte, Nat.reduceEqDiff, Nat.reduceLeDiff, Nat.reduceAdd] <;> fail)); (focus first | rfl | (simp only [ggR, renC, reduceIte, Nat.reduceEqDiff, Nat.reduceLeDiff, Nat.reduceAdd] <;> fail)))) | (obtain ⟨v11, hv, h⟩ := h; (with_reducible have hc := F.spec_randomNode hv); (refine callG [0] [] hc rfl rfl ?_ ?_ rfl rfl ?_ rfl ?_; (iterate 2 focus (simp only [ggR, renC, reduceIte, Nat.reduceEqDiff, Nat.reduceLeDiff, Nat.reduceAdd] <;> fail)); (focus first | rfl | (simp only [ggR, renC, reduceIte, Nat.reduceEqDiff, Nat.reduceLeDiff, Nat.reduceAdd] <;> fail)))) | (obtain ⟨v12, hv, h⟩ := h; (with_reducible have hc := F.spec_place hv); (refine callE hc ?_ ?_ rfl rfl ?_; (iterate 2 focus (simp only [lnR, reduceIte, Nat.reduceEqDiff] <;> fail)))) | (obtain ⟨v13, hv, h⟩ := h; (with_reducible have hc := F.spec_addHere_o hv); (refine callH [] [117, 118] hc ?_ ?_ rfl rfl ?_ ?_ rfl rfl rfl ?_; (iterate 4 focus (simp only [ghR, renC, reduceIte, Nat.reduceEqDiff, Nat.reduceLeDiff, Nat.reduceAdd, Nat.reduceBEq] <;> fail)))))
     | ((with_reducible replace h := cq h); rcases h with ⟨c, h⟩ | ⟨c, h⟩ <;> try (simp only [*, Bool.false_eq_true, reduceCtorEq] at c; done))
     | ((with_reducible refine isEx ?_); simp only [Prod.exists]; refine ⟨_, _, _, _, _, _, _, _, _, ⟨⟨?_, h⟩, ?_⟩, weak_of [] [(0, 0), (113, 113), (114, 114), (115, 117), (116, 118)] [] ?_ ?_ ?_⟩; (iterate 2 focus omega); (focus rfl); (iterate 2 focus (simp -dsimp only [wkR, wkB, wkC, reduceIte, Nat.reduceEqDiff, reduceCtorEq] <;> simp [List.take_of_length_le]; done)))
     | ((with_reducible refine isEx ?_); simp only [Prod.exists]; refine ⟨_, _, _, _, _, _, _, _, _, ⟨⟨?_, h⟩, ?_⟩, weak_of [] [(0, 0), (113, 113), (114, 114), (115, 115), (116, 116)] [] ?_ ?_ ?_⟩; (iterate 2 focus omega); (focus rfl); (iterate 2 focus (simp -dsimp only [wkR, wkB, wkC, reduceIte, Nat.reduceEqDiff, reduceCtorEq] <;> simp [List.take_of_length_le]; done)))
     | ((with_reducible refine isRet ?_); (refine ret_of [] [(0, 0), (1, 115), (2, 116)] [] ?_ ?_ ?_ ?_; (focus rfl); (iterate 3 focus (simp -dsimp only [rwR, wkB, wkC, reduceIte, Nat.reduceEqDiff, reduceCtorEq, Nat.reduceAdd, Nat.reduceLeDiff] <;> simp [List.take_of_length_le]; done)))))
theorem F.spec_randomNode_o {n : Nat} : ∀ {p_r1 : ReaderT} {a_depth1 : Int} {r : NodeT × ReaderT}, G.spec_randomNode n p_r1 a_depth1 = some r → ACalls Go.Proofs.Tryz.prog 61 [.one (.ptr 0 0), .one (.c (.lit (.int .i64 a_depth1)))] [.var [.c (.sl 1 (List.map cU p_r1.b)), .c (.lit (.int .i64 p_r1.p))]] (fun r1 b1 => r1 = .agg [.c (.lit (.int .i64 r.1.Kind)), .c (.lit (.int .i64 r.1.Num)), .c (.str r.1.Text), .own 1 r.1.Names.length 1, .own 2 r.1.Kids.length 5] ∧ b1 = [.var [.c (.sl 1 (List.map cU r.2.b)), .c (.lit (.int .i64 r.2.p))], .dat 1 (List.map cS r.1.Names), .dat 5 (List.map NodeT.cells r.1.Kids)]) := by
  intro p_r1 a_depth1 r h
  refine fun_sound K.spec_randomNode (ofK ?_)
  unfold C.spec_randomNode
  rcases n with _ | n <;> simp only [G.spec_randomNode, reduceCtorEq] at h
  have := Mk.mk 1; have := Mk.mk 2
  repeat' first
  | (clear h; (with_reducible rintro ⟨n, x_kind1, y1, y2⟩ ⟨hn, h⟩); (with_reducible replace h : G.spec_randomNode.K1 _ _ _ _ _ = some _ := h); rcases n with _ | n <;> simp only [G.spec_randomNode.K1, reduceCtorEq] at h <;> simp only at hn)
  | (clear h; (with_reducible rintro ⟨n, x_n2, y5, y6, z2⟩ ⟨hn, h⟩); (with_reducible replace h : G.spec_randomNode.L2 _ _ _ _ _ _ _ = some _ := h); rcases n with _ | n <;> simp only [G.spec_randomNode.L2, reduceCtorEq] at h <;> simp only at hn)
  | ((with_reducible replace h := kq0 h); obtain ⟨_, _, h⟩ := h)
  | ((with_reducible replace h := kq1 h); obtain ⟨_, _, h⟩ := h)
  | ((with_reducible replace h := kq h); obtain ⟨_, h⟩ := h)
  | ((with_reducible replace h := sq h); subst h; have h := True.intro)
  | (try simp -dsimp only [egR, AOp.opds, AOp.f, AOp.rd, intBin, storeV, lvl, srcOf, reduceIte, Nat.reduceEqDiff, Nat.reduceAdd, Nat.reduceLeDiff, Nat.reduceBEq, reduceCtorEq, Int.reduceBNe, Int.reduceBEq, Int.reduceLT, Int.reduceLE, Int.reduceNeg, Nat.reduceLT, strBin, Int.reduceToNat, renC, *]
     repeat ((with_reducible refine And.intro ?_ ?_); focus first | (show logOK _ _ _ _ = true; kernel_rfl) | (show callOK _ _ = true; kernel_rfl) | omega | assumption | (show _ ≤ maxLen; decide))
     first
     | with_reducible refine callN ?_
     | ((with_reducible refine isCut ?_); rename Mk 1 => tk; clear tk; have : True := (by rewrite [show @G.spec_randomNode.K1 = _ from rfl] at h; exact True.intro); refine cutK (X := Nat × Int × List Int × Int) (fun x => x.1 ≤ n ∧ G.spec_randomNode.K1 x.1 a_depth1 x.2.1 x.2.2.1 x.2.2.2 = some r) (fun x => ASt.of [(0, .v true (.one (.ptr 0 0))), (1, .v true (.one (.c (.lit (.int .i64 a_depth1))))), (4, .v true (.one (.ptr 101 0))), (5, .v true (.one (.c (.lit (.int .i64 x.2.1)))))] [(0, .var [.c (.sl 1 (List.map cU x.2.2.1)), .c (.lit (.int .i64 x.2.2.2))]), (101, .var [.c (.lit (.int .i64 0)), .c (.lit (.int .i64 0)), .c (.str []), .nsl 1, .nsl 5])]) ?_ ?_)
     | ((with_reducible refine isLoop ?_); rename Mk 2 => tk; clear tk; have : True := (by (first | rewrite [show @G.spec_randomNode.L2 = _ from rfl] at h | rewrite [show @G.spec_randomNode.K1 = _ from rfl] at h); exact True.intro); refine loopE (X := Nat × Int × List Int × Int × List NodeT) (fun x => x.1 ≤ n ∧ G.spec_randomNode.L2 x.1 a_depth1 x_kind1 x.2.1 x.2.2.1 x.2.2.2.1 x.2.2.2.2 = some r) (fun x => ASt.of [(0, .v true (.one (.ptr 0 0))), (1, .v true (.one (.c (.lit (.int .i64 a_depth1))))), (4, .v true (.one (.ptr 106 0))), (5, .v true (.one (.c (.lit (.int .i64 x_kind1))))), (6, .v true (.one (.own 107 x.2.2.2.2.length 5))), (7, .v true (.one (.c (.lit (.int .i64 x.2.1)))))] [(0, .var [.c (.sl 1 (List.map cU x.2.2.1)), .c (.lit (.int .i64 x.2.2.2.1))]), (106, .var [.c (.lit (.int .i64 0)), .c (.lit (.int .i64 0)), .c (.str []), .nsl 1, .nsl 5]), (107, .dat 5 (List.map NodeT.cells x.2.2.2.2))]) (fun x => x.1) (by simp only [Prod.exists]; exact ⟨_, _, _, _, _, ⟨Nat.le_refl _, h⟩, weak_of [] [(0, 0), (106, 101), (107, 12)] [] (by rfl) (by (simp -dsimp only [wkR, wkB, wkC, reduceIte, Nat.reduceEqDiff, reduceCtorEq] <;> simp [List.take_of_length_le]; done)) (by (simp -dsimp only [wkR, wkB, wkC, reduceIte, Nat.reduceEqDiff, reduceCtorEq] <;> simp [List.take_of_length_le]; done))⟩) ?_)
     | ((with_reducible refine isCall ?_); (with_reducible replace h := bq h); first | (obtain ⟨v1, hv, h⟩ := h; (with_reducible have hc := F.spec_reader_pick hv); (refine callG [0] [] hc rfl rfl ?_ ?_ rfl rfl ?_ rfl ?_; (iterate 2 focus (simp only [ggR, renC, reduceIte, Nat.reduceEqDiff, Nat.reduceLeDiff, Nat.reduceAdd] <;> fail)); (focus first | rfl | (simp only [ggR, renC, reduceIte, Nat.reduceEqDiff, Nat.reduceLeDiff, Nat.reduceAdd] <;> fail)))) | (obtain ⟨v4, hv, h⟩ := h; (with_reducible have hc := F.spec_reader_one hv); (refine callH [0] [] hc ?_ ?_ rfl rfl ?_ ?_ rfl rfl rfl ?_; (iterate 4 focus (simp only [ghR, renC, reduceIte, Nat.reduceEqDiff, Nat.reduceLeDiff, Nat.reduceAdd, Nat.reduceBEq] <;> fail)))) | (obtain ⟨v5, hv, h⟩ := h; (with_reducible have hc := F.spec_someText hv); (refine callG [0] [] hc rfl rfl ?_ ?_ rfl rfl ?_ rfl ?_; (iterate 2 focus (simp only [ggR, renC, reduceIte, Nat.reduceEqDiff, Nat.reduceLeDiff, Nat.reduceAdd] <;> fail)); (focus first | rfl | (simp only [ggR, renC, reduceIte, Nat.reduceEqDiff, Nat.reduceLeDiff, Nat.reduceAdd] <;> fail)))) | (obtain ⟨v9, hv, h⟩ := h; (with_reducible have hc := F.spec_randomNode hv); (refine callG [0] [] hc rfl rfl ?_ ?_ rfl rfl ?_ rfl ?_; (iterate 2 focus (simp only [ggR, renC, reduceIte, Nat.reduceEqDiff, Nat.reduceLeDiff, Nat.reduceAdd] <;> fail)); (focus first | rfl | (simp only [ggR, renC, reduceIte, Nat.reduceEqDiff, Nat.reduceLeDiff, Nat.reduceAdd] <;> fail)))) | (obtain ⟨v10, hv, h⟩ := h; (with_reducible have hc := F.spec_randomMap_o hv); (refine callG [0] [108, 109] hc rfl rfl ?_ ?_ rfl rfl ?_ rfl ?_; (iterate 2 focus (simp only [ggR, renC, reduceIte, Nat.reduceEqDiff, Nat.reduceLeDiff, Nat.reduceAdd] <;> fail)); (focus first | rfl | (simp only [ggR, renC, reduceIte, Nat.reduceEqDiff, Nat.reduceLeDiff, Nat.reduceAdd] <;> fail)))))
     | ((with_reducible replace h := cq h); rcases h with ⟨c, h⟩ | ⟨c, h⟩ <;> try (simp only [*, Bool.false_eq_true, reduceCtorEq] at c; done))
     | ((with_reducible refine isEx ?_); simp only [Prod.exists]; refine ⟨_, _, _, _, ⟨?_, h⟩, weak_of [] [(0, 0), (101, 10)] [] ?_ ?_ ?_⟩; (focus omega); (focus rfl); (iterate 2 focus (simp -dsimp only [wkR, wkB, wkC, reduceIte, Nat.reduceEqDiff, reduceCtorEq] <;> simp [List.take_of_length_le]; done)))
     | ((with_reducible refine isEx ?_); simp only [Prod.exists]; refine ⟨_, _, _, _, _, ⟨⟨?_, h⟩, ?_⟩, weak_of [] [(0, 0), (106, 106), (107, 14)] [] ?_ ?_ ?_⟩; (iterate 2 focus omega); (focus rfl); (iterate 2 focus (simp -dsimp only [wkR, wkB, wkC, reduceIte, Nat.reduceEqDiff, reduceCtorEq] <;> simp [List.take_of_length_le]; done)))
     | ((with_reducible refine isRet ?_); first | (refine ret_of [] [(0, 0)] [1, 2] ?_ ?_ ?_ ?_; (focus rfl); (iterate 3 focus (simp -dsimp only [rwR, wkB, wkC, reduceIte, Nat.reduceEqDiff, reduceCtorEq, Nat.reduceAdd, Nat.reduceLeDiff] <;> simp [List.take_of_length_le]; done))) | (refine ret_of [] [(0, 0), (1, 15), (2, 107)] [] ?_ ?_ ?_ ?_; (focus rfl); (iterate 3 focus (simp -dsimp only [rwR, wkB, wkC, reduceIte, Nat.reduceEqDiff, reduceCtorEq, Nat.reduceAdd, Nat.reduceLeDiff] <;> simp [List.take_of_length_le]; done))) | (refine ret_of [] [(0, 0), (1, 108), (2, 109)] [] ?_ ?_ ?_ ?_; (focus rfl); (iterate 3 focus (simp -dsimp only [rwR, wkB, wkC, reduceIte, Nat.reduceEqDiff, reduceCtorEq, Nat.reduceAdd, Nat.reduceLeDiff] <;> simp [List.take_of_length_le]; done)))))
theorem F.spec_someNode {n : Nat} : ∀ {p_r1 : ReaderT} {r : NodeT × ReaderT}, G.spec_someNode n p_r1 = some r → ACalls Go.Proofs.Tryz.prog 41 [.one (.ptr 0 0)] [.var [.c (.sl 1 (List.map cU p_r1.b)), .c (.lit (.int .i64 p_r1.p))]] (fun r1 b1 => r1 = .agg [.c (.lit (.int .i64 r.1.Kind)), .c (.lit (.int .i64 r.1.Num)), .c (.str r.1.Text), .c (.sl 1 (List.map cS r.1.Names)), .c (.sl 5 (List.map NodeT.cells r.1.Kids))] ∧ b1 = [.var [.c (.sl 1 (List.map cU r.2.b)), .c (.lit (.int .i64 r.2.p))]]) := by
  intro p_r1 r h
  refine fun_sound K.spec_someNode (ofK ?_)
  unfold C.spec_someNode
  rcases n with _ | n <;> simp only [G.spec_someNode, reduceCtorEq] at h
  repeat' first
  | (clear h; (with_reducible rintro ⟨n, y1, y2, y3, y4, y5, y6, y7⟩ ⟨hn, h⟩); (with_reducible replace h : G.spec_someNode.K1 _ _ _ _ _ _ _ _ = some _ := h); rcases n with _ | n <;> simp only [G.spec_someNode.K1, reduceCtorEq] at h <;> simp only at hn)
  | ((with_reducible replace h := kq0 h); obtain ⟨_, _, h⟩ := h)
  | ((with_reducible replace h := kq1 h); obtain ⟨_, _, h⟩ := h)
  | ((with_reducible replace h := kq h); obtain ⟨_, h⟩ := h)
  | ((with_reducible replace h := sq h); subst h; have h := True.intro)
  | (try simp -dsimp only [egR, AOp.opds, AOp.f, AOp.rd, intBin, storeV, lvl, srcOf, reduceIte, Nat.reduceEqDiff, Nat.reduceAdd, Nat.reduceLeDiff, Nat.reduceBEq, reduceCtorEq, Int.reduceBNe, Int.reduceBEq, Int.reduceLT, Int.reduceLE, Int.reduceNeg, Nat.reduceLT, strBin, Int.reduceToNat, renC, *]
     repeat ((with_reducible refine And.intro ?_ ?_); focus first | (show logOK _ _ _ _ = true; kernel_rfl) | (show callOK _ _ = true; kernel_rfl) | omega | assumption | (show _ ≤ maxLen; decide))
     first
     | with_reducible refine callN ?_
     | ((with_reducible refine isCut ?_); refine cutK (X := Nat × List Int × Int × Int × Int × Txt × List Txt × List NodeT) (fun x => x.1 ≤ n ∧ G.spec_someNode.K1 x.1 x.2.1 x.2.2.1 x.2.2.2.1 x.2.2.2.2.1 x.2.2.2.2.2.1 x.2.2.2.2.2.2.1 x.2.2.2.2.2.2.2 = some r) (fun x => ASt.of [(2, .v true (.one (.ptr 101 0))), (3, .v true (.one (.ptr 102 0)))] [(0, .var [.c (.sl 1 (List.map cU x.2.1)), .c (.lit (.int .i64 x.2.2.1))]), (101, .var [.c (.lit (.int .i64 0)), .c (.lit (.int .i64 0)), .c (.str []), .nsl 1, .nsl 5]), (102, .var [.c (.lit (.int .i64 x.2.2.2.1)), .c (.lit (.int .i64 x.2.2.2.2.1)), .c (.str x.2.2.2.2.2.1), .c (.sl 1 (List.map cS x.2.2.2.2.2.2.1)), .c (.sl 5 (List.map NodeT.cells x.2.2.2.2.2.2.2))])]) ?_ ?_)
     | ((with_reducible refine isCall ?_); (with_reducible replace h := bq h); first | (obtain ⟨v1, hv, h⟩ := h; (with_reducible have hc := F.spec_randomNode hv); (refine callG [0] [] hc rfl rfl ?_ ?_ rfl rfl ?_ rfl ?_; (iterate 2 focus (simp only [ggR, renC, reduceIte, Nat.reduceEqDiff, Nat.reduceLeDiff, Nat.reduceAdd] <;> fail)); (focus first | rfl | (simp only [ggR, renC, reduceIte, Nat.reduceEqDiff, Nat.reduceLeDiff, Nat.reduceAdd] <;> fail)))) | (obtain ⟨v5, hv, h⟩ := h; (with_reducible have hc := F.spec_reader_pick hv); (refine callG [0] [] hc rfl rfl ?_ ?_ rfl rfl ?_ rfl ?_; (iterate 2 focus (simp only [ggR, renC, reduceIte, Nat.reduceEqDiff, Nat.reduceLeDiff, Nat.reduceAdd] <;> fail)); (focus first | rfl | (simp only [ggR, renC, reduceIte, Nat.reduceEqDiff, Nat.reduceLeDiff, Nat.reduceAdd] <;> fail)))) | (obtain ⟨v6, hv, h⟩ := h; (with_reducible have hc := F.spec_randomMap hv); (refine callG [0] [] hc rfl rfl ?_ ?_ rfl rfl ?_ rfl ?_; (iterate 2 focus (simp only [ggR, renC, reduceIte, Nat.reduceEqDiff, Nat.reduceLeDiff, Nat.reduceAdd] <;> fail)); (focus first | rfl | (simp only [ggR, renC, reduceIte, Nat.reduceEqDiff, Nat.reduceLeDiff, Nat.reduceAdd] <;> fail)))) | (obtain ⟨v4, hv, h⟩ := h; (with_reducible have hc := F.spec_validNode hv); refine callL (fun _ => hc) rfl rfl ?_))
     | ((with_reducible replace h := cq h); rcases h with ⟨c, h⟩ | ⟨c, h⟩ <;> try (simp only [*, Bool.false_eq_true, reduceCtorEq] at c; done))
     | ((with_reducible refine isEx ?_); simp only [Prod.exists]; refine ⟨_, _, _, _, _, _, _, _, ⟨?_, h⟩, weak_of [] [(0, 0), (101, 10), (102, 11)] [] ?_ ?_ ?_⟩; (focus omega); (focus rfl); (iterate 2 focus (simp -dsimp only [wkR, wkB, wkC, reduceIte, Nat.reduceEqDiff, reduceCtorEq] <;> simp [List.take_of_length_le]; done)))
     | ((with_reducible refine isRet ?_); (refine ret_of [] [(0, 0)] [] ?_ ?_ ?_ ?_; (focus rfl); (iterate 3 focus (simp -dsimp only [rwR, wkB, wkC, reduceIte, Nat.reduceEqDiff, reduceCtorEq, Nat.reduceAdd, Nat.reduceLeDiff] <;> simp [List.take_of_length_le]; done)))))
theorem F.spec_someNode_o {n : Nat} : ∀ {p_r1 : ReaderT} {r : NodeT × ReaderT}, G.spec_someNode n p_r1 = some r → ACalls Go.Proofs.Tryz.prog 41 [.one (.ptr 0 0)] [.var [.c (.sl 1 (List.map cU p_r1.b)), .c (.lit (.int .i64 p_r1.p))]] (fun r1 b1 => r1 = .agg [.c (.lit (.int .i64 r.1.Kind)), .c (.lit (.int .i64 r.1.Num)), .c (.str r.1.Text), .own 1 r.1.Names.length 1, .own 2 r.1.Kids.length 5] ∧ b1 = [.var [.c (.sl 1 (List.map cU r.2.b)), .c (.lit (.int .i64 r.2.p))], .dat 1 (List.map cS r.1.Names), .dat 5 (List.map NodeT.cells r.1.Kids)]) := by
  intro p_r1 r h
  refine fun_sound K.spec_someNode (ofK ?_)
  unfold C.spec_someNode
  rcases n with _ | n <;> simp only [G.spec_someNode, reduceCtorEq] at h
  repeat' first
  | (clear h; (with_reducible rintro ⟨n, y1, y2, y3, y4, y5, z1, z2⟩ ⟨hn, h⟩); (with_reducible replace h : G.spec_someNode.K1 _ _ _ _ _ _ _ _ = some _ := h); rcases n with _ | n <;> simp only [G.spec_someNode.K1, reduceCtorEq] at h <;> simp only at hn)
  | ((with_reducible replace h := kq0 h); obtain ⟨_, _, h⟩ := h)
  | ((with_reducible replace h := kq1 h); obtain ⟨_, _, h⟩ := h)
  | ((with_reducible replace h := kq h); obtain ⟨_, h⟩ := h)
  | ((with_reducible replace h := sq h); subst h; have h := True.intro)
  | (try simp -dsimp only [egR, AOp.opds, AOp.f, AOp.rd, intBin, storeV, lvl, srcOf, reduceIte, Nat.reduceEqDiff, Nat.reduceAdd, Nat.reduceLeDiff, Nat.reduceBEq, reduceCtorEq, Int.reduceBNe, Int.reduceBEq, Int.reduceLT, Int.reduceLE, Int.reduceNeg, Nat.reduceLT, strBin, Int.reduceToNat, renC, *]
     repeat ((with_reducible refine And.intro ?_ ?_); focus first | (show logOK _ _ _ _ = true; kernel_rfl) | (show callOK _ _ = true; kernel_rfl) | omega | assumption | (show _ ≤ maxLen; decide))
     first
     | with_reducible refine callN ?_
     | ((with_reducible refine isCut ?_); refine cutK (X := Nat × List Int × Int × Int × Int × Txt × List Txt × List NodeT) (fun x => x.1 ≤ n ∧ G.spec_someNode.K1 x.1 x.2.1 x.2.2.1 x.2.2.2.1 x.2.2.2.2.1 x.2.2.2.2.2.1 x.2.2.2.2.2.2.1 x.2.2.2.2.2.2.2 = some r) (fun x => ASt.of [(2, .v true (.one (.ptr 105 0))), (3, .v true (.one (.ptr 106 0)))] [(0, .var [.c (.sl 1 (List.map cU x.2.1)), .c (.lit (.int .i64 x.2.2.1))]), (105, .var [.c (.lit (.int .i64 0)), .c (.lit (.int .i64 0)), .c (.str []), .nsl 1, .nsl 5]), (106, .var [.c (.lit (.int .i64 x.2.2.2.1)), .c (.lit (.int .i64 x.2.2.2.2.1)), .c (.str x.2.2.2.2.2.1), .own 107 x.2.2.2.2.2.2.1.length 1, .own 108 x.2.2.2.2.2.2.2.length 5]), (107, .dat 1 (List.map cS x.2.2.2.2.2.2.1)), (108, .dat 5 (List.map NodeT.cells x.2.2.2.2.2.2.2))]) ?_ ?_)
     | ((with_reducible refine isCall ?_); (with_reducible replace h := bq h); first | (obtain ⟨v1, hv, h⟩ := h; (with_reducible have hc := F.spec_randomNode_o hv); (refine callG [0] [101, 102] hc rfl rfl ?_ ?_ rfl rfl ?_ rfl ?_; (iterate 2 focus (simp only [ggR, renC, reduceIte, Nat.reduceEqDiff, Nat.reduceLeDiff, Nat.reduceAdd] <;> fail)); (focus first | rfl | (simp only [ggR, renC, reduceIte, Nat.reduceEqDiff, Nat.reduceLeDiff, Nat.reduceAdd] <;> fail)))) | (obtain ⟨v5, hv, h⟩ := h; (with_reducible have hc := F.spec_reader_pick hv); (refine callG [0] [] hc rfl rfl ?_ ?_ rfl rfl ?_ rfl ?_; (iterate 2 focus (simp only [ggR, renC, reduceIte, Nat.reduceEqDiff, Nat.reduceLeDiff, Nat.reduceAdd] <;> fail)); (focus first | rfl | (simp only [ggR, renC, reduceIte, Nat.reduceEqDiff, Nat.reduceLeDiff, Nat.reduceAdd] <;> fail)))) | (obtain ⟨v6, hv, h⟩ := h; (with_reducible have hc := F.spec_randomMap_o hv); (refine callG [0] [109, 110] hc rfl rfl ?_ ?_ rfl rfl ?_ rfl ?_; (iterate 2 focus (simp only [ggR, renC, reduceIte, Nat.reduceEqDiff, Nat.reduceLeDiff, Nat.reduceAdd] <;> fail)); (focus first | rfl | (simp only [ggR, renC, reduceIte, Nat.reduceEqDiff, Nat.reduceLeDiff, Nat.reduceAdd] <;> fail)))) | (obtain ⟨v4, hv, h⟩ := h; (with_reducible have hc := F.spec_validNode hv); (refine callE hc ?_ ?_ rfl rfl ?_; (iterate 2 focus (simp only [lnR, reduceIte, Nat.reduceEqDiff] <;> fail)))))
     | ((with_reducible replace h := cq h); rcases h with ⟨c, h⟩ | ⟨c, h⟩ <;> try (simp only [*, Bool.false_eq_true, reduceCtorEq] at c; done))
     | ((with_reducible refine isEx ?_); simp only [Prod.exists]; refine ⟨_, _, _, _, _, _, _, _, ⟨?_, h⟩, weak_of [] [(0, 0), (105, 10), (106, 11), (107, 109), (108, 110)] [] ?_ ?_ ?_⟩; (focus omega); (focus rfl); (iterate 2 focus (simp -dsimp only [wkR, wkB, wkC, reduceIte, Nat.reduceEqDiff, reduceCtorEq] <;> simp [List.take_of_length_le]; done)))
     | ((with_reducible refine isEx ?_); simp only [Prod.exists]; refine ⟨_, _, _, _, _, _, _, _, ⟨?_, h⟩, weak_of [] [(0, 0), (105, 10), (106, 11), (107, 101), (108, 102)] [] ?_ ?_ ?_⟩; (focus omega); (focus rfl); (iterate 2 focus (simp -dsimp only [wkR, wkB, wkC, reduceIte, Nat.reduceEqDiff, reduceCtorEq] <;> simp [List.take_of_length_le]; done)))
     | ((with_reducible refine isRet ?_); first | (refine ret_of [] [(0, 0), (1, 107), (2, 108)] [] ?_ ?_ ?_ ?_; (focus rfl); (iterate 3 focus (simp -dsimp only [rwR, wkB, wkC, reduceIte, Nat.reduceEqDiff, reduceCtorEq, Nat.reduceAdd, Nat.reduceLeDiff] <;> simp [List.take_of_length_le]; done))) | (refine ret_of [] [(0, 0)] [1, 2] ?_ ?_ ?_ ?_; (focus rfl); (iterate 3 focus (simp -dsimp only [rwR, wkB, wkC, reduceIte, Nat.reduceEqDiff, reduceCtorEq, Nat.reduceAdd, Nat.reduceLeDiff] <;> simp [List.take_of_length_le]; done)))))
theorem F.spec_anyNode {n : Nat} : ∀ {p_r1 : ReaderT} {r : NodeT × ReaderT}, G.spec_anyNode n p_r1 = some r → ACalls Go.Proofs.Tryz.prog 19 [.one (.ptr 0 0)] [.var [.c (.sl 1 (List.map cU p_r1.b)), .c (.lit (.int .i64 p_r1.p))]] (fun r1 b1 => r1 = .agg [.c (.lit (.int .i64 r.1.Kind)), .c (.lit (.int .i64 r.1.Num)), .c (.str r.1.Text), .c (.sl 1 (List.map cS r.1.Names)), .c (.sl 5 (List.map NodeT.cells r.1.Kids))] ∧ b1 = [.var [.c (.sl 1 (List.map cU r.2.b)), .c (.lit (.int .i64 r.2.p))]]) := by
  intro p_r1 r h
  refine fun_sound K.spec_anyNode (ofK ?_)
  unfold C.spec_anyNode
  rcases n with _ | n <;> simp only [G.spec_anyNode, reduceCtorEq] at h
  repeat' first
  | (clear h; (with_reducible rintro ⟨n, x_i2, y3, y4, z2⟩ ⟨hn, h⟩); (with_reducible replace h : G.spec_anyNode.L1 _ _ _ _ _ _ = some _ := h); rcases n with _ | n <;> simp only [G.spec_anyNode.L1, reduceCtorEq] at h <;> simp only at hn)
  | ((with_reducible replace h := kq0 h); obtain ⟨_, _, h⟩ := h)
  | ((with_reducible replace h := kq1 h); obtain ⟨_, _, h⟩ := h)
  | ((with_reducible replace h := kq h); obtain ⟨_, h⟩ := h)
  | ((with_reducible replace h := sq h); subst h; have h := True.intro)
  | (try simp -dsimp only [egR, AOp.opds, AOp.f, AOp.rd, intBin, storeV, lvl, srcOf, reduceIte, Nat.reduceEqDiff, Nat.reduceAdd, Nat.reduceLeDiff, Nat.reduceBEq, reduceCtorEq, Int.reduceBNe, Int.reduceBEq, Int.reduceLT, Int.reduceLE, Int.reduceNeg, Nat.reduceLT, strBin, Int.reduceToNat, renC, *]
     repeat ((with_reducible refine And.intro ?_ ?_); focus first | (show logOK _ _ _ _ = true; kernel_rfl) | (show callOK _ _ = true; kernel_rfl) | omega | assumption | (show _ ≤ maxLen; decide))
     first
     | with_reducible refine callN ?_
     | ((with_reducible refine isLoop ?_); refine loopE (X := Nat × Int × List Int × Int × List NodeT) (fun x => x.1 ≤ n ∧ G.spec_anyNode.L1 x.1 v1 x.2.1 x.2.2.1 x.2.2.2.1 x.2.2.2.2 = some r) (fun x => ASt.of [(0, .v true (.one (.ptr 0 0))), (2, .v true (.one (.ptr 113 0))), (3, .v true (.one (.ptr 114 0))), (4, .v true (.one (.own 115 x.2.2.2.2.length 5))), (5, .v true (.one (.c (.lit (.int .i64 x.2.1)))))] [(0, .var [.c (.sl 1 (List.map cU x.2.2.1)), .c (.lit (.int .i64 x.2.2.2.1))]), (113, .var [.c (.lit (.int .i64 0)), .c (.lit (.int .i64 0)), .c (.str []), .nsl 1, .nsl 5]), (114, .var [.c (.lit (.int .i64 v1.1.Kind)), .c (.lit (.int .i64 v1.1.Num)), .c (.str v1.1.Text), .own 116 v1.1.Names.length 1, .own 117 v1.1.Kids.length 5]), (115, .dat 5 (List.map NodeT.cells x.2.2.2.2)), (116, .frz 1 (List.map cS v1.1.Names)), (117, .frz 5 (List.map NodeT.cells v1.1.Kids))]) (fun x => x.1) (by simp only [Prod.exists]; exact ⟨_, _, _, _, _, ⟨Nat.le_refl _, h⟩, weak_of [101, 102] [(0, 0), (113, 10), (114, 11), (115, 20), (116, 101), (117, 102)] [] (by rfl) (by (simp -dsimp only [wkR, wkB, wkC, reduceIte, Nat.reduceEqDiff, reduceCtorEq] <;> simp [List.take_of_length_le]; done)) (by (simp -dsimp only [wkR, wkB, wkC, reduceIte, Nat.reduceEqDiff, reduceCtorEq] <;> simp [List.take_of_length_le]; done))⟩) ?_)
     | ((with_reducible refine isCall ?_); (with_reducible replace h := bq h); first | (obtain ⟨v1, hv, h⟩ := h; (with_reducible have hc := F.spec_someNode_o hv); (refine callG [0] [101, 102] hc rfl rfl ?_ ?_ rfl rfl ?_ rfl ?_; (iterate 2 focus (simp only [ggR, renC, reduceIte, Nat.reduceEqDiff, Nat.reduceLeDiff, Nat.reduceAdd] <;> fail)); (focus first | rfl | (simp only [ggR, renC, reduceIte, Nat.reduceEqDiff, Nat.reduceLeDiff, Nat.reduceAdd] <;> fail)))) | (obtain ⟨v2, hv, h⟩ := h; (with_reducible have hc := F.spec_reader_pick hv); (refine callG [0] [] hc rfl rfl ?_ ?_ rfl rfl ?_ rfl ?_; (iterate 2 focus (simp only [ggR, renC, reduceIte, Nat.reduceEqDiff, Nat.reduceLeDiff, Nat.reduceAdd] <;> fail)); (focus first | rfl | (simp only [ggR, renC, reduceIte, Nat.reduceEqDiff, Nat.reduceLeDiff, Nat.reduceAdd] <;> fail)))) | (obtain ⟨v3, hv, h⟩ := h; (with_reducible have hc := F.spec_reader_one hv); (refine callH [0] [] hc ?_ ?_ rfl rfl ?_ ?_ rfl rfl rfl ?_; (iterate 4 focus (simp only [ghR, renC, reduceIte, Nat.reduceEqDiff, Nat.reduceLeDiff, Nat.reduceAdd, Nat.reduceBEq] <;> fail)))) | (obtain ⟨v10, hv, h⟩ := h; (with_reducible have hc := F.spec_copyNode hv); (refine callD hc ?_ ?_ rfl rfl ?_; (iterate 2 focus (simp only [lnR, reduceIte, Nat.reduceEqDiff] <;> fail)))))
     | ((with_reducible replace h := cq h); rcases h with ⟨c, h⟩ | ⟨c, h⟩ <;> try (simp only [*, Bool.false_eq_true, reduceCtorEq] at c; done))
     | ((with_reducible refine isEx ?_); simp only [Prod.exists]; refine ⟨_, _, _, _, _, ⟨⟨?_, h⟩, ?_⟩, weak_of [] [(0, 0), (113, 113), (114, 114), (115, 22), (116, 116), (117, 117)] [] ?_ ?_ ?_⟩; (iterate 2 focus omega); (focus rfl); (iterate 2 focus (simp -dsimp only [wkR, wkB, wkC, reduceIte, Nat.reduceEqDiff, reduceCtorEq] <;> simp [List.take_of_length_le]; done)))
     | ((with_reducible refine isRet ?_); first | (refine ret_of [101, 102] [(0, 0)] [] ?_ ?_ ?_ ?_; (focus rfl); (iterate 3 focus (simp -dsimp only [rwR, wkB, wkC, reduceIte, Nat.reduceEqDiff, reduceCtorEq, Nat.reduceAdd, Nat.reduceLeDiff] <;> simp [List.take_of_length_le]; done))) | (refine ret_of [15, 102] [(0, 0)] [] ?_ ?_ ?_ ?_; (focus rfl); (iterate 3 focus (simp -dsimp only [rwR, wkB, wkC, reduceIte, Nat.reduceEqDiff, reduceCtorEq, Nat.reduceAdd, Nat.reduceLeDiff] <;> simp [List.take_of_length_le]; done))) | (refine ret_of [19] [(0, 0)] [] ?_ ?_ ?_ ?_; (focus rfl); (iterate 3 focus (simp -dsimp only [rwR, wkB, wkC, reduceIte, Nat.reduceEqDiff, reduceCtorEq, Nat.reduceAdd, Nat.reduceLeDiff] <;> simp [List.take_of_length_le]; done))) | (refine ret_of [115] [(0, 0)] [] ?_ ?_ ?_ ?_; (focus rfl); (iterate 3 focus (simp -dsimp only [rwR, wkB, wkC, reduceIte, Nat.reduceEqDiff, reduceCtorEq, Nat.reduceAdd, Nat.reduceLeDiff] <;> simp [List.take_of_length_le]; done)))))
theorem F.spec_anyPath {n : Nat} : ∀ {p_r1 : ReaderT} {r : List Txt × ReaderT}, G.spec_anyPath n p_r1 = some r → ACalls Go.Proofs.Tryz.prog 46 [.one (.ptr 0 0)] [.var [.c (.sl 1 (List.map cU p_r1.b)), .c (.lit (.int .i64 p_r1.p))]] (fun r1 b1 => r1 = .one (.c (.sl 1 (List.map cS r.1))) ∧ b1 = [.var [.c (.sl 1 (List.map cU r.2.b)), .c (.lit (.int .i64 r.2.p))]]) := by
  intro p_r1 r h
  refine fun_sound K.spec_anyPath (ofK ?_)
  unfold C.spec_anyPath
  rcases n with _ | n <;> simp only [G.spec_anyPath, reduceCtorEq] at h
  repeat' first
  | (clear h; (with_reducible rintro ⟨n, x_n2, y3, y4, z2⟩ ⟨hn, h⟩); (with_reducible replace h : G.spec_anyPath.L1 _ _ _ _ _ = some _ := h); rcases n with _ | n <;> simp only [G.spec_anyPath.L1, reduceCtorEq] at h <;> simp only at hn)
  | ((with_reducible replace h := kq0 h); obtain ⟨_, _, h⟩ := h)
  | ((with_reducible replace h := kq1 h); obtain ⟨_, _, h⟩ := h)
  | ((with_reducible replace h := kq h); obtain ⟨_, h⟩ := h)
  | ((with_reducible replace h := sq h); subst h; have h := True.intro)
  | (try simp -dsimp only [egR, AOp.opds, AOp.f, AOp.rd, intBin, storeV, lvl, srcOf, reduceIte, Nat.reduceEqDiff, Nat.reduceAdd, Nat.reduceLeDiff, Nat.reduceBEq, reduceCtorEq, Int.reduceBNe, Int.reduceBEq, Int.reduceLT, Int.reduceLE, Int.reduceNeg, Nat.reduceLT, strBin, Int.reduceToNat, renC, *]
     repeat ((with_reducible refine And.intro ?_ ?_); focus first | (show logOK _ _ _ _ = true; kernel_rfl) | (show callOK _ _ = true; kernel_rfl) | omega | assumption | (show _ ≤ maxLen; decide))
     first
     | with_reducible refine callN ?_
     | ((with_reducible refine isLoop ?_); refine loopE (X := Nat × Int × List Int × Int × List Txt) (fun x => x.1 ≤ n ∧ G.spec_anyPath.L1 x.1 x.2.1 x.2.2.1 x.2.2.2.1 x.2.2.2.2 = some r) (fun x => ASt.of [(0, .v true (.one (.ptr 0 0))), (3, .v true (.one (.own 103 x.2.2.2.2.length 1))), (4, .v true (.one (.c (.lit (.int .i64 x.2.1)))))] [(0, .var [.c (.sl 1 (List.map cU x.2.2.1)), .c (.lit (.int .i64 x.2.2.2.1))]), (103, .dat 1 (List.map cS x.2.2.2.2))]) (fun x => x.1) (by simp only [Prod.exists]; exact ⟨_, _, _, _, _, ⟨Nat.le_refl _, h⟩, weak_of [] [(0, 0), (103, 10)] [] (by rfl) (by (simp -dsimp only [wkR, wkB, wkC, reduceIte, Nat.reduceEqDiff, reduceCtorEq] <;> simp [List.take_of_length_le]; done)) (by (simp -dsimp only [wkR, wkB, wkC, reduceIte, Nat.reduceEqDiff, reduceCtorEq] <;> simp [List.take_of_length_le]; done))⟩) ?_)
     | ((with_reducible refine isCall ?_); (with_reducible replace h := bq h); first | (obtain ⟨v1, hv, h⟩ := h; (with_reducible have hc := F.spec_reader_one hv); (refine callH [0] [] hc ?_ ?_ rfl rfl ?_ ?_ rfl rfl rfl ?_; (iterate 4 focus (simp only [ghR, renC, reduceIte, Nat.reduceEqDiff, Nat.reduceLeDiff, Nat.reduceAdd, Nat.reduceBEq] <;> fail)))) | (obtain ⟨v4, hv, h⟩ := h; (with_reducible have hc := F.spec_reader_of hv); (refine callH [0] [] hc ?_ ?_ rfl rfl ?_ ?_ rfl rfl rfl ?_; (iterate 4 focus (simp only [ghR, renC, reduceIte, Nat.reduceEqDiff, Nat.reduceLeDiff, Nat.reduceAdd, Nat.reduceBEq] <;> fail)))) | (obtain ⟨v5, hv, h⟩ := h; (with_reducible have hc := F.spec_reader_pick hv); (refine callG [0] [] hc rfl rfl ?_ ?_ rfl rfl ?_ rfl ?_; (iterate 2 focus (simp only [ggR, renC, reduceIte, Nat.reduceEqDiff, Nat.reduceLeDiff, Nat.reduceAdd] <;> fail)); (focus first | rfl | (simp only [ggR, renC, reduceIte, Nat.reduceEqDiff, Nat.reduceLeDiff, Nat.reduceAdd] <;> fail)))))
     | ((with_reducible replace h := cq h); rcases h with ⟨c, h⟩ | ⟨c, h⟩ <;> try (simp only [*, Bool.false_eq_true, reduceCtorEq] at c; done))
     | ((with_reducible refine isEx ?_); simp only [Prod.exists]; refine ⟨_, _, _, _, _, ⟨⟨?_, h⟩, ?_⟩, weak_of [] [(0, 0), (103, 14)] [] ?_ ?_ ?_⟩; (iterate 2 focus omega); (focus rfl); (iterate 2 focus (simp -dsimp only [wkR, wkB, wkC, reduceIte, Nat.reduceEqDiff, reduceCtorEq] <;> simp [List.take_of_length_le]; done)))
     | ((with_reducible refine isRet ?_); (refine ret_of [103] [(0, 0)] [] ?_ ?_ ?_ ?_; (focus rfl); (iterate 3 focus (simp -dsimp only [rwR, wkB, wkC, reduceIte, Nat.reduceEqDiff, reduceCtorEq, Nat.reduceAdd, Nat.reduceLeDiff] <;> simp [List.take_of_length_le]; done)))))
theorem F.spec_all_n : ∀ (n : Nat), ∀ {a_n1 : NodeT} {r : List (List Txt)}, G.spec_all n a_n1 = some r → APure Go.Proofs.Tryz.prog 98 [.agg [.c (.lit (.int .i64 a_n1.Kind)), .c (.lit (.int .i64 a_n1.Num)), .c (.str a_n1.Text), .c (.sl 1 (List.map cS a_n1.Names)), .c (.sl 5 (List.map NodeT.cells a_n1.Kids))]] (.one (.c (.sl 1 (List.map (cL 1 cS) r)))) := by
  intro n
  induction n using Nat.strongRecOn with | _ n ih =>
  intro a_n1 r h
  refine fun_pure K.spec_all (ofK ?_)
  unfold C.spec_all
  rcases n with _ | n <;> simp only [G.spec_all, reduceCtorEq] at h
  have := Mk.mk 5; have := Mk.mk 6; have := Mk.mk 7
  repeat' first
  | (clear h; (with_reducible rintro ⟨n, x_i2, z6⟩ ⟨hn, h⟩); (with_reducible replace h : G.spec_all.L5 _ _ _ _ = some _ := h); rcases n with _ | n <;> simp only [G.spec_all.L5, reduceCtorEq] at h <;> simp only at hn)
  | (clear h; (with_reducible rintro ⟨n, x_step3⟩ ⟨hn, h⟩); (with_reducible replace h : G.spec_all.K6 _ _ _ _ _ = some _ := h); rcases n with _ | n <;> simp only [G.spec_all.K6, reduceCtorEq] at h <;> simp only at hn)
  | (clear h; (with_reducible rintro ⟨n, x_k6, z8⟩ ⟨hn, h⟩); (with_reducible replace h : G.spec_all.L7 _ _ _ _ _ _ _ = some _ := h); rcases n with _ | n <;> simp only [G.spec_all.L7, reduceCtorEq] at h <;> simp only at hn)
  | ((with_reducible replace h := kq0 h); obtain ⟨_, _, h⟩ := h)
  | ((with_reducible replace h := kq1 h); obtain ⟨_, _, h⟩ := h)
  | ((with_reducible replace h := kq h); obtain ⟨_, h⟩ := h)
  | ((with_reducible replace h := sq h); subst h; have h := True.intro)
  | (try simp -dsimp only [egR, AOp.opds, AOp.f, AOp.rd, intBin, storeV, lvl, srcOf, reduceIte, Nat.reduceEqDiff, Nat.reduceAdd, Nat.reduceLeDiff, Nat.reduceBEq, reduceCtorEq, Int.reduceBNe, Int.reduceBEq, Int.reduceLT, Int.reduceLE, Int.reduceNeg, Nat.reduceLT, strBin, Int.reduceToNat, renC, *]
     repeat ((with_reducible refine And.intro ?_ ?_); focus first | (show logOK _ _ _ _ = true; kernel_rfl) | (show callOK _ _ = true; kernel_rfl) | omega | assumption | (show _ ≤ maxLen; decide))
     first
     | with_reducible refine callN ?_
     | ((with_reducible refine isLoop ?_); rename Mk 5 => tk; clear tk; have : True := (by (first | rewrite [show @G.spec_all.L5 = _ from rfl] at h | rewrite [show @G.spec_all.L7 = _ from rfl] at h | rewrite [show @G.spec_all.K6 = _ from rfl] at h); exact True.intro); refine loopE (X := Nat × Int × List (List Txt)) (fun x => x.1 ≤ n ∧ G.spec_all.L5 x.1 a_n1 x.2.1 x.2.2 = some r) (fun x => ASt.of [(1, .v true (.one (.ptr 121 0))), (3, .v true (.one (.own 122 x.2.2.length 1))), (4, .v true (.one (.c (.lit (.int .i64 x.2.1)))))] [(121, .var [.c (.lit (.int .i64 a_n1.Kind)), .c (.lit (.int .i64 a_n1.Num)), .c (.str a_n1.Text), .c (.sl 1 (List.map cS a_n1.Names)), .c (.sl 5 (List.map NodeT.cells a_n1.Kids))]), (122, .dat 1 (List.map (cL 1 cS) x.2.2))]) (fun x => x.1) (by simp only [Prod.exists]; exact ⟨_, _, _, ⟨Nat.le_refl _, h⟩, weak_of [] [(121, 10), (122, 12)] [] (by rfl) (by (simp -dsimp only [wkR, wkB, wkC, reduceIte, Nat.reduceEqDiff, reduceCtorEq] <;> simp [List.take_of_length_le]; done)) (by (simp -dsimp only [wkR, wkB, wkC, reduceIte, Nat.reduceEqDiff, reduceCtorEq] <;> simp [List.take_of_length_le]; done))⟩) ?_)
     | ((with_reducible refine isCut ?_); rename Mk 6 => tk; clear tk; have : True := (by (first | rewrite [show @G.spec_all.K6 = _ from rfl] at h | rewrite [show @G.spec_all.L5 = _ from rfl] at h | rewrite [show @G.spec_all.L7 = _ from rfl] at h); exact True.intro); refine cutK (X := Nat × Txt) (fun x => x.1 ≤ n ∧ G.spec_all.K6 x.1 a_n1 x_i2 z6 x.2 = some r) (fun x => ASt.of [(1, .v true (.one (.ptr 123 0))), (3, .v true (.one (.own 124 z6.length 1))), (4, .v true (.one (.c (.lit (.int .i64 x_i2))))), (5, .v true (.one (.c (.str x.2))))] [(123, .var [.c (.lit (.int .i64 a_n1.Kind)), .c (.lit (.int .i64 a_n1.Num)), .c (.str a_n1.Text), .c (.sl 1 (List.map cS a_n1.Names)), .c (.sl 5 (List.map NodeT.cells a_n1.Kids))]), (124, .dat 1 (List.map (cL 1 cS) z6))]) ?_ ?_)
     | ((with_reducible refine isLoop ?_); rename Mk 7 => tk; clear tk; have : True := (by (first | rewrite [show @G.spec_all.L7 = _ from rfl] at h | rewrite [show @G.spec_all.K6 = _ from rfl] at h | rewrite [show @G.spec_all.L5 = _ from rfl] at h); exact True.intro); refine loopE (X := Nat × Int × List (List Txt)) (fun x => x.1 ≤ n ∧ G.spec_all.L7 x.1 a_n1 x_i2 x_step3 v6 x.2.1 x.2.2 = some r) (fun x => ASt.of [(1, .v true (.one (.ptr 129 0))), (3, .v true (.one (.own 130 x.2.2.length 1))), (4, .v true (.one (.c (.lit (.int .i64 x_i2))))), (5, .v true (.one (.c (.str x_step3)))), (6, .v true (.one (.c (.sl 1 (List.map (cL 1 cS) v6))))), (7, .v true (.one (.c (.lit (.int .i64 x.2.1)))))] [(129, .var [.c (.lit (.int .i64 a_n1.Kind)), .c (.lit (.int .i64 a_n1.Num)), .c (.str a_n1.Text), .c (.sl 1 (List.map cS a_n1.Names)), .c (.sl 5 (List.map NodeT.cells a_n1.Kids))]), (130, .dat 1 (List.map (cL 1 cS) x.2.2))]) (fun x => x.1) (by simp only [Prod.exists]; exact ⟨_, _, _, ⟨Nat.le_refl _, h⟩, weak_of [] [(129, 123), (130, 124)] [] (by rfl) (by (simp -dsimp only [wkR, wkB, wkC, reduceIte, Nat.reduceEqDiff, reduceCtorEq] <;> simp [List.take_of_length_le]; done)) (by (simp -dsimp only [wkR, wkB, wkC, reduceIte, Nat.reduceEqDiff, reduceCtorEq] <;> simp [List.take_of_length_le]; done))⟩) ?_)
     | ((with_reducible refine isCall ?_); (with_reducible replace h := bq h); first | (obtain ⟨v5, hv, h⟩ := h; (with_reducible have hc := F.spec_decimal hv); refine callL (fun _ => hc) rfl rfl ?_) | (obtain ⟨v6, hv, h⟩ := h; have hc := ih _ (by omega) hv; refine callP hc rfl rfl ?_))
     | ((with_reducible replace h := cq h); rcases h with ⟨c, h⟩ | ⟨c, h⟩ <;> try (simp only [*, Bool.false_eq_true, reduceCtorEq] at c; done))
     | ((with_reducible refine isEx ?_); simp only [Prod.exists]; refine ⟨_, _, ⟨?_, h⟩, weak_of [] [(123, 121), (124, 122)] [] ?_ ?_ ?_⟩; (focus omega); (focus rfl); (iterate 2 focus (simp -dsimp only [wkR, wkB, wkC, reduceIte, Nat.reduceEqDiff, reduceCtorEq] <;> simp [List.take_of_length_le]; done)))
     | ((with_reducible refine isEx ?_); simp only [Prod.exists]; refine ⟨_, _, _, ⟨⟨?_, h⟩, ?_⟩, weak_of [] [(129, 129), (130, 16)] [] ?_ ?_ ?_⟩; (iterate 2 focus omega); (focus rfl); (iterate 2 focus (simp -dsimp only [wkR, wkB, wkC, reduceIte, Nat.reduceEqDiff, reduceCtorEq] <;> simp [List.take_of_length_le]; done)))
     | ((with_reducible refine isEx ?_); simp only [Prod.exists]; refine ⟨_, _, _, ⟨⟨?_, h⟩, ?_⟩, weak_of [] [(121, 129), (122, 130)] [] ?_ ?_ ?_⟩; (iterate 2 focus omega); (focus rfl); (iterate 2 focus (simp -dsimp only [wkR, wkB, wkC, reduceIte, Nat.reduceEqDiff, reduceCtorEq] <;> simp [List.take_of_length_le]; done)))
     | ((with_reducible refine isEnd ?_); (simp -dsimp only [peR, reduceIte, Nat.reduceEqDiff, Nat.reduceAdd, Nat.reduceLeDiff, reduceCtorEq] <;> simp [List.take_of_length_le]; done)))
theorem F.spec_all {n : Nat} : ∀ {a_n1 : NodeT} {r : List (List Txt)}, G.spec_all n a_n1 = some r → APure Go.Proofs.Tryz.prog 98 [.agg [.c (.lit (.int .i64 a_n1.Kind)), .c (.lit (.int .i64 a_n1.Num)), .c (.str a_n1.Text), .c (.sl 1 (List.map cS a_n1.Names)), .c (.sl 5 (List.map NodeT.cells a_n1.Kids))]] (.one (.c (.sl 1 (List.map (cL 1 cS) r)))) := F.spec_all_n n
theorem F.spec_AllPaths {n : Nat} : ∀ {a_n1 : NodeT} {r : List (List Txt)}, G.spec_AllPaths n a_n1 = some r → APure Go.Proofs.Tryz.prog 86 [.agg [.c (.lit (.int .i64 a_n1.Kind)), .c (.lit (.int .i64 a_n1.Num)), .c (.str a_n1.Text), .c (.sl 1 (List.map cS a_n1.Names)), .c (.sl 5 (List.map NodeT.cells a_n1.Kids))]] (.one (.c (.sl 1 (List.map (cL 1 cS) r)))) := by
  intro a_n1 r h
  refine fun_pure K.spec_AllPaths (ofK ?_)
  unfold C.spec_AllPaths
  rcases n with _ | n <;> simp only [G.spec_AllPaths, reduceCtorEq] at h
  repeat' first
  | ((with_reducible replace h := kq0 h); obtain ⟨_, _, h⟩ := h)
  | ((with_reducible replace h := kq1 h); obtain ⟨_, _, h⟩ := h)
  | ((with_reducible replace h := kq h); obtain ⟨_, h⟩ := h)
  | ((with_reducible replace h := sq h); subst h; have h := True.intro)
  | (try simp -dsimp only [egR, AOp.opds, AOp.f, AOp.rd, intBin, storeV, lvl, srcOf, reduceIte, Nat.reduceEqDiff, Nat.reduceAdd, Nat.reduceLeDiff, Nat.reduceBEq, reduceCtorEq, Int.reduceBNe, Int.reduceBEq, Int.reduceLT, Int.reduceLE, Int.reduceNeg, Nat.reduceLT, strBin, Int.reduceToNat, renC, *]
     repeat ((with_reducible refine And.intro ?_ ?_); focus first | (show logOK _ _ _ _ = true; kernel_rfl) | (show callOK _ _ = true; kernel_rfl) | omega | assumption | (show _ ≤ maxLen; decide))
     first
     | with_reducible refine callN ?_
     | ((with_reducible refine isCall ?_); (with_reducible replace h := bq h); first | (obtain ⟨v1, hv, h⟩ := h; (with_reducible have hc := F.spec_validNode hv); refine callL (fun _ => hc) rfl rfl ?_) | (obtain ⟨v2, hv, h⟩ := h; (with_reducible have hc := F.spec_all hv); refine callP hc rfl rfl ?_))
     | ((with_reducible replace h := cq h); rcases h with ⟨_, h⟩ | ⟨_, h⟩)
     | ((with_reducible refine isEnd ?_); (simp -dsimp only [peR, reduceIte, Nat.reduceEqDiff, Nat.reduceAdd, Nat.reduceLeDiff, reduceCtorEq] <;> simp [List.take_of_length_le]; done)))
theorem F.spec_pathIn {n : Nat} : ∀ {p_r1 : ReaderT} {a_n1 : NodeT} {r : List Txt × ReaderT}, G.spec_pathIn n p_r1 a_n1 = some r → ACalls Go.Proofs.Tryz.prog 63 [.one (.ptr 0 0), .agg [.c (.lit (.int .i64 a_n1.Kind)), .c (.lit (.int .i64 a_n1.Num)), .c (.str a_n1.Text), .c (.sl 1 (List.map cS a_n1.Names)), .c (.sl 5 (List.map NodeT.cells a_n1.Kids))]] [.var [.c (.sl 1 (List.map cU p_r1.b)), .c (.lit (.int .i64 p_r1.p))]] (fun r1 b1 => r1 = .one (.c (.sl 1 (List.map cS r.1))) ∧ b1 = [.var [.c (.sl 1 (List.map cU r.2.b)), .c (.lit (.int .i64 r.2.p))]]) := by
  intro p_r1 a_n1 r h
  refine fun_sound K.spec_pathIn (ofK ?_)
  unfold C.spec_pathIn
  rcases n with _ | n <;> simp only [G.spec_pathIn, reduceCtorEq] at h
  repeat' first
  | ((with_reducible replace h := kq0 h); obtain ⟨_, _, h⟩ := h)
  | ((with_reducible replace h := kq1 h); obtain ⟨_, _, h⟩ := h)
  | ((with_reducible replace h := kq h); obtain ⟨_, h⟩ := h)
  | ((with_reducible replace h := sq h); subst h; have h := True.intro)
  | (try simp -dsimp only [egR, AOp.opds, AOp.f, AOp.rd, intBin, storeV, lvl, srcOf, reduceIte, Nat.reduceEqDiff, Nat.reduceAdd, Nat.reduceLeDiff, Nat.reduceBEq, reduceCtorEq, Int.reduceBNe, Int.reduceBEq, Int.reduceLT, Int.reduceLE, Int.reduceNeg, Nat.reduceLT, strBin, Int.reduceToNat, renC, *]
     repeat ((with_reducible refine And.intro ?_ ?_); focus first | (show logOK _ _ _ _ = true; kernel_rfl) | (show callOK _ _ = true; kernel_rfl) | omega | assumption | (show _ ≤ maxLen; decide))
     first
     | with_reducible refine callN ?_
     | ((with_reducible refine isCall ?_); (with_reducible replace h := bq h); first | (obtain ⟨v1, hv, h⟩ := h; (with_reducible have hc := F.spec_AllPaths hv); refine callP hc rfl rfl ?_) | (obtain ⟨v2, hv, h⟩ := h; (with_reducible have hc := F.spec_reader_pick hv); (refine callG [0] [] hc rfl rfl ?_ ?_ rfl rfl ?_ rfl ?_; (iterate 2 focus (simp only [ggR, renC, reduceIte, Nat.reduceEqDiff, Nat.reduceLeDiff, Nat.reduceAdd] <;> fail)); (focus first | rfl | (simp only [ggR, renC, reduceIte, Nat.reduceEqDiff, Nat.reduceLeDiff, Nat.reduceAdd] <;> fail)))) | (obtain ⟨v4, hv, h⟩ := h; (with_reducible have hc := F.spec_anyPath hv); (refine callG [0] [] hc rfl rfl ?_ ?_ rfl rfl ?_ rfl ?_; (iterate 2 focus (simp only [ggR, renC, reduceIte, Nat.reduceEqDiff, Nat.reduceLeDiff, Nat.reduceAdd] <;> fail)); (focus first | rfl | (simp only [ggR, renC, reduceIte, Nat.reduceEqDiff, Nat.reduceLeDiff, Nat.reduceAdd] <;> fail)))))
     | ((with_reducible replace h := cq h); rcases h with ⟨_, h⟩ | ⟨_, h⟩)
     | ((with_reducible refine isRet ?_); (refine ret_of [] [(0, 0)] [] ?_ ?_ ?_ ?_; (focus rfl); (iterate 3 focus (simp -dsimp only [rwR, wkB, wkC, reduceIte, Nat.reduceEqDiff, reduceCtorEq, Nat.reduceAdd, Nat.reduceLeDiff] <;> simp [List.take_of_length_le]; done)))))
theorem F.spec_someOp {n : Nat} : ∀ {p_r1 : ReaderT} {a_n1 : NodeT} {r : OpT × ReaderT}, G.spec_someOp n p_r1 a_n1 = some r → ACalls Go.Proofs.Tryz.prog 45 [.one (.ptr 0 0), .agg [.c (.lit (.int .i64 a_n1.Kind)), .c (.lit (.int .i64 a_n1.Num)), .c (.str a_n1.Text), .c (.sl 1 (List.map cS a_n1.Names)), .c (.sl 5 (List.map NodeT.cells a_n1.Kids))]] [.var [.c (.sl 1 (List.map cU p_r1.b)), .c (.lit (.int .i64 p_r1.p))]] (fun r1 b1 => r1 = .agg [.c (.lit (.int .i64 r.1.Kind)), .c (.sl 1 (List.map cS r.1.Path)), .c (.sl 1 (List.map cS r.1.From)), .c (.lit (.int .i64 r.1.Value.Kind)), .c (.lit (.int .i64 r.1.Value.Num)), .c (.str r.1.Value.Text), .c (.sl 1 (List.map cS r.1.Value.Names)), .c (.sl 5 (List.map NodeT.cells r.1.Value.Kids))] ∧ b1 = [.var [.c (.sl 1 (List.map cU r.2.b)), .c (.lit (.int .i64 r.2.p))]]) := by
  intro p_r1 a_n1 r h
  refine fun_sound K.spec_someOp (ofK ?_)
  unfold C.spec_someOp
  rcases n with _ | n <;> simp only [G.spec_someOp, reduceCtorEq] at h
  have := Mk.mk 3; have := Mk.mk 5; have := Mk.mk 6; have := Mk.mk 4
  repeat' first
  | (clear h; (with_reducible rintro ⟨n, x_t4⟩ ⟨hn, h⟩); (with_reducible replace h : G.spec_someOp.K5 _ _ _ _ _ = some _ := h); rcases n with _ | n <;> simp only [G.spec_someOp.K5, reduceCtorEq] at h <;> simp only at hn)
  | (clear h; (with_reducible rintro ⟨n, x_t5⟩ ⟨hn, h⟩); (with_reducible replace h : G.spec_someOp.K6 _ _ _ _ _ = some _ := h); rcases n with _ | n <;> simp only [G.spec_someOp.K6, reduceCtorEq] at h <;> simp only at hn)
  | (clear h; (with_reducible rintro ⟨n, y1, y2, y3, y4, y5, y6, y7, y8⟩ ⟨hn, h⟩); (with_reducible replace h : G.spec_someOp.K3 _ _ _ _ _ _ _ _ _ _ _ = some _ := h); rcases n with _ | n <;> simp only [G.spec_someOp.K3, reduceCtorEq] at h <;> simp only at hn)
  | (clear h; (with_reducible rintro ⟨n, x_t3, y9, y10⟩ ⟨hn, h⟩); (with_reducible replace h : G.spec_someOp.K4 _ _ _ _ _ _ _ _ _ _ _ _ = some _ := h); rcases n with _ | n <;> simp only [G.spec_someOp.K4, reduceCtorEq] at h <;> simp only at hn)
  | ((with_reducible replace h := kq0 h); obtain ⟨_, _, h⟩ := h)
  | ((with_reducible replace h := kq1 h); obtain ⟨_, _, h⟩ := h)
  | ((with_reducible replace h := kq h); obtain ⟨_, h⟩ := h)
  | ((with_reducible replace h := sq h); subst h; have h := True.intro)
  | (try simp -dsimp only [egR, AOp.opds, AOp.f, AOp.rd, intBin, storeV, lvl, srcOf, reduceIte, Nat.reduceEqDiff, Nat.reduceAdd, Nat.reduceLeDiff, Nat.reduceBEq, reduceCtorEq, Int.reduceBNe, Int.reduceBEq, Int.reduceLT, Int.reduceLE, Int.reduceNeg, Nat.reduceLT, strBin, Int.reduceToNat, renC, *]
     repeat ((with_reducible refine And.intro ?_ ?_); focus first | (show logOK _ _ _ _ = true; kernel_rfl) | (show callOK _ _ = true; kernel_rfl) | omega | assumption | (show _ ≤ maxLen; decide))
     first
     | with_reducible refine callN ?_
     | ((with_reducible refine isCut ?_); rename Mk 3 => tk; clear tk; have : True := (by (first | rewrite [show @G.spec_someOp.K3 = _ from rfl] at h | rewrite [show @G.spec_someOp.K6 = _ from rfl] at h | rewrite [show @G.spec_someOp.K5 = _ from rfl] at h); exact True.intro); refine cutK (X := Nat × List Int × Int × List Txt × Int × Int × Txt × List Txt × List NodeT) (fun x => x.1 ≤ n ∧ G.spec_someOp.K3 x.1 v1 v2 x.2.1 x.2.2.1 x.2.2.2.1 x.2.2.2.2.1 x.2.2.2.2.2.1 x.2.2.2.2.2.2.1 x.2.2.2.2.2.2.2.1 x.2.2.2.2.2.2.2.2 = some r) (fun x => ASt.of [(0, .v true (.one (.ptr 0 0))), (4, .v true (.one (.ptr 109 0))), (5, .v true (.one (.ptr 110 0)))] [(0, .var [.c (.sl 1 (List.map cU x.2.1)), .c (.lit (.int .i64 x.2.2.1))]), (109, .var [.c (.lit (.int .i64 0)), .nsl 1, .nsl 1, .c (.lit (.int .i64 0)), .c (.lit (.int .i64 0)), .c (.str []), .nsl 1, .nsl 5]), (110, .var [.c (.lit (.int .i64 (IntKind.wrap .i64 (1 + v1.1)))), .c (.sl 1 (List.map cS v2.1)), .c (.sl 1 (List.map cS x.2.2.2.1)), .c (.lit (.int .i64 x.2.2.2.2.1)), .c (.lit (.int .i64 x.2.2.2.2.2.1)), .c (.str x.2.2.2.2.2.2.1), .c (.sl 1 (List.map cS x.2.2.2.2.2.2.2.1)), .c (.sl 5 (List.map NodeT.cells x.2.2.2.2.2.2.2.2))])]) ?_ ?_)
     | ((with_reducible refine isCut ?_); rename Mk 5 => tk; clear tk; have : True := (by rewrite [show @G.spec_someOp.K5 = _ from rfl] at h; exact True.intro); refine cutK (X := Nat × Bool) (fun x => x.1 ≤ n ∧ G.spec_someOp.K5 x.1 a_n1 v1 v2 x.2 = some r) (fun x => ASt.of [(0, .v true (.one (.ptr 0 0))), (3, .v true (.one (.ptr 113 0))), (4, .v true (.one (.ptr 114 0))), (5, .v true (.one (.ptr 115 0))), (18, .v true (.one (.c (.lit (.int .i64 (IntKind.wrap .i64 (1 + v1.1))))))), (19, .v true (.one (.c (.lit (.bool x.2)))))] [(0, .var [.c (.sl 1 (List.map cU v2.2.b)), .c (.lit (.int .i64 v2.2.p))]), (113, .var [.c (.lit (.int .i64 a_n1.Kind)), .c (.lit (.int .i64 a_n1.Num)), .c (.str a_n1.Text), .c (.sl 1 (List.map cS a_n1.Names)), .c (.sl 5 (List.map NodeT.cells a_n1.Kids))]), (114, .var [.c (.lit (.int .i64 0)), .nsl 1, .nsl 1, .c (.lit (.int .i64 0)), .c (.lit (.int .i64 0)), .c (.str []), .nsl 1, .nsl 5]), (115, .var [.c (.lit (.int .i64 (IntKind.wrap .i64 (1 + v1.1)))), .c (.sl 1 (List.map cS v2.1)), .own 116 0 1, .c (.lit (.int .i64 0)), .c (.lit (.int .i64 0)), .c (.str []), .nsl 1, .nsl 5]), (116, .dat 1 (List.map cS []))]) ?_ ?_)
     | ((with_reducible refine isCut ?_); rename Mk 6 => tk; clear tk; have : True := (by (first | rewrite [show @G.spec_someOp.K6 = _ from rfl] at h | rewrite [show @G.spec_someOp.K5 = _ from rfl] at h); exact True.intro); refine cutK (X := Nat × Bool) (fun x => x.1 ≤ n ∧ G.spec_someOp.K6 x.1 a_n1 v1 v2 x.2 = some r) (fun x => ASt.of [(0, .v true (.one (.ptr 0 0))), (3, .v true (.one (.ptr 117 0))), (4, .v true (.one (.ptr 118 0))), (5, .v true (.one (.ptr 119 0))), (42, .v true (.one (.c (.lit (.bool x.2)))))] [(0, .var [.c (.sl 1 (List.map cU v2.2.b)), .c (.lit (.int .i64 v2.2.p))]), (117, .var [.c (.lit (.int .i64 a_n1.Kind)), .c (.lit (.int .i64 a_n1.Num)), .c (.str a_n1.Text), .c (.sl 1 (List.map cS a_n1.Names)), .c (.sl 5 (List.map NodeT.cells a_n1.Kids))]), (118, .var [.c (.lit (.int .i64 0)), .nsl 1, .nsl 1, .c (.lit (.int .i64 0)), .c (.lit (.int .i64 0)), .c (.str []), .nsl 1, .nsl 5]), (119, .var [.c (.lit (.int .i64 (IntKind.wrap .i64 (1 + v1.1)))), .c (.sl 1 (List.map cS v2.1)), .own 120 0 1, .c (.lit (.int .i64 0)), .c (.lit (.int .i64 0)), .c (.str []), .nsl 1, .nsl 5]), (120, .dat 1 (List.map cS []))]) ?_ ?_)
     | ((with_reducible refine isCut ?_); rename Mk 4 => tk; clear tk; have : True := (by (first | rewrite [show @G.spec_someOp.K4 = _ from rfl] at h | rewrite [show @G.spec_someOp.K3 = _ from rfl] at h | rewrite [show @G.spec_someOp.K6 = _ from rfl] at h | rewrite [show @G.spec_someOp.K5 = _ from rfl] at h); exact True.intro); refine cutK (X := Nat × Bool × List Int × Int) (fun x => x.1 ≤ n ∧ G.spec_someOp.K4 x.1 v1 v2 y3 y4 y5 y6 y7 y8 x.2.1 x.2.2.1 x.2.2.2 = some r) (fun x => ASt.of [(0, .v true (.one (.ptr 0 0))), (4, .v true (.one (.ptr 111 0))), (5, .v true (.one (.ptr 112 0))), (72, .v true (.one (.c (.lit (.bool x.2.1)))))] [(0, .var [.c (.sl 1 (List.map cU x.2.2.1)), .c (.lit (.int .i64 x.2.2.2))]), (111, .var [.c (.lit (.int .i64 0)), .nsl 1, .nsl 1, .c (.lit (.int .i64 0)), .c (.lit (.int .i64 0)), .c (.str []), .nsl 1, .nsl 5]), (112, .var [.c (.lit (.int .i64 (IntKind.wrap .i64 (1 + v1.1)))), .c (.sl 1 (List.map cS v2.1)), .c (.sl 1 (List.map cS y3)), .c (.lit (.int .i64 y4)), .c (.lit (.int .i64 y5)), .c (.str y6), .c (.sl 1 (List.map cS y7)), .c (.sl 5 (List.map NodeT.cells y8))])]) ?_ ?_)
     | ((with_reducible refine isCall ?_); (with_reducible replace h := bq h); first | (obtain ⟨v1, hv, h⟩ := h; (with_reducible have hc := F.spec_reader_pick hv); (refine callG [0] [] hc rfl rfl ?_ ?_ rfl rfl ?_ rfl ?_; (iterate 2 focus (simp only [ggR, renC, reduceIte, Nat.reduceEqDiff, Nat.reduceLeDiff, Nat.reduceAdd] <;> fail)); (focus first | rfl | (simp only [ggR, renC, reduceIte, Nat.reduceEqDiff, Nat.reduceLeDiff, Nat.reduceAdd] <;> fail)))) | (obtain ⟨v2, hv, h⟩ := h; (with_reducible have hc := F.spec_pathIn hv); (refine callG [0] [] hc rfl rfl ?_ ?_ rfl rfl ?_ rfl ?_; (iterate 2 focus (simp only [ggR, renC, reduceIte, Nat.reduceEqDiff, Nat.reduceLeDiff, Nat.reduceAdd] <;> fail)); (focus first | rfl | (simp only [ggR, renC, reduceIte, Nat.reduceEqDiff, Nat.reduceLeDiff, Nat.reduceAdd] <;> fail)))) | (obtain ⟨v14, hv, h⟩ := h; (with_reducible have hc := F.spec_randomNode hv); (refine callG [0] [] hc rfl rfl ?_ ?_ rfl rfl ?_ rfl ?_; (iterate 2 focus (simp only [ggR, renC, reduceIte, Nat.reduceEqDiff, Nat.reduceLeDiff, Nat.reduceAdd] <;> fail)); (focus first | rfl | (simp only [ggR, renC, reduceIte, Nat.reduceEqDiff, Nat.reduceLeDiff, Nat.reduceAdd] <;> fail)))) | (obtain ⟨v15, hv, h⟩ := h; (with_reducible have hc := F.spec_at hv); refine callP hc rfl rfl ?_) | (obtain ⟨v10, hv, h⟩ := h; (with_reducible have hc := F.spec_reader_of hv); (refine callH [0] [] hc ?_ ?_ rfl rfl ?_ ?_ rfl rfl rfl ?_; (iterate 4 focus (simp only [ghR, renC, reduceIte, Nat.reduceEqDiff, Nat.reduceLeDiff, Nat.reduceAdd, Nat.reduceBEq] <;> fail)))))
     | ((with_reducible replace h := cq h); rcases h with ⟨c, h⟩ | ⟨c, h⟩ <;> try (simp only [*, Bool.false_eq_true, reduceCtorEq] at c; done))
     | ((with_reducible refine isEx ?_); simp only [Prod.exists]; refine ⟨_, _, ⟨?_, h⟩, weak_of [] [(0, 0), (113, 10), (114, 11), (115, 13), (116, 12)] [] ?_ ?_ ?_⟩; (focus omega); (focus rfl); (iterate 2 focus (simp -dsimp only [wkR, wkB, wkC, reduceIte, Nat.reduceEqDiff, reduceCtorEq] <;> simp [List.take_of_length_le]; done)))
     | ((with_reducible refine isEx ?_); simp only [Prod.exists]; refine ⟨_, _, _, _, _, _, _, _, _, ⟨?_, h⟩, weak_of [116] [(0, 0), (109, 114), (110, 115)] [] ?_ ?_ ?_⟩; (focus omega); (focus rfl); (iterate 2 focus (simp -dsimp only [wkR, wkB, wkC, reduceIte, Nat.reduceEqDiff, reduceCtorEq] <;> simp [List.take_of_length_le]; done)))
     | ((with_reducible refine isEx ?_); simp only [Prod.exists]; refine ⟨_, _, ⟨?_, h⟩, weak_of [] [(0, 0), (117, 113), (118, 114), (119, 115), (120, 116)] [] ?_ ?_ ?_⟩; (focus omega); (focus rfl); (iterate 2 focus (simp -dsimp only [wkR, wkB, wkC, reduceIte, Nat.reduceEqDiff, reduceCtorEq] <;> simp [List.take_of_length_le]; done)))
     | ((with_reducible refine isEx ?_); simp only [Prod.exists]; refine ⟨_, _, _, _, _, _, _, _, _, ⟨?_, h⟩, weak_of [] [(0, 0), (109, 118), (110, 119)] [] ?_ ?_ ?_⟩; (focus omega); (focus rfl); (iterate 2 focus (simp -dsimp only [wkR, wkB, wkC, reduceIte, Nat.reduceEqDiff, reduceCtorEq] <;> simp [List.take_of_length_le]; done)))
     | ((with_reducible refine isEx ?_); simp only [Prod.exists]; refine ⟨_, _, _, _, _, _, _, _, _, ⟨?_, h⟩, weak_of [120] [(0, 0), (109, 118), (110, 119)] [] ?_ ?_ ?_⟩; (focus omega); (focus rfl); (iterate 2 focus (simp -dsimp only [wkR, wkB, wkC, reduceIte, Nat.reduceEqDiff, reduceCtorEq] <;> simp [List.take_of_length_le]; done)))
     | ((with_reducible refine isEx ?_); simp only [Prod.exists]; refine ⟨_, _, _, _, ⟨?_, h⟩, weak_of [] [(0, 0), (111, 109), (112, 110)] [] ?_ ?_ ?_⟩; (focus omega); (focus rfl); (iterate 2 focus (simp -dsimp only [wkR, wkB, wkC, reduceIte, Nat.reduceEqDiff, reduceCtorEq] <;> simp [List.take_of_length_le]; done)))
     | ((with_reducible refine isRet ?_); first | (refine ret_of [19] [(0, 0)] [] ?_ ?_ ?_ ?_; (focus rfl); (iterate 3 focus (simp -dsimp only [rwR, wkB, wkC, reduceIte, Nat.reduceEqDiff, reduceCtorEq, Nat.reduceAdd, Nat.reduceLeDiff] <;> simp [List.take_of_length_le]; done))) | (refine ret_of [] [(0, 0)] [] ?_ ?_ ?_ ?_; (focus rfl); (iterate 3 focus (simp -dsimp only [rwR, wkB, wkC, reduceIte, Nat.reduceEqDiff, reduceCtorEq, Nat.reduceAdd, Nat.reduceLeDiff] <;> simp [List.take_of_length_le]; done)))))
theorem F.spec_anyOp {n : Nat} : ∀ {p_r1 : ReaderT} {a_n1 : NodeT} {r : OpT × ReaderT}, G.spec_anyOp n p_r1 a_n1 = some r → ACalls Go.Proofs.Tryz.prog 20 [.one (.ptr 0 0), .agg [.c (.lit (.int .i64 a_n1.Kind)), .c (.lit (.int .i64 a_n1.Num)), .c (.str a_n1.Text), .c (.sl 1 (List.map cS a_n1.Names)), .c (.sl 5 (List.map NodeT.cells a_n1.Kids))]] [.var [.c (.sl 1 (List.map cU p_r1.b)), .c (.lit (.int .i64 p_r1.p))]] (fun r1 b1 => r1 = .agg [.c (.lit (.int .i64 r.1.Kind)), .c (.sl 1 (List.map cS r.1.Path)), .c (.sl 1 (List.map cS r.1.From)), .c (.lit (.int .i64 r.1.Value.Kind)), .c (.lit (.int .i64 r.1.Value.Num)), .c (.str r.1.Value.Text), .c (.sl 1 (List.map cS r.1.Value.Names)), .c (.sl 5 (List.map NodeT.cells r.1.Value.Kids))] ∧ b1 = [.var [.c (.sl 1 (List.map cU r.2.b)), .c (.lit (.int .i64 r.2.p))]]) := by
  intro p_r1 a_n1 r h
  refine fun_sound K.spec_anyOp (ofK ?_)
  unfold C.spec_anyOp
  rcases n with _ | n <;> simp only [G.spec_anyOp, reduceCtorEq] at h
  repeat' first
  | ((with_reducible replace h := kq0 h); obtain ⟨_, _, h⟩ := h)
  | ((with_reducible replace h := kq1 h); obtain ⟨_, _, h⟩ := h)
  | ((with_reducible replace h := kq h); obtain ⟨_, h⟩ := h)
  | ((with_reducible replace h := sq h); subst h; have h := True.intro)
  | (try simp -dsimp only [egR, AOp.opds, AOp.f, AOp.rd, intBin, storeV, lvl, srcOf, reduceIte, Nat.reduceEqDiff, Nat.reduceAdd, Nat.reduceLeDiff, Nat.reduceBEq, reduceCtorEq, Int.reduceBNe, Int.reduceBEq, Int.reduceLT, Int.reduceLE, Int.reduceNeg, Nat.reduceLT, strBin, Int.reduceToNat, renC, *]
     repeat ((with_reducible refine And.intro ?_ ?_); focus first | (show logOK _ _ _ _ = true; kernel_rfl) | (show callOK _ _ = true; kernel_rfl) | omega | assumption | (show _ ≤ maxLen; decide))
     first
     | with_reducible refine callN ?_
     | ((with_reducible refine isCall ?_); (with_reducible replace h := bq h); first | (obtain ⟨v1, hv, h⟩ := h; (with_reducible have hc := F.spec_someOp hv); (refine callG [0] [] hc rfl rfl ?_ ?_ rfl rfl ?_ rfl ?_; (iterate 2 focus (simp only [ggR, renC, reduceIte, Nat.reduceEqDiff, Nat.reduceLeDiff, Nat.reduceAdd] <;> fail)); (focus first | rfl | (simp only [ggR, renC, reduceIte, Nat.reduceEqDiff, Nat.reduceLeDiff, Nat.reduceAdd] <;> fail)))) | (obtain ⟨v2, hv, h⟩ := h; (with_reducible have hc := F.spec_reader_pick hv); (refine callG [0] [] hc rfl rfl ?_ ?_ rfl rfl ?_ rfl ?_; (iterate 2 focus (simp only [ggR, renC, reduceIte, Nat.reduceEqDiff, Nat.reduceLeDiff, Nat.reduceAdd] <;> fail)); (focus first | rfl | (simp only [ggR, renC, reduceIte, Nat.reduceEqDiff, Nat.reduceLeDiff, Nat.reduceAdd] <;> fail)))) | (obtain ⟨v3, hv, h⟩ := h; (with_reducible have hc := F.spec_reader_one hv); (refine callH [0] [] hc ?_ ?_ rfl rfl ?_ ?_ rfl rfl rfl ?_; (iterate 4 focus (simp only [ghR, renC, reduceIte, Nat.reduceEqDiff, Nat.reduceLeDiff, Nat.reduceAdd, Nat.reduceBEq] <;> fail)))) | (obtain ⟨v4, hv, h⟩ := h; (with_reducible have hc := F.spec_anyNode hv); (refine callG [0] [] hc rfl rfl ?_ ?_ rfl rfl ?_ rfl ?_; (iterate 2 focus (simp only [ggR, renC, reduceIte, Nat.reduceEqDiff, Nat.reduceLeDiff, Nat.reduceAdd] <;> fail)); (focus first | rfl | (simp only [ggR, renC, reduceIte, Nat.reduceEqDiff, Nat.reduceLeDiff, Nat.reduceAdd] <;> fail)))) | (obtain ⟨v5, hv, h⟩ := h; (with_reducible have hc := F.spec_anyPath hv); (refine callG [0] [] hc rfl rfl ?_ ?_ rfl rfl ?_ rfl ?_; (iterate 2 focus (simp only [ggR, renC, reduceIte, Nat.reduceEqDiff, Nat.reduceLeDiff, Nat.reduceAdd] <;> fail)); (focus first | rfl | (simp only [ggR, renC, reduceIte, Nat.reduceEqDiff, Nat.reduceLeDiff, Nat.reduceAdd] <;> fail)))))
     | ((with_reducible replace h := cq h); rcases h with ⟨_, h⟩ | ⟨_, h⟩)
     | ((with_reducible refine isRet ?_); (refine ret_of [] [(0, 0)] [] ?_ ?_ ?_ ?_; (focus rfl); (iterate 3 focus (simp -dsimp only [rwR, wkB, wkC, reduceIte, Nat.reduceEqDiff, reduceCtorEq, Nat.reduceAdd, Nat.reduceLeDiff] <;> simp [List.take_of_length_le]; done)))))
theorem F.spec_newReader {n : Nat} : ∀ {a_code1 : List Int} {r : ReaderT}, G.spec_newReader n a_code1 = some r → ACalls Go.Proofs.Tryz.prog 18 [.one (.c (.sl 1 (List.map cU a_code1)))] [] (fun r1 b1 => r1 = .one (.ptr 0 0) ∧ b1 = [.var [.c (.sl 1 (List.map cU r.b)), .c (.lit (.int .i64 r.p))]]) := by
  intro a_code1 r h
  refine fun_sound K.spec_newReader (ofK ?_)
  unfold C.spec_newReader
  rcases n with _ | n <;> simp only [G.spec_newReader, reduceCtorEq] at h
  repeat' first
  | ((with_reducible replace h := kq0 h); obtain ⟨_, _, h⟩ := h)
  | ((with_reducible replace h := kq1 h); obtain ⟨_, _, h⟩ := h)
  | ((with_reducible replace h := kq h); obtain ⟨_, h⟩ := h)
  | ((with_reducible replace h := sq h); subst h; have h := True.intro)
  | (try simp -dsimp only [egR, AOp.opds, AOp.f, AOp.rd, intBin, storeV, lvl, srcOf, reduceIte, Nat.reduceEqDiff, Nat.reduceAdd, Nat.reduceLeDiff, Nat.reduceBEq, reduceCtorEq, Int.reduceBNe, Int.reduceBEq, Int.reduceLT, Int.reduceLE, Int.reduceNeg, Nat.reduceLT, strBin, Int.reduceToNat, renC, *]
     repeat ((with_reducible refine And.intro ?_ ?_); focus first | (show logOK _ _ _ _ = true; kernel_rfl) | (show callOK _ _ = true; kernel_rfl) | omega | assumption | (show _ ≤ maxLen; decide))
     first
     | with_reducible refine callN ?_
     | ((with_reducible replace h := cq h); rcases h with ⟨_, h⟩ | ⟨_, h⟩)
     | ((with_reducible refine isRet ?_); (refine ret_of [] [(0, 10)] [] ?_ ?_ ?_ ?_; (focus rfl); (iterate 3 focus (simp -dsimp only [rwR, wkB, wkC, reduceIte, Nat.reduceEqDiff, reduceCtorEq, Nat.reduceAdd, Nat.reduceLeDiff] <;> simp [List.take_of_length_le]; done)))))
theorem F.spec_DrawApplyOp {n : Nat} : ∀ {a_code1 : List Int} {r : NodeT × OpT}, G.spec_DrawApplyOp n a_code1 = some r → APure Go.Proofs.Tryz.prog 7 [.one (.c (.sl 1 (List.map cU a_code1)))] (.tup [(true, [.c (.lit (.int .i64 r.1.Kind)), .c (.lit (.int .i64 r.1.Num)), .c (.str r.1.Text), .c (.sl 1 (List.map cS r.1.Names)), .c (.sl 5 (List.map NodeT.cells r.1.Kids))]), (true, [.c (.lit (.int .i64 r.2.Kind)), .c (.sl 1 (List.map cS r.2.Path)), .c (.sl 1 (List.map cS r.2.From)), .c (.lit (.int .i64 r.2.Value.Kind)), .c (.lit (.int .i64 r.2.Value.Num)), .c (.str r.2.Value.Text), .c (.sl 1 (List.map cS r.2.Value.Names)), .c (.sl 5 (List.map NodeT.cells r.2.Value.Kids))])]) := by
  intro a_code1 r h
  refine fun_pure K.spec_DrawApplyOp (ofK ?_)
  unfold C.spec_DrawApplyOp
  rcases n with _ | n <;> simp only [G.spec_DrawApplyOp, reduceCtorEq] at h
  repeat' first
  | ((with_reducible replace h := kq0 h); obtain ⟨_, _, h⟩ := h)
  | ((with_reducible replace h := kq1 h); obtain ⟨_, _, h⟩ := h)
  | ((with_reducible replace h := kq h); obtain ⟨_, h⟩ := h)
  | ((with_reducible replace h := sq h); subst h; have h := True.intro)
  | (try simp -dsimp only [egR, AOp.opds, AOp.f, AOp.rd, intBin, storeV, lvl, srcOf, reduceIte, Nat.reduceEqDiff, Nat.reduceAdd, Nat.reduceLeDiff, Nat.reduceBEq, reduceCtorEq, Int.reduceBNe, Int.reduceBEq, Int.reduceLT, Int.reduceLE, Int.reduceNeg, Nat.reduceLT, strBin, Int.reduceToNat, renC, *]
     repeat ((with_reducible refine And.intro ?_ ?_); focus first | (show logOK _ _ _ _ = true; kernel_rfl) | (show callOK _ _ = true; kernel_rfl) | omega | assumption | (show _ ≤ maxLen; decide))
     first
     | with_reducible refine callN ?_
     | ((with_reducible refine isCall ?_); (with_reducible replace h := bq h); first | (obtain ⟨v1, hv, h⟩ := h; (with_reducible have hc := F.spec_newReader hv); (refine callG [] [101] hc rfl rfl ?_ ?_ rfl rfl ?_ rfl ?_; (iterate 2 focus (simp only [ggR, renC, reduceIte, Nat.reduceEqDiff, Nat.reduceLeDiff, Nat.reduceAdd] <;> fail)); (focus first | rfl | (simp only [ggR, renC, reduceIte, Nat.reduceEqDiff, Nat.reduceLeDiff, Nat.reduceAdd] <;> fail)))) | (obtain ⟨v2, hv, h⟩ := h; (with_reducible have hc := F.spec_anyNode hv); (refine callG [101] [] hc rfl rfl ?_ ?_ rfl rfl ?_ rfl ?_; (iterate 2 focus (simp only [ggR, renC, reduceIte, Nat.reduceEqDiff, Nat.reduceLeDiff, Nat.reduceAdd] <;> fail)); (focus first | rfl | (simp only [ggR, renC, reduceIte, Nat.reduceEqDiff, Nat.reduceLeDiff, Nat.reduceAdd] <;> fail)))) | (obtain ⟨v3, hv, h⟩ := h; (with_reducible have hc := F.spec_anyOp hv); (refine callG [101] [] hc rfl rfl ?_ ?_ rfl rfl ?_ rfl ?_; (iterate 2 focus (simp only [ggR, renC, reduceIte, Nat.reduceEqDiff, Nat.reduceLeDiff, Nat.reduceAdd] <;> fail)); (focus first | rfl | (simp only [ggR, renC, reduceIte, Nat.reduceEqDiff, Nat.reduceLeDiff, Nat.reduceAdd] <;> fail)))))
     | ((with_reducible replace h := cq h); rcases h with ⟨_, h⟩ | ⟨_, h⟩)
     | ((with_reducible refine isEnd ?_); (simp -dsimp only [peR, reduceIte, Nat.reduceEqDiff, Nat.reduceAdd, Nat.reduceLeDiff, reduceCtorEq] <;> simp [List.take_of_length_le]; done)))
theorem F.laws_FnApplyOpMove {n : Nat} : ∀ {a_code1 : List Int} {r : Bool}, G.laws_FnApplyOpMove n a_code1 = some r → APure Go.Proofs.Tryz.prog 6 [.one (.c (.sl 1 (List.map cU a_code1)))] (.one (.c (.lit (.bool r)))) := by
  intro a_code1 r h
  refine fun_pure K.laws_FnApplyOpMove (ofK ?_)
  unfold C.laws_FnApplyOpMove
  rcases n with _ | n <;> simp only [G.laws_FnApplyOpMove, reduceCtorEq] at h
  have := Mk.mk 1; have := Mk.mk 2
  repeat' first
  | (clear h; (with_reducible rintro ⟨n, _⟩ ⟨hn, h⟩); (with_reducible replace h : G.laws_FnApplyOpMove.K1 _ _ _ = some _ := h); rcases n with _ | n <;> simp only [G.laws_FnApplyOpMove.K1, reduceCtorEq] at h <;> simp only at hn)
  | (clear h; (with_reducible rintro ⟨n, x_two1, y1, y2, y3, y4, y5⟩ ⟨hn, h⟩); (with_reducible replace h : G.laws_FnApplyOpMove.K2 _ _ _ _ _ _ _ _ _ _ = some _ := h); rcases n with _ | n <;> simp only [G.laws_FnApplyOpMove.K2, reduceCtorEq] at h <;> simp only at hn)
  | ((with_reducible replace h := kq0 h); obtain ⟨_, _, h⟩ := h)
  | ((with_reducible replace h := kq1 h); obtain ⟨_, _, h⟩ := h)
  | ((with_reducible replace h := kq h); obtain ⟨_, h⟩ := h)
  | ((with_reducible replace h := sq h); subst h; have h := True.intro)
  | (try simp -dsimp only [egR, AOp.opds, AOp.f, AOp.rd, intBin, storeV, lvl, srcOf, reduceIte, Nat.reduceEqDiff, Nat.reduceAdd, Nat.reduceLeDiff, Nat.reduceBEq, reduceCtorEq, Int.reduceBNe, Int.reduceBEq, Int.reduceLT, Int.reduceLE, Int.reduceNeg, Nat.reduceLT, strBin, Int.reduceToNat, renC, *]
     repeat ((with_reducible refine And.intro ?_ ?_); focus first | (show logOK _ _ _ _ = true; kernel_rfl) | (show callOK _ _ = true; kernel_rfl) | omega | assumption | (show _ ≤ maxLen; decide))
     first
     | with_reducible refine callN ?_
     | ((with_reducible refine isCut ?_); rename Mk 1 => tk; clear tk; have : True := (by rewrite [show @G.laws_FnApplyOpMove.K1 = _ from rfl] at h; exact True.intro); refine cutK (X := Nat × Unit) (fun x => x.1 ≤ n ∧ G.laws_FnApplyOpMove.K1 x.1 v1 v2 = some r) (fun x => ASt.of [(3, .v true (.one (.ptr 101 0))), (4, .v true (.one (.ptr 102 0))), (5, .v true (.one (.ptr 103 0))), (6, .v true (.one (.c (.lit (.bool true))))), (7, .v true (.one (.ptr 104 0))), (8, .v true (.one (.c (.lit (.bool true))))), (64, .v true (.one (.c (.lit (.bool false)))))] [(101, .var [.c (.lit (.int .i64 v1.1.Kind)), .c (.lit (.int .i64 v1.1.Num)), .c (.str v1.1.Text), .c (.sl 1 (List.map cS v1.1.Names)), .c (.sl 5 (List.map NodeT.cells v1.1.Kids))]), (102, .var [.c (.lit (.int .i64 v1.2.Kind)), .c (.sl 1 (List.map cS v1.2.Path)), .c (.sl 1 (List.map cS v1.2.From)), .c (.lit (.int .i64 v1.2.Value.Kind)), .c (.lit (.int .i64 v1.2.Value.Num)), .c (.str v1.2.Value.Text), .c (.sl 1 (List.map cS v1.2.Value.Names)), .c (.sl 5 (List.map NodeT.cells v1.2.Value.Kids))]), (103, .var [.c (.lit (.int .i64 v2.1.Kind)), .c (.lit (.int .i64 v2.1.Num)), .c (.str v2.1.Text), .c (.sl 1 (List.map cS v2.1.Names)), .c (.sl 5 (List.map NodeT.cells v2.1.Kids))]), (104, .var [.c (.lit (.int .i64 v3.1.Kind)), .c (.lit (.int .i64 v3.1.Num)), .c (.str v3.1.Text), .c (.sl 1 (List.map cS v3.1.Names)), .c (.sl 5 (List.map NodeT.cells v3.1.Kids))])]) ?_ ?_)
     | ((with_reducible refine isCut ?_); rename Mk 2 => tk; clear tk; have : True := (by (first | rewrite [show @G.laws_FnApplyOpMove.K2 = _ from rfl] at h | rewrite [show @G.laws_FnApplyOpMove.K1 = _ from rfl] at h); exact True.intro); refine cutK (X := Nat × Bool × Int × Int × Txt × List Txt × List NodeT) (fun x => x.1 ≤ n ∧ G.laws_FnApplyOpMove.K2 x.1 v1 v2 v14 x.2.1 x.2.2.1 x.2.2.2.1 x.2.2.2.2.1 x.2.2.2.2.2.1 x.2.2.2.2.2.2 = some r) (fun x => ASt.of [(3, .v true (.one (.ptr 105 0))), (4, .v true (.one (.ptr 106 0))), (5, .v true (.one (.ptr 107 0))), (9, .v true (.one (.ptr 108 0))), (10, .v true (.one (.c (.lit (.bool v14.2))))), (11, .v true (.one (.ptr 109 0))), (12, .v true (.one (.c (.lit (.bool x.2.1)))))] [(105, .var [.c (.lit (.int .i64 v1.1.Kind)), .c (.lit (.int .i64 v1.1.Num)), .c (.str v1.1.Text), .c (.sl 1 (List.map cS v1.1.Names)), .c (.sl 5 (List.map NodeT.cells v1.1.Kids))]), (106, .var [.c (.lit (.int .i64 v1.2.Kind)), .c (.sl 1 (List.map cS v1.2.Path)), .c (.sl 1 (List.map cS v1.2.From)), .c (.lit (.int .i64 v1.2.Value.Kind)), .c (.lit (.int .i64 v1.2.Value.Num)), .c (.str v1.2.Value.Text), .c (.sl 1 (List.map cS v1.2.Value.Names)), .c (.sl 5 (List.map NodeT.cells v1.2.Value.Kids))]), (107, .var [.c (.lit (.int .i64 v2.1.Kind)), .c (.lit (.int .i64 v2.1.Num)), .c (.str v2.1.Text), .c (.sl 1 (List.map cS v2.1.Names)), .c (.sl 5 (List.map NodeT.cells v2.1.Kids))]), (108, .var [.c (.lit (.int .i64 v14.1.Kind)), .c (.lit (.int .i64 v14.1.Num)), .c (.str v14.1.Text), .c (.sl 1 (List.map cS v14.1.Names)), .c (.sl 5 (List.map NodeT.cells v14.1.Kids))]), (109, .var [.c (.lit (.int .i64 x.2.2.1)), .c (.lit (.int .i64 x.2.2.2.1)), .c (.str x.2.2.2.2.1), .c (.sl 1 (List.map cS x.2.2.2.2.2.1)), .c (.sl 5 (List.map NodeT.cells x.2.2.2.2.2.2))])]) ?_ ?_)
     | ((with_reducible refine isCall ?_); (with_reducible replace h := bq h); first | (obtain ⟨v1, hv, h⟩ := h; (with_reducible have hc := F.spec_DrawApplyOp hv); refine callP hc rfl rfl ?_) | (obtain ⟨v2, hv, h⟩ := h; (with_reducible have hc := F.impl_ApplyOp hv); refine callP hc rfl rfl ?_) | (obtain ⟨v3, hv, h⟩ := h; (with_reducible have hc := F.spec_ApplyOp hv); refine callP hc rfl rfl ?_) | (obtain ⟨v21, hv, h⟩ := h; (with_reducible have hc := F.laws_equalNode hv); refine callL (fun _ => hc) rfl rfl ?_) | (obtain ⟨v23, hv, h⟩ := h; (with_reducible have hc := F.laws_equalTexts hv); refine callL (fun _ => hc) rfl rfl ?_) | (obtain ⟨v14, hv, h⟩ := h; (with_reducible have hc := F.impl_NodeAt hv); refine callP hc rfl rfl ?_) | (obtain ⟨v20, hv, h⟩ := h; (with_reducible have hc := F.impl_RemoveNode hv); refine callP hc rfl rfl ?_) | (obtain ⟨v16, hv, h⟩ := h; (with_reducible have hc := F.impl_AddNode hv); refine callP hc rfl rfl ?_) | (obtain ⟨v18, hv, h⟩ := h; (with_reducible have hc := F.impl_NodeCount hv); refine callL (fun _ => hc) rfl rfl ?_))
     | ((with_reducible replace h := cq h); rcases h with ⟨c, h⟩ | ⟨c, h⟩ <;> try (simp only [*, Bool.false_eq_true, reduceCtorEq] at c; done))
     | ((with_reducible refine isEx ?_); simp only [Prod.exists]; refine ⟨_, (), ⟨?_, h⟩, weak_of [] [(101, 10), (102, 11), (103, 12), (104, 13)] [] ?_ ?_ ?_⟩; (focus omega); (focus rfl); (iterate 2 focus (simp -dsimp only [wkR, wkB, wkC, reduceIte, Nat.reduceEqDiff, reduceCtorEq] <;> simp [List.take_of_length_le]; done)))
     | ((with_reducible refine isEx ?_); simp only [Prod.exists]; refine ⟨_, _, _, _, _, _, _, ⟨?_, h⟩, weak_of [] [(105, 101), (106, 102), (107, 103), (108, 14), (109, 15)] [] ?_ ?_ ?_⟩; (focus omega); (focus rfl); (iterate 2 focus (simp -dsimp only [wkR, wkB, wkC, reduceIte, Nat.reduceEqDiff, reduceCtorEq] <;> simp [List.take_of_length_le]; done)))
     | ((with_reducible refine isEnd ?_); (simp -dsimp only [peR, reduceIte, Nat.reduceEqDiff, Nat.reduceAdd, Nat.reduceLeDiff, reduceCtorEq] <;> simp [List.take_of_length_le]; done)))
end Go.Ab
end
section
namespace Go.Ab
open Go Go.ChangeShapes Go.WideShapes Go.ChangeAt Go.RowKit
def I0 (W : World) : IH := fun b => match W.heap[b]? with
  | some (.cells c _ _) => some c
  | _ => none
theorem I0_agree (W : World) : Agree (I0 W) W := by
  intro b c h
  unfold I0 at h
  split at h
  · rename_i c' e fr hb
    cases h
    exact ⟨e, fr, hb⟩
  · cases h
theorem I0_cell (W : World) {a : Addr} {v : Value} (h : W.cell? a = some v) : (I0 W).cell a = some v := by
  unfold World.cell? at h
  unfold IH.cell I0
  split at h
  · rename_i c e fr hb
    split at h
    · cases h
    · rename_i hs
      rw [if_neg hs, hb]
      exact h
  · cases h
theorem below_of_frm {W W' : World} {M : Nat → Prop} (h : Frm W W' M) (hM : ∀ k, ¬ M k) : Below W.heap.size W W' :=
  ⟨h.os, h.tape, h.output, h.size, fun k hk => h.block k hk (hM k)⟩
theorem none_used (ρ : Ren) (k : Nat) : ¬ ∃ b, (bxL [] b).uses (ρ b) k := fun ⟨b, h⟩ => by
  simp only [bxL, List.getD_nil] at h
  exact h
abbrev byteC (z : Int) : List Cell := [.lit (.int .u8 z)]
theorem law_calls {P : Program} {f : FuncId} {H : Type} {enc : TypeId × Value → H} {W : World} {tb eb : TypeId} {v0 : Value} {d0 : DataW H} {p0 : List MemPlace} {base : Nat}
    (ht : P.underlying tb = some (.slice eb)) (he : P.underlying eb = some (.int .u8)) (hc : P.cellsOf eb = 1)
    (hval : Value.okWide P W .any base tb v0) (h0 : DataW.Trod enc P W 0 (fun _ => true) true tb v0 d0 p0)
    (hp : ∀ zs : List Int, zs.length ≤ maxLen → (∀ z, z ∈ zs → 0 ≤ z ∧ z < 256) → APure P f [vSl 1 (zs.map byteC)] (vBool true)) :
    Calls P f #[v0] W fun e W' => e = .returned (.bool true) ∧ Below W.heap.size W W' := by
  obtain ⟨a0, len, cap, rfl⟩ := okWide_slice ht hval
  obtain ⟨fuel, hf⟩ := h0
  have go : ∀ zs : List Int, zs.length ≤ maxLen → (∀ z, z ∈ zs → 0 ≤ z ∧ z < 256) → Rd (I0 W) (.slice a0 len cap) (.sl 1 (zs.map byteC)) →
      Calls P f #[.slice a0 len cap] W fun e W' => e = .returned (.bool true) ∧ Below W.heap.size W W' := by
    intro zs hl hz hr
    refine (hp zs hl hz (I0 W) (fun _ => none) W [.slice a0 len cap] (I0_agree W) ⟨fun b => by simp only [bxL, List.getD_nil]; exact rfl, fun b b' k h => (none_used (fun _ => none) k ⟨b, h⟩).elim, fun b k h => (none_used (fun _ => none) k ⟨b, h⟩).elim⟩ ⟨rfl, ?_⟩).mono ?_
    · intro j v x hv hx
      match j with
      | 0 =>
        simp only [List.getElem?_cons_zero, Option.some.injEq] at hv hx
        subst hv hx
        exact hr
      | j + 1 => simp at hv
    · rintro e W' ⟨v, J, σ, r, bs, rfl, ⟨rfl, rfl⟩, hg, _, _, _, hfr, _⟩
      refine ⟨?_, below_of_frm hfr (none_used (fun _ => none))⟩
      cases hg
      rfl
  rcases open_ints ht he hc hf with ⟨hcs, hx⟩ | ⟨a, len', cap', zs, hcs, _, hl, hm, hz, hx, hcell, hwz⟩
  · simp [Value.cells] at hcs
    obtain ⟨rfl, rfl, rfl⟩ := hcs
    exact go [] (Nat.zero_le _) (fun z h => by cases h) (.sl none 0 0 1 [] (fun _ _ => undef) rfl (Nat.le_refl _) (Nat.zero_le _) (fun e h => by cases h) (fun h => by omega) (fun ad h => by cases h) (fun i j c h => by simp at h))
  · simp [Value.cells] at hcs
    obtain ⟨rfl, rfl, rfl⟩ := hcs
    simp only [if_true] at hz
    have hb : ∀ z, z ∈ zs.take len → 0 ≤ z ∧ z < 256 := fun z hz' => by
      have h5 := hwz z (List.mem_of_mem_take hz')
      have e1 : IntKind.u8.min = 0 := rfl
      have e2 : IntKind.u8.max = 255 := rfl
      have : 0 ≤ z ∧ z ≤ 255 := by simpa [Lit.wf, e1, e2] using h5
      omega
    have hlen : (zs.take len).length = len := by rw [List.length_take]; omega
    refine go (zs.take len) (by omega) hb (.sl (some a) len cap 1 _ (fun i _ => .int .u8 (zs.getD i 0)) (by rw [List.length_map, hlen]) hl hm (fun e h => ?_) (fun _ h => by cases h) (fun ad hd i j hi hj => ?_) (fun i j c h => ?_))
    · obtain ⟨z, _, rfl⟩ := List.mem_map.1 h
      rfl
    · cases hd
      have e : i * 1 + j = i := by omega
      rw [e]
      exact I0_cell W (hcell i (by omega))
    · by_cases hi : i < len
      · have hi' : i < zs.length := by omega
        have e : ((zs.take len).map byteC).getD i [] = byteC (zs.getD i 0) := by
          simp [List.getD, List.getElem?_map, List.getElem?_take, hi, hi']
        rw [e] at h
        match j with
        | 0 =>
          simp only [List.getElem?_cons_zero, Option.some.injEq] at h
          subst h
          exact .lit _ rfl
        | j + 1 => simp at h
      · have e : ((zs.take len).map byteC).getD i [] = [] := by
          simp [List.getD, List.getElem?_map, List.getElem?_take, hi]
        rw [e] at h
        simp at h
end Go.Ab
end
section
namespace Go.Proofs.YtflehdldhoebbaaGreatDoor.fnApplyOpMove
open Go Go.ChangeShapes Go.WideShapes Go.ChangeAt Go.RowKit Go.Ab
set_option maxRecDepth 100000
theorem own : ownKnob Tryz.prog.godebug = none := by kernel_rfl
theorem laidOut : laidOutB Tryz.prog = true := by kernel_rfl
theorem cellsB : Tryz.prog.cellsOf 5 = 1 := by kernel_rfl
theorem calls (zs : List Int) (hz : ∀ z, z ∈ zs → 0 ≤ z ∧ z < 256) : APure Tryz.prog 6 [vSl 1 (zs.map byteC)] (vBool true) := by
  obtain ⟨n, hn⟩ := (T.law_ApplyOpMove hz).val
  exact F.laws_FnApplyOpMove hn
theorem contract (H : Type) (enc : TypeId × Value → H) (W : World) (base : Nat) (args : Array Value) (ds gs : List (DataW H)) (before : List MemPlace)
    (hval : ∀ (j : Nat) t v, Tryz.f6.params[j]? = some t → args[j]? = some v → Value.okWide Tryz.prog W .any base t v)
    (hW : DataW.Whole enc Tryz.prog Tryz.f6.params.toList Rows.fnApplyOpMoveSpec.vars false W args.toList ds gs before) :
    Calls Tryz.prog 6 args W fun e W' => ∃ v, e = .returned v ∧ Rows.fnApplyOpMoveSpec.post enc Tryz.prog Tryz.f6 false true false false W args v W' := by
  have hW' := hW
  obtain ⟨p, q, hA0, hV, rfl, hfz, hnd⟩ := hW
  have hA : DataW.TrodAll enc Tryz.prog W 0 (fun _ => true) true Tryz.f6.params.toList args.toList ds p := hA0
  rw [Tryz.params6] at hA hval
  obtain ⟨v0, vs0, d0, ds0, p0, q0, hargs, rfl, rfl, h0, r0⟩ := trodAll_cons hA
  obtain ⟨rfl, rfl, rfl⟩ := trodAll_nil r0
  obtain rfl : args = #[v0] := by cases args; simp_all
  obtain ⟨rfl, rfl⟩ := trodVars_none hV
  clear hA0
  simp only [List.append_nil] at hW'
  have hlt : ∀ x ∈ p0, x.block < W.heap.size := fun x hx => by simpa using hW'.lt x hx
  refine (law_calls (enc := enc) Tryz.underlying22 Tryz.underlying5 cellsB (hval 0 22 v0 rfl rfl) h0 (fun zs _ hz => calls zs hz)).mono fun e W' ⟨he, hb⟩ => ?_
  subst he
  have ht : DataW.TrodAll enc Tryz.prog W' 0 (fun b => decide (b < W.heap.size)) true [22] [v0] [d0] (p0 ++ []) := trodAll_cons_mk (Below.trod laidOut (by kernel_rfl) (of_decide_eq_true (by kernel_rfl)) h0 hb hlt) trodAll_mk0
  rw [List.append_nil] at ht
  exact ⟨_, rfl, _, _, _, [], p0, [], hW', trodAll_cons_mk (shut_bool Tryz.underlying4 _) trodAll_mk0,
    ht, rfl, hb.frame _, fun h => by cases h⟩
def tab (k : IntKind) (l : List Int) : Obj → Obj
  | .cells _ t frozen => .cells (l.map fun n => Value.int k n).toArray t frozen
  | o => o
noncomputable def laidWorld (os : Os) : World :=
  { World.holding Tryz.prog os ⟨#[], #[], []⟩ with heap := ((((World.holding Tryz.prog os ⟨#[], #[], []⟩).heap).modify 2 (tab .u8 [0, 1, 28, 2, 29, 14, 24, 3, 30, 22, 20, 15, 25, 17, 4, 8, 31, 27, 13, 23, 21, 19, 16, 7, 26, 12, 18, 6, 11, 5, 10, 9])).modify 3 (tab .u8 [0, 1, 56, 2, 57, 49, 28, 3, 61, 58, 42, 50, 38, 29, 17, 4, 62, 47, 59, 36, 45, 43, 51, 22, 53, 39, 33, 30, 24, 18, 12, 5, 63, 55, 48, 27, 60, 41, 37, 16, 46, 35, 44, 21, 52, 32, 23, 11, 54, 26, 40, 15, 34, 20, 31, 10, 25, 14, 19, 9, 13, 8, 7, 6])).modify 1 (tab .u64 [1, 10, 100, 1000, 10000, 100000, 1000000, 10000000, 100000000, 1000000000, 10000000000, 100000000000, 1000000000000, 10000000000000, 100000000000000, 1000000000000000, 10000000000000000, 100000000000000000, 1000000000000000000, 10000000000000000000]) }
theorem laid_met (os : Os) : laidMet Tryz.prog Rows.fnApplyOpMoveRow.laid ((laidWorld os).forCall (fun _ _ => 0) ⟨#[], #[.slice none 0 0], []⟩).memory :=
  laidMet_of_run' 80 (by kernel_rfl) (by kernel_rfl)
theorem reads (os : Os) {H : Type} (enc : TypeId × Value → H) : ∃ places, DataW.whole enc Tryz.prog ((laidWorld os).forCall (fun _ _ => 0) ⟨#[], #[.slice none 0 0], []⟩).memory Tryz.f6.params.toList Rows.fnApplyOpMoveSpec.vars false #[Value.slice none 0 0].toList 8 = some ([.nil], [], places) :=
  ⟨[], by kernel_rfl⟩
theorem lifted (os : Os) (started : os.Started) (H : Type) (enc : TypeId × Value → H) (F : Stop.Interp) :
    ReturnsInHanded {} Tryz.checked os 6 .any ((OpenSpec.ofChange Rows.fnApplyOpMoveSpec).preRow enc Tryz.prog Tryz.f6 Rows.fnApplyOpMoveRow.domain false Rows.fnApplyOpMoveRow.laid) (((OpenSpec.ofChange Rows.fnApplyOpMoveSpec).at F).post enc Tryz.prog Tryz.f6 false true false false) := by
  obtain ⟨places, hx⟩ := reads os enc
  refine returnsInHanded_of_row (C := Tryz.checked) (s := OpenSpec.ofChange Rows.fnApplyOpMoveSpec) own started (by kernel_rfl) Tryz.func6
    (witness_row_at (enc := enc) (C := Tryz.checked) false (laidWorld os) #[.slice none 0 0] rfl (by kernel_rfl) (by kernel_rfl) (by kernel_rfl)
      (OpenSpec.preRow_of_cond 8 hx (by kernel_rfl) (fun k hk => by cases hk) (by kernel_rfl) (laid_met os))) ?_
  intro W base args ds gs before hval hW _ _ _ hL _ _
  exact contract H enc W base args ds gs before hval hW
theorem said : Rows.FnApplyOpMoveSaid :=
  OpenClaim.holds_of_cond 6 Tryz.f6 rfl rfl rfl rfl rfl rfl rfl ⟨rfl, rfl, rfl, rfl, rfl⟩ rfl rfl rfl rfl rfl (by kernel_rfl) Tryz.func6 (by kernel_rfl)
    (of_decide_eq_true (by kernel_rfl)) (by unfold Func.isWrapper; first | (rw [if_pos (by decide +kernel)]; kernel_rfl) | (rw [if_neg (by decide +kernel)]; exact ⟨rfl, rfl⟩))
    (fun os started H enc _ F => by rw [OpenClaim.pre_eq_preRow]; exact lifted os started H enc F)
theorem plain (f : FuncId) (fn : Func) (hf : Tryz.pinned.checked.prog.funcNamed Rows.fnApplyOpMoveRow.func = some f) (hfn : Tryz.pinned.checked.prog.funcs[f]? = some fn) :
    false = Tryz.pinned.checked.prog.looks [] ∧ ∀ (j : Nat) t, fn.params[j]? = some t → Tryz.pinned.checked.prog.wantsStandIn t = false := by
  obtain rfl : f = 6 := Option.some.inj ((show Tryz.prog.funcNamed Rows.fnApplyOpMoveRow.func = some 6 by kernel_rfl).symm.trans hf) |>.symm
  obtain rfl : fn = Tryz.f6 := (Option.some.inj (Tryz.func6.symm.trans hfn)).symm
  refine ⟨by kernel_rfl, fun j t ht => ?_⟩
  rw [Tryz.params6] at ht
  obtain rfl : t = 22 := by simpa using Array.mem_of_getElem? ht
  exact (show Tryz.prog.wantsStandIn 22 = false by kernel_rfl)
theorem card : Rows.FnApplyOpMoveCardSaid :=
  Claim7.holds_tied_plain_at .later [] _ _ _ _ said (fun _ h => by cases h) (by kernel_rfl) (fun _ h => by cases h) fnApplyOpMove_row_tie rfl ⟨rfl, rfl⟩ (by kernel_rfl) rfl plain (by kernel_rfl)
end Go.Proofs.YtflehdldhoebbaaGreatDoor.fnApplyOpMove
end
