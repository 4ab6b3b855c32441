/- The law FnIndexStorePut of the package laws answers true for every code of bytes and leaves it as it is: the abstract interpreter of the program, the printed functions and proofs, the laws of the data, the statement (part 5 of the proof). Conditions: none but what the row lists. -/
import Derived.Test.YtjflgnaccghfmaaGreatDoorI2
set_option linter.unusedVariables false
set_option linter.unusedSimpArgs false
section
namespace Go.Ab
open Go
set_option maxRecDepth 100000
set_option maxHeartbeats 4000000
set_option linter.unusedVariables false
set_option linter.unusedSimpArgs false
theorem FZ.slices_Insert_impl_Item {es : List (List Cell)} {v : List Cell} {c i : Nat} (hc : es.length ≤ c) (hi : i ≤ es.length) (hb : (es.length + 1) * 112 ≤ 2 ^ 46) :
    ACalls Go.Proofs.Tryz.prog 121 [.one (.sub 0 0 es.length (some c) 7), .one (.c (.lit (.int .i64 (i : Int)))), .one (.own 1 1 7)] [.dat 7 es, .dat 7 [v]]
      (fun r1 b1 => r1 = .one (.own 2 (es.length + 1) 7) ∧ b1 = [.dead, .dat 7 [v], .dat 7 (es.take i ++ v :: es.drop i)]) := by
  have hw : IntKind.wrap .i64 ((es.length : Int) + ((1 : Nat) : Int)) = ((es.length + 1 : Nat) : Int) := by rw [wrap_id] <;> omega
  have hw2 : IntKind.wrap .i64 ((i : Int) + ((1 : Nat) : Int)) = ((i + 1 : Nat) : Int) := by rw [wrap_id] <;> omega
  have hw3 : IntKind.wrap .i64 (((es.length + 1 : Nat) : Int) - i) = ((es.length + 1 - i : Nat) : Int) := by rw [wrap_id] <;> omega
  refine fun_sound K.slices_Insert_impl_Item (ofK ?_)
  unfold C.slices_Insert_impl_Item
  have h10 : (((1 : Nat) : Int) == 0) = false := rfl
  by_cases h1 : i = es.length
  · subst h1
    have he : (((es.length : Nat) : Int) == ((es.length : Nat) : Int)) = true := by simp
    simp -dsimp only [egR, AOp.opds, AOp.f, AOp.rd, intBin, storeV, lvl, srcOf, reduceIte, Nat.reduceEqDiff, Nat.reduceAdd, Nat.reduceLeDiff, Nat.reduceBEq, reduceCtorEq, Int.reduceBNe, Int.reduceBEq, Int.reduceLT, Int.reduceLE, Int.reduceNeg, Nat.reduceLT, strBin, Int.reduceToNat, renC, ssliceV, sl3V, sappV, scpyV, appzV, sclrV, truncS, Option.map_none, Int.sub_zero, Nat.sub_zero, Int.toNat_sub, Int.ofNat_zero, List.drop_zero, List.take_length, Nat.add_sub_cancel, h10]
    repeat refine And.intro (by first | (show logOK _ _ _ _ = true; kernel_rfl) | (show callOK _ _ = true; kernel_rfl) | omega | assumption) ?_
    have e : es ++ [v] ++ List.drop (es.length + 1) es = es ++ v :: List.drop es.length es := by simp
    have e2 : es ++ [v] = es ++ v :: List.drop es.length es := by simp
    by_cases hr : es.length + 1 ≤ c
    · simp -dsimp only [egR, AOp.opds, AOp.f, AOp.rd, intBin, storeV, lvl, srcOf, reduceIte, Nat.reduceEqDiff, Nat.reduceAdd, Nat.reduceLeDiff, Nat.reduceBEq, reduceCtorEq, Int.reduceBNe, Int.reduceBEq, Int.reduceLT, Int.reduceLE, Int.reduceNeg, Nat.reduceLT, strBin, Int.reduceToNat, renC, ssliceV, sl3V, sappV, scpyV, appzV, sclrV, truncS, Option.map_none, Int.sub_zero, Nat.sub_zero, Int.toNat_sub, Int.ofNat_zero, List.drop_zero, List.take_length, Nat.add_sub_cancel, hr]
      repeat refine And.intro (by first | (show logOK _ _ _ _ = true; kernel_rfl) | (show callOK _ _ = true; kernel_rfl) | omega | assumption) ?_
      rw [e]
      refine ret_of [] [(0, 0), (1, 1), (2, 0)] [] (by rfl) ?_ ?_ ?_ <;> (simp -dsimp only [rwR, wkB, wkC, reduceIte, Nat.reduceEqDiff, reduceCtorEq, Nat.reduceAdd, Nat.reduceLeDiff] <;> first | (simp [List.take_of_length_le]; done) | ((try simp only [List.map_take, List.map_drop, List.map_append, List.map_cons, List.map_nil]) <;> (repeat' apply And.intro) <;> first | rfl | (simp; done) | (simp <;> omega; done) | (congr 1; exact (List.take_of_length_le (by simp <;> omega)).symm)))
    · simp -dsimp only [egR, AOp.opds, AOp.f, AOp.rd, intBin, storeV, lvl, srcOf, reduceIte, Nat.reduceEqDiff, Nat.reduceAdd, Nat.reduceLeDiff, Nat.reduceBEq, reduceCtorEq, Int.reduceBNe, Int.reduceBEq, Int.reduceLT, Int.reduceLE, Int.reduceNeg, Nat.reduceLT, strBin, Int.reduceToNat, renC, ssliceV, sl3V, sappV, scpyV, appzV, sclrV, truncS, Option.map_none, Int.sub_zero, Nat.sub_zero, Int.toNat_sub, Int.ofNat_zero, List.drop_zero, List.take_length, Nat.add_sub_cancel, hr]
      repeat refine And.intro (by first | (show logOK _ _ _ _ = true; kernel_rfl) | (show callOK _ _ = true; kernel_rfl) | omega | assumption) ?_
      rw [e2]
      refine ret_of [] [(0, 0), (1, 1), (2, 10)] [] (by rfl) ?_ ?_ ?_ <;> (simp -dsimp only [rwR, wkB, wkC, reduceIte, Nat.reduceEqDiff, reduceCtorEq, Nat.reduceAdd, Nat.reduceLeDiff] <;> first | (simp [List.take_of_length_le]; done) | ((try simp only [List.map_take, List.map_drop, List.map_append, List.map_cons, List.map_nil]) <;> (repeat' apply And.intro) <;> first | rfl | (simp; done) | (simp <;> omega; done) | (congr 1; exact (List.take_of_length_le (by simp <;> omega)).symm)))
  · have he : (((i : Nat) : Int) == ((es.length : Nat) : Int)) = false := by simp; omega
    simp -dsimp only [egR, AOp.opds, AOp.f, AOp.rd, intBin, storeV, lvl, srcOf, reduceIte, Nat.reduceEqDiff, Nat.reduceAdd, Nat.reduceLeDiff, Nat.reduceBEq, reduceCtorEq, Int.reduceBNe, Int.reduceBEq, Int.reduceLT, Int.reduceLE, Int.reduceNeg, Nat.reduceLT, strBin, Int.reduceToNat, renC, ssliceV, sl3V, sappV, scpyV, appzV, sclrV, truncS, Option.map_none, Int.sub_zero, Nat.sub_zero, Int.toNat_sub, Int.ofNat_zero, List.drop_zero, List.take_length, Nat.add_sub_cancel, h10]
    repeat refine And.intro (by first | (show logOK _ _ _ _ = true; kernel_rfl) | (show callOK _ _ = true; kernel_rfl) | omega | assumption) ?_
    simp -dsimp only [egR, AOp.opds, AOp.f, AOp.rd, intBin, storeV, lvl, srcOf, reduceIte, Nat.reduceEqDiff, Nat.reduceAdd, Nat.reduceLeDiff, Nat.reduceBEq, reduceCtorEq, Int.reduceBNe, Int.reduceBEq, Int.reduceLT, Int.reduceLE, Int.reduceNeg, Nat.reduceLT, strBin, Int.reduceToNat, renC, ssliceV, sl3V, sappV, scpyV, appzV, sclrV, truncS, Option.map_none, Int.sub_zero, Nat.sub_zero, Int.toNat_sub, Int.ofNat_zero, List.drop_zero, List.take_length, Nat.add_sub_cancel, he]
    by_cases hr : es.length + 1 ≤ c
    · have hd : decide ((c : Int) < ((es.length + 1 : Nat) : Int)) = false := by simp; omega
      simp -dsimp only [egR, AOp.opds, AOp.f, AOp.rd, intBin, storeV, lvl, srcOf, reduceIte, Nat.reduceEqDiff, Nat.reduceAdd, Nat.reduceLeDiff, Nat.reduceBEq, reduceCtorEq, Int.reduceBNe, Int.reduceBEq, Int.reduceLT, Int.reduceLE, Int.reduceNeg, Nat.reduceLT, strBin, Int.reduceToNat, renC, ssliceV, sl3V, sappV, scpyV, appzV, sclrV, truncS, Option.map_none, Int.sub_zero, Nat.sub_zero, Int.toNat_sub, Int.ofNat_zero, List.drop_zero, List.take_length, Nat.add_sub_cancel, hw, hd]
      repeat refine And.intro (by first | (show logOK _ _ _ _ = true; kernel_rfl) | (show callOK _ _ = true; kernel_rfl) | omega | assumption) ?_
      simp -dsimp only [egR, AOp.opds, AOp.f, AOp.rd, intBin, storeV, lvl, srcOf, reduceIte, Nat.reduceEqDiff, Nat.reduceAdd, Nat.reduceLeDiff, Nat.reduceBEq, reduceCtorEq, Int.reduceBNe, Int.reduceBEq, Int.reduceLT, Int.reduceLE, Int.reduceNeg, Nat.reduceLT, strBin, Int.reduceToNat, renC, ssliceV, sl3V, sappV, scpyV, appzV, sclrV, truncS, Option.map_none, Int.sub_zero, Nat.sub_zero, Int.toNat_sub, Int.ofNat_zero, List.drop_zero, List.take_length, Nat.add_sub_cancel, hw2]
      repeat refine And.intro (by first | (show logOK _ _ _ _ = true; kernel_rfl) | (show callOK _ _ = true; kernel_rfl) | omega | assumption) ?_
      refine And.intro (by simp; omega) ?_
      have e := ins1 es v i (by omega)
      simp only [splice] at e
      rw [e]
      refine ret_of [] [(0, 0), (1, 1), (2, 0)] [] (by rfl) ?_ ?_ ?_ <;> (simp -dsimp only [rwR, wkB, wkC, reduceIte, Nat.reduceEqDiff, reduceCtorEq, Nat.reduceAdd, Nat.reduceLeDiff] <;> first | (simp [List.take_of_length_le]; done) | ((try simp only [List.map_take, List.map_drop, List.map_append, List.map_cons, List.map_nil]) <;> (repeat' apply And.intro) <;> first | rfl | (simp; done) | (simp <;> omega; done) | (congr 1; exact (List.take_of_length_le (by simp <;> omega)).symm)))
    · have hd : decide ((c : Int) < ((es.length + 1 : Nat) : Int)) = true := by simp; omega
      have hx : c < i + (es.length + 1 - i) := by omega
      simp -dsimp only [egR, AOp.opds, AOp.f, AOp.rd, intBin, storeV, lvl, srcOf, reduceIte, Nat.reduceEqDiff, Nat.reduceAdd, Nat.reduceLeDiff, Nat.reduceBEq, reduceCtorEq, Int.reduceBNe, Int.reduceBEq, Int.reduceLT, Int.reduceLE, Int.reduceNeg, Nat.reduceLT, strBin, Int.reduceToNat, renC, ssliceV, sl3V, sappV, scpyV, appzV, sclrV, truncS, Option.map_none, Int.sub_zero, Nat.sub_zero, Int.toNat_sub, Int.ofNat_zero, List.drop_zero, List.take_length, Nat.add_sub_cancel, hw, hd, hw2, hw3]
      repeat refine And.intro (by first | (show logOK _ _ _ _ = true; kernel_rfl) | (show callOK _ _ = true; kernel_rfl) | omega | assumption) ?_
      refine And.intro (by simp; omega) ?_
      repeat refine And.intro (by first | (show logOK _ _ _ _ = true; kernel_rfl) | (show callOK _ _ = true; kernel_rfl) | omega | assumption) ?_
      refine And.intro ⟨by omega, by simp; omega⟩ ?_
      repeat refine And.intro (by first | (show logOK _ _ _ _ = true; kernel_rfl) | (show callOK _ _ = true; kernel_rfl) | omega | assumption) ?_
      have e := ins2 es v [.str [], .lit (.int .i64 0), .lit (.int .i64 0), .lit (.int .i64 0), .str [], .sl 1 [], .sl 5 []] i _ (by omega) rfl
      simp only [splice] at e
      have e0 : i + (es.length + 1 - i) = es.length + 1 := by omega
      rw [e, e0]
      refine ret_of [] [(0, 0), (1, 1), (2, 11)] [] (by rfl) ?_ ?_ ?_ <;> (simp -dsimp only [rwR, wkB, wkC, reduceIte, Nat.reduceEqDiff, reduceCtorEq, Nat.reduceAdd, Nat.reduceLeDiff] <;> first | (simp [List.take_of_length_le]; done) | ((try simp only [List.map_take, List.map_drop, List.map_append, List.map_cons, List.map_nil]) <;> (repeat' apply And.intro) <;> first | rfl | (simp; done) | (simp <;> omega; done) | (congr 1; exact (List.take_of_length_le (by simp <;> omega)).symm)))
theorem F.slices_Insert_impl_Item {n : Nat} : ∀ {a_s1 : List ItemT} {a_i1 : Int} {a_v1 : List ItemT} {r : List ItemT}, G.slices_Insert_impl_Item n a_s1 a_i1 a_v1 = some r →
    ACalls Go.Proofs.Tryz.prog 121 [.one (.own 0 a_s1.length 7), .one (.c (.lit (.int .i64 a_i1))), .one (.own 1 a_v1.length 7)] [.dat 7 (List.map ItemT.cells a_s1), .dat 7 (List.map ItemT.cells a_v1)]
      (fun r1 b1 => r1 = .one (.own 2 r.length 7) ∧ b1 = [.dead, .dat 7 (List.map ItemT.cells a_v1), .dat 7 (List.map ItemT.cells r)]) := by
  intro s i v r h
  cases n with
  | zero => simp only [G.slices_Insert_impl_Item, reduceCtorEq] at h
  | succ n =>
    simp only [G.slices_Insert_impl_Item] at h
    obtain ⟨⟨q1, q2, q3, q4⟩, h⟩ := chk_some.1 h
    cases h
    obtain ⟨x, rfl⟩ := List.length_eq_one_iff.1 q3
    obtain ⟨k, rfl⟩ : ∃ k : Nat, i = k := ⟨i.toNat, by omega⟩
    refine caps_of (fun c hc => ?_)
    have hf := FZ.slices_Insert_impl_Item (es := List.map ItemT.cells s) (v := ItemT.cells x) (c := c) (i := k) (by simpa using hc) (by rw [List.length_map]; omega) (by rw [List.length_map]; exact q4)
    have e1 : (List.take k s ++ [x] ++ List.drop k s).length = s.length + 1 := by simp; omega
    rw [Int.toNat_natCast, e1]
    simpa using hf
theorem F.impl_putAt {n : Nat} : ∀ {a_items1 : List ItemT} {a_item1 : ItemT} {r : List ItemT}, G.impl_putAt n a_items1 a_item1 = some r → ACalls Go.Proofs.Tryz.prog 74 [.one (.own 0 a_items1.length 7), .agg [.c (.str a_item1.Name), .c (.lit (.int .i64 a_item1.Version)), .c (.lit (.int .i64 a_item1.Node.Kind)), .c (.lit (.int .i64 a_item1.Node.Num)), .c (.str a_item1.Node.Text), .c (.sl 1 (List.map cS a_item1.Node.Names)), .c (.sl 5 (List.map NodeT.cells a_item1.Node.Kids))]] [.dat 7 (List.map ItemT.cells a_items1)] (fun r1 b1 => r1 = .one (.own 1 r.length 7) ∧ b1 = [.dead, .dat 7 (List.map ItemT.cells r)]) := by
  intro a_items1 a_item1 r h
  refine fun_sound K.impl_putAt (ofK ?_)
  unfold C.impl_putAt
  rcases n with _ | n <;> simp only [G.impl_putAt, reduceCtorEq] at h
  obtain ⟨zc, zg, zk, zu, ze, zj, zt⟩ := pp (pp @F.impl_findItem ()) <| pp (pp (pp @F.slices_Insert_impl_Item (@cG [0, 11] [101])) ()) <| pp () <| pp () <| pp () <| pp () <| (pp (@retX [] [(0, 0), (1, 0)] []) <| pp (@retX [] [(0, 0), (1, 101)] []) ())
  exact drv
theorem F.impl_PutItem {n : Nat} : ∀ {a_s1 : StoreT} {a_name1 : Txt} {a_n1 : NodeT} {r : StoreT × Bool}, G.impl_PutItem n a_s1 a_name1 a_n1 = some r → APure Go.Proofs.Tryz.prog 34 [.agg [.c (.sl 7 (List.map ItemT.cells a_s1.Items)), .c (.lit (.int .i64 a_s1.Clock))], .one (.c (.str a_name1)), .agg [.c (.lit (.int .i64 a_n1.Kind)), .c (.lit (.int .i64 a_n1.Num)), .c (.str a_n1.Text), .c (.sl 1 (List.map cS a_n1.Names)), .c (.sl 5 (List.map NodeT.cells a_n1.Kids))]] (.tup [(true, [.c (.sl 7 (List.map ItemT.cells r.1.Items)), .c (.lit (.int .i64 r.1.Clock))]), (false, [.c (.lit (.bool r.2))])]) := by
  intro a_s1 a_name1 a_n1 r h
  refine fun_pure K.impl_PutItem (ofK ?_)
  unfold C.impl_PutItem
  rcases n with _ | n <;> simp only [G.impl_PutItem, reduceCtorEq] at h
  obtain ⟨zc, zg, zk, zu, ze, zj, zt⟩ := pp (pp @F.impl_ValidStore <| pp @F.impl_isName <| pp @F.impl_ValidNode <| pp @F.impl_copyNode ()) <| pp (pp (pp @F.impl_copyStore_o (@cG [] [101])) <| pp (pp @F.impl_putAt (@cG [101] [102])) ()) <| pp () <| pp () <| pp () <| pp () <| ()
  exact drv
theorem F.laws_equalTexts {n : Nat} : ∀ {a_a1 : List Txt} {a_b1 : List Txt} {r : Bool}, G.laws_equalTexts n a_a1 a_b1 = some r → APure Go.Proofs.Tryz.prog 31 [.one (.c (.sl 1 (List.map cS a_a1))), .one (.c (.sl 1 (List.map cS a_b1)))] (.one (.c (.lit (.bool r)))) := by
  intro a_a1 a_b1 r h
  refine fun_pure K.laws_equalTexts (ofK ?_)
  unfold C.laws_equalTexts
  rcases n with _ | n <;> simp only [G.laws_equalTexts, reduceCtorEq] at h
  obtain ⟨zc, zg, zk, zu, ze, zj, zt⟩ := pp () <| pp () <| pp (pp (@lopX (Int) _ (fun n x => G.laws_equalTexts.L1 n a_a1 a_b1 x) r (fun x => ASt.of [(0, .v true (.one (.c (.sl 1 (List.map cS a_a1))))), (1, .v true (.one (.c (.sl 1 (List.map cS a_b1))))), (5, .v true (.one (.c (.lit (.int .i64 x)))))] [])) ()) <| pp () <| pp (pp (And.intro @G.laws_equalTexts.L1.eq_1 <| @G.laws_equalTexts.L1.eq_2) ()) <| pp (pp (@weakX [] [] []) ()) <| ()
  exact drv
theorem F.scc_laws_equalNode : ∀ (n : Nat), (∀ {a_a1 : NodeT} {a_b1 : NodeT} {r : Bool}, G.laws_equalNode n a_a1 a_b1 = some r → APure Go.Proofs.Tryz.prog 16 [.agg [.c (.lit (.int .i64 a_a1.Kind)), .c (.lit (.int .i64 a_a1.Num)), .c (.str a_a1.Text), .c (.sl 1 (List.map cS a_a1.Names)), .c (.sl 5 (List.map NodeT.cells a_a1.Kids))], .agg [.c (.lit (.int .i64 a_b1.Kind)), .c (.lit (.int .i64 a_b1.Num)), .c (.str a_b1.Text), .c (.sl 1 (List.map cS a_b1.Names)), .c (.sl 5 (List.map NodeT.cells a_b1.Kids))]] (.one (.c (.lit (.bool r))))) ∧ (∀ {a_a1 : List NodeT} {a_b1 : List NodeT} {r : Bool}, G.laws_equalNodes n a_a1 a_b1 = some r → APure Go.Proofs.Tryz.prog 42 [.one (.c (.sl 5 (List.map NodeT.cells a_a1))), .one (.c (.sl 5 (List.map NodeT.cells a_b1)))] (.one (.c (.lit (.bool r))))) := by
  intro n
  induction n using Nat.strongRecOn with | _ n ih =>
  refine ⟨?_, ?_⟩
  · intro a_a1 a_b1 r h
    refine fun_pure K.laws_equalNode (ofK ?_)
    unfold C.laws_equalNode
    rcases n with _ | n <;> simp only [G.laws_equalNode, reduceCtorEq] at h
    obtain ⟨zc, zg, zk, zu, ze, zj, zt⟩ := pp (pp ((ihR ih)) <| pp @F.laws_equalTexts ()) <| pp () <| pp () <| pp () <| pp () <| pp () <| ()
    exact drv
  · intro a_a1 a_b1 r h
    refine fun_pure K.laws_equalNodes (ofK ?_)
    unfold C.laws_equalNodes
    rcases n with _ | n <;> simp only [G.laws_equalNodes, reduceCtorEq] at h
    obtain ⟨zc, zg, zk, zu, ze, zj, zt⟩ := pp (pp ((ihL ih)) ()) <| pp () <| pp (pp (@lopX (Int) _ (fun n x => G.laws_equalNodes.L1 n a_a1 a_b1 x) r (fun x => ASt.of [(0, .v true (.one (.c (.sl 5 (List.map NodeT.cells a_a1))))), (1, .v true (.one (.c (.sl 5 (List.map NodeT.cells a_b1))))), (5, .v true (.one (.c (.lit (.int .i64 x)))))] [])) ()) <| pp () <| pp (pp (And.intro @G.laws_equalNodes.L1.eq_1 <| @G.laws_equalNodes.L1.eq_2) ()) <| pp (pp (@weakX [] [] []) ()) <| ()
    exact drv
theorem F.laws_equalNode {n : Nat} : ∀ {a_a1 : NodeT} {a_b1 : NodeT} {r : Bool}, G.laws_equalNode n a_a1 a_b1 = some r → APure Go.Proofs.Tryz.prog 16 [.agg [.c (.lit (.int .i64 a_a1.Kind)), .c (.lit (.int .i64 a_a1.Num)), .c (.str a_a1.Text), .c (.sl 1 (List.map cS a_a1.Names)), .c (.sl 5 (List.map NodeT.cells a_a1.Kids))], .agg [.c (.lit (.int .i64 a_b1.Kind)), .c (.lit (.int .i64 a_b1.Num)), .c (.str a_b1.Text), .c (.sl 1 (List.map cS a_b1.Names)), .c (.sl 5 (List.map NodeT.cells a_b1.Kids))]] (.one (.c (.lit (.bool r)))) := (F.scc_laws_equalNode n).1
theorem F.laws_equalEntries {n : Nat} : ∀ {a_a1 : List EntryT} {a_b1 : List EntryT} {r : Bool}, G.laws_equalEntries n a_a1 a_b1 = some r → APure Go.Proofs.Tryz.prog 27 [.one (.c (.sl 6 (List.map EntryT.cells a_a1))), .one (.c (.sl 6 (List.map EntryT.cells a_b1)))] (.one (.c (.lit (.bool r)))) := by
  intro a_a1 a_b1 r h
  refine fun_pure K.laws_equalEntries (ofK ?_)
  unfold C.laws_equalEntries
  rcases n with _ | n <;> simp only [G.laws_equalEntries, reduceCtorEq] at h
  obtain ⟨zc, zg, zk, zu, ze, zj, zt⟩ := pp (pp @F.laws_equalNode ()) <| pp () <| pp (pp (@lopX (Int) _ (fun n x => G.laws_equalEntries.L1 n a_a1 a_b1 x) r (fun x => ASt.of [(0, .v true (.one (.c (.sl 6 (List.map EntryT.cells a_a1))))), (1, .v true (.one (.c (.sl 6 (List.map EntryT.cells a_b1))))), (5, .v true (.one (.c (.lit (.int .i64 x)))))] [])) ()) <| pp () <| pp (pp (And.intro @G.laws_equalEntries.L1.eq_1 <| @G.laws_equalEntries.L1.eq_2) ()) <| pp (pp (@weakX [] [] []) ()) <| ()
  exact drv
theorem F.laws_none {n : Nat} : ∀ {r : NodeT}, G.laws_none n = some r → APure Go.Proofs.Tryz.prog 35 [] (.agg [.c (.lit (.int .i64 r.Kind)), .c (.lit (.int .i64 r.Num)), .c (.str r.Text), .c (.sl 1 (List.map cS r.Names)), .c (.sl 5 (List.map NodeT.cells r.Kids))]) := by
  intro r h
  refine fun_pure K.laws_none (ofK ?_)
  unfold C.laws_none
  rcases n with _ | n <;> simp only [G.laws_none, reduceCtorEq] at h
  obtain ⟨zc, zg, zk, zu, ze, zj, zt⟩ := pp () <| pp () <| pp () <| pp () <| pp () <| pp () <| ()
  exact drv
theorem F.spec_copyNode_n : ∀ (n : Nat), ∀ {a_n1 : NodeT} {r : NodeT}, G.spec_copyNode n a_n1 = some r → APure Go.Proofs.Tryz.prog 88 [.agg [.c (.lit (.int .i64 a_n1.Kind)), .c (.lit (.int .i64 a_n1.Num)), .c (.str a_n1.Text), .c (.sl 1 (List.map cS a_n1.Names)), .c (.sl 5 (List.map NodeT.cells a_n1.Kids))]] (.agg [.c (.lit (.int .i64 r.Kind)), .c (.lit (.int .i64 r.Num)), .c (.str r.Text), .c (.sl 1 (List.map cS r.Names)), .c (.sl 5 (List.map NodeT.cells r.Kids))]) := by
  intro n
  induction n using Nat.strongRecOn with | _ n ih =>
  intro a_n1 r h
  refine fun_pure K.spec_copyNode (ofK ?_)
  unfold C.spec_copyNode
  rcases n with _ | n <;> simp only [G.spec_copyNode, reduceCtorEq] at h
  obtain ⟨zc, zg, zk, zu, ze, zj, zt⟩ := pp (pp ih ()) <| pp () <| pp (pp (@lopX (Int × List NodeT) _ (fun n x => G.spec_copyNode.L1 n a_n1 x.1 x.2) r (fun x => ASt.of [(1, .v true (.one (.ptr 107 0))), (2, .v true (.one (.ptr 108 0))), (3, .v true (.one (.own 109 x.2.length 5))), (4, .v true (.one (.c (.lit (.int .i64 x.1)))))] [(107, .var [.c (.lit (.int .i64 a_n1.Kind)), .c (.lit (.int .i64 a_n1.Num)), .c (.str a_n1.Text), .c (.sl 1 (List.map cS a_n1.Names)), .c (.sl 5 (List.map NodeT.cells a_n1.Kids))]), (108, .var [.c (.lit (.int .i64 0)), .c (.lit (.int .i64 0)), .c (.str []), .nsl 1, .nsl 5]), (109, .dat 5 (List.map NodeT.cells x.2))])) ()) <| pp () <| pp (pp (And.intro @G.spec_copyNode.L1.eq_1 <| @G.spec_copyNode.L1.eq_2) ()) <| pp (pp (@weakX [] [(107, 10), (108, 11), (109, 12)] []) <| pp (@weakX [] [(107, 107), (108, 108), (109, 14)] []) ()) <| ()
  exact drv
theorem F.spec_copyNode {n : Nat} : ∀ {a_n1 : NodeT} {r : NodeT}, G.spec_copyNode n a_n1 = some r → APure Go.Proofs.Tryz.prog 88 [.agg [.c (.lit (.int .i64 a_n1.Kind)), .c (.lit (.int .i64 a_n1.Num)), .c (.str a_n1.Text), .c (.sl 1 (List.map cS a_n1.Names)), .c (.sl 5 (List.map NodeT.cells a_n1.Kids))]] (.agg [.c (.lit (.int .i64 r.Kind)), .c (.lit (.int .i64 r.Num)), .c (.str r.Text), .c (.sl 1 (List.map cS r.Names)), .c (.sl 5 (List.map NodeT.cells r.Kids))]) := F.spec_copyNode_n n
theorem F.spec_copyNode_o {n : Nat} : ∀ {a_n1 : NodeT} {r : NodeT}, G.spec_copyNode n a_n1 = some r → ACalls Go.Proofs.Tryz.prog 88 [.agg [.c (.lit (.int .i64 a_n1.Kind)), .c (.lit (.int .i64 a_n1.Num)), .c (.str a_n1.Text), .c (.sl 1 (List.map cS a_n1.Names)), .c (.sl 5 (List.map NodeT.cells a_n1.Kids))]] [] (fun r1 b1 => r1 = .agg [.c (.lit (.int .i64 r.Kind)), .c (.lit (.int .i64 r.Num)), .c (.str r.Text), .own 0 r.Names.length 1, .own 1 r.Kids.length 5] ∧ b1 = [.dat 1 (List.map cS r.Names), .dat 5 (List.map NodeT.cells r.Kids)]) := by
  intro a_n1 r h
  refine fun_sound K.spec_copyNode (ofK ?_)
  unfold C.spec_copyNode
  rcases n with _ | n <;> simp only [G.spec_copyNode, reduceCtorEq] at h
  obtain ⟨zc, zg, zk, zu, ze, zj, zt⟩ := pp (pp @F.spec_copyNode ()) <| pp () <| pp (pp (@lopX (Int × List NodeT) _ (fun n x => G.spec_copyNode.L1 n a_n1 x.1 x.2) r (fun x => ASt.of [(1, .v true (.one (.ptr 107 0))), (2, .v true (.one (.ptr 108 0))), (3, .v true (.one (.own 109 x.2.length 5))), (4, .v true (.one (.c (.lit (.int .i64 x.1)))))] [(107, .var [.c (.lit (.int .i64 a_n1.Kind)), .c (.lit (.int .i64 a_n1.Num)), .c (.str a_n1.Text), .c (.sl 1 (List.map cS a_n1.Names)), .c (.sl 5 (List.map NodeT.cells a_n1.Kids))]), (108, .var [.c (.lit (.int .i64 0)), .c (.lit (.int .i64 0)), .c (.str []), .nsl 1, .nsl 5]), (109, .dat 5 (List.map NodeT.cells x.2))])) ()) <| pp () <| pp (pp (And.intro @G.spec_copyNode.L1.eq_1 <| @G.spec_copyNode.L1.eq_2) ()) <| pp (pp (@weakX [] [(107, 10), (108, 11), (109, 12)] []) <| pp (@weakX [] [(107, 107), (108, 108), (109, 14)] []) ()) <| (pp (@retX [] [(0, 16), (1, 109)] []) ())
  exact drv
theorem F.spec_reader_pick {n : Nat} : ∀ {p_r1 : ReaderT} {a_n1 : Int} {r : Int × ReaderT}, G.spec_reader_pick n p_r1 a_n1 = some r → ACalls Go.Proofs.Tryz.prog 43 [.one (.ptr 0 0), .one (.c (.lit (.int .i64 a_n1)))] [.var [.c (.sl 1 (List.map cU p_r1.b)), .c (.lit (.int .i64 p_r1.p))]] (fun r1 b1 => r1 = .one (.c (.lit (.int .i64 r.1))) ∧ b1 = [.var [.c (.sl 1 (List.map cU r.2.b)), .c (.lit (.int .i64 r.2.p))]]) := by
  intro p_r1 a_n1 r h
  refine fun_sound K.spec_reader_pick (ofK ?_)
  unfold C.spec_reader_pick
  rcases n with _ | n <;> simp only [G.spec_reader_pick, reduceCtorEq] at h
  obtain ⟨zc, zg, zk, zu, ze, zj, zt⟩ := pp () <| pp () <| pp () <| pp () <| pp () <| pp () <| (pp (@retX [] [(0, 0)] []) ())
  exact drv
theorem F.spec_reader_one {n : Nat} : ∀ {p_r1 : ReaderT} {a_list1 : List Int} {r : Int × ReaderT}, G.spec_reader_one n p_r1 a_list1 = some r → ACalls Go.Proofs.Tryz.prog 102 [.one (.ptr 0 0), .one (.c (.sl 1 (List.map cI a_list1)))] [.var [.c (.sl 1 (List.map cU p_r1.b)), .c (.lit (.int .i64 p_r1.p))]] (fun r1 b1 => r1 = .one (.c (.lit (.int .i64 r.1))) ∧ b1 = [.var [.c (.sl 1 (List.map cU r.2.b)), .c (.lit (.int .i64 r.2.p))]]) := by
  intro p_r1 a_list1 r h
  refine fun_sound K.spec_reader_one (ofK ?_)
  unfold C.spec_reader_one
  rcases n with _ | n <;> simp only [G.spec_reader_one, reduceCtorEq] at h
  obtain ⟨zc, zg, zk, zu, ze, zj, zt⟩ := pp () <| pp (pp (pp @F.spec_reader_pick (@cG [0] [])) ()) <| pp () <| pp () <| pp () <| pp () <| (pp (@retX [] [(0, 0)] []) ())
  exact drv
theorem F.spec_decimal_n : ∀ (n : Nat), ∀ {a_n1 : Int} {r : Txt}, G.spec_decimal n a_n1 = some r → APure Go.Proofs.Tryz.prog 135 [.one (.c (.lit (.int .i64 a_n1)))] (.one (.c (.str r))) := by
  intro n
  induction n using Nat.strongRecOn with | _ n ih =>
  intro a_n1 r h
  refine fun_pure K.spec_decimal (ofK ?_)
  unfold C.spec_decimal
  rcases n with _ | n <;> simp only [G.spec_decimal, reduceCtorEq] at h
  obtain ⟨zc, zg, zk, zu, ze, zj, zt⟩ := pp (pp ih ()) <| pp () <| pp () <| pp () <| pp () <| pp () <| ()
  exact drv
theorem F.spec_decimal {n : Nat} : ∀ {a_n1 : Int} {r : Txt}, G.spec_decimal n a_n1 = some r → APure Go.Proofs.Tryz.prog 135 [.one (.c (.lit (.int .i64 a_n1)))] (.one (.c (.str r))) := F.spec_decimal_n n
theorem F.spec_place {n : Nat} : ∀ {a_n1 : NodeT} {a_step1 : Txt} {r : Int}, G.spec_place n a_n1 a_step1 = some r → APure Go.Proofs.Tryz.prog 89 [.agg [.c (.lit (.int .i64 a_n1.Kind)), .c (.lit (.int .i64 a_n1.Num)), .c (.str a_n1.Text), .c (.sl 1 (List.map cS a_n1.Names)), .c (.sl 5 (List.map NodeT.cells a_n1.Kids))], .one (.c (.str a_step1))] (.one (.c (.lit (.int .i64 r)))) := by
  intro a_n1 a_step1 r h
  refine fun_pure K.spec_place (ofK ?_)
  unfold C.spec_place
  rcases n with _ | n <;> simp only [G.spec_place, reduceCtorEq] at h
  obtain ⟨zc, zg, zk, zu, ze, zj, zt⟩ := pp (pp @F.spec_decimal ()) <| pp () <| pp (pp (@lopX (Int) _ (fun n x => G.spec_place.L1 n a_n1 a_step1 x) r (fun x => ASt.of [(1, .v true (.one (.c (.str a_step1)))), (2, .v true (.one (.ptr 103 0))), (5, .v true (.one (.c (.lit (.int .i64 x)))))] [(103, .var [.c (.lit (.int .i64 a_n1.Kind)), .c (.lit (.int .i64 a_n1.Num)), .c (.str a_n1.Text), .c (.sl 1 (List.map cS a_n1.Names)), .c (.sl 5 (List.map NodeT.cells a_n1.Kids))])])) ()) <| pp () <| pp (pp (And.intro @G.spec_place.L1.eq_1 <| @G.spec_place.L1.eq_2) ()) <| pp (pp (@weakX [] [(103, 10)] []) <| pp (@weakX [] [(103, 103)] []) ()) <| ()
  exact drv
theorem F.spec_slot {n : Nat} : ∀ {a_n1 : NodeT} {a_step1 : Txt} {r : Int × Bool}, G.spec_slot n a_n1 a_step1 = some r → APure Go.Proofs.Tryz.prog 136 [.agg [.c (.lit (.int .i64 a_n1.Kind)), .c (.lit (.int .i64 a_n1.Num)), .c (.str a_n1.Text), .c (.sl 1 (List.map cS a_n1.Names)), .c (.sl 5 (List.map NodeT.cells a_n1.Kids))], .one (.c (.str a_step1))] (.tup [(false, [.c (.lit (.int .i64 r.1))]), (false, [.c (.lit (.bool r.2))])]) := by
  intro a_n1 a_step1 r h
  refine fun_pure K.spec_slot (ofK ?_)
  unfold C.spec_slot
  rcases n with _ | n <;> simp only [G.spec_slot, reduceCtorEq] at h
  obtain ⟨zc, zg, zk, zu, ze, zj, zt⟩ := pp (pp @F.spec_place <| pp @F.spec_decimal ()) <| pp () <| pp (pp (@lopX (Int) _ (fun n x => G.spec_slot.L1 n a_n1 a_step1 x) r (fun x => ASt.of [(1, .v true (.one (.c (.str a_step1)))), (2, .v true (.one (.ptr 103 0))), (7, .v true (.one (.c (.lit (.int .i64 x)))))] [(103, .var [.c (.lit (.int .i64 a_n1.Kind)), .c (.lit (.int .i64 a_n1.Num)), .c (.str a_n1.Text), .c (.sl 1 (List.map cS a_n1.Names)), .c (.sl 5 (List.map NodeT.cells a_n1.Kids))])])) <| pp (@lopX (Int) _ (fun n x => G.spec_slot.L2 n a_n1 a_step1 x) r (fun x => ASt.of [(1, .v true (.one (.c (.str a_step1)))), (2, .v true (.one (.ptr 106 0))), (7, .v true (.one (.c (.lit (.int .i64 x)))))] [(106, .var [.c (.lit (.int .i64 a_n1.Kind)), .c (.lit (.int .i64 a_n1.Num)), .c (.str a_n1.Text), .c (.sl 1 (List.map cS a_n1.Names)), .c (.sl 5 (List.map NodeT.cells a_n1.Kids))])])) ()) <| pp () <| pp (pp (And.intro @G.spec_slot.L1.eq_1 <| And.intro @G.spec_slot.L1.eq_2 <| And.intro @G.spec_slot.L2.eq_1 <| @G.spec_slot.L2.eq_2) ()) <| pp (pp (@weakX [] [(103, 10)] []) <| pp (@weakX [] [(103, 103)] []) <| pp (@weakX [] [(106, 10)] []) <| pp (@weakX [] [(106, 106)] []) ()) <| ()
  exact drv
theorem F.spec_withKid {n : Nat} : ∀ {a_n1 : NodeT} {a_k1 : Int} {a_kid1 : NodeT} {r : NodeT}, G.spec_withKid n a_n1 a_k1 a_kid1 = some r → APure Go.Proofs.Tryz.prog 91 [.agg [.c (.lit (.int .i64 a_n1.Kind)), .c (.lit (.int .i64 a_n1.Num)), .c (.str a_n1.Text), .c (.sl 1 (List.map cS a_n1.Names)), .c (.sl 5 (List.map NodeT.cells a_n1.Kids))], .one (.c (.lit (.int .i64 a_k1))), .agg [.c (.lit (.int .i64 a_kid1.Kind)), .c (.lit (.int .i64 a_kid1.Num)), .c (.str a_kid1.Text), .c (.sl 1 (List.map cS a_kid1.Names)), .c (.sl 5 (List.map NodeT.cells a_kid1.Kids))]] (.agg [.c (.lit (.int .i64 r.Kind)), .c (.lit (.int .i64 r.Num)), .c (.str r.Text), .c (.sl 1 (List.map cS r.Names)), .c (.sl 5 (List.map NodeT.cells r.Kids))]) := by
  intro a_n1 a_k1 a_kid1 r h
  refine fun_pure K.spec_withKid (ofK ?_)
  unfold C.spec_withKid
  rcases n with _ | n <;> simp only [G.spec_withKid, reduceCtorEq] at h
  obtain ⟨zc, zg, zk, zu, ze, zj, zt⟩ := pp () <| pp (pp (pp @F.spec_copyNode_o (@cG [] [101, 102])) <| pp (pp @F.spec_copyNode_o (@cG [] [103, 104])) ()) <| pp () <| pp () <| pp () <| pp () <| ()
  exact drv
theorem F.spec_withKid_o {n : Nat} : ∀ {a_n1 : NodeT} {a_k1 : Int} {a_kid1 : NodeT} {r : NodeT}, G.spec_withKid n a_n1 a_k1 a_kid1 = some r → ACalls Go.Proofs.Tryz.prog 91 [.agg [.c (.lit (.int .i64 a_n1.Kind)), .c (.lit (.int .i64 a_n1.Num)), .c (.str a_n1.Text), .c (.sl 1 (List.map cS a_n1.Names)), .c (.sl 5 (List.map NodeT.cells a_n1.Kids))], .one (.c (.lit (.int .i64 a_k1))), .agg [.c (.lit (.int .i64 a_kid1.Kind)), .c (.lit (.int .i64 a_kid1.Num)), .c (.str a_kid1.Text), .c (.sl 1 (List.map cS a_kid1.Names)), .c (.sl 5 (List.map NodeT.cells a_kid1.Kids))]] [] (fun r1 b1 => r1 = .agg [.c (.lit (.int .i64 r.Kind)), .c (.lit (.int .i64 r.Num)), .c (.str r.Text), .own 0 r.Names.length 1, .own 1 r.Kids.length 5] ∧ b1 = [.dat 1 (List.map cS r.Names), .dat 5 (List.map NodeT.cells r.Kids)]) := by
  intro a_n1 a_k1 a_kid1 r h
  refine fun_sound K.spec_withKid (ofK ?_)
  unfold C.spec_withKid
  rcases n with _ | n <;> simp only [G.spec_withKid, reduceCtorEq] at h
  obtain ⟨zc, zg, zk, zu, ze, zj, zt⟩ := pp () <| pp (pp (pp @F.spec_copyNode_o (@cG [] [101, 102])) <| pp (pp @F.spec_copyNode_o (@cG [] [103, 104])) ()) <| pp () <| pp () <| pp () <| pp () <| (pp (@retX [] [(0, 101), (1, 102)] []) ())
  exact drv
theorem F.spec_addHere {n : Nat} : ∀ {a_n1 : NodeT} {a_step1 : Txt} {a_value1 : NodeT} {r : NodeT × Bool}, G.spec_addHere n a_n1 a_step1 a_value1 = some r → APure Go.Proofs.Tryz.prog 92 [.agg [.c (.lit (.int .i64 a_n1.Kind)), .c (.lit (.int .i64 a_n1.Num)), .c (.str a_n1.Text), .c (.sl 1 (List.map cS a_n1.Names)), .c (.sl 5 (List.map NodeT.cells a_n1.Kids))], .one (.c (.str a_step1)), .agg [.c (.lit (.int .i64 a_value1.Kind)), .c (.lit (.int .i64 a_value1.Num)), .c (.str a_value1.Text), .c (.sl 1 (List.map cS a_value1.Names)), .c (.sl 5 (List.map NodeT.cells a_value1.Kids))]] (.tup [(true, [.c (.lit (.int .i64 r.1.Kind)), .c (.lit (.int .i64 r.1.Num)), .c (.str r.1.Text), .c (.sl 1 (List.map cS r.1.Names)), .c (.sl 5 (List.map NodeT.cells r.1.Kids))]), (false, [.c (.lit (.bool r.2))])]) := by
  intro a_n1 a_step1 a_value1 r h
  refine fun_pure K.spec_addHere (ofK ?_)
  unfold C.spec_addHere
  rcases n with _ | n <;> simp only [G.spec_addHere, reduceCtorEq] at h
  obtain ⟨zc, zg, zk, zu, ze, zj, zt⟩ := pp (pp @F.spec_slot <| pp @F.spec_withKid <| pp @F.spec_copyNode ()) <| pp () <| pp () <| pp () <| pp () <| pp () <| ()
  exact drv
theorem F.spec_addHere_o {n : Nat} : ∀ {a_n1 : NodeT} {a_step1 : Txt} {a_value1 : NodeT} {r : NodeT × Bool}, G.spec_addHere n a_n1 a_step1 a_value1 = some r → ACalls Go.Proofs.Tryz.prog 92 [.agg [.c (.lit (.int .i64 a_n1.Kind)), .c (.lit (.int .i64 a_n1.Num)), .c (.str a_n1.Text), .c (.sl 1 (List.map cS a_n1.Names)), .c (.sl 5 (List.map NodeT.cells a_n1.Kids))], .one (.c (.str a_step1)), .agg [.c (.lit (.int .i64 a_value1.Kind)), .c (.lit (.int .i64 a_value1.Num)), .c (.str a_value1.Text), .c (.sl 1 (List.map cS a_value1.Names)), .c (.sl 5 (List.map NodeT.cells a_value1.Kids))]] [] (fun r1 b1 => r1 = .tup [(true, [.c (.lit (.int .i64 r.1.Kind)), .c (.lit (.int .i64 r.1.Num)), .c (.str r.1.Text), .own 0 r.1.Names.length 1, .own 1 r.1.Kids.length 5]), (false, [.c (.lit (.bool r.2))])] ∧ b1 = [.dat 1 (List.map cS r.1.Names), .dat 5 (List.map NodeT.cells r.1.Kids)]) := by
  intro a_n1 a_step1 a_value1 r h
  refine fun_sound K.spec_addHere (ofK ?_)
  unfold C.spec_addHere
  rcases n with _ | n <;> simp only [G.spec_addHere, reduceCtorEq] at h
  obtain ⟨zc, zg, zk, zu, ze, zj, zt⟩ := pp (pp @F.spec_slot <| pp @F.spec_copyNode ()) <| pp (pp (pp @F.spec_withKid_o (@cG [] [101, 102])) ()) <| pp () <| pp () <| pp () <| pp () <| (pp (@retX [] [] [0, 1]) <| pp (@retX [] [(0, 101), (1, 102)] []) <| pp (@retX [] [(0, 19), (1, 18)] []) <| pp (@retX [] [(0, 24), (1, 18)] []) ())
  exact drv
theorem F.spec_reader_of {n : Nat} : ∀ {p_r1 : ReaderT} {a_list1 : List Txt} {r : Txt × ReaderT}, G.spec_reader_of n p_r1 a_list1 = some r → ACalls Go.Proofs.Tryz.prog 125 [.one (.ptr 0 0), .one (.c (.sl 1 (List.map cS a_list1)))] [.var [.c (.sl 1 (List.map cU p_r1.b)), .c (.lit (.int .i64 p_r1.p))]] (fun r1 b1 => r1 = .one (.c (.str r.1)) ∧ b1 = [.var [.c (.sl 1 (List.map cU r.2.b)), .c (.lit (.int .i64 r.2.p))]]) := by
  intro p_r1 a_list1 r h
  refine fun_sound K.spec_reader_of (ofK ?_)
  unfold C.spec_reader_of
  rcases n with _ | n <;> simp only [G.spec_reader_of, reduceCtorEq] at h
  obtain ⟨zc, zg, zk, zu, ze, zj, zt⟩ := pp () <| pp (pp (pp @F.spec_reader_pick (@cG [0] [])) ()) <| pp () <| pp () <| pp () <| pp () <| (pp (@retX [] [(0, 0)] []) ())
  exact drv
theorem F.spec_someText {n : Nat} : ∀ {p_r1 : ReaderT} {r : Txt × ReaderT}, G.spec_someText n p_r1 = some r → ACalls Go.Proofs.Tryz.prog 175 [.one (.ptr 0 0)] [.var [.c (.sl 1 (List.map cU p_r1.b)), .c (.lit (.int .i64 p_r1.p))]] (fun r1 b1 => r1 = .one (.c (.str r.1)) ∧ b1 = [.var [.c (.sl 1 (List.map cU r.2.b)), .c (.lit (.int .i64 r.2.p))]]) := by
  intro p_r1 r h
  refine fun_sound K.spec_someText (ofK ?_)
  unfold C.spec_someText
  rcases n with _ | n <;> simp only [G.spec_someText, reduceCtorEq] at h
  obtain ⟨zc, zg, zk, zu, ze, zj, zt⟩ := pp () <| pp (pp (pp @F.spec_reader_of (@cH [0] [])) ()) <| pp () <| pp () <| pp () <| pp () <| (pp (@retX [] [(0, 0)] []) ())
  exact drv
theorem F.spec_someName {n : Nat} : ∀ {p_r1 : ReaderT} {r : Txt × ReaderT}, G.spec_someName n p_r1 = some r → ACalls Go.Proofs.Tryz.prog 200 [.one (.ptr 0 0)] [.var [.c (.sl 1 (List.map cU p_r1.b)), .c (.lit (.int .i64 p_r1.p))]] (fun r1 b1 => r1 = .one (.c (.str r.1)) ∧ b1 = [.var [.c (.sl 1 (List.map cU r.2.b)), .c (.lit (.int .i64 r.2.p))]]) := by
  intro p_r1 r h
  refine fun_sound K.spec_someName (ofK ?_)
  unfold C.spec_someName
  rcases n with _ | n <;> simp only [G.spec_someName, reduceCtorEq] at h
  obtain ⟨zc, zg, zk, zu, ze, zj, zt⟩ := pp () <| pp (pp (pp @F.spec_reader_of (@cH [0] [])) ()) <| pp () <| pp () <| pp () <| pp () <| (pp (@retX [] [(0, 0)] []) ())
  exact drv
theorem F.scc_spec_randomMap : ∀ (n : Nat), (∀ {p_r1 : ReaderT} {a_depth1 : Int} {r : NodeT × ReaderT}, G.spec_randomMap n p_r1 a_depth1 = some r → ACalls Go.Proofs.Tryz.prog 174 [.one (.ptr 0 0), .one (.c (.lit (.int .i64 a_depth1)))] [.var [.c (.sl 1 (List.map cU p_r1.b)), .c (.lit (.int .i64 p_r1.p))]] (fun r1 b1 => r1 = .agg [.c (.lit (.int .i64 r.1.Kind)), .c (.lit (.int .i64 r.1.Num)), .c (.str r.1.Text), .c (.sl 1 (List.map cS r.1.Names)), .c (.sl 5 (List.map NodeT.cells r.1.Kids))] ∧ b1 = [.var [.c (.sl 1 (List.map cU r.2.b)), .c (.lit (.int .i64 r.2.p))]])) ∧ (∀ {p_r1 : ReaderT} {a_depth1 : Int} {r : NodeT × ReaderT}, G.spec_randomNode n p_r1 a_depth1 = some r → ACalls Go.Proofs.Tryz.prog 126 [.one (.ptr 0 0), .one (.c (.lit (.int .i64 a_depth1)))] [.var [.c (.sl 1 (List.map cU p_r1.b)), .c (.lit (.int .i64 p_r1.p))]] (fun r1 b1 => r1 = .agg [.c (.lit (.int .i64 r.1.Kind)), .c (.lit (.int .i64 r.1.Num)), .c (.str r.1.Text), .c (.sl 1 (List.map cS r.1.Names)), .c (.sl 5 (List.map NodeT.cells r.1.Kids))] ∧ b1 = [.var [.c (.sl 1 (List.map cU r.2.b)), .c (.lit (.int .i64 r.2.p))]])) := by
  intro n
  induction n using Nat.strongRecOn with | _ n ih =>
  refine ⟨?_, ?_⟩
  · intro p_r1 a_depth1 r h
    refine fun_sound K.spec_randomMap (ofK ?_)
    unfold C.spec_randomMap
    rcases n with _ | n <;> simp only [G.spec_randomMap, reduceCtorEq] at h
    obtain ⟨zc, zg, zk, zu, ze, zj, zt⟩ := pp (pp @F.spec_place <| pp @F.spec_addHere ()) <| pp (pp (pp (ihR ih) (@cG [0] [])) <| pp (pp @F.spec_reader_one (@cH [0] [])) <| pp (pp @F.spec_someName (@cG [0] [])) ()) <| pp (pp (@lopX (Int × List Int × Int × Int × Int × Txt × List Txt × List NodeT) _ (fun n x => G.spec_randomMap.L1 n a_depth1 x.1 x.2.1 x.2.2.1 x.2.2.2.1 x.2.2.2.2.1 x.2.2.2.2.2.1 x.2.2.2.2.2.2.1 x.2.2.2.2.2.2.2) r (fun x => ASt.of [(0, .v true (.one (.ptr 0 0))), (1, .v true (.one (.c (.lit (.int .i64 a_depth1))))), (4, .v true (.one (.ptr 107 0))), (5, .v true (.one (.ptr 108 0))), (6, .v true (.one (.c (.lit (.int .i64 x.1)))))] [(0, .var [.c (.sl 1 (List.map cU x.2.1)), .c (.lit (.int .i64 x.2.2.1))]), (107, .var [.c (.lit (.int .i64 0)), .c (.lit (.int .i64 0)), .c (.str []), .nsl 1, .nsl 5]), (108, .var [.c (.lit (.int .i64 x.2.2.2.1)), .c (.lit (.int .i64 x.2.2.2.2.1)), .c (.str x.2.2.2.2.2.1), .c (.sl 1 (List.map cS x.2.2.2.2.2.2.1)), .c (.sl 5 (List.map NodeT.cells x.2.2.2.2.2.2.2))])])) ()) <| pp () <| pp (pp (And.intro @G.spec_randomMap.L1.eq_1 <| @G.spec_randomMap.L1.eq_2) ()) <| pp (pp (@weakX [11, 12] [(0, 0), (107, 10), (108, 13)] []) <| pp (@weakX [] [(0, 0), (107, 107), (108, 108)] []) ()) <| (pp (@retX [] [(0, 0)] []) ())
    exact drv
  · intro p_r1 a_depth1 r h
    refine fun_sound K.spec_randomNode (ofK ?_)
    unfold C.spec_randomNode
    rcases n with _ | n <;> simp only [G.spec_randomNode, reduceCtorEq] at h
    obtain ⟨zc, zg, zk, zu, ze, zj, zt⟩ := pp () <| pp (pp (pp (ihR ih) (@cG [0] [])) <| pp (pp (ihL ih) (@cG [0] [])) <| pp (pp @F.spec_reader_pick (@cG [0] [])) <| pp (pp @F.spec_reader_one (@cH [0] [])) <| pp (pp @F.spec_someText (@cG [0] [])) ()) <| pp (pp (@lopX (Int × Int × List Int × Int × List NodeT) _ (fun n x => G.spec_randomNode.L2 n a_depth1 x.1 x.2.1 x.2.2.1 x.2.2.2.1 x.2.2.2.2) r (fun x => ASt.of [(0, .v true (.one (.ptr 0 0))), (1, .v true (.one (.c (.lit (.int .i64 a_depth1))))), (4, .v true (.one (.ptr 106 0))), (5, .v true (.one (.c (.lit (.int .i64 x.1))))), (6, .v true (.one (.own 107 x.2.2.2.2.length 5))), (7, .v true (.one (.c (.lit (.int .i64 x.2.1)))))] [(0, .var [.c (.sl 1 (List.map cU x.2.2.1)), .c (.lit (.int .i64 x.2.2.2.1))]), (106, .var [.c (.lit (.int .i64 0)), .c (.lit (.int .i64 0)), .c (.str []), .nsl 1, .nsl 5]), (107, .dat 5 (List.map NodeT.cells x.2.2.2.2))])) ()) <| pp (pp (@cutX (Int × List Int × Int) _ (fun n x => G.spec_randomNode.K1 n a_depth1 x.1 x.2.1 x.2.2) r (fun x => ASt.of [(0, .v true (.one (.ptr 0 0))), (1, .v true (.one (.c (.lit (.int .i64 a_depth1))))), (4, .v true (.one (.ptr 101 0))), (5, .v true (.one (.c (.lit (.int .i64 x.1)))))] [(0, .var [.c (.sl 1 (List.map cU x.2.1)), .c (.lit (.int .i64 x.2.2))]), (101, .var [.c (.lit (.int .i64 0)), .c (.lit (.int .i64 0)), .c (.str []), .nsl 1, .nsl 5])])) ()) <| pp (pp (And.intro @G.spec_randomNode.K1.eq_1 <| And.intro @G.spec_randomNode.K1.eq_2 <| And.intro @G.spec_randomNode.L2.eq_1 <| @G.spec_randomNode.L2.eq_2) ()) <| pp (pp (@weakX [] [(0, 0), (101, 10)] []) <| pp (@weakX [] [(0, 0), (106, 101), (107, 12)] []) <| pp (@weakX [] [(0, 0), (106, 106), (107, 14)] []) ()) <| (pp (@retX [] [(0, 0)] []) <| pp (@retX [15, 107] [(0, 0)] []) ())
    exact drv
theorem F.spec_randomMap {n : Nat} : ∀ {p_r1 : ReaderT} {a_depth1 : Int} {r : NodeT × ReaderT}, G.spec_randomMap n p_r1 a_depth1 = some r → ACalls Go.Proofs.Tryz.prog 174 [.one (.ptr 0 0), .one (.c (.lit (.int .i64 a_depth1)))] [.var [.c (.sl 1 (List.map cU p_r1.b)), .c (.lit (.int .i64 p_r1.p))]] (fun r1 b1 => r1 = .agg [.c (.lit (.int .i64 r.1.Kind)), .c (.lit (.int .i64 r.1.Num)), .c (.str r.1.Text), .c (.sl 1 (List.map cS r.1.Names)), .c (.sl 5 (List.map NodeT.cells r.1.Kids))] ∧ b1 = [.var [.c (.sl 1 (List.map cU r.2.b)), .c (.lit (.int .i64 r.2.p))]]) := (F.scc_spec_randomMap n).1
theorem F.spec_randomNode {n : Nat} : ∀ {p_r1 : ReaderT} {a_depth1 : Int} {r : NodeT × ReaderT}, G.spec_randomNode n p_r1 a_depth1 = some r → ACalls Go.Proofs.Tryz.prog 126 [.one (.ptr 0 0), .one (.c (.lit (.int .i64 a_depth1)))] [.var [.c (.sl 1 (List.map cU p_r1.b)), .c (.lit (.int .i64 p_r1.p))]] (fun r1 b1 => r1 = .agg [.c (.lit (.int .i64 r.1.Kind)), .c (.lit (.int .i64 r.1.Num)), .c (.str r.1.Text), .c (.sl 1 (List.map cS r.1.Names)), .c (.sl 5 (List.map NodeT.cells r.1.Kids))] ∧ b1 = [.var [.c (.sl 1 (List.map cU r.2.b)), .c (.lit (.int .i64 r.2.p))]]) := (F.scc_spec_randomMap n).2
theorem F.spec_randomMap_o {n : Nat} : ∀ {p_r1 : ReaderT} {a_depth1 : Int} {r : NodeT × ReaderT}, G.spec_randomMap n p_r1 a_depth1 = some r → ACalls Go.Proofs.Tryz.prog 174 [.one (.ptr 0 0), .one (.c (.lit (.int .i64 a_depth1)))] [.var [.c (.sl 1 (List.map cU p_r1.b)), .c (.lit (.int .i64 p_r1.p))]] (fun r1 b1 => r1 = .agg [.c (.lit (.int .i64 r.1.Kind)), .c (.lit (.int .i64 r.1.Num)), .c (.str r.1.Text), .own 1 r.1.Names.length 1, .own 2 r.1.Kids.length 5] ∧ b1 = [.var [.c (.sl 1 (List.map cU r.2.b)), .c (.lit (.int .i64 r.2.p))], .dat 1 (List.map cS r.1.Names), .dat 5 (List.map NodeT.cells r.1.Kids)]) := by
  intro p_r1 a_depth1 r h
  refine fun_sound K.spec_randomMap (ofK ?_)
  unfold C.spec_randomMap
  rcases n with _ | n <;> simp only [G.spec_randomMap, reduceCtorEq] at h
  obtain ⟨zc, zg, zk, zu, ze, zj, zt⟩ := pp (pp @F.spec_place ()) <| pp (pp (pp @F.spec_reader_one (@cH [0] [])) <| pp (pp @F.spec_someName (@cG [0] [])) <| pp (pp @F.spec_randomNode (@cG [0] [])) <| pp (pp @F.spec_addHere_o (@cH [] [117, 118])) ()) <| pp (pp (@lopX (Int × List Int × Int × Int × Int × Txt × List Txt × List NodeT) _ (fun n x => G.spec_randomMap.L1 n a_depth1 x.1 x.2.1 x.2.2.1 x.2.2.2.1 x.2.2.2.2.1 x.2.2.2.2.2.1 x.2.2.2.2.2.2.1 x.2.2.2.2.2.2.2) r (fun x => ASt.of [(0, .v true (.one (.ptr 0 0))), (1, .v true (.one (.c (.lit (.int .i64 a_depth1))))), (4, .v true (.one (.ptr 113 0))), (5, .v true (.one (.ptr 114 0))), (6, .v true (.one (.c (.lit (.int .i64 x.1)))))] [(0, .var [.c (.sl 1 (List.map cU x.2.1)), .c (.lit (.int .i64 x.2.2.1))]), (113, .var [.c (.lit (.int .i64 0)), .c (.lit (.int .i64 0)), .c (.str []), .nsl 1, .nsl 5]), (114, .var [.c (.lit (.int .i64 x.2.2.2.1)), .c (.lit (.int .i64 x.2.2.2.2.1)), .c (.str x.2.2.2.2.2.1), .own 115 x.2.2.2.2.2.2.1.length 1, .own 116 x.2.2.2.2.2.2.2.length 5]), (115, .dat 1 (List.map cS x.2.2.2.2.2.2.1)), (116, .dat 5 (List.map NodeT.cells x.2.2.2.2.2.2.2))])) ()) <| pp () <| pp (pp (And.intro @G.spec_randomMap.L1.eq_1 <| @G.spec_randomMap.L1.eq_2) ()) <| pp (pp (@weakX [] [(0, 0), (113, 10), (114, 13), (115, 11), (116, 12)] []) <| pp (@weakX [] [(0, 0), (113, 113), (114, 114), (115, 117), (116, 118)] []) <| pp (@weakX [] [(0, 0), (113, 113), (114, 114), (115, 115), (116, 116)] []) ()) <| (pp (@retX [] [(0, 0), (1, 115), (2, 116)] []) ())
  exact drv
theorem F.spec_randomNode_o {n : Nat} : ∀ {p_r1 : ReaderT} {a_depth1 : Int} {r : NodeT × ReaderT}, G.spec_randomNode n p_r1 a_depth1 = some r → ACalls Go.Proofs.Tryz.prog 126 [.one (.ptr 0 0), .one (.c (.lit (.int .i64 a_depth1)))] [.var [.c (.sl 1 (List.map cU p_r1.b)), .c (.lit (.int .i64 p_r1.p))]] (fun r1 b1 => r1 = .agg [.c (.lit (.int .i64 r.1.Kind)), .c (.lit (.int .i64 r.1.Num)), .c (.str r.1.Text), .own 1 r.1.Names.length 1, .own 2 r.1.Kids.length 5] ∧ b1 = [.var [.c (.sl 1 (List.map cU r.2.b)), .c (.lit (.int .i64 r.2.p))], .dat 1 (List.map cS r.1.Names), .dat 5 (List.map NodeT.cells r.1.Kids)]) := by
  intro p_r1 a_depth1 r h
  refine fun_sound K.spec_randomNode (ofK ?_)
  unfold C.spec_randomNode
  rcases n with _ | n <;> simp only [G.spec_randomNode, reduceCtorEq] at h
  obtain ⟨zc, zg, zk, zu, ze, zj, zt⟩ := pp () <| pp (pp (pp @F.spec_reader_pick (@cG [0] [])) <| pp (pp @F.spec_reader_one (@cH [0] [])) <| pp (pp @F.spec_someText (@cG [0] [])) <| pp (pp @F.spec_randomNode (@cG [0] [])) <| pp (pp @F.spec_randomMap_o (@cG [0] [108, 109])) ()) <| pp (pp (@lopX (Int × Int × List Int × Int × List NodeT) _ (fun n x => G.spec_randomNode.L2 n a_depth1 x.1 x.2.1 x.2.2.1 x.2.2.2.1 x.2.2.2.2) r (fun x => ASt.of [(0, .v true (.one (.ptr 0 0))), (1, .v true (.one (.c (.lit (.int .i64 a_depth1))))), (4, .v true (.one (.ptr 106 0))), (5, .v true (.one (.c (.lit (.int .i64 x.1))))), (6, .v true (.one (.own 107 x.2.2.2.2.length 5))), (7, .v true (.one (.c (.lit (.int .i64 x.2.1)))))] [(0, .var [.c (.sl 1 (List.map cU x.2.2.1)), .c (.lit (.int .i64 x.2.2.2.1))]), (106, .var [.c (.lit (.int .i64 0)), .c (.lit (.int .i64 0)), .c (.str []), .nsl 1, .nsl 5]), (107, .dat 5 (List.map NodeT.cells x.2.2.2.2))])) ()) <| pp (pp (@cutX (Int × List Int × Int) _ (fun n x => G.spec_randomNode.K1 n a_depth1 x.1 x.2.1 x.2.2) r (fun x => ASt.of [(0, .v true (.one (.ptr 0 0))), (1, .v true (.one (.c (.lit (.int .i64 a_depth1))))), (4, .v true (.one (.ptr 101 0))), (5, .v true (.one (.c (.lit (.int .i64 x.1)))))] [(0, .var [.c (.sl 1 (List.map cU x.2.1)), .c (.lit (.int .i64 x.2.2))]), (101, .var [.c (.lit (.int .i64 0)), .c (.lit (.int .i64 0)), .c (.str []), .nsl 1, .nsl 5])])) ()) <| pp (pp (And.intro @G.spec_randomNode.K1.eq_1 <| And.intro @G.spec_randomNode.K1.eq_2 <| And.intro @G.spec_randomNode.L2.eq_1 <| @G.spec_randomNode.L2.eq_2) ()) <| pp (pp (@weakX [] [(0, 0), (101, 10)] []) <| pp (@weakX [] [(0, 0), (106, 101), (107, 12)] []) <| pp (@weakX [] [(0, 0), (106, 106), (107, 14)] []) ()) <| (pp (@retX [] [(0, 0)] [1, 2]) <| pp (@retX [] [(0, 0), (1, 15), (2, 107)] []) <| pp (@retX [] [(0, 0), (1, 108), (2, 109)] []) ())
  exact drv
theorem F.spec_count_n : ∀ (n : Nat), ∀ {a_n1 : NodeT} {r : Int}, G.spec_count n a_n1 = some r → APure Go.Proofs.Tryz.prog 83 [.agg [.c (.lit (.int .i64 a_n1.Kind)), .c (.lit (.int .i64 a_n1.Num)), .c (.str a_n1.Text), .c (.sl 1 (List.map cS a_n1.Names)), .c (.sl 5 (List.map NodeT.cells a_n1.Kids))]] (.one (.c (.lit (.int .i64 r)))) := by
  intro n
  induction n using Nat.strongRecOn with | _ n ih =>
  intro a_n1 r h
  refine fun_pure K.spec_count (ofK ?_)
  unfold C.spec_count
  rcases n with _ | n <;> simp only [G.spec_count, reduceCtorEq] at h
  obtain ⟨zc, zg, zk, zu, ze, zj, zt⟩ := pp (pp ih ()) <| pp () <| pp (pp (@lopX (Int × Int) _ (fun n x => G.spec_count.L1 n a_n1 x.1 x.2) r (fun x => ASt.of [(1, .v true (.one (.ptr 103 0))), (3, .v true (.one (.c (.lit (.int .i64 x.1))))), (4, .v true (.one (.c (.lit (.int .i64 x.2)))))] [(103, .var [.c (.lit (.int .i64 a_n1.Kind)), .c (.lit (.int .i64 a_n1.Num)), .c (.str a_n1.Text), .c (.sl 1 (List.map cS a_n1.Names)), .c (.sl 5 (List.map NodeT.cells a_n1.Kids))])])) ()) <| pp () <| pp (pp (And.intro @G.spec_count.L1.eq_1 <| @G.spec_count.L1.eq_2) ()) <| pp (pp (@weakX [] [(103, 10)] []) <| pp (@weakX [] [(103, 103)] []) ()) <| ()
  exact drv
theorem F.spec_count {n : Nat} : ∀ {a_n1 : NodeT} {r : Int}, G.spec_count n a_n1 = some r → APure Go.Proofs.Tryz.prog 83 [.agg [.c (.lit (.int .i64 a_n1.Kind)), .c (.lit (.int .i64 a_n1.Num)), .c (.str a_n1.Text), .c (.sl 1 (List.map cS a_n1.Names)), .c (.sl 5 (List.map NodeT.cells a_n1.Kids))]] (.one (.c (.lit (.int .i64 r)))) := F.spec_count_n n
theorem F.spec_inRange {n : Nat} : ∀ {a_n1 : Int} {a_low1 : Int} {a_high1 : Int} {r : Bool}, G.spec_inRange n a_n1 a_low1 a_high1 = some r → APure Go.Proofs.Tryz.prog 113 [.one (.c (.lit (.int .i64 a_n1))), .one (.c (.lit (.int .i64 a_low1))), .one (.c (.lit (.int .i64 a_high1)))] (.one (.c (.lit (.bool r)))) := by
  intro a_n1 a_low1 a_high1 r h
  refine fun_pure K.spec_inRange (ofK ?_)
  unfold C.spec_inRange
  rcases n with _ | n <;> simp only [G.spec_inRange, reduceCtorEq] at h
  obtain ⟨zc, zg, zk, zu, ze, zj, zt⟩ := pp () <| pp () <| pp () <| pp () <| pp () <| pp () <| ()
  exact drv
theorem F.spec_validText {n : Nat} : ∀ {a_s1 : Txt} {r : Bool}, G.spec_validText n a_s1 = some r → APure Go.Proofs.Tryz.prog 114 [.one (.c (.str a_s1))] (.one (.c (.lit (.bool r)))) := by
  intro a_s1 r h
  refine fun_pure K.spec_validText (ofK ?_)
  unfold C.spec_validText
  rcases n with _ | n <;> simp only [G.spec_validText, reduceCtorEq] at h
  obtain ⟨zc, zg, zk, zu, ze, zj, zt⟩ := pp (pp @F.spec_inRange ()) <| pp () <| pp (pp (@lopX (Int) _ (fun n x => G.spec_validText.L1 n a_s1 x) r (fun x => ASt.of [(0, .v true (.one (.c (.str a_s1)))), (3, .v true (.one (.c (.lit (.int .i64 x)))))] [])) ()) <| pp () <| pp (pp (And.intro @G.spec_validText.L1.eq_1 <| @G.spec_validText.L1.eq_2) ()) <| pp (pp (@weakX [] [] []) ()) <| ()
  exact drv
theorem F.spec_names {n : Nat} : ∀ {a_list1 : List Txt} {r : Bool}, G.spec_names n a_list1 = some r → APure Go.Proofs.Tryz.prog 133 [.one (.c (.sl 1 (List.map cS a_list1)))] (.one (.c (.lit (.bool r)))) := by
  intro a_list1 r h
  refine fun_pure K.spec_names (ofK ?_)
  unfold C.spec_names
  rcases n with _ | n <;> simp only [G.spec_names, reduceCtorEq] at h
  obtain ⟨zc, zg, zk, zu, ze, zj, zt⟩ := pp (pp @F.spec_validText ()) <| pp () <| pp (pp (@lopX (Int) _ (fun n x => G.spec_names.L1 n a_list1 x) r (fun x => ASt.of [(0, .v true (.one (.c (.sl 1 (List.map cS a_list1))))), (3, .v true (.one (.c (.lit (.int .i64 x)))))] [])) ()) <| pp () <| pp (pp (And.intro @G.spec_names.L1.eq_1 <| @G.spec_names.L1.eq_2) ()) <| pp (pp (@weakX [] [] []) ()) <| ()
  exact drv
theorem F.scc_spec_kids : ∀ (n : Nat), (∀ {a_n1 : NodeT} {a_depth1 : Int} {r : Bool}, G.spec_kids n a_n1 a_depth1 = some r → APure Go.Proofs.Tryz.prog 132 [.agg [.c (.lit (.int .i64 a_n1.Kind)), .c (.lit (.int .i64 a_n1.Num)), .c (.str a_n1.Text), .c (.sl 1 (List.map cS a_n1.Names)), .c (.sl 5 (List.map NodeT.cells a_n1.Kids))], .one (.c (.lit (.int .i64 a_depth1)))] (.one (.c (.lit (.bool r))))) ∧ (∀ {a_n1 : NodeT} {a_depth1 : Int} {r : Bool}, G.spec_shape n a_n1 a_depth1 = some r → APure Go.Proofs.Tryz.prog 82 [.agg [.c (.lit (.int .i64 a_n1.Kind)), .c (.lit (.int .i64 a_n1.Num)), .c (.str a_n1.Text), .c (.sl 1 (List.map cS a_n1.Names)), .c (.sl 5 (List.map NodeT.cells a_n1.Kids))], .one (.c (.lit (.int .i64 a_depth1)))] (.one (.c (.lit (.bool r))))) := by
  intro n
  induction n using Nat.strongRecOn with | _ n ih =>
  refine ⟨?_, ?_⟩
  · intro a_n1 a_depth1 r h
    refine fun_pure K.spec_kids (ofK ?_)
    unfold C.spec_kids
    rcases n with _ | n <;> simp only [G.spec_kids, reduceCtorEq] at h
    obtain ⟨zc, zg, zk, zu, ze, zj, zt⟩ := pp (pp ((ihR ih)) ()) <| pp () <| pp (pp (@lopX (Int) _ (fun n x => G.spec_kids.L1 n a_n1 a_depth1 x) r (fun x => ASt.of [(1, .v true (.one (.c (.lit (.int .i64 a_depth1))))), (2, .v true (.one (.ptr 103 0))), (5, .v true (.one (.c (.lit (.int .i64 x)))))] [(103, .var [.c (.lit (.int .i64 a_n1.Kind)), .c (.lit (.int .i64 a_n1.Num)), .c (.str a_n1.Text), .c (.sl 1 (List.map cS a_n1.Names)), .c (.sl 5 (List.map NodeT.cells a_n1.Kids))])])) ()) <| pp () <| pp (pp (And.intro @G.spec_kids.L1.eq_1 <| @G.spec_kids.L1.eq_2) ()) <| pp (pp (@weakX [] [(103, 10)] []) <| pp (@weakX [] [(103, 103)] []) ()) <| ()
    exact drv
  · intro a_n1 a_depth1 r h
    refine fun_pure K.spec_shape (ofK ?_)
    unfold C.spec_shape
    rcases n with _ | n <;> simp only [G.spec_shape, reduceCtorEq] at h
    obtain ⟨zc, zg, zk, zu, ze, zj, zt⟩ := pp (pp ((ihL ih)) <| pp @F.spec_inRange <| pp @F.spec_validText <| pp @F.spec_names ()) <| pp () <| pp () <| pp (pp (@cutX (Unit) _ (fun n x => G.spec_shape.K1 n a_n1 a_depth1) r (fun x => ASt.of [(1, .v true (.one (.c (.lit (.int .i64 a_depth1))))), (2, .v true (.one (.ptr 101 0))), (54, .v true (.one (.c (.lit (.bool false)))))] [(101, .var [.c (.lit (.int .i64 a_n1.Kind)), .c (.lit (.int .i64 a_n1.Num)), .c (.str a_n1.Text), .c (.sl 1 (List.map cS a_n1.Names)), .c (.sl 5 (List.map NodeT.cells a_n1.Kids))])])) ()) <| pp (pp (And.intro @G.spec_shape.K1.eq_1 <| @G.spec_shape.K1.eq_2) ()) <| pp (pp (@weakX [] [(101, 10)] []) ()) <| ()
    exact drv
theorem F.spec_shape {n : Nat} : ∀ {a_n1 : NodeT} {a_depth1 : Int} {r : Bool}, G.spec_shape n a_n1 a_depth1 = some r → APure Go.Proofs.Tryz.prog 82 [.agg [.c (.lit (.int .i64 a_n1.Kind)), .c (.lit (.int .i64 a_n1.Num)), .c (.str a_n1.Text), .c (.sl 1 (List.map cS a_n1.Names)), .c (.sl 5 (List.map NodeT.cells a_n1.Kids))], .one (.c (.lit (.int .i64 a_depth1)))] (.one (.c (.lit (.bool r)))) := (F.scc_spec_kids n).2
theorem F.spec_validNode {n : Nat} : ∀ {a_n1 : NodeT} {r : Bool}, G.spec_validNode n a_n1 = some r → APure Go.Proofs.Tryz.prog 40 [.agg [.c (.lit (.int .i64 a_n1.Kind)), .c (.lit (.int .i64 a_n1.Num)), .c (.str a_n1.Text), .c (.sl 1 (List.map cS a_n1.Names)), .c (.sl 5 (List.map NodeT.cells a_n1.Kids))]] (.one (.c (.lit (.bool r)))) := by
  intro a_n1 r h
  refine fun_pure K.spec_validNode (ofK ?_)
  unfold C.spec_validNode
  rcases n with _ | n <;> simp only [G.spec_validNode, reduceCtorEq] at h
  obtain ⟨zc, zg, zk, zu, ze, zj, zt⟩ := pp (pp @F.spec_shape <| pp @F.spec_count ()) <| pp () <| pp () <| pp () <| pp () <| pp () <| ()
  exact drv
theorem F.spec_someNode {n : Nat} : ∀ {p_r1 : ReaderT} {r : NodeT × ReaderT}, G.spec_someNode n p_r1 = some r → ACalls Go.Proofs.Tryz.prog 122 [.one (.ptr 0 0)] [.var [.c (.sl 1 (List.map cU p_r1.b)), .c (.lit (.int .i64 p_r1.p))]] (fun r1 b1 => r1 = .agg [.c (.lit (.int .i64 r.1.Kind)), .c (.lit (.int .i64 r.1.Num)), .c (.str r.1.Text), .c (.sl 1 (List.map cS r.1.Names)), .c (.sl 5 (List.map NodeT.cells r.1.Kids))] ∧ b1 = [.var [.c (.sl 1 (List.map cU r.2.b)), .c (.lit (.int .i64 r.2.p))]]) := by
  intro p_r1 r h
  refine fun_sound K.spec_someNode (ofK ?_)
  unfold C.spec_someNode
  rcases n with _ | n <;> simp only [G.spec_someNode, reduceCtorEq] at h
  obtain ⟨zc, zg, zk, zu, ze, zj, zt⟩ := pp (pp @F.spec_validNode ()) <| pp (pp (pp @F.spec_randomNode (@cG [0] [])) <| pp (pp @F.spec_reader_pick (@cG [0] [])) <| pp (pp @F.spec_randomMap (@cG [0] [])) ()) <| pp () <| pp (pp (@cutX (List Int × Int × Int × Int × Txt × List Txt × List NodeT) _ (fun n x => G.spec_someNode.K1 n x.1 x.2.1 x.2.2.1 x.2.2.2.1 x.2.2.2.2.1 x.2.2.2.2.2.1 x.2.2.2.2.2.2) r (fun x => ASt.of [(2, .v true (.one (.ptr 101 0))), (3, .v true (.one (.ptr 102 0)))] [(0, .var [.c (.sl 1 (List.map cU x.1)), .c (.lit (.int .i64 x.2.1))]), (101, .var [.c (.lit (.int .i64 0)), .c (.lit (.int .i64 0)), .c (.str []), .nsl 1, .nsl 5]), (102, .var [.c (.lit (.int .i64 x.2.2.1)), .c (.lit (.int .i64 x.2.2.2.1)), .c (.str x.2.2.2.2.1), .c (.sl 1 (List.map cS x.2.2.2.2.2.1)), .c (.sl 5 (List.map NodeT.cells x.2.2.2.2.2.2))])])) ()) <| pp (pp (And.intro @G.spec_someNode.K1.eq_1 <| @G.spec_someNode.K1.eq_2) ()) <| pp (pp (@weakX [] [(0, 0), (101, 10), (102, 11)] []) ()) <| (pp (@retX [] [(0, 0)] []) ())
  exact drv
theorem F.spec_someNode_o {n : Nat} : ∀ {p_r1 : ReaderT} {r : NodeT × ReaderT}, G.spec_someNode n p_r1 = some r → ACalls Go.Proofs.Tryz.prog 122 [.one (.ptr 0 0)] [.var [.c (.sl 1 (List.map cU p_r1.b)), .c (.lit (.int .i64 p_r1.p))]] (fun r1 b1 => r1 = .agg [.c (.lit (.int .i64 r.1.Kind)), .c (.lit (.int .i64 r.1.Num)), .c (.str r.1.Text), .own 1 r.1.Names.length 1, .own 2 r.1.Kids.length 5] ∧ b1 = [.var [.c (.sl 1 (List.map cU r.2.b)), .c (.lit (.int .i64 r.2.p))], .dat 1 (List.map cS r.1.Names), .dat 5 (List.map NodeT.cells r.1.Kids)]) := by
  intro p_r1 r h
  refine fun_sound K.spec_someNode (ofK ?_)
  unfold C.spec_someNode
  rcases n with _ | n <;> simp only [G.spec_someNode, reduceCtorEq] at h
  obtain ⟨zc, zg, zk, zu, ze, zj, zt⟩ := pp (pp @F.spec_validNode ()) <| pp (pp (pp @F.spec_randomNode_o (@cG [0] [101, 102])) <| pp (pp @F.spec_reader_pick (@cG [0] [])) <| pp (pp @F.spec_randomMap_o (@cG [0] [109, 110])) ()) <| pp () <| pp (pp (@cutX (List Int × Int × Int × Int × Txt × List Txt × List NodeT) _ (fun n x => G.spec_someNode.K1 n x.1 x.2.1 x.2.2.1 x.2.2.2.1 x.2.2.2.2.1 x.2.2.2.2.2.1 x.2.2.2.2.2.2) r (fun x => ASt.of [(2, .v true (.one (.ptr 105 0))), (3, .v true (.one (.ptr 106 0)))] [(0, .var [.c (.sl 1 (List.map cU x.1)), .c (.lit (.int .i64 x.2.1))]), (105, .var [.c (.lit (.int .i64 0)), .c (.lit (.int .i64 0)), .c (.str []), .nsl 1, .nsl 5]), (106, .var [.c (.lit (.int .i64 x.2.2.1)), .c (.lit (.int .i64 x.2.2.2.1)), .c (.str x.2.2.2.2.1), .own 107 x.2.2.2.2.2.1.length 1, .own 108 x.2.2.2.2.2.2.length 5]), (107, .dat 1 (List.map cS x.2.2.2.2.2.1)), (108, .dat 5 (List.map NodeT.cells x.2.2.2.2.2.2))])) ()) <| pp (pp (And.intro @G.spec_someNode.K1.eq_1 <| @G.spec_someNode.K1.eq_2) ()) <| pp (pp (@weakX [] [(0, 0), (105, 10), (106, 11), (107, 109), (108, 110)] []) <| pp (@weakX [] [(0, 0), (105, 10), (106, 11), (107, 101), (108, 102)] []) ()) <| (pp (@retX [] [(0, 0), (1, 107), (2, 108)] []) <| pp (@retX [] [(0, 0)] [1, 2]) ())
  exact drv
theorem F.spec_anyNode {n : Nat} : ∀ {p_r1 : ReaderT} {r : NodeT × ReaderT}, G.spec_anyNode n p_r1 = some r → ACalls Go.Proofs.Tryz.prog 75 [.one (.ptr 0 0)] [.var [.c (.sl 1 (List.map cU p_r1.b)), .c (.lit (.int .i64 p_r1.p))]] (fun r1 b1 => r1 = .agg [.c (.lit (.int .i64 r.1.Kind)), .c (.lit (.int .i64 r.1.Num)), .c (.str r.1.Text), .c (.sl 1 (List.map cS r.1.Names)), .c (.sl 5 (List.map NodeT.cells r.1.Kids))] ∧ b1 = [.var [.c (.sl 1 (List.map cU r.2.b)), .c (.lit (.int .i64 r.2.p))]]) := by
  intro p_r1 r h
  refine fun_sound K.spec_anyNode (ofK ?_)
  unfold C.spec_anyNode
  rcases n with _ | n <;> simp only [G.spec_anyNode, reduceCtorEq] at h
  obtain ⟨zc, zg, zk, zu, ze, zj, zt⟩ := pp (pp @F.spec_copyNode ()) <| pp (pp (pp @F.spec_someNode_o (@cG [0] [101, 102])) <| pp (pp @F.spec_reader_pick (@cG [0] [])) <| pp (pp @F.spec_reader_one (@cH [0] [])) ()) <| pp (pp (@lopX ((NodeT × ReaderT) × Int × List Int × Int × List NodeT) _ (fun n x => G.spec_anyNode.L1 n x.1 x.2.1 x.2.2.1 x.2.2.2.1 x.2.2.2.2) r (fun x => ASt.of [(0, .v true (.one (.ptr 0 0))), (2, .v true (.one (.ptr 113 0))), (3, .v true (.one (.ptr 114 0))), (4, .v true (.one (.own 115 x.2.2.2.2.length 5))), (5, .v true (.one (.c (.lit (.int .i64 x.2.1)))))] [(0, .var [.c (.sl 1 (List.map cU x.2.2.1)), .c (.lit (.int .i64 x.2.2.2.1))]), (113, .var [.c (.lit (.int .i64 0)), .c (.lit (.int .i64 0)), .c (.str []), .nsl 1, .nsl 5]), (114, .var [.c (.lit (.int .i64 x.1.1.Kind)), .c (.lit (.int .i64 x.1.1.Num)), .c (.str x.1.1.Text), .own 116 x.1.1.Names.length 1, .own 117 x.1.1.Kids.length 5]), (115, .dat 5 (List.map NodeT.cells x.2.2.2.2)), (116, .frz 1 (List.map cS x.1.1.Names)), (117, .frz 5 (List.map NodeT.cells x.1.1.Kids))])) ()) <| pp () <| pp (pp (And.intro @G.spec_anyNode.L1.eq_1 <| @G.spec_anyNode.L1.eq_2) ()) <| pp (pp (@weakX [101, 102] [(0, 0), (113, 10), (114, 11), (115, 20), (116, 101), (117, 102)] []) <| pp (@weakX [] [(0, 0), (113, 113), (114, 114), (115, 22), (116, 116), (117, 117)] []) ()) <| (pp (@retX [101, 102] [(0, 0)] []) <| pp (@retX [15, 102] [(0, 0)] []) <| pp (@retX [19] [(0, 0)] []) <| pp (@retX [115] [(0, 0)] []) ())
  exact drv
theorem F.spec_badName {n : Nat} : ∀ {p_r1 : ReaderT} {r : Txt × ReaderT}, G.spec_badName n p_r1 = some r → ACalls Go.Proofs.Tryz.prog 103 [.one (.ptr 0 0)] [.var [.c (.sl 1 (List.map cU p_r1.b)), .c (.lit (.int .i64 p_r1.p))]] (fun r1 b1 => r1 = .one (.c (.str r.1)) ∧ b1 = [.var [.c (.sl 1 (List.map cU r.2.b)), .c (.lit (.int .i64 r.2.p))]]) := by
  intro p_r1 r h
  refine fun_sound K.spec_badName (ofK ?_)
  unfold C.spec_badName
  rcases n with _ | n <;> simp only [G.spec_badName, reduceCtorEq] at h
  obtain ⟨zc, zg, zk, zu, ze, zj, zt⟩ := pp () <| pp (pp (pp @F.spec_reader_of (@cH [0] [])) ()) <| pp () <| pp () <| pp () <| pp () <| (pp (@retX [] [(0, 0)] []) ())
  exact drv
theorem F.spec_copyStore_r {n : Nat} : ∀ {a_s1 : StoreT} {r : StoreT}, G.spec_copyStore n a_s1 = some r → ACalls Go.Proofs.Tryz.prog 204 [.agg [.own 0 a_s1.Items.length 7, .c (.lit (.int .i64 a_s1.Clock))]] [.dat 7 (List.map ItemT.cells a_s1.Items)] (fun r1 b1 => r1 = .agg [.own 1 r.Items.length 7, .c (.lit (.int .i64 r.Clock))] ∧ b1 = [.dat 7 (List.map ItemT.cells a_s1.Items), .dat 7 (List.map ItemT.cells r.Items)]) := by
  intro a_s1 r h
  refine fun_sound K.spec_copyStore_r (ofK ?_)
  unfold C.spec_copyStore
  rcases n with _ | n <;> simp only [G.spec_copyStore, reduceCtorEq] at h
  obtain ⟨zc, zg, zk, zu, ze, zj, zt⟩ := pp (pp @F.spec_copyNode ()) <| pp () <| pp (pp (@lopX (Int × List ItemT) _ (fun n x => G.spec_copyStore.L1 n a_s1 x.1 x.2) r (fun x => ASt.of [(1, .v true (.one (.ptr 107 0))), (2, .v true (.one (.ptr 108 0))), (3, .v true (.one (.own 109 x.2.length 7))), (4, .v true (.one (.c (.lit (.int .i64 x.1)))))] [(0, .dat 7 (List.map ItemT.cells a_s1.Items)), (107, .var [.own 0 a_s1.Items.length 7, .c (.lit (.int .i64 a_s1.Clock))]), (108, .var [.nsl 7, .c (.lit (.int .i64 0))]), (109, .dat 7 (List.map ItemT.cells x.2))])) ()) <| pp () <| pp (pp (And.intro @G.spec_copyStore.L1.eq_1 <| @G.spec_copyStore.L1.eq_2) ()) <| pp (pp (@weakX [] [(0, 0), (107, 10), (108, 11), (109, 12)] []) <| pp (@weakX [] [(0, 0), (107, 107), (108, 108), (109, 14)] []) ()) <| (pp (@retX [] [(0, 0), (1, 109)] []) ())
  exact drv
theorem F.spec_drop_r {n : Nat} : ∀ {a_s1 : StoreT} {a_name1 : Txt} {r : StoreT}, G.spec_drop n a_s1 a_name1 = some r → ACalls Go.Proofs.Tryz.prog 192 [.agg [.own 0 a_s1.Items.length 7, .c (.lit (.int .i64 a_s1.Clock))], .one (.c (.str a_name1))] [.dat 7 (List.map ItemT.cells a_s1.Items)] (fun r1 b1 => r1 = .agg [.own 1 r.Items.length 7, .c (.lit (.int .i64 r.Clock))] ∧ b1 = [.dat 7 (List.map ItemT.cells a_s1.Items), .dat 7 (List.map ItemT.cells r.Items)]) := by
  intro a_s1 a_name1 r h
  refine fun_sound K.spec_drop_r (ofK ?_)
  unfold C.spec_drop
  rcases n with _ | n <;> simp only [G.spec_drop, reduceCtorEq] at h
  obtain ⟨zc, zg, zk, zu, ze, zj, zt⟩ := pp () <| pp (pp (pp @F.spec_copyStore_r (@cG [0] [101])) ()) <| pp (pp (@lopX (StoreT × Int × List ItemT) _ (fun n x => G.spec_drop.L1 n a_s1 a_name1 x.1 x.2.1 x.2.2) r (fun x => ASt.of [(1, .v true (.one (.c (.str a_name1)))), (2, .v true (.one (.ptr 110 0))), (4, .v true (.one (.ptr 111 0))), (5, .v true (.one (.own 112 x.2.2.length 7))), (6, .v true (.one (.own 113 x.1.Items.length 7))), (7, .v true (.one (.c (.lit (.int .i64 x.2.1)))))] [(0, .dat 7 (List.map ItemT.cells a_s1.Items)), (110, .var [.own 0 a_s1.Items.length 7, .c (.lit (.int .i64 a_s1.Clock))]), (111, .var [.nsl 7, .c (.lit (.int .i64 0))]), (112, .dat 7 (List.map ItemT.cells x.2.2)), (113, .dat 7 (List.map ItemT.cells x.1.Items))])) ()) <| pp () <| pp (pp (And.intro @G.spec_drop.L1.eq_1 <| @G.spec_drop.L1.eq_2) ()) <| pp (pp (@weakX [] [(0, 0), (110, 10), (111, 11), (112, 12), (113, 101)] []) <| pp (@weakX [] [(0, 0), (110, 110), (111, 111), (112, 112), (113, 113)] []) <| pp (@weakX [] [(0, 0), (110, 110), (111, 111), (112, 14), (113, 113)] []) ()) <| (pp (@retX [] [(0, 0), (1, 112)] []) ())
  exact drv
theorem F.spec_find {n : Nat} : ∀ {a_s1 : StoreT} {a_name1 : Txt} {r : Int}, G.spec_find n a_s1 a_name1 = some r → APure Go.Proofs.Tryz.prog 191 [.agg [.c (.sl 7 (List.map ItemT.cells a_s1.Items)), .c (.lit (.int .i64 a_s1.Clock))], .one (.c (.str a_name1))] (.one (.c (.lit (.int .i64 r)))) := by
  intro a_s1 a_name1 r h
  refine fun_pure K.spec_find (ofK ?_)
  unfold C.spec_find
  rcases n with _ | n <;> simp only [G.spec_find, reduceCtorEq] at h
  obtain ⟨zc, zg, zk, zu, ze, zj, zt⟩ := pp () <| pp () <| pp (pp (@lopX (Int) _ (fun n x => G.spec_find.L1 n a_s1 a_name1 x) r (fun x => ASt.of [(1, .v true (.one (.c (.str a_name1)))), (2, .v true (.one (.ptr 103 0))), (5, .v true (.one (.c (.lit (.int .i64 x)))))] [(103, .var [.c (.sl 7 (List.map ItemT.cells a_s1.Items)), .c (.lit (.int .i64 a_s1.Clock))])])) ()) <| pp () <| pp (pp (And.intro @G.spec_find.L1.eq_1 <| @G.spec_find.L1.eq_2) ()) <| pp (pp (@weakX [] [(103, 10)] []) <| pp (@weakX [] [(103, 103)] []) ()) <| ()
  exact drv
theorem F.spec_validName {n : Nat} : ∀ {a_s1 : Txt} {r : Bool}, G.spec_validName n a_s1 = some r → APure Go.Proofs.Tryz.prog 112 [.one (.c (.str a_s1))] (.one (.c (.lit (.bool r)))) := by
  intro a_s1 r h
  refine fun_pure K.spec_validName (ofK ?_)
  unfold C.spec_validName
  rcases n with _ | n <;> simp only [G.spec_validName, reduceCtorEq] at h
  obtain ⟨zc, zg, zk, zu, ze, zj, zt⟩ := pp (pp @F.spec_inRange ()) <| pp () <| pp (pp (@lopX (Int) _ (fun n x => G.spec_validName.L1 n a_s1 x) r (fun x => ASt.of [(0, .v true (.one (.c (.str a_s1)))), (3, .v true (.one (.c (.lit (.int .i64 x)))))] [])) ()) <| pp () <| pp (pp (And.intro @G.spec_validName.L1.eq_1 <| @G.spec_validName.L1.eq_2) ()) <| pp (pp (@weakX [] [] []) ()) <| ()
  exact drv
theorem F.spec_validStore {n : Nat} : ∀ {a_s1 : StoreT} {r : Bool}, G.spec_validStore n a_s1 = some r → APure Go.Proofs.Tryz.prog 67 [.agg [.c (.sl 7 (List.map ItemT.cells a_s1.Items)), .c (.lit (.int .i64 a_s1.Clock))]] (.one (.c (.lit (.bool r)))) := by
  intro a_s1 r h
  refine fun_pure K.spec_validStore (ofK ?_)
  unfold C.spec_validStore
  rcases n with _ | n <;> simp only [G.spec_validStore, reduceCtorEq] at h
  obtain ⟨zc, zg, zk, zu, ze, zj, zt⟩ := pp (pp @F.spec_validName <| pp @F.spec_validNode <| pp @F.spec_inRange ()) <| pp () <| pp (pp (@lopX (Int) _ (fun n x => G.spec_validStore.L1 n a_s1 x) r (fun x => ASt.of [(1, .v true (.one (.ptr 103 0))), (3, .v true (.one (.c (.lit (.int .i64 x)))))] [(103, .var [.c (.sl 7 (List.map ItemT.cells a_s1.Items)), .c (.lit (.int .i64 a_s1.Clock))])])) ()) <| pp () <| pp (pp (And.intro @G.spec_validStore.L1.eq_1 <| @G.spec_validStore.L1.eq_2) ()) <| pp (pp (@weakX [] [(103, 10)] []) <| pp (@weakX [] [(103, 103)] []) ()) <| ()
  exact drv
theorem F.spec_DropItem_r {n : Nat} : ∀ {a_s1 : StoreT} {a_name1 : Txt} {r : StoreT × Bool}, G.spec_DropItem n a_s1 a_name1 = some r → ACalls Go.Proofs.Tryz.prog 151 [.agg [.own 0 a_s1.Items.length 7, .c (.lit (.int .i64 a_s1.Clock))], .one (.c (.str a_name1))] [.dat 7 (List.map ItemT.cells a_s1.Items)] (fun r1 b1 => r1 = .tup [(true, [.own 1 r.1.Items.length 7, .c (.lit (.int .i64 r.1.Clock))]), (false, [.c (.lit (.bool r.2))])] ∧ b1 = [.dat 7 (List.map ItemT.cells a_s1.Items), .dat 7 (List.map ItemT.cells r.1.Items)]) := by
  intro a_s1 a_name1 r h
  refine fun_sound K.spec_DropItem_r (ofK ?_)
  unfold C.spec_DropItem
  rcases n with _ | n <;> simp only [G.spec_DropItem, reduceCtorEq] at h
  obtain ⟨zc, zg, zk, zu, ze, zj, zt⟩ := pp (pp @F.spec_validStore <| pp @F.spec_find ()) <| pp (pp (pp @F.spec_drop_r (@cG [0] [101])) ()) <| pp () <| pp () <| pp () <| pp () <| (pp (@retX [] [(0, 0)] [1]) <| pp (@retX [] [(0, 0), (1, 101)] []) ())
  exact drv
theorem F.spec_put_r {n : Nat} : ∀ {a_s1 : StoreT} {a_name1 : Txt} {a_n1 : NodeT} {r : StoreT}, G.spec_put n a_s1 a_name1 a_n1 = some r → ACalls Go.Proofs.Tryz.prog 190 [.agg [.own 0 a_s1.Items.length 7, .c (.lit (.int .i64 a_s1.Clock))], .one (.c (.str a_name1)), .agg [.c (.lit (.int .i64 a_n1.Kind)), .c (.lit (.int .i64 a_n1.Num)), .c (.str a_n1.Text), .c (.sl 1 (List.map cS a_n1.Names)), .c (.sl 5 (List.map NodeT.cells a_n1.Kids))]] [.dat 7 (List.map ItemT.cells a_s1.Items)] (fun r1 b1 => r1 = .agg [.own 1 r.Items.length 7, .c (.lit (.int .i64 r.Clock))] ∧ b1 = [.dat 7 (List.map ItemT.cells a_s1.Items), .dat 7 (List.map ItemT.cells r.Items)]) := by
  intro a_s1 a_name1 a_n1 r h
  refine fun_sound K.spec_put_r (ofK ?_)
  unfold C.spec_put
  rcases n with _ | n <;> simp only [G.spec_put, reduceCtorEq] at h
  obtain ⟨zc, zg, zk, zu, ze, zj, zt⟩ := pp (pp @F.spec_copyNode ()) <| pp (pp (pp @F.spec_copyStore_r (@cG [0] [101])) ()) <| pp (pp (@lopX (NodeT × StoreT × Bool × Int × List ItemT) _ (fun n x => G.spec_put.L3 n a_s1 a_name1 x.1 x.2.1 x.2.2.1 x.2.2.2.1 x.2.2.2.2) r (fun x => ASt.of [(1, .v true (.one (.c (.str a_name1)))), (3, .v true (.one (.ptr 122 0))), (6, .v true (.one (.ptr 123 0))), (7, .v true (.one (.own 124 x.2.2.2.2.length 7))), (8, .v true (.one (.ptr 125 0))), (9, .v true (.one (.own 126 x.2.1.Items.length 7))), (10, .v true (.one (.c (.lit (.bool x.2.2.1))))), (11, .v true (.one (.c (.lit (.int .i64 x.2.2.2.1)))))] [(0, .dat 7 (List.map ItemT.cells a_s1.Items)), (122, .var [.own 0 a_s1.Items.length 7, .c (.lit (.int .i64 a_s1.Clock))]), (123, .var [.nsl 7, .c (.lit (.int .i64 0))]), (124, .dat 7 (List.map ItemT.cells x.2.2.2.2)), (125, .var [.c (.str a_name1), .c (.lit (.int .i64 (IntKind.wrap .i64 (a_s1.Clock + 1)))), .c (.lit (.int .i64 x.1.Kind)), .c (.lit (.int .i64 x.1.Num)), .c (.str x.1.Text), .c (.sl 1 (List.map cS x.1.Names)), .c (.sl 5 (List.map NodeT.cells x.1.Kids))]), (126, .dat 7 (List.map ItemT.cells x.2.1.Items))])) ()) <| pp (pp (@cutX (NodeT × StoreT × Int × Bool × List ItemT) _ (fun n x => G.spec_put.K4 n a_s1 a_name1 x.1 x.2.1 x.2.2.1 x.2.2.2.1 x.2.2.2.2) r (fun x => ASt.of [(1, .v true (.one (.c (.str a_name1)))), (3, .v true (.one (.ptr 127 0))), (6, .v true (.one (.ptr 128 0))), (7, .v true (.one (.own 129 x.2.2.2.2.length 7))), (8, .v true (.one (.ptr 130 0))), (9, .v true (.one (.own 131 x.2.1.Items.length 7))), (10, .v true (.one (.c (.lit (.bool x.2.2.2.1))))), (11, .v true (.one (.c (.lit (.int .i64 x.2.2.1)))))] [(0, .dat 7 (List.map ItemT.cells a_s1.Items)), (127, .var [.own 0 a_s1.Items.length 7, .c (.lit (.int .i64 a_s1.Clock))]), (128, .var [.nsl 7, .c (.lit (.int .i64 0))]), (129, .dat 7 (List.map ItemT.cells x.2.2.2.2)), (130, .var [.c (.str a_name1), .c (.lit (.int .i64 (IntKind.wrap .i64 (a_s1.Clock + 1)))), .c (.lit (.int .i64 x.1.Kind)), .c (.lit (.int .i64 x.1.Num)), .c (.str x.1.Text), .c (.sl 1 (List.map cS x.1.Names)), .c (.sl 5 (List.map NodeT.cells x.1.Kids))]), (131, .dat 7 (List.map ItemT.cells x.2.1.Items))])) ()) <| pp (pp (And.intro @G.spec_put.L3.eq_1 <| And.intro @G.spec_put.L3.eq_2 <| And.intro @G.spec_put.K4.eq_1 <| @G.spec_put.K4.eq_2) ()) <| pp (pp (@weakX [] [(0, 0), (122, 10), (123, 12), (124, 13), (125, 14), (126, 101)] []) <| pp (@weakX [] [(0, 0), (127, 122), (128, 123), (129, 124), (130, 125), (131, 126)] []) <| pp (@weakX [] [(0, 0), (127, 122), (128, 123), (129, 16), (130, 125), (131, 126)] []) <| pp (@weakX [] [(0, 0), (122, 127), (123, 128), (124, 129), (125, 130), (126, 131)] []) <| pp (@weakX [] [(0, 0), (122, 127), (123, 128), (124, 18), (125, 130), (126, 131)] []) ()) <| (pp (@retX [] [(0, 0), (1, 124)] []) <| pp (@retX [] [(0, 0), (1, 20)] []) ())
  exact drv
theorem F.spec_PutItem_r {n : Nat} : ∀ {a_s1 : StoreT} {a_name1 : Txt} {a_n1 : NodeT} {r : StoreT × Bool}, G.spec_PutItem n a_s1 a_name1 a_n1 = some r → ACalls Go.Proofs.Tryz.prog 149 [.agg [.own 0 a_s1.Items.length 7, .c (.lit (.int .i64 a_s1.Clock))], .one (.c (.str a_name1)), .agg [.c (.lit (.int .i64 a_n1.Kind)), .c (.lit (.int .i64 a_n1.Num)), .c (.str a_n1.Text), .c (.sl 1 (List.map cS a_n1.Names)), .c (.sl 5 (List.map NodeT.cells a_n1.Kids))]] [.dat 7 (List.map ItemT.cells a_s1.Items)] (fun r1 b1 => r1 = .tup [(true, [.own 1 r.1.Items.length 7, .c (.lit (.int .i64 r.1.Clock))]), (false, [.c (.lit (.bool r.2))])] ∧ b1 = [.dat 7 (List.map ItemT.cells a_s1.Items), .dat 7 (List.map ItemT.cells r.1.Items)]) := by
  intro a_s1 a_name1 a_n1 r h
  refine fun_sound K.spec_PutItem_r (ofK ?_)
  unfold C.spec_PutItem
  rcases n with _ | n <;> simp only [G.spec_PutItem, reduceCtorEq] at h
  obtain ⟨zc, zg, zk, zu, ze, zj, zt⟩ := pp (pp @F.spec_validStore <| pp @F.spec_validName <| pp @F.spec_validNode ()) <| pp (pp (pp @F.spec_put_r (@cG [0] [101])) ()) <| pp () <| pp () <| pp () <| pp () <| (pp (@retX [] [(0, 0), (1, 101)] []) <| pp (@retX [] [(0, 0)] [1]) ())
  exact drv
theorem F.spec_itemName {n : Nat} : ∀ {p_r1 : ReaderT} {r : Txt × ReaderT}, G.spec_itemName n p_r1 = some r → ACalls Go.Proofs.Tryz.prog 150 [.one (.ptr 0 0)] [.var [.c (.sl 1 (List.map cU p_r1.b)), .c (.lit (.int .i64 p_r1.p))]] (fun r1 b1 => r1 = .one (.c (.str r.1)) ∧ b1 = [.var [.c (.sl 1 (List.map cU r.2.b)), .c (.lit (.int .i64 r.2.p))]]) := by
  intro p_r1 r h
  refine fun_sound K.spec_itemName (ofK ?_)
  unfold C.spec_itemName
  rcases n with _ | n <;> simp only [G.spec_itemName, reduceCtorEq] at h
  obtain ⟨zc, zg, zk, zu, ze, zj, zt⟩ := pp () <| pp (pp (pp @F.spec_reader_of (@cH [0] [])) ()) <| pp () <| pp () <| pp () <| pp () <| (pp (@retX [] [(0, 0)] []) ())
  exact drv
theorem F.spec_someStore_o {n : Nat} : ∀ {p_r1 : ReaderT} {r : StoreT × ReaderT}, G.spec_someStore n p_r1 = some r → ACalls Go.Proofs.Tryz.prog 101 [.one (.ptr 0 0)] [.var [.c (.sl 1 (List.map cU p_r1.b)), .c (.lit (.int .i64 p_r1.p))]] (fun r1 b1 => r1 = .agg [.own 1 r.1.Items.length 7, .c (.lit (.int .i64 r.1.Clock))] ∧ b1 = [.var [.c (.sl 1 (List.map cU r.2.b)), .c (.lit (.int .i64 r.2.p))], .dat 7 (List.map ItemT.cells r.1.Items)]) := by
  intro p_r1 r h
  refine fun_sound K.spec_someStore (ofK ?_)
  unfold C.spec_someStore
  rcases n with _ | n <;> simp only [G.spec_someStore, reduceCtorEq] at h
  obtain ⟨zc, zg, zk, zu, ze, zj, zt⟩ := pp () <| pp (pp (pp @F.spec_reader_one (@cH [0] [])) <| pp (pp @F.spec_itemName (@cG [0] [])) <| pp (pp @F.spec_someNode (@cG [0] [])) <| pp (pp @F.spec_PutItem_r (@cG [125] [126])) <| pp (pp @F.spec_reader_pick (@cG [0] [])) <| pp (pp @F.spec_DropItem_r (@cG [125] [133])) ()) <| pp (pp (@lopX (Int × List Int × Int × List ItemT × Int) _ (fun n x => G.spec_someStore.L3 n x.1 x.2.1 x.2.2.1 x.2.2.2.1 x.2.2.2.2) r (fun x => ASt.of [(0, .v true (.one (.ptr 0 0))), (2, .v true (.one (.ptr 123 0))), (3, .v true (.one (.ptr 124 0))), (4, .v true (.one (.c (.lit (.int .i64 x.1)))))] [(0, .var [.c (.sl 1 (List.map cU x.2.1)), .c (.lit (.int .i64 x.2.2.1))]), (123, .var [.nsl 7, .c (.lit (.int .i64 0))]), (124, .var [.own 125 x.2.2.2.1.length 7, .c (.lit (.int .i64 x.2.2.2.2))]), (125, .dat 7 (List.map ItemT.cells x.2.2.2.1))])) ()) <| pp (pp (@cutX (Int × List ItemT × Int × Bool × List Int × Int × List ItemT × Int) _ (fun n x => G.spec_someStore.K4 n x.1 x.2.1 x.2.2.1 x.2.2.2.1 x.2.2.2.2.1 x.2.2.2.2.2.1 x.2.2.2.2.2.2.1 x.2.2.2.2.2.2.2) r (fun x => ASt.of [(0, .v true (.one (.ptr 0 0))), (2, .v true (.one (.ptr 128 0))), (3, .v true (.one (.ptr 129 0))), (4, .v true (.one (.c (.lit (.int .i64 x.1))))), (5, .v true (.one (.ptr 130 0))), (6, .v true (.one (.c (.lit (.bool x.2.2.2.1)))))] [(0, .var [.c (.sl 1 (List.map cU x.2.2.2.2.1)), .c (.lit (.int .i64 x.2.2.2.2.2.1))]), (128, .var [.nsl 7, .c (.lit (.int .i64 0))]), (129, .var [.own 131 x.2.1.length 7, .c (.lit (.int .i64 x.2.2.1))]), (130, .var [.own 132 x.2.2.2.2.2.2.1.length 7, .c (.lit (.int .i64 x.2.2.2.2.2.2.2))]), (131, .dat 7 (List.map ItemT.cells x.2.1)), (132, .dat 7 (List.map ItemT.cells x.2.2.2.2.2.2.1))])) ()) <| pp (pp (And.intro @G.spec_someStore.L3.eq_1 <| And.intro @G.spec_someStore.L3.eq_2 <| And.intro @G.spec_someStore.K4.eq_1 <| @G.spec_someStore.K4.eq_2) ()) <| pp (pp (@weakX [] [(0, 0), (123, 10), (124, 12), (125, 11)] []) <| pp (@weakX [] [(0, 0), (128, 123), (129, 124), (130, 14), (131, 125), (132, 133)] []) <| pp (@weakX [] [(0, 0), (128, 123), (129, 124), (130, 14), (131, 125), (132, 126)] []) <| pp (@weakX [] [(0, 0), (123, 128), (124, 129), (125, 132)] []) <| pp (@weakX [] [(0, 0), (123, 128), (124, 129), (125, 131)] []) ()) <| (pp (@retX [] [(0, 0), (1, 125)] []) ())
  exact drv
theorem F.spec_anyStore {n : Nat} : ∀ {p_r1 : ReaderT} {r : StoreT × ReaderT}, G.spec_anyStore n p_r1 = some r → ACalls Go.Proofs.Tryz.prog 56 [.one (.ptr 0 0)] [.var [.c (.sl 1 (List.map cU p_r1.b)), .c (.lit (.int .i64 p_r1.p))]] (fun r1 b1 => r1 = .agg [.c (.sl 7 (List.map ItemT.cells r.1.Items)), .c (.lit (.int .i64 r.1.Clock))] ∧ b1 = [.var [.c (.sl 1 (List.map cU r.2.b)), .c (.lit (.int .i64 r.2.p))]]) := by
  intro p_r1 r h
  refine fun_sound K.spec_anyStore (ofK ?_)
  unfold C.spec_anyStore
  rcases n with _ | n <;> simp only [G.spec_anyStore, reduceCtorEq] at h
  obtain ⟨zc, zg, zk, zu, ze, zj, zt⟩ := pp () <| pp (pp (pp @F.spec_someStore_o (@cG [0] [101])) <| pp (pp @F.spec_reader_pick (@cG [0] [])) <| pp (pp @F.spec_reader_one (@cH [0] [])) <| pp (pp @F.spec_badName (@cG [0] [])) <| pp (pp @F.spec_anyNode (@cG [0] [])) ()) <| pp () <| pp () <| pp () <| pp () <| (pp (@retX [101] [(0, 0)] []) <| pp (@retX [14] [(0, 0)] []) ())
  exact drv
theorem F.spec_newReader {n : Nat} : ∀ {a_code1 : List Int} {r : ReaderT}, G.spec_newReader n a_code1 = some r → ACalls Go.Proofs.Tryz.prog 37 [.one (.c (.sl 1 (List.map cU a_code1)))] [] (fun r1 b1 => r1 = .one (.ptr 0 0) ∧ b1 = [.var [.c (.sl 1 (List.map cU r.b)), .c (.lit (.int .i64 r.p))]]) := by
  intro a_code1 r h
  refine fun_sound K.spec_newReader (ofK ?_)
  unfold C.spec_newReader
  rcases n with _ | n <;> simp only [G.spec_newReader, reduceCtorEq] at h
  obtain ⟨zc, zg, zk, zu, ze, zj, zt⟩ := pp () <| pp () <| pp () <| pp () <| pp () <| pp () <| (pp (@retX [] [(0, 10)] []) ())
  exact drv
theorem F.spec_all_n : ∀ (n : Nat), ∀ {a_n1 : NodeT} {r : List (List Txt)}, G.spec_all n a_n1 = some r → APure Go.Proofs.Tryz.prog 123 [.agg [.c (.lit (.int .i64 a_n1.Kind)), .c (.lit (.int .i64 a_n1.Num)), .c (.str a_n1.Text), .c (.sl 1 (List.map cS a_n1.Names)), .c (.sl 5 (List.map NodeT.cells a_n1.Kids))]] (.one (.c (.sl 1 (List.map (cL 1 cS) r)))) := by
  intro n
  induction n using Nat.strongRecOn with | _ n ih =>
  intro a_n1 r h
  refine fun_pure K.spec_all (ofK ?_)
  unfold C.spec_all
  rcases n with _ | n <;> simp only [G.spec_all, reduceCtorEq] at h
  obtain ⟨zc, zg, zk, zu, ze, zj, zt⟩ := pp (pp ih <| pp @F.spec_decimal ()) <| pp () <| pp (pp (@lopX (Int × List (List Txt)) _ (fun n x => G.spec_all.L5 n a_n1 x.1 x.2) r (fun x => ASt.of [(1, .v true (.one (.ptr 121 0))), (3, .v true (.one (.own 122 x.2.length 1))), (4, .v true (.one (.c (.lit (.int .i64 x.1)))))] [(121, .var [.c (.lit (.int .i64 a_n1.Kind)), .c (.lit (.int .i64 a_n1.Num)), .c (.str a_n1.Text), .c (.sl 1 (List.map cS a_n1.Names)), .c (.sl 5 (List.map NodeT.cells a_n1.Kids))]), (122, .dat 1 (List.map (cL 1 cS) x.2))])) <| pp (@lopX (Int × Txt × List (List Txt) × Int × List (List Txt)) _ (fun n x => G.spec_all.L7 n a_n1 x.1 x.2.1 x.2.2.1 x.2.2.2.1 x.2.2.2.2) r (fun x => ASt.of [(1, .v true (.one (.ptr 129 0))), (3, .v true (.one (.own 130 x.2.2.2.2.length 1))), (4, .v true (.one (.c (.lit (.int .i64 x.1))))), (5, .v true (.one (.c (.str x.2.1)))), (6, .v true (.one (.c (.sl 1 (List.map (cL 1 cS) x.2.2.1))))), (7, .v true (.one (.c (.lit (.int .i64 x.2.2.2.1)))))] [(129, .var [.c (.lit (.int .i64 a_n1.Kind)), .c (.lit (.int .i64 a_n1.Num)), .c (.str a_n1.Text), .c (.sl 1 (List.map cS a_n1.Names)), .c (.sl 5 (List.map NodeT.cells a_n1.Kids))]), (130, .dat 1 (List.map (cL 1 cS) x.2.2.2.2))])) ()) <| pp (pp (@cutX (Int × List (List Txt) × Txt) _ (fun n x => G.spec_all.K6 n a_n1 x.1 x.2.1 x.2.2) r (fun x => ASt.of [(1, .v true (.one (.ptr 123 0))), (3, .v true (.one (.own 124 x.2.1.length 1))), (4, .v true (.one (.c (.lit (.int .i64 x.1))))), (5, .v true (.one (.c (.str x.2.2))))] [(123, .var [.c (.lit (.int .i64 a_n1.Kind)), .c (.lit (.int .i64 a_n1.Num)), .c (.str a_n1.Text), .c (.sl 1 (List.map cS a_n1.Names)), .c (.sl 5 (List.map NodeT.cells a_n1.Kids))]), (124, .dat 1 (List.map (cL 1 cS) x.2.1))])) ()) <| pp (pp (And.intro @G.spec_all.L5.eq_1 <| And.intro @G.spec_all.L5.eq_2 <| And.intro @G.spec_all.K6.eq_1 <| And.intro @G.spec_all.K6.eq_2 <| And.intro @G.spec_all.L7.eq_1 <| @G.spec_all.L7.eq_2) ()) <| pp (pp (@weakX [] [(121, 10), (122, 12)] []) <| pp (@weakX [] [(123, 121), (124, 122)] []) <| pp (@weakX [] [(129, 123), (130, 124)] []) <| pp (@weakX [] [(129, 129), (130, 16)] []) <| pp (@weakX [] [(121, 129), (122, 130)] []) ()) <| ()
  exact drv
theorem F.spec_all {n : Nat} : ∀ {a_n1 : NodeT} {r : List (List Txt)}, G.spec_all n a_n1 = some r → APure Go.Proofs.Tryz.prog 123 [.agg [.c (.lit (.int .i64 a_n1.Kind)), .c (.lit (.int .i64 a_n1.Num)), .c (.str a_n1.Text), .c (.sl 1 (List.map cS a_n1.Names)), .c (.sl 5 (List.map NodeT.cells a_n1.Kids))]] (.one (.c (.sl 1 (List.map (cL 1 cS) r)))) := F.spec_all_n n
theorem F.spec_AllPaths {n : Nat} : ∀ {a_n1 : NodeT} {r : List (List Txt)}, G.spec_AllPaths n a_n1 = some r → APure Go.Proofs.Tryz.prog 152 [.agg [.c (.lit (.int .i64 a_n1.Kind)), .c (.lit (.int .i64 a_n1.Num)), .c (.str a_n1.Text), .c (.sl 1 (List.map cS a_n1.Names)), .c (.sl 5 (List.map NodeT.cells a_n1.Kids))]] (.one (.c (.sl 1 (List.map (cL 1 cS) r)))) := by
  intro a_n1 r h
  refine fun_pure K.spec_AllPaths (ofK ?_)
  unfold C.spec_AllPaths
  rcases n with _ | n <;> simp only [G.spec_AllPaths, reduceCtorEq] at h
  obtain ⟨zc, zg, zk, zu, ze, zj, zt⟩ := pp (pp @F.spec_validNode <| pp @F.spec_all ()) <| pp () <| pp () <| pp () <| pp () <| pp () <| ()
  exact drv
theorem F.spec_anyPath {n : Nat} : ∀ {p_r1 : ReaderT} {r : List Txt × ReaderT}, G.spec_anyPath n p_r1 = some r → ACalls Go.Proofs.Tryz.prog 153 [.one (.ptr 0 0)] [.var [.c (.sl 1 (List.map cU p_r1.b)), .c (.lit (.int .i64 p_r1.p))]] (fun r1 b1 => r1 = .one (.c (.sl 1 (List.map cS r.1))) ∧ b1 = [.var [.c (.sl 1 (List.map cU r.2.b)), .c (.lit (.int .i64 r.2.p))]]) := by
  intro p_r1 r h
  refine fun_sound K.spec_anyPath (ofK ?_)
  unfold C.spec_anyPath
  rcases n with _ | n <;> simp only [G.spec_anyPath, reduceCtorEq] at h
  obtain ⟨zc, zg, zk, zu, ze, zj, zt⟩ := pp () <| pp (pp (pp @F.spec_reader_one (@cH [0] [])) <| pp (pp @F.spec_reader_of (@cH [0] [])) <| pp (pp @F.spec_reader_pick (@cG [0] [])) ()) <| pp (pp (@lopX (Int × List Int × Int × List Txt) _ (fun n x => G.spec_anyPath.L1 n x.1 x.2.1 x.2.2.1 x.2.2.2) r (fun x => ASt.of [(0, .v true (.one (.ptr 0 0))), (3, .v true (.one (.own 103 x.2.2.2.length 1))), (4, .v true (.one (.c (.lit (.int .i64 x.1)))))] [(0, .var [.c (.sl 1 (List.map cU x.2.1)), .c (.lit (.int .i64 x.2.2.1))]), (103, .dat 1 (List.map cS x.2.2.2))])) ()) <| pp () <| pp (pp (And.intro @G.spec_anyPath.L1.eq_1 <| @G.spec_anyPath.L1.eq_2) ()) <| pp (pp (@weakX [] [(0, 0), (103, 10)] []) <| pp (@weakX [] [(0, 0), (103, 14)] []) ()) <| (pp (@retX [103] [(0, 0)] []) ())
  exact drv
theorem F.spec_pathIn {n : Nat} : ∀ {p_r1 : ReaderT} {a_n1 : NodeT} {r : List Txt × ReaderT}, G.spec_pathIn n p_r1 a_n1 = some r → ACalls Go.Proofs.Tryz.prog 104 [.one (.ptr 0 0), .agg [.c (.lit (.int .i64 a_n1.Kind)), .c (.lit (.int .i64 a_n1.Num)), .c (.str a_n1.Text), .c (.sl 1 (List.map cS a_n1.Names)), .c (.sl 5 (List.map NodeT.cells a_n1.Kids))]] [.var [.c (.sl 1 (List.map cU p_r1.b)), .c (.lit (.int .i64 p_r1.p))]] (fun r1 b1 => r1 = .one (.c (.sl 1 (List.map cS r.1))) ∧ b1 = [.var [.c (.sl 1 (List.map cU r.2.b)), .c (.lit (.int .i64 r.2.p))]]) := by
  intro p_r1 a_n1 r h
  refine fun_sound K.spec_pathIn (ofK ?_)
  unfold C.spec_pathIn
  rcases n with _ | n <;> simp only [G.spec_pathIn, reduceCtorEq] at h
  obtain ⟨zc, zg, zk, zu, ze, zj, zt⟩ := pp (pp @F.spec_AllPaths ()) <| pp (pp (pp @F.spec_reader_pick (@cG [0] [])) <| pp (pp @F.spec_anyPath (@cG [0] [])) ()) <| pp () <| pp () <| pp () <| pp () <| (pp (@retX [] [(0, 0)] []) ())
  exact drv
theorem F.spec_reader_words {n : Nat} : ∀ {p_r1 : ReaderT} {r : List Txt × ReaderT}, G.spec_reader_words n p_r1 = some r → ACalls Go.Proofs.Tryz.prog 105 [.one (.ptr 0 0)] [.var [.c (.sl 1 (List.map cU p_r1.b)), .c (.lit (.int .i64 p_r1.p))]] (fun r1 b1 => r1 = .one (.c (.sl 1 (List.map cS r.1))) ∧ b1 = [.var [.c (.sl 1 (List.map cU r.2.b)), .c (.lit (.int .i64 r.2.p))]]) := by
  intro p_r1 r h
  refine fun_sound K.spec_reader_words (ofK ?_)
  unfold C.spec_reader_words
  rcases n with _ | n <;> simp only [G.spec_reader_words, reduceCtorEq] at h
  obtain ⟨zc, zg, zk, zu, ze, zj, zt⟩ := pp () <| pp (pp (pp @F.spec_reader_pick (@cG [0] [])) <| pp (pp @F.spec_anyPath (@cG [0] [])) <| pp (pp @F.spec_reader_of (@cH [0] [])) ()) <| pp () <| pp () <| pp () <| pp () <| (pp (@retX [] [(0, 0)] []) <| pp (@retX [11] [(0, 0)] []) ())
  exact drv
theorem F.spec_storePath {n : Nat} : ∀ {p_r1 : ReaderT} {a_s1 : StoreT} {r : List Txt × ReaderT}, G.spec_storePath n p_r1 a_s1 = some r → ACalls Go.Proofs.Tryz.prog 57 [.one (.ptr 0 0), .agg [.c (.sl 7 (List.map ItemT.cells a_s1.Items)), .c (.lit (.int .i64 a_s1.Clock))]] [.var [.c (.sl 1 (List.map cU p_r1.b)), .c (.lit (.int .i64 p_r1.p))]] (fun r1 b1 => r1 = .one (.c (.sl 1 (List.map cS r.1))) ∧ b1 = [.var [.c (.sl 1 (List.map cU r.2.b)), .c (.lit (.int .i64 r.2.p))]]) := by
  intro p_r1 a_s1 r h
  refine fun_sound K.spec_storePath (ofK ?_)
  unfold C.spec_storePath
  rcases n with _ | n <;> simp only [G.spec_storePath, reduceCtorEq] at h
  obtain ⟨zc, zg, zk, zu, ze, zj, zt⟩ := pp () <| pp (pp (pp @F.spec_reader_pick (@cG [0] [])) <| pp (pp @F.spec_pathIn (@cG [0] [])) <| pp (pp @F.spec_reader_words (@cG [0] [])) ()) <| pp () <| pp () <| pp () <| pp () <| (pp (@retX [] [(0, 0)] []) ())
  exact drv
theorem F.spec_DrawIndexStore {n : Nat} : ∀ {a_code1 : List Int} {r : StoreT × List Txt}, G.spec_DrawIndexStore n a_code1 = some r → APure Go.Proofs.Tryz.prog 25 [.one (.c (.sl 1 (List.map cU a_code1)))] (.tup [(true, [.c (.sl 7 (List.map ItemT.cells r.1.Items)), .c (.lit (.int .i64 r.1.Clock))]), (false, [.c (.sl 1 (List.map cS r.2))])]) := by
  intro a_code1 r h
  refine fun_pure K.spec_DrawIndexStore (ofK ?_)
  unfold C.spec_DrawIndexStore
  rcases n with _ | n <;> simp only [G.spec_DrawIndexStore, reduceCtorEq] at h
  obtain ⟨zc, zg, zk, zu, ze, zj, zt⟩ := pp () <| pp (pp (pp @F.spec_newReader (@cG [] [101])) <| pp (pp @F.spec_anyStore (@cG [101] [])) <| pp (pp @F.spec_storePath (@cG [101] [])) ()) <| pp () <| pp () <| pp () <| pp () <| ()
  exact drv
theorem F.spec_at {n : Nat} : ∀ {a_n1 : NodeT} {a_path1 : List Txt} {r : NodeT × Bool}, G.spec_at n a_n1 a_path1 = some r → APure Go.Proofs.Tryz.prog 115 [.agg [.c (.lit (.int .i64 a_n1.Kind)), .c (.lit (.int .i64 a_n1.Num)), .c (.str a_n1.Text), .c (.sl 1 (List.map cS a_n1.Names)), .c (.sl 5 (List.map NodeT.cells a_n1.Kids))], .one (.c (.sl 1 (List.map cS a_path1)))] (.tup [(true, [.c (.lit (.int .i64 r.1.Kind)), .c (.lit (.int .i64 r.1.Num)), .c (.str r.1.Text), .c (.sl 1 (List.map cS r.1.Names)), .c (.sl 5 (List.map NodeT.cells r.1.Kids))]), (false, [.c (.lit (.bool r.2))])]) := by
  intro a_n1 a_path1 r h
  refine fun_pure K.spec_at (ofK ?_)
  unfold C.spec_at
  rcases n with _ | n <;> simp only [G.spec_at, reduceCtorEq] at h
  obtain ⟨zc, zg, zk, zu, ze, zj, zt⟩ := pp (pp @F.spec_place <| pp @F.spec_copyNode ()) <| pp () <| pp (pp (@lopX (Int × Int × Int × Txt × List Txt × List NodeT) _ (fun n x => G.spec_at.L1 n a_path1 x.1 x.2.1 x.2.2.1 x.2.2.2.1 x.2.2.2.2.1 x.2.2.2.2.2) r (fun x => ASt.of [(1, .v true (.one (.c (.sl 1 (List.map cS a_path1))))), (2, .v true (.one (.ptr 105 0))), (4, .v true (.one (.ptr 106 0))), (6, .v true (.one (.c (.lit (.int .i64 x.1)))))] [(105, .var [.c (.lit (.int .i64 x.2.1)), .c (.lit (.int .i64 x.2.2.1)), .c (.str x.2.2.2.1), .c (.sl 1 (List.map cS x.2.2.2.2.1)), .c (.sl 5 (List.map NodeT.cells x.2.2.2.2.2))]), (106, .var [.c (.lit (.int .i64 0)), .c (.lit (.int .i64 0)), .c (.str []), .nsl 1, .nsl 5])])) ()) <| pp () <| pp (pp (And.intro @G.spec_at.L1.eq_1 <| @G.spec_at.L1.eq_2) ()) <| pp (pp (@weakX [] [(105, 10), (106, 11)] []) <| pp (@weakX [] [(105, 105), (106, 106)] []) ()) <| ()
  exact drv
theorem F.spec_toInt {n : Nat} : ∀ {a_b1 : Bool} {r : Int}, G.spec_toInt n a_b1 = some r → APure Go.Proofs.Tryz.prog 198 [.one (.c (.lit (.bool a_b1)))] (.one (.c (.lit (.int .i64 r)))) := by
  intro a_b1 r h
  refine fun_pure K.spec_toInt (ofK ?_)
  unfold C.spec_toInt
  rcases n with _ | n <;> simp only [G.spec_toInt, reduceCtorEq] at h
  obtain ⟨zc, zg, zk, zu, ze, zj, zt⟩ := pp () <| pp () <| pp () <| pp () <| pp () <| pp () <| ()
  exact drv
theorem F.spec_order {n : Nat} : ∀ {a_a1 : Int} {a_b1 : Int} {r : Int}, G.spec_order n a_a1 a_b1 = some r → APure Go.Proofs.Tryz.prog 166 [.one (.c (.lit (.int .i64 a_a1))), .one (.c (.lit (.int .i64 a_b1)))] (.one (.c (.lit (.int .i64 r)))) := by
  intro a_a1 a_b1 r h
  refine fun_pure K.spec_order (ofK ?_)
  unfold C.spec_order
  rcases n with _ | n <;> simp only [G.spec_order, reduceCtorEq] at h
  obtain ⟨zc, zg, zk, zu, ze, zj, zt⟩ := pp (pp @F.spec_toInt ()) <| pp () <| pp () <| pp () <| pp () <| pp () <| ()
  exact drv
theorem F.spec_orderText {n : Nat} : ∀ {a_a1 : Txt} {a_b1 : Txt} {r : Int}, G.spec_orderText n a_a1 a_b1 = some r → APure Go.Proofs.Tryz.prog 167 [.one (.c (.str a_a1)), .one (.c (.str a_b1))] (.one (.c (.lit (.int .i64 r)))) := by
  intro a_a1 a_b1 r h
  refine fun_pure K.spec_orderText (ofK ?_)
  unfold C.spec_orderText
  rcases n with _ | n <;> simp only [G.spec_orderText, reduceCtorEq] at h
  obtain ⟨zc, zg, zk, zu, ze, zj, zt⟩ := pp (pp @F.spec_toInt ()) <| pp () <| pp () <| pp () <| pp () <| pp () <| ()
  exact drv
theorem F.spec_compare_n : ∀ (n : Nat), ∀ {a_a1 : NodeT} {a_b1 : NodeT} {r : Int}, G.spec_compare n a_a1 a_b1 = some r → APure Go.Proofs.Tryz.prog 116 [.agg [.c (.lit (.int .i64 a_a1.Kind)), .c (.lit (.int .i64 a_a1.Num)), .c (.str a_a1.Text), .c (.sl 1 (List.map cS a_a1.Names)), .c (.sl 5 (List.map NodeT.cells a_a1.Kids))], .agg [.c (.lit (.int .i64 a_b1.Kind)), .c (.lit (.int .i64 a_b1.Num)), .c (.str a_b1.Text), .c (.sl 1 (List.map cS a_b1.Names)), .c (.sl 5 (List.map NodeT.cells a_b1.Kids))]] (.one (.c (.lit (.int .i64 r)))) := by
  intro n
  induction n using Nat.strongRecOn with | _ n ih =>
  intro a_a1 a_b1 r h
  refine fun_pure K.spec_compare (ofK ?_)
  unfold C.spec_compare
  rcases n with _ | n <;> simp only [G.spec_compare, reduceCtorEq] at h
  obtain ⟨zc, zg, zk, zu, ze, zj, zt⟩ := pp (pp ih <| pp @F.spec_order <| pp @F.spec_orderText ()) <| pp () <| pp (pp (@lopX (Int) _ (fun n x => G.spec_compare.L1 n a_a1 a_b1 x) r (fun x => ASt.of [(2, .v true (.one (.ptr 105 0))), (3, .v true (.one (.ptr 106 0))), (5, .v true (.one (.c (.lit (.int .i64 x)))))] [(105, .var [.c (.lit (.int .i64 a_a1.Kind)), .c (.lit (.int .i64 a_a1.Num)), .c (.str a_a1.Text), .c (.sl 1 (List.map cS a_a1.Names)), .c (.sl 5 (List.map NodeT.cells a_a1.Kids))]), (106, .var [.c (.lit (.int .i64 a_b1.Kind)), .c (.lit (.int .i64 a_b1.Num)), .c (.str a_b1.Text), .c (.sl 1 (List.map cS a_b1.Names)), .c (.sl 5 (List.map NodeT.cells a_b1.Kids))])])) ()) <| pp () <| pp (pp (And.intro @G.spec_compare.L1.eq_1 <| @G.spec_compare.L1.eq_2) ()) <| pp (pp (@weakX [] [(105, 10), (106, 11)] []) <| pp (@weakX [] [(105, 105), (106, 106)] []) ()) <| ()
  exact drv
theorem F.spec_compare {n : Nat} : ∀ {a_a1 : NodeT} {a_b1 : NodeT} {r : Int}, G.spec_compare n a_a1 a_b1 = some r → APure Go.Proofs.Tryz.prog 116 [.agg [.c (.lit (.int .i64 a_a1.Kind)), .c (.lit (.int .i64 a_a1.Num)), .c (.str a_a1.Text), .c (.sl 1 (List.map cS a_a1.Names)), .c (.sl 5 (List.map NodeT.cells a_a1.Kids))], .agg [.c (.lit (.int .i64 a_b1.Kind)), .c (.lit (.int .i64 a_b1.Num)), .c (.str a_b1.Text), .c (.sl 1 (List.map cS a_b1.Names)), .c (.sl 5 (List.map NodeT.cells a_b1.Kids))]] (.one (.c (.lit (.int .i64 r)))) := F.spec_compare_n n
theorem F.spec_entries {n : Nat} : ∀ {a_s1 : StoreT} {a_path1 : List Txt} {r : List EntryT}, G.spec_entries n a_s1 a_path1 = some r → APure Go.Proofs.Tryz.prog 69 [.agg [.c (.sl 7 (List.map ItemT.cells a_s1.Items)), .c (.lit (.int .i64 a_s1.Clock))], .one (.c (.sl 1 (List.map cS a_path1)))] (.one (.c (.sl 6 (List.map EntryT.cells r)))) := by
  intro a_s1 a_path1 r h
  refine fun_pure K.spec_entries (ofK ?_)
  unfold C.spec_entries
  rcases n with _ | n <;> simp only [G.spec_entries, reduceCtorEq] at h
  obtain ⟨zc, zg, zk, zu, ze, zj, zt⟩ := pp (pp @F.spec_at <| pp @F.spec_compare ()) <| pp () <| pp (pp (@lopX (Int × List EntryT) _ (fun n x => G.spec_entries.L3 n a_s1 a_path1 x.1 x.2) r (fun x => ASt.of [(1, .v true (.one (.c (.sl 1 (List.map cS a_path1))))), (2, .v true (.one (.ptr 117 0))), (5, .v true (.one (.own 118 x.2.length 6))), (6, .v true (.one (.c (.lit (.int .i64 x.1)))))] [(117, .var [.c (.sl 7 (List.map ItemT.cells a_s1.Items)), .c (.lit (.int .i64 a_s1.Clock))]), (118, .dat 6 (List.map EntryT.cells x.2))])) <| pp (@lopX (Int × Int × List EntryT) _ (fun n x => G.spec_entries.L4 n a_s1 a_path1 x.1 x.2.1 x.2.2) r (fun x => ASt.of [(1, .v true (.one (.c (.sl 1 (List.map cS a_path1))))), (2, .v true (.one (.ptr 123 0))), (5, .v true (.one (.own 124 x.2.2.length 6))), (6, .v true (.one (.c (.lit (.int .i64 x.1))))), (9, .v true (.one (.c (.lit (.int .i64 x.2.1)))))] [(123, .var [.c (.sl 7 (List.map ItemT.cells a_s1.Items)), .c (.lit (.int .i64 a_s1.Clock))]), (124, .dat 6 (List.map EntryT.cells x.2.2))])) ()) <| pp () <| pp (pp (And.intro @G.spec_entries.L3.eq_1 <| And.intro @G.spec_entries.L3.eq_2 <| And.intro @G.spec_entries.L4.eq_1 <| @G.spec_entries.L4.eq_2) ()) <| pp (pp (@weakX [] [(117, 10), (118, 11)] []) <| pp (@weakX [] [(123, 117), (124, 14)] []) <| pp (@weakX [] [(123, 123), (124, 124)] []) <| pp (@weakX [] [(117, 123), (118, 124)] []) <| pp (@weakX [] [(117, 117), (118, 118)] []) ()) <| ()
  exact drv
theorem F.spec_validPath {n : Nat} : ∀ {a_path1 : List Txt} {r : Bool}, G.spec_validPath n a_path1 = some r → APure Go.Proofs.Tryz.prog 68 [.one (.c (.sl 1 (List.map cS a_path1)))] (.one (.c (.lit (.bool r)))) := by
  intro a_path1 r h
  refine fun_pure K.spec_validPath (ofK ?_)
  unfold C.spec_validPath
  rcases n with _ | n <;> simp only [G.spec_validPath, reduceCtorEq] at h
  obtain ⟨zc, zg, zk, zu, ze, zj, zt⟩ := pp (pp @F.spec_validText ()) <| pp () <| pp (pp (@lopX (Int) _ (fun n x => G.spec_validPath.L1 n a_path1 x) r (fun x => ASt.of [(0, .v true (.one (.c (.sl 1 (List.map cS a_path1))))), (3, .v true (.one (.c (.lit (.int .i64 x)))))] [])) ()) <| pp () <| pp (pp (And.intro @G.spec_validPath.L1.eq_1 <| @G.spec_validPath.L1.eq_2) ()) <| pp (pp (@weakX [] [] []) ()) <| ()
  exact drv
theorem F.spec_IndexStore {n : Nat} : ∀ {a_s1 : StoreT} {a_path1 : List Txt} {r : List EntryT}, G.spec_IndexStore n a_s1 a_path1 = some r → APure Go.Proofs.Tryz.prog 28 [.agg [.c (.sl 7 (List.map ItemT.cells a_s1.Items)), .c (.lit (.int .i64 a_s1.Clock))], .one (.c (.sl 1 (List.map cS a_path1)))] (.one (.c (.sl 6 (List.map EntryT.cells r)))) := by
  intro a_s1 a_path1 r h
  refine fun_pure K.spec_IndexStore (ofK ?_)
  unfold C.spec_IndexStore
  rcases n with _ | n <;> simp only [G.spec_IndexStore, reduceCtorEq] at h
  obtain ⟨zc, zg, zk, zu, ze, zj, zt⟩ := pp (pp @F.spec_validStore <| pp @F.spec_validPath <| pp @F.spec_entries ()) <| pp () <| pp () <| pp () <| pp () <| pp () <| ()
  exact drv
theorem F.laws_FnIndexStorePut {n : Nat} : ∀ {a_code1 : List Int} {r : Bool}, G.laws_FnIndexStorePut n a_code1 = some r → APure Go.Proofs.Tryz.prog 11 [.one (.c (.sl 1 (List.map cU a_code1)))] (.one (.c (.lit (.bool r)))) := by
  intro a_code1 r h
  refine fun_pure K.laws_FnIndexStorePut (ofK ?_)
  unfold C.laws_FnIndexStorePut
  rcases n with _ | n <;> simp only [G.laws_FnIndexStorePut, reduceCtorEq] at h
  obtain ⟨zc, zg, zk, zu, ze, zj, zt⟩ := pp (pp @F.spec_DrawIndexStore <| pp @F.impl_IndexStore <| pp @F.spec_IndexStore <| pp @F.laws_equalEntries <| pp @F.laws_none <| pp @F.impl_PutItem <| pp @F.laws_equalNode ()) <| pp () <| pp (pp (@lopX (List EntryT × List EntryT × Bool × Int) _ (fun n x => G.laws_FnIndexStorePut.L3 n x.1 x.2.1 x.2.2.1 x.2.2.2) r (fun x => ASt.of [(5, .v true (.one (.c (.sl 6 (List.map EntryT.cells x.1))))), (7, .v true (.one (.c (.lit (.bool x.2.2.1))))), (8, .v true (.one (.c (.sl 6 (List.map EntryT.cells x.2.1))))), (9, .v true (.one (.c (.lit (.int .i64 x.2.2.2)))))] [])) <| pp (@lopX (List EntryT × List EntryT × Int × Bool × Int) _ (fun n x => G.laws_FnIndexStorePut.L4 n x.1 x.2.1 x.2.2.1 x.2.2.2.1 x.2.2.2.2) r (fun x => ASt.of [(5, .v true (.one (.c (.sl 6 (List.map EntryT.cells x.1))))), (7, .v true (.one (.c (.lit (.bool true))))), (8, .v true (.one (.c (.sl 6 (List.map EntryT.cells x.2.1))))), (9, .v true (.one (.c (.lit (.int .i64 x.2.2.1))))), (10, .v true (.one (.c (.lit (.bool x.2.2.2.1))))), (11, .v true (.one (.c (.lit (.int .i64 x.2.2.2.2)))))] [])) ()) <| pp () <| pp (pp (And.intro @G.laws_FnIndexStorePut.L3.eq_1 <| And.intro @G.laws_FnIndexStorePut.L3.eq_2 <| And.intro @G.laws_FnIndexStorePut.L4.eq_1 <| @G.laws_FnIndexStorePut.L4.eq_2) ()) <| pp (pp (@weakX [] [] []) ()) <| ()
  exact drv
end Go.Ab
end
