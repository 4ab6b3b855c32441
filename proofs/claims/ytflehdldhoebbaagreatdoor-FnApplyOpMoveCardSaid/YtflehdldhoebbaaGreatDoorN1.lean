/- The law FnApplyOpMove of the package laws answers true for every code of bytes and leaves it as it is: the abstract interpreter of the program, the printed functions and proofs, the laws of the data, the statement (part 3 of the proof). Conditions: none but what the row lists. -/
import Derived.Test.YtflehdldhoebbaaGreatDoorV2
set_option linter.unusedVariables false
set_option linter.unusedSimpArgs false
section
namespace Go.Ab
open Go
set_option maxRecDepth 100000
set_option maxHeartbeats 4000000
set_option linter.unusedVariables false
set_option linter.unusedSimpArgs false
structure NodeT where
  Kind : Int
  Num : Int
  Text : Txt
  Names : List Txt
  Kids : List NodeT
  deriving Inhabited
mutual
def NodeT.cells : NodeT → List Cell
  | NodeT.mk x0 x1 x2 x3 x4 => [.lit (.int .i64 x0), .lit (.int .i64 x1), .str x2, .sl 1 (List.map cS x3), .sl 5 (NodeT.cellsL x4)]
def NodeT.cellsL : List NodeT → List (List Cell)
  | [] => []
  | x :: r => x.cells :: NodeT.cellsL r
end
theorem NodeT.cellsL_eq (ks : List NodeT) : NodeT.cellsL ks = List.map NodeT.cells ks := by
  induction ks with
  | nil => rfl
  | cons x r ih => simp [NodeT.cellsL, ih]
theorem NodeT.cells_eq (n : NodeT) : n.cells = [.lit (.int .i64 n.Kind), .lit (.int .i64 n.Num), .str n.Text, .sl 1 (List.map cS n.Names), .sl 5 (List.map NodeT.cells n.Kids)] := by
  cases n
  rw [NodeT.cells, NodeT.cellsL_eq]
structure OpT where
  Kind : Int
  Path : List Txt
  From : List Txt
  Value : NodeT
  deriving Inhabited
def OpT.cells (n : OpT) : List Cell := [.lit (.int .i64 n.Kind), .sl 1 (List.map cS n.Path), .sl 1 (List.map cS n.From), .lit (.int .i64 n.Value.Kind), .lit (.int .i64 n.Value.Num), .str n.Value.Text, .sl 1 (List.map cS n.Value.Names), .sl 5 (List.map NodeT.cells n.Value.Kids)]
theorem OpT.cells_eq (n : OpT) : n.cells = [.lit (.int .i64 n.Kind), .sl 1 (List.map cS n.Path), .sl 1 (List.map cS n.From), .lit (.int .i64 n.Value.Kind), .lit (.int .i64 n.Value.Num), .str n.Value.Text, .sl 1 (List.map cS n.Value.Names), .sl 5 (List.map NodeT.cells n.Value.Kids)] := rfl
structure ReaderT where
  b : List Int
  p : Int
  deriving Inhabited
def ReaderT.cells (n : ReaderT) : List Cell := [.sl 1 (List.map cU n.b), .lit (.int .i64 n.p)]
theorem ReaderT.cells_eq (n : ReaderT) : n.cells = [.sl 1 (List.map cU n.b), .lit (.int .i64 n.p)] := rfl
end Go.Ab
end
section
namespace Go.Ab
open Go
set_option maxRecDepth 100000
set_option maxHeartbeats 4000000
set_option linter.unusedVariables false
set_option linter.unusedSimpArgs false
def G.cmp_isNaN_int (f : Nat) (a_x1 : Int) : Option (Bool) := match f with
| 0 => none
| n + 1 =>
(some ((a_x1 != a_x1)))
def G.cmp_Compare_int (f : Nat) (a_x1 : Int) (a_y1 : Int) : Option (Int) := match f with
| 0 => none
| n + 1 =>
(Option.bind (G.cmp_isNaN_int n a_x1) fun v1 =>
(Option.bind (G.cmp_isNaN_int n a_y1) fun v2 =>
(cond v1
(cond v2
(some (0))
(some ((-1))))
(cond v2
(some (1))
(cond (decide (a_x1 < a_y1))
(some ((-1)))
(cond (decide (a_y1 < a_x1))
(some (1))
(some (0))))))))
def G.cmp_isNaN_string (f : Nat) (a_x1 : Txt) : Option (Bool) := match f with
| 0 => none
| n + 1 =>
(some ((!(a_x1 == a_x1))))
def G.cmp_Less_string (f : Nat) (a_x1 : Txt) (a_y1 : Txt) : Option (Bool) := match f with
| 0 => none
| n + 1 =>
(Option.bind (G.cmp_isNaN_string n a_x1) fun v1 =>
(cond v1
(Option.bind (G.cmp_isNaN_string n a_y1) fun v2 =>
(cond v2
(some ((Op.bytesLess a_x1 a_y1)))
(some (true))))
(some ((Op.bytesLess a_x1 a_y1)))))
mutual
def G.impl_copyNode.L2 (f : Nat) (a_n1 : NodeT) (z1 : List Txt) (x_t2 : Int) (z4 : List NodeT) : Option (NodeT) := match f with
| 0 => none
| n + 1 =>
(cond (decide (x_t2 < ((a_n1.Kids.length : Nat) : Int)))
(chk (0 ≤ x_t2 ∧ x_t2 < ((a_n1.Kids.length : Nat) : Int))
(Option.bind (G.impl_copyNode n (a_n1.Kids.getD x_t2.toNat default)) fun v3 =>
(chk (0 ≤ x_t2 ∧ x_t2 < ((z4.length : Nat) : Int))
(G.impl_copyNode.L2 n a_n1 z1 (IntKind.wrap .i64 (x_t2 + 1)) (z4.set x_t2.toNat v3)))))
(some ((NodeT.mk a_n1.Kind a_n1.Num a_n1.Text z1 z4))))
def G.impl_copyNode.K1 (f : Nat) (a_n1 : NodeT) (z1 : List Txt) : Option (NodeT) := match f with
| 0 => none
| n + 1 =>
(cond (decide (0 < ((a_n1.Kids.length : Nat) : Int)))
(chk (0 ≤ ((a_n1.Kids.length : Nat) : Int) ∧ ((a_n1.Kids.length : Nat) : Int) ≤ ((a_n1.Kids.length : Nat) : Int) ∧ 80 * ((a_n1.Kids.length : Nat) : Int) ≤ 2 ^ 47 ∧ ((a_n1.Kids.length : Nat) : Int) ≤ 2 ^ 47)
(G.impl_copyNode.L2 n a_n1 z1 0 (List.replicate a_n1.Kids.length (NodeT.mk 0 0 [] [] []))))
(some ((NodeT.mk a_n1.Kind a_n1.Num a_n1.Text z1 []))))
def G.impl_copyNode (f : Nat) (a_n1 : NodeT) : Option (NodeT) := match f with
| 0 => none
| n + 1 =>
(cond (decide (0 < ((a_n1.Names.length : Nat) : Int)))
(chk (0 ≤ ((a_n1.Names.length : Nat) : Int) ∧ ((a_n1.Names.length : Nat) : Int) ≤ ((a_n1.Names.length : Nat) : Int) ∧ 16 * ((a_n1.Names.length : Nat) : Int) ≤ 2 ^ 47 ∧ ((a_n1.Names.length : Nat) : Int) ≤ 2 ^ 47)
(G.impl_copyNode.K1 n a_n1 a_n1.Names))
(G.impl_copyNode.K1 n a_n1 []))
end
def G.slices_isNaN_string (f : Nat) (a_x1 : Txt) : Option (Bool) := match f with
| 0 => none
| n + 1 =>
(some ((!(a_x1 == a_x1))))
def G.slices_BinarySearch_string.L1 (f : Nat) (a_x1 : List Txt) (a_target1 : Txt) (x_i2 : Int) (x_j2 : Int) : Option (Int × Bool) := match f with
| 0 => none
| n + 1 =>
(cond (decide (x_i2 < x_j2))
(chk (0 ≤ (IntKind.wrap .i64 ((Int.fdiv (IntKind.wrap .u64 ((IntKind.wrap .i64 (x_i2 + x_j2)))) (2 ^ (min 1 (IntKind.bits .u64)))))) ∧ (IntKind.wrap .i64 ((Int.fdiv (IntKind.wrap .u64 ((IntKind.wrap .i64 (x_i2 + x_j2)))) (2 ^ (min 1 (IntKind.bits .u64)))))) < ((a_x1.length : Nat) : Int))
(Option.bind (G.cmp_Less_string n (a_x1.getD (IntKind.wrap .i64 ((Int.fdiv (IntKind.wrap .u64 ((IntKind.wrap .i64 (x_i2 + x_j2)))) (2 ^ (min 1 (IntKind.bits .u64)))))).toNat default) a_target1) fun v3 =>
(cond v3
(G.slices_BinarySearch_string.L1 n a_x1 a_target1 (IntKind.wrap .i64 ((IntKind.wrap .i64 ((Int.fdiv (IntKind.wrap .u64 ((IntKind.wrap .i64 (x_i2 + x_j2)))) (2 ^ (min 1 (IntKind.bits .u64)))))) + 1)) x_j2)
(G.slices_BinarySearch_string.L1 n a_x1 a_target1 x_i2 (IntKind.wrap .i64 ((Int.fdiv (IntKind.wrap .u64 ((IntKind.wrap .i64 (x_i2 + x_j2)))) (2 ^ (min 1 (IntKind.bits .u64))))))))))
(cond (decide (x_i2 < ((a_x1.length : Nat) : Int)))
(chk (0 ≤ x_i2 ∧ x_i2 < ((a_x1.length : Nat) : Int))
(cond ((a_x1.getD x_i2.toNat default) == a_target1)
(some (x_i2, true))
(chk (0 ≤ x_i2 ∧ x_i2 < ((a_x1.length : Nat) : Int))
(Option.bind (G.slices_isNaN_string n (a_x1.getD x_i2.toNat default)) fun v4 =>
(cond v4
(Option.bind (G.slices_isNaN_string n a_target1) fun v5 =>
(some (x_i2, v5)))
(some (x_i2, false)))))))
(some (x_i2, false))))
def G.slices_BinarySearch_string (f : Nat) (a_x1 : List Txt) (a_target1 : Txt) : Option (Int × Bool) := match f with
| 0 => none
| n + 1 =>
(G.slices_BinarySearch_string.L1 n a_x1 a_target1 0 ((a_x1.length : Nat) : Int))
def G.internal_strconv_formatBase10.K3 (f : Nat) (a_a1 : List Int) : Option (Unit) := match f with
| 0 => none
| n + 1 =>
(cond (decide (0 < ((a_a1.length : Nat) : Int)))
(chk (0 ≤ 0 ∧ 0 < ((a_a1.length : Nat) : Int))
(none))
(some ()))
def G.internal_strconv_formatBase10.K2 (f : Nat) (a_a1 : List Int) (a_u1 : Int) : Option (Unit) := match f with
| 0 => none
| n + 1 =>
(cond (decide (2 ≤ ((a_a1.length : Nat) : Int)))
(chk (0 ≤ (IntKind.wrap .u32 ((IntKind.wrap .u32 ((Int.tmod (IntKind.wrap .u32 (a_u1)) 100) * 2)) + 1)) ∧ (IntKind.wrap .u32 ((IntKind.wrap .u32 ((Int.tmod (IntKind.wrap .u32 (a_u1)) 100) * 2)) + 1)) < ((200 : Nat) : Int))
(chk (0 ≤ (IntKind.wrap .u32 ((Int.tmod (IntKind.wrap .u32 (a_u1)) 100) * 2)) ∧ (IntKind.wrap .u32 ((Int.tmod (IntKind.wrap .u32 (a_u1)) 100) * 2)) < ((200 : Nat) : Int))
(chk (0 ≤ (IntKind.wrap .i64 (((a_a1.length : Nat) : Int) - 1)) ∧ (IntKind.wrap .i64 (((a_a1.length : Nat) : Int) - 1)) < ((a_a1.length : Nat) : Int))
(none))))
(G.internal_strconv_formatBase10.K3 n a_a1))
def G.internal_strconv_formatBase10.L1 (f : Nat) (a_a1 : List Int) (a_u1 : Int) : Option (Unit) := match f with
| 0 => none
| n + 1 =>
(cond (decide (8 ≤ ((a_a1.length : Nat) : Int)))
(chk (0 ≤ (IntKind.wrap .u32 ((IntKind.wrap .u32 ((Int.tmod (Int.tmod (IntKind.wrap .u32 ((Int.tmod a_u1 100000000))) 10000) 100) * 2)) + 1)) ∧ (IntKind.wrap .u32 ((IntKind.wrap .u32 ((Int.tmod (Int.tmod (IntKind.wrap .u32 ((Int.tmod a_u1 100000000))) 10000) 100) * 2)) + 1)) < ((200 : Nat) : Int))
(chk (0 ≤ (IntKind.wrap .u32 ((Int.tmod (Int.tmod (IntKind.wrap .u32 ((Int.tmod a_u1 100000000))) 10000) 100) * 2)) ∧ (IntKind.wrap .u32 ((Int.tmod (Int.tmod (IntKind.wrap .u32 ((Int.tmod a_u1 100000000))) 10000) 100) * 2)) < ((200 : Nat) : Int))
(chk (0 ≤ (IntKind.wrap .i64 (((a_a1.length : Nat) : Int) - 1)) ∧ (IntKind.wrap .i64 (((a_a1.length : Nat) : Int) - 1)) < ((a_a1.length : Nat) : Int))
(none))))
(cond (decide (4 ≤ ((a_a1.length : Nat) : Int)))
(chk (0 ≤ (IntKind.wrap .u32 ((IntKind.wrap .u32 ((Int.tmod (Int.tmod (IntKind.wrap .u32 (a_u1)) 10000) 100) * 2)) + 1)) ∧ (IntKind.wrap .u32 ((IntKind.wrap .u32 ((Int.tmod (Int.tmod (IntKind.wrap .u32 (a_u1)) 10000) 100) * 2)) + 1)) < ((200 : Nat) : Int))
(chk (0 ≤ (IntKind.wrap .u32 ((Int.tmod (Int.tmod (IntKind.wrap .u32 (a_u1)) 10000) 100) * 2)) ∧ (IntKind.wrap .u32 ((Int.tmod (Int.tmod (IntKind.wrap .u32 (a_u1)) 10000) 100) * 2)) < ((200 : Nat) : Int))
(chk (0 ≤ (IntKind.wrap .i64 (((a_a1.length : Nat) : Int) - 1)) ∧ (IntKind.wrap .i64 (((a_a1.length : Nat) : Int) - 1)) < ((a_a1.length : Nat) : Int))
(none))))
(G.internal_strconv_formatBase10.K2 n a_a1 a_u1)))
def G.internal_strconv_formatBase10 (f : Nat) (a_a1 : List Int) (a_u1 : Int) : Option (Unit) := match f with
| 0 => none
| n + 1 =>
(G.internal_strconv_formatBase10.L1 n a_a1 a_u1)
def G.internal_strconv_log10Pow2 (f : Nat) (a_x1 : Int) : Option (Int) := match f with
| 0 => none
| n + 1 =>
(some ((Int.fdiv (IntKind.wrap .i64 (a_x1 * 78913)) (2 ^ (min 18 (IntKind.bits .i64))))))
def G.math_bits_Len64.K2 (f : Nat) (x_x2 : Int) (x_n2 : Int) : Option (Int) := match f with
| 0 => none
| n + 1 =>
(cond (decide (256 ≤ x_x2))
(chk (0 ≤ (IntKind.wrap .u8 ((Int.fdiv x_x2 (2 ^ (min 8 (IntKind.bits .u64)))))) ∧ (IntKind.wrap .u8 ((Int.fdiv x_x2 (2 ^ (min 8 (IntKind.bits .u64)))))) < ((256 : Nat) : Int))
(some ((IntKind.wrap .i64 ((IntKind.wrap .i64 (x_n2 + 8)) + (IntKind.wrap .i64 ((((([0, 1, 2, 2, 3, 3, 3, 3, 4, 4, 4, 4, 4, 4, 4, 4, 5, 5, 5, 5, 5, 5, 5, 5, 5, 5, 5, 5, 5, 5, 5, 5, 6, 6, 6, 6, 6, 6, 6, 6, 6, 6, 6, 6, 6, 6, 6, 6, 6, 6, 6, 6, 6, 6, 6, 6, 6, 6, 6, 6, 6, 6, 6, 6, 7, 7, 7, 7, 7, 7, 7, 7, 7, 7, 7, 7, 7, 7, 7, 7, 7, 7, 7, 7, 7, 7, 7, 7, 7, 7, 7, 7, 7, 7, 7, 7, 7, 7, 7, 7, 7, 7, 7, 7, 7, 7, 7, 7, 7, 7, 7, 7, 7, 7, 7, 7, 7, 7, 7, 7, 7, 7, 7, 7, 7, 7, 7, 7, 8, 8, 8, 8, 8, 8, 8, 8, 8, 8, 8, 8, 8, 8, 8, 8, 8, 8, 8, 8, 8, 8, 8, 8, 8, 8, 8, 8, 8, 8, 8, 8, 8, 8, 8, 8, 8, 8, 8, 8, 8, 8, 8, 8, 8, 8, 8, 8, 8, 8, 8, 8, 8, 8, 8, 8, 8, 8, 8, 8, 8, 8, 8, 8, 8, 8, 8, 8, 8, 8, 8, 8, 8, 8, 8, 8, 8, 8, 8, 8, 8, 8, 8, 8, 8, 8, 8, 8, 8, 8, 8, 8, 8, 8, 8, 8, 8, 8, 8, 8, 8, 8, 8, 8, 8, 8, 8, 8, 8, 8, 8, 8, 8, 8, 8, 8, 8, 8, 8, 8, 8, 8, 8, 8, 8, 8, 8, 8] : Txt).getD (IntKind.wrap .u8 ((Int.fdiv x_x2 (2 ^ (min 8 (IntKind.bits .u64)))))).toNat 0).toNat : Nat) : Int))))))))
(chk (0 ≤ (IntKind.wrap .u8 (x_x2)) ∧ (IntKind.wrap .u8 (x_x2)) < ((256 : Nat) : Int))
(some ((IntKind.wrap .i64 (x_n2 + (IntKind.wrap .i64 ((((([0, 1, 2, 2, 3, 3, 3, 3, 4, 4, 4, 4, 4, 4, 4, 4, 5, 5, 5, 5, 5, 5, 5, 5, 5, 5, 5, 5, 5, 5, 5, 5, 6, 6, 6, 6, 6, 6, 6, 6, 6, 6, 6, 6, 6, 6, 6, 6, 6, 6, 6, 6, 6, 6, 6, 6, 6, 6, 6, 6, 6, 6, 6, 6, 7, 7, 7, 7, 7, 7, 7, 7, 7, 7, 7, 7, 7, 7, 7, 7, 7, 7, 7, 7, 7, 7, 7, 7, 7, 7, 7, 7, 7, 7, 7, 7, 7, 7, 7, 7, 7, 7, 7, 7, 7, 7, 7, 7, 7, 7, 7, 7, 7, 7, 7, 7, 7, 7, 7, 7, 7, 7, 7, 7, 7, 7, 7, 7, 8, 8, 8, 8, 8, 8, 8, 8, 8, 8, 8, 8, 8, 8, 8, 8, 8, 8, 8, 8, 8, 8, 8, 8, 8, 8, 8, 8, 8, 8, 8, 8, 8, 8, 8, 8, 8, 8, 8, 8, 8, 8, 8, 8, 8, 8, 8, 8, 8, 8, 8, 8, 8, 8, 8, 8, 8, 8, 8, 8, 8, 8, 8, 8, 8, 8, 8, 8, 8, 8, 8, 8, 8, 8, 8, 8, 8, 8, 8, 8, 8, 8, 8, 8, 8, 8, 8, 8, 8, 8, 8, 8, 8, 8, 8, 8, 8, 8, 8, 8, 8, 8, 8, 8, 8, 8, 8, 8, 8, 8, 8, 8, 8, 8, 8, 8, 8, 8, 8, 8, 8, 8, 8, 8, 8, 8, 8, 8] : Txt).getD (IntKind.wrap .u8 (x_x2)).toNat 0).toNat : Nat) : Int)))))))))
def G.math_bits_Len64.K1 (f : Nat) (x_x1 : Int) (x_n1 : Int) : Option (Int) := match f with
| 0 => none
| n + 1 =>
(cond (decide (65536 ≤ x_x1))
(G.math_bits_Len64.K2 n (Int.fdiv x_x1 (2 ^ (min 16 (IntKind.bits .u64)))) (IntKind.wrap .i64 (x_n1 + 16)))
(G.math_bits_Len64.K2 n x_x1 x_n1))
def G.math_bits_Len64 (f : Nat) (a_x1 : Int) : Option (Int) := match f with
| 0 => none
| n + 1 =>
(cond (decide (4294967296 ≤ a_x1))
(G.math_bits_Len64.K1 n (Int.fdiv a_x1 (2 ^ (min 32 (IntKind.bits .u64)))) 32)
(G.math_bits_Len64.K1 n a_x1 0))
def G.internal_strconv_numDigits (f : Nat) (a_d1 : Int) : Option (Int) := match f with
| 0 => none
| n + 1 =>
(Option.bind (G.math_bits_Len64 n a_d1) fun v1 =>
(Option.bind (G.internal_strconv_log10Pow2 n v1) fun v2 =>
(none)))
def G.internal_strconv_small (f : Nat) (a_i1 : Int) : Option (Txt) := match f with
| 0 => none
| n + 1 =>
(cond (decide (a_i1 < 10))
(chk (0 ≤ a_i1 ∧ a_i1 ≤ (IntKind.wrap .i64 (a_i1 + 1)) ∧ (IntKind.wrap .i64 (a_i1 + 1)) ≤ ((36 : Nat) : Int))
(some ((([48, 49, 50, 51, 52, 53, 54, 55, 56, 57, 97, 98, 99, 100, 101, 102, 103, 104, 105, 106, 107, 108, 109, 110, 111, 112, 113, 114, 115, 116, 117, 118, 119, 120, 121, 122].take ((IntKind.wrap .i64 (a_i1 + 1)).toNat)).drop a_i1.toNat))))
(chk (0 ≤ (IntKind.wrap .i64 (a_i1 * 2)) ∧ (IntKind.wrap .i64 (a_i1 * 2)) ≤ (IntKind.wrap .i64 ((IntKind.wrap .i64 (a_i1 * 2)) + 2)) ∧ (IntKind.wrap .i64 ((IntKind.wrap .i64 (a_i1 * 2)) + 2)) ≤ ((200 : Nat) : Int))
(some ((([48, 48, 48, 49, 48, 50, 48, 51, 48, 52, 48, 53, 48, 54, 48, 55, 48, 56, 48, 57, 49, 48, 49, 49, 49, 50, 49, 51, 49, 52, 49, 53, 49, 54, 49, 55, 49, 56, 49, 57, 50, 48, 50, 49, 50, 50, 50, 51, 50, 52, 50, 53, 50, 54, 50, 55, 50, 56, 50, 57, 51, 48, 51, 49, 51, 50, 51, 51, 51, 52, 51, 53, 51, 54, 51, 55, 51, 56, 51, 57, 52, 48, 52, 49, 52, 50, 52, 51, 52, 52, 52, 53, 52, 54, 52, 55, 52, 56, 52, 57, 53, 48, 53, 49, 53, 50, 53, 51, 53, 52, 53, 53, 53, 54, 53, 55, 53, 56, 53, 57, 54, 48, 54, 49, 54, 50, 54, 51, 54, 52, 54, 53, 54, 54, 54, 55, 54, 56, 54, 57, 55, 48, 55, 49, 55, 50, 55, 51, 55, 52, 55, 53, 55, 54, 55, 55, 55, 56, 55, 57, 56, 48, 56, 49, 56, 50, 56, 51, 56, 52, 56, 53, 56, 54, 56, 55, 56, 56, 56, 57, 57, 48, 57, 49, 57, 50, 57, 51, 57, 52, 57, 53, 57, 54, 57, 55, 57, 56, 57, 57].take ((IntKind.wrap .i64 ((IntKind.wrap .i64 (a_i1 * 2)) + 2)).toNat)).drop ((IntKind.wrap .i64 (a_i1 * 2)).toNat))))))
def G.internal_strconv_FormatInt.K1 (f : Nat) (x_u1 : Int) (z1 : List Int) : Option (Txt) := match f with
| 0 => none
| n + 1 =>
(Option.bind (G.internal_strconv_numDigits n x_u1) fun v2 =>
(none))
def G.internal_strconv_FormatInt.K2 (f : Nat) (x_u2 : Int) (z2 : List Int) : Option (Txt) := match f with
| 0 => none
| n + 1 =>
(Option.bind (G.internal_strconv_numDigits n x_u2) fun v3 =>
(none))
def G.internal_strconv_FormatInt (f : Nat) (a_i1 : Int) (a_base1 : Int) : Option (Txt) := match f with
| 0 => none
| n + 1 =>
(cond (a_base1 == 10)
(cond (decide (0 ≤ a_i1))
(cond (decide (a_i1 < 100))
(Option.bind (G.internal_strconv_small n a_i1) fun v1 =>
(some (v1)))
(cond (decide (a_i1 < 0))
(G.internal_strconv_FormatInt.K1 n (IntKind.wrap .u64 (0 - (IntKind.wrap .u64 (a_i1)))) (List.replicate 24 0))
(G.internal_strconv_FormatInt.K1 n (IntKind.wrap .u64 (a_i1)) (List.replicate 24 0))))
(cond (decide (a_i1 < 0))
(G.internal_strconv_FormatInt.K2 n (IntKind.wrap .u64 (0 - (IntKind.wrap .u64 (a_i1)))) (List.replicate 24 0))
(G.internal_strconv_FormatInt.K2 n (IntKind.wrap .u64 (a_i1)) (List.replicate 24 0))))
(none))
def G.internal_strconv_Itoa (f : Nat) (a_i1 : Int) : Option (Txt) := match f with
| 0 => none
| n + 1 =>
(Option.bind (G.internal_strconv_FormatInt n a_i1 10) fun v1 =>
(some (v1)))
def G.strconv_Itoa (f : Nat) (a_i1 : Int) : Option (Txt) := match f with
| 0 => none
| n + 1 =>
(Option.bind (G.internal_strconv_Itoa n a_i1) fun v1 =>
(some (v1)))
def G.impl_kidIndex.L1 (f : Nat) (a_n1 : NodeT) (a_step1 : Txt) (x_t2 : Int) : Option (Int × Bool) := match f with
| 0 => none
| n + 1 =>
(cond (decide (x_t2 < ((a_n1.Kids.length : Nat) : Int)))
(Option.bind (G.strconv_Itoa n x_t2) fun v4 =>
(cond (v4 == a_step1)
(some (x_t2, true))
(G.impl_kidIndex.L1 n a_n1 a_step1 (IntKind.wrap .i64 (x_t2 + 1)))))
(some (0, false)))
def G.impl_kidIndex (f : Nat) (a_n1 : NodeT) (a_step1 : Txt) : Option (Int × Bool) := match f with
| 0 => none
| n + 1 =>
(cond (a_n1.Kind == 4)
(Option.bind (G.slices_BinarySearch_string n a_n1.Names a_step1) fun v1 =>
(some (v1.1, v1.2)))
(cond (a_n1.Kind == 3)
(G.impl_kidIndex.L1 n a_n1 a_step1 0)
(some (0, false))))
def G.slices_Insert_impl_Node (f : Nat) (s : List NodeT) (i : Int) (v : List NodeT) : Option (List NodeT) := match f with
| 0 => none
| _ + 1 => chk (0 ≤ i ∧ i ≤ ((s.length : Nat) : Int) ∧ v.length = 1 ∧ (s.length + 1) * 86 ≤ 2 ^ 46) (some (s.take i.toNat ++ v ++ s.drop i.toNat))
def G.slices_Insert_string (f : Nat) (s : List Txt) (i : Int) (v : List Txt) : Option (List Txt) := match f with
| 0 => none
| _ + 1 => chk (0 ≤ i ∧ i ≤ ((s.length : Nat) : Int) ∧ v.length = 1 ∧ (s.length + 1) * 18 ≤ 2 ^ 46) (some (s.take i.toNat ++ v ++ s.drop i.toNat))
def G.impl_putName (f : Nat) (p_n1 : NodeT) (a_name1 : Txt) (a_value1 : NodeT) : Option (NodeT) := match f with
| 0 => none
| n + 1 =>
(Option.bind (G.slices_BinarySearch_string n p_n1.Names a_name1) fun v1 =>
(cond v1.2
(chk (0 ≤ v1.1 ∧ v1.1 < ((p_n1.Kids.length : Nat) : Int))
(some ((NodeT.mk p_n1.Kind p_n1.Num p_n1.Text p_n1.Names (p_n1.Kids.set v1.1.toNat a_value1)))))
(Option.bind (G.slices_Insert_string n p_n1.Names v1.1 [a_name1]) fun v2 =>
(Option.bind (G.slices_Insert_impl_Node n p_n1.Kids v1.1 [a_value1]) fun v3 =>
(some ((NodeT.mk p_n1.Kind p_n1.Num p_n1.Text v2 v3)))))))
def G.impl_addKid.K1 (f : Nat) (a_value1 : NodeT) (v1 : NodeT) (x_at1 : Int) (x_ok1 : Bool) : Option (NodeT × Bool) := match f with
| 0 => none
| n + 1 =>
(cond x_ok1
(Option.bind (G.impl_copyNode n a_value1) fun v6 =>
(Option.bind (G.slices_Insert_impl_Node n v1.Kids x_at1 [v6]) fun v7 =>
(some ((NodeT.mk v1.Kind v1.Num v1.Text v1.Names v7), true))))
(some ((NodeT.mk 0 0 [] [] []), false)))
def G.impl_addKid (f : Nat) (a_n1 : NodeT) (a_step1 : Txt) (a_value1 : NodeT) : Option (NodeT × Bool) := match f with
| 0 => none
| n + 1 =>
(Option.bind (G.impl_copyNode n a_n1) fun v1 =>
(cond (a_n1.Kind == 4)
(Option.bind (G.impl_copyNode n a_value1) fun v2 =>
(Option.bind (G.impl_putName n v1 a_step1 v2) fun v3 =>
(some (v3, true))))
(cond (a_n1.Kind == 3)
(Option.bind (G.impl_kidIndex n a_n1 a_step1) fun v4 =>
(cond v4.2
(G.impl_addKid.K1 n a_value1 v1 v4.1 true)
(cond (a_step1 == [45])
(G.impl_addKid.K1 n a_value1 v1 ((a_n1.Kids.length : Nat) : Int) true)
(Option.bind (G.strconv_Itoa n ((a_n1.Kids.length : Nat) : Int)) fun v8 =>
(cond (a_step1 == v8)
(G.impl_addKid.K1 n a_value1 v1 ((a_n1.Kids.length : Nat) : Int) true)
(G.impl_addKid.K1 n a_value1 v1 v4.1 false))))))
(some ((NodeT.mk 0 0 [] [] []), false)))))
def G.impl_AddNode_1 (f : Nat) (a_parent1 : NodeT) (p_cap01 : List Txt) (p_cap11 : Int) (p_cap21 : NodeT) : Option (NodeT × Bool) := match f with
| 0 => none
| n + 1 =>
(chk (0 ≤ p_cap11 ∧ p_cap11 < ((p_cap01.length : Nat) : Int))
(Option.bind (G.impl_addKid n a_parent1 (p_cap01.getD p_cap11.toNat default) p_cap21) fun v1 =>
(some (v1.1, v1.2))))
def G.impl_isPlainText.L1 (f : Nat) (a_s1 : Txt) (x_i2 : Int) : Option (Bool) := match f with
| 0 => none
| n + 1 =>
(cond (decide (x_i2 < ((a_s1.length : Nat) : Int)))
(chk (0 ≤ x_i2 ∧ x_i2 < ((a_s1.length : Nat) : Int))
(cond (decide ((((a_s1.getD x_i2.toNat 0).toNat : Nat) : Int) < 32))
(some (false))
(chk (0 ≤ x_i2 ∧ x_i2 < ((a_s1.length : Nat) : Int))
(cond (decide (126 < (((a_s1.getD x_i2.toNat 0).toNat : Nat) : Int)))
(some (false))
(G.impl_isPlainText.L1 n a_s1 (IntKind.wrap .i64 (x_i2 + 1)))))))
(some (true)))
def G.impl_isPlainText (f : Nat) (a_s1 : Txt) : Option (Bool) := match f with
| 0 => none
| n + 1 =>
(cond (decide (12 < ((a_s1.length : Nat) : Int)))
(some (false))
(G.impl_isPlainText.L1 n a_s1 0))
def G.impl_areNames.L1 (f : Nat) (a_names1 : List Txt) (x_t2 : Int) : Option (Bool) := match f with
| 0 => none
| n + 1 =>
(cond (decide (x_t2 < ((a_names1.length : Nat) : Int)))
(chk (0 ≤ x_t2 ∧ x_t2 < ((a_names1.length : Nat) : Int))
(Option.bind (G.impl_isPlainText n (a_names1.getD x_t2.toNat default)) fun v3 =>
(cond v3
(cond (decide (0 < x_t2))
(chk (0 ≤ (IntKind.wrap .i64 (x_t2 - 1)) ∧ (IntKind.wrap .i64 (x_t2 - 1)) < ((a_names1.length : Nat) : Int))
(cond (Op.bytesLess (a_names1.getD (IntKind.wrap .i64 (x_t2 - 1)).toNat default) (a_names1.getD x_t2.toNat default))
(G.impl_areNames.L1 n a_names1 (IntKind.wrap .i64 (x_t2 + 1)))
(some (false))))
(G.impl_areNames.L1 n a_names1 (IntKind.wrap .i64 (x_t2 + 1))))
(some (false)))))
(some (true)))
def G.impl_areNames (f : Nat) (a_names1 : List Txt) : Option (Bool) := match f with
| 0 => none
| n + 1 =>
(cond (decide (6 < ((a_names1.length : Nat) : Int)))
(some (false))
(G.impl_areNames.L1 n a_names1 0))
def G.impl_hasValidParts.K1 (f : Nat) (a_n1 : NodeT) : Option (Bool) := match f with
| 0 => none
| n + 1 =>
(cond (a_n1.Kind != 4)
(cond (decide (0 < ((a_n1.Names.length : Nat) : Int)))
(some (false))
(cond (a_n1.Kind == 0)
(some ((((a_n1.Kids.length : Nat) : Int) == 0)))
(cond (a_n1.Kind == 1)
(cond (decide ((-999999) ≤ a_n1.Num))
(cond (decide (a_n1.Num ≤ 999999))
(some ((((a_n1.Kids.length : Nat) : Int) == 0)))
(some (false)))
(some (false)))
(cond (a_n1.Kind == 2)
(Option.bind (G.impl_isPlainText n a_n1.Text) fun v1 =>
(cond v1
(some ((((a_n1.Kids.length : Nat) : Int) == 0)))
(some (false))))
(cond (a_n1.Kind == 3)
(some ((decide (((a_n1.Kids.length : Nat) : Int) ≤ 6))))
(cond (a_n1.Kind == 4)
(Option.bind (G.impl_areNames n a_n1.Names) fun v2 =>
(cond v2
(some ((((a_n1.Kids.length : Nat) : Int) == ((a_n1.Names.length : Nat) : Int))))
(some (false))))
(some (false))))))))
(cond (a_n1.Kind == 0)
(some ((((a_n1.Kids.length : Nat) : Int) == 0)))
(cond (a_n1.Kind == 1)
(cond (decide ((-999999) ≤ a_n1.Num))
(cond (decide (a_n1.Num ≤ 999999))
(some ((((a_n1.Kids.length : Nat) : Int) == 0)))
(some (false)))
(some (false)))
(cond (a_n1.Kind == 2)
(Option.bind (G.impl_isPlainText n a_n1.Text) fun v3 =>
(cond v3
(some ((((a_n1.Kids.length : Nat) : Int) == 0)))
(some (false))))
(cond (a_n1.Kind == 3)
(some ((decide (((a_n1.Kids.length : Nat) : Int) ≤ 6))))
(cond (a_n1.Kind == 4)
(Option.bind (G.impl_areNames n a_n1.Names) fun v4 =>
(cond v4
(some ((((a_n1.Kids.length : Nat) : Int) == ((a_n1.Names.length : Nat) : Int))))
(some (false))))
(some (false))))))))
def G.impl_hasValidParts (f : Nat) (a_n1 : NodeT) : Option (Bool) := match f with
| 0 => none
| n + 1 =>
(cond (a_n1.Kind != 1)
(cond (a_n1.Num != 0)
(some (false))
(cond (a_n1.Kind != 2)
(cond (a_n1.Text == [])
(G.impl_hasValidParts.K1 n a_n1)
(some (false)))
(G.impl_hasValidParts.K1 n a_n1)))
(cond (a_n1.Kind != 2)
(cond (a_n1.Text == [])
(G.impl_hasValidParts.K1 n a_n1)
(some (false)))
(G.impl_hasValidParts.K1 n a_n1)))
mutual
def G.impl_measureNode.L1 (f : Nat) (a_n1 : NodeT) (a_level1 : Int) (x_count2 : Int) (x_depth2 : Int) (x_t2 : Int) : Option (Int × Int × Bool) := match f with
| 0 => none
| n + 1 =>
(cond (decide (x_t2 < ((a_n1.Kids.length : Nat) : Int)))
(chk (0 ≤ x_t2 ∧ x_t2 < ((a_n1.Kids.length : Nat) : Int))
(Option.bind (G.impl_measureNode n (a_n1.Kids.getD x_t2.toNat default) (IntKind.wrap .i64 (a_level1 + 1))) fun v4 =>
(cond v4.2.2
(G.impl_measureNode.L1 n a_n1 a_level1 (IntKind.wrap .i64 (x_count2 + v4.1)) (if (IntKind.wrap .i64 (v4.2.1 + 1)) > x_depth2 then (IntKind.wrap .i64 (v4.2.1 + 1)) else x_depth2) (IntKind.wrap .i64 (x_t2 + 1)))
(some (0, 0, false)))))
(some (x_count2, x_depth2, true)))
def G.impl_measureNode (f : Nat) (a_n1 : NodeT) (a_level1 : Int) : Option (Int × Int × Bool) := match f with
| 0 => none
| n + 1 =>
(cond (decide (5 < a_level1))
(some (0, 0, false))
(Option.bind (G.impl_hasValidParts n a_n1) fun v1 =>
(cond v1
(G.impl_measureNode.L1 n a_n1 a_level1 1 1 0)
(some (0, 0, false)))))
end
def G.impl_ValidNode (f : Nat) (a_n1 : NodeT) : Option (Bool) := match f with
| 0 => none
| n + 1 =>
(Option.bind (G.impl_measureNode n a_n1 1) fun v1 =>
(cond v1.2.2
(some ((decide (v1.1 ≤ 40))))
(some (false))))
mutual
def G.impl_changeAt__impl_AddNode_1 (f : Nat) (a_n1 : NodeT) (a_path1 : List Txt) (p_cap01 : List Txt) (p_cap11 : Int) (p_cap21 : NodeT) : Option (NodeT × Bool) := match f with
| 0 => none
| n + 1 =>
(cond (((a_path1.length : Nat) : Int) == 0)
(Option.bind (G.impl_AddNode_1 n a_n1 p_cap01 p_cap11 p_cap21) fun v1 =>
(some (v1.1, v1.2)))
(chk (0 ≤ 0 ∧ 0 < ((a_path1.length : Nat) : Int))
(Option.bind (G.impl_kidIndex n a_n1 (a_path1.getD 0 default)) fun v2 =>
(cond v2.2
(chk (0 ≤ v2.1 ∧ v2.1 < ((a_n1.Kids.length : Nat) : Int))
(chk (0 ≤ 1 ∧ 1 ≤ ((a_path1.length : Nat) : Int) ∧ ((a_path1.length : Nat) : Int) ≤ ((a_path1.length : Nat) : Int))
(Option.bind (G.impl_changeAt__impl_AddNode_1 n (a_n1.Kids.getD v2.1.toNat default) (a_path1.drop 1) p_cap01 p_cap11 p_cap21) fun v3 =>
(cond v3.2
(Option.bind (G.impl_copyNode n a_n1) fun v4 =>
(chk (0 ≤ v2.1 ∧ v2.1 < ((v4.Kids.length : Nat) : Int))
(some ((NodeT.mk v4.Kind v4.Num v4.Text v4.Names (v4.Kids.set v2.1.toNat v3.1)), true))))
(some ((NodeT.mk 0 0 [] [] []), false))))))
(some ((NodeT.mk 0 0 [] [] []), false))))))
end
def G.impl_checked (f : Nat) (a_n1 : NodeT) (a_ok1 : Bool) : Option (NodeT × Bool) := match f with
| 0 => none
| n + 1 =>
(cond a_ok1
(Option.bind (G.impl_ValidNode n a_n1) fun v1 =>
(cond v1
(some (a_n1, true))
(some ((NodeT.mk 0 0 [] [] []), false))))
(some ((NodeT.mk 0 0 [] [] []), false)))
def G.impl_isPath.L1 (f : Nat) (a_path1 : List Txt) (x_t2 : Int) : Option (Bool) := match f with
| 0 => none
| n + 1 =>
(cond (decide (x_t2 < ((a_path1.length : Nat) : Int)))
(chk (0 ≤ x_t2 ∧ x_t2 < ((a_path1.length : Nat) : Int))
(Option.bind (G.impl_isPlainText n (a_path1.getD x_t2.toNat default)) fun v3 =>
(cond v3
(G.impl_isPath.L1 n a_path1 (IntKind.wrap .i64 (x_t2 + 1)))
(some (false)))))
(some (true)))
def G.impl_isPath (f : Nat) (a_path1 : List Txt) : Option (Bool) := match f with
| 0 => none
| n + 1 =>
(cond (decide (5 < ((a_path1.length : Nat) : Int)))
(some (false))
(G.impl_isPath.L1 n a_path1 0))
def G.impl_AddNode (f : Nat) (a_n1 : NodeT) (a_path1 : List Txt) (a_value1 : NodeT) : Option (NodeT × Bool) := match f with
| 0 => none
| n + 1 =>
(Option.bind (G.impl_ValidNode n a_n1) fun v1 =>
(cond v1
(Option.bind (G.impl_isPath n a_path1) fun v2 =>
(cond v2
(Option.bind (G.impl_ValidNode n a_value1) fun v3 =>
(cond v3
(cond (((a_path1.length : Nat) : Int) == 0)
(Option.bind (G.impl_copyNode n a_value1) fun v4 =>
(some (v4, true)))
(chk (0 ≤ 0 ∧ 0 ≤ (IntKind.wrap .i64 (((a_path1.length : Nat) : Int) - 1)) ∧ (IntKind.wrap .i64 (((a_path1.length : Nat) : Int) - 1)) ≤ ((a_path1.length : Nat) : Int))
(Option.bind (G.impl_changeAt__impl_AddNode_1 n a_n1 (a_path1.take ((IntKind.wrap .i64 (((a_path1.length : Nat) : Int) - 1)).toNat)) a_path1 (IntKind.wrap .i64 (((a_path1.length : Nat) : Int) - 1)) a_value1) fun v5 =>
(Option.bind (G.impl_checked n v5.1 v5.2) fun v6 =>
(some (v6.1, v6.2))))))
(some ((NodeT.mk 0 0 [] [] []), false))))
(some ((NodeT.mk 0 0 [] [] []), false))))
(some ((NodeT.mk 0 0 [] [] []), false))))
def G.impl_findNode.L1 (f : Nat) (a_path1 : List Txt) (x_t2 : Int) (y6 : Int) (y7 : Int) (y8 : Txt) (y9 : List Txt) (y10 : List NodeT) : Option (NodeT × Bool) := match f with
| 0 => none
| n + 1 =>
(cond (decide (x_t2 < ((a_path1.length : Nat) : Int)))
(chk (0 ≤ x_t2 ∧ x_t2 < ((a_path1.length : Nat) : Int))
(Option.bind (G.impl_kidIndex n (NodeT.mk y6 y7 y8 y9 y10) (a_path1.getD x_t2.toNat default)) fun v3 =>
(cond v3.2
(chk (0 ≤ v3.1 ∧ v3.1 < ((y10.length : Nat) : Int))
(G.impl_findNode.L1 n a_path1 (IntKind.wrap .i64 (x_t2 + 1)) ((y10.getD v3.1.toNat default).Kind) ((y10.getD v3.1.toNat default).Num) ((y10.getD v3.1.toNat default).Text) ((y10.getD v3.1.toNat default).Names) ((y10.getD v3.1.toNat default).Kids)))
(some ((NodeT.mk 0 0 [] [] []), false)))))
(some ((NodeT.mk y6 y7 y8 y9 y10), true)))
def G.impl_findNode (f : Nat) (a_n1 : NodeT) (a_path1 : List Txt) : Option (NodeT × Bool) := match f with
| 0 => none
| n + 1 =>
(G.impl_findNode.L1 n a_path1 0 a_n1.Kind a_n1.Num a_n1.Text a_n1.Names a_n1.Kids)
def G.impl_NodeAt (f : Nat) (a_n1 : NodeT) (a_path1 : List Txt) : Option (NodeT × Bool) := match f with
| 0 => none
| n + 1 =>
(Option.bind (G.impl_ValidNode n a_n1) fun v1 =>
(cond v1
(Option.bind (G.impl_isPath n a_path1) fun v2 =>
(cond v2
(Option.bind (G.impl_findNode n a_n1 a_path1) fun v3 =>
(cond v3.2
(Option.bind (G.impl_copyNode n v3.1) fun v4 =>
(some (v4, true)))
(some ((NodeT.mk 0 0 [] [] []), false))))
(some ((NodeT.mk 0 0 [] [] []), false))))
(some ((NodeT.mk 0 0 [] [] []), false))))
def G.slices_Delete_impl_Node (f : Nat) (s : List NodeT) (i : Int) (j : Int) : Option (List NodeT) := match f with
| 0 => none
| _ + 1 => chk (0 ≤ i ∧ i < j ∧ j ≤ ((s.length : Nat) : Int) ∧ s.length * 86 ≤ 2 ^ 46) (some (s.take i.toNat ++ s.drop j.toNat))
def G.slices_Delete_string (f : Nat) (s : List Txt) (i : Int) (j : Int) : Option (List Txt) := match f with
| 0 => none
| _ + 1 => chk (0 ≤ i ∧ i < j ∧ j ≤ ((s.length : Nat) : Int) ∧ s.length * 18 ≤ 2 ^ 46) (some (s.take i.toNat ++ s.drop j.toNat))
def G.impl_RemoveNode_1.K1 (f : Nat) (v1 : Int × Bool) (v2 : NodeT) (z1 : List Txt) : Option (NodeT × Bool) := match f with
| 0 => none
| n + 1 =>
(Option.bind (G.slices_Delete_impl_Node n v2.Kids v1.1 (IntKind.wrap .i64 (v1.1 + 1))) fun v4 =>
(some ((NodeT.mk v2.Kind v2.Num v2.Text z1 v4), true)))
def G.impl_RemoveNode_1 (f : Nat) (a_parent1 : NodeT) (p_cap01 : List Txt) (p_cap11 : Int) : Option (NodeT × Bool) := match f with
| 0 => none
| n + 1 =>
(chk (0 ≤ p_cap11 ∧ p_cap11 < ((p_cap01.length : Nat) : Int))
(Option.bind (G.impl_kidIndex n a_parent1 (p_cap01.getD p_cap11.toNat default)) fun v1 =>
(cond v1.2
(Option.bind (G.impl_copyNode n a_parent1) fun v2 =>
(cond (a_parent1.Kind == 4)
(Option.bind (G.slices_Delete_string n v2.Names v1.1 (IntKind.wrap .i64 (v1.1 + 1))) fun v5 =>
(G.impl_RemoveNode_1.K1 n v1 v2 v5))
(G.impl_RemoveNode_1.K1 n v1 v2 v2.Names)))
(some ((NodeT.mk 0 0 [] [] []), false)))))
mutual
def G.impl_changeAt__impl_RemoveNode_1 (f : Nat) (a_n1 : NodeT) (a_path1 : List Txt) (p_cap01 : List Txt) (p_cap11 : Int) : Option (NodeT × Bool) := match f with
| 0 => none
| n + 1 =>
(cond (((a_path1.length : Nat) : Int) == 0)
(Option.bind (G.impl_RemoveNode_1 n a_n1 p_cap01 p_cap11) fun v1 =>
(some (v1.1, v1.2)))
(chk (0 ≤ 0 ∧ 0 < ((a_path1.length : Nat) : Int))
(Option.bind (G.impl_kidIndex n a_n1 (a_path1.getD 0 default)) fun v2 =>
(cond v2.2
(chk (0 ≤ v2.1 ∧ v2.1 < ((a_n1.Kids.length : Nat) : Int))
(chk (0 ≤ 1 ∧ 1 ≤ ((a_path1.length : Nat) : Int) ∧ ((a_path1.length : Nat) : Int) ≤ ((a_path1.length : Nat) : Int))
(Option.bind (G.impl_changeAt__impl_RemoveNode_1 n (a_n1.Kids.getD v2.1.toNat default) (a_path1.drop 1) p_cap01 p_cap11) fun v3 =>
(cond v3.2
(Option.bind (G.impl_copyNode n a_n1) fun v4 =>
(chk (0 ≤ v2.1 ∧ v2.1 < ((v4.Kids.length : Nat) : Int))
(some ((NodeT.mk v4.Kind v4.Num v4.Text v4.Names (v4.Kids.set v2.1.toNat v3.1)), true))))
(some ((NodeT.mk 0 0 [] [] []), false))))))
(some ((NodeT.mk 0 0 [] [] []), false))))))
end
def G.impl_RemoveNode (f : Nat) (a_n1 : NodeT) (a_path1 : List Txt) : Option (NodeT × Bool) := match f with
| 0 => none
| n + 1 =>
(Option.bind (G.impl_ValidNode n a_n1) fun v1 =>
(cond v1
(Option.bind (G.impl_isPath n a_path1) fun v2 =>
(cond v2
(cond (((a_path1.length : Nat) : Int) == 0)
(some ((NodeT.mk 0 0 [] [] []), false))
(chk (0 ≤ 0 ∧ 0 ≤ (IntKind.wrap .i64 (((a_path1.length : Nat) : Int) - 1)) ∧ (IntKind.wrap .i64 (((a_path1.length : Nat) : Int) - 1)) ≤ ((a_path1.length : Nat) : Int))
(Option.bind (G.impl_changeAt__impl_RemoveNode_1 n a_n1 (a_path1.take ((IntKind.wrap .i64 (((a_path1.length : Nat) : Int) - 1)).toNat)) a_path1 (IntKind.wrap .i64 (((a_path1.length : Nat) : Int) - 1))) fun v3 =>
(some (v3.1, v3.2)))))
(some ((NodeT.mk 0 0 [] [] []), false))))
(some ((NodeT.mk 0 0 [] [] []), false))))
def G.impl_SetNode_1 (f : Nat) (a_a1 : NodeT) (p_cap01 : NodeT) : Option (NodeT × Bool) := match f with
| 0 => none
| n + 1 =>
(Option.bind (G.impl_copyNode n p_cap01) fun v1 =>
(some (v1, true)))
mutual
def G.impl_changeAt__impl_SetNode_1 (f : Nat) (a_n1 : NodeT) (a_path1 : List Txt) (p_cap01 : NodeT) : Option (NodeT × Bool) := match f with
| 0 => none
| n + 1 =>
(cond (((a_path1.length : Nat) : Int) == 0)
(Option.bind (G.impl_SetNode_1 n a_n1 p_cap01) fun v1 =>
(some (v1.1, v1.2)))
(chk (0 ≤ 0 ∧ 0 < ((a_path1.length : Nat) : Int))
(Option.bind (G.impl_kidIndex n a_n1 (a_path1.getD 0 default)) fun v2 =>
(cond v2.2
(chk (0 ≤ v2.1 ∧ v2.1 < ((a_n1.Kids.length : Nat) : Int))
(chk (0 ≤ 1 ∧ 1 ≤ ((a_path1.length : Nat) : Int) ∧ ((a_path1.length : Nat) : Int) ≤ ((a_path1.length : Nat) : Int))
(Option.bind (G.impl_changeAt__impl_SetNode_1 n (a_n1.Kids.getD v2.1.toNat default) (a_path1.drop 1) p_cap01) fun v3 =>
(cond v3.2
(Option.bind (G.impl_copyNode n a_n1) fun v4 =>
(chk (0 ≤ v2.1 ∧ v2.1 < ((v4.Kids.length : Nat) : Int))
(some ((NodeT.mk v4.Kind v4.Num v4.Text v4.Names (v4.Kids.set v2.1.toNat v3.1)), true))))
(some ((NodeT.mk 0 0 [] [] []), false))))))
(some ((NodeT.mk 0 0 [] [] []), false))))))
end
def G.impl_SetNode (f : Nat) (a_n1 : NodeT) (a_path1 : List Txt) (a_value1 : NodeT) : Option (NodeT × Bool) := match f with
| 0 => none
| n + 1 =>
(Option.bind (G.impl_ValidNode n a_n1) fun v1 =>
(cond v1
(Option.bind (G.impl_isPath n a_path1) fun v2 =>
(cond v2
(Option.bind (G.impl_ValidNode n a_value1) fun v3 =>
(cond v3
(Option.bind (G.impl_changeAt__impl_SetNode_1 n a_n1 a_path1 a_value1) fun v4 =>
(Option.bind (G.impl_checked n v4.1 v4.2) fun v5 =>
(some (v5.1, v5.2))))
(some ((NodeT.mk 0 0 [] [] []), false))))
(some ((NodeT.mk 0 0 [] [] []), false))))
(some ((NodeT.mk 0 0 [] [] []), false))))
def G.impl_isOp (f : Nat) (a_o1 : OpT) : Option (Bool) := match f with
| 0 => none
| n + 1 =>
(cond (decide (1 ≤ a_o1.Kind))
(cond (decide (a_o1.Kind ≤ 6))
(Option.bind (G.impl_isPath n a_o1.Path) fun v1 =>
(cond v1
(Option.bind (G.impl_isPath n a_o1.From) fun v2 =>
(cond v2
(Option.bind (G.impl_ValidNode n a_o1.Value) fun v3 =>
(some (v3)))
(some (false))))
(some (false))))
(some (false)))
(some (false)))
def G.slices_Equal_string.L1 (f : Nat) (a_s11 : List Txt) (a_s21 : List Txt) (x_t2 : Int) : Option (Bool) := match f with
| 0 => none
| n + 1 =>
(cond (decide (x_t2 < ((a_s11.length : Nat) : Int)))
(chk (0 ≤ x_t2 ∧ x_t2 < ((a_s11.length : Nat) : Int))
(chk (0 ≤ x_t2 ∧ x_t2 < ((a_s21.length : Nat) : Int))
(cond ((a_s11.getD x_t2.toNat default) == (a_s21.getD x_t2.toNat default))
(G.slices_Equal_string.L1 n a_s11 a_s21 (IntKind.wrap .i64 (x_t2 + 1)))
(some (false)))))
(some (true)))
def G.slices_Equal_string (f : Nat) (a_s11 : List Txt) (a_s21 : List Txt) : Option (Bool) := match f with
| 0 => none
| n + 1 =>
(cond (((a_s11.length : Nat) : Int) != ((a_s21.length : Nat) : Int))
(some (false))
(G.slices_Equal_string.L1 n a_s11 a_s21 0))
def G.impl_moveNode (f : Nat) (a_n1 : NodeT) (a_from1 : List Txt) (a_path1 : List Txt) : Option (NodeT × Bool) := match f with
| 0 => none
| n + 1 =>
(Option.bind (G.impl_NodeAt n a_n1 a_from1) fun v1 =>
(cond v1.2
(Option.bind (G.slices_Equal_string n a_path1 a_from1) fun v2 =>
(cond v2
(Option.bind (G.impl_copyNode n a_n1) fun v3 =>
(some (v3, true)))
(cond (decide (((a_from1.length : Nat) : Int) < ((a_path1.length : Nat) : Int)))
(chk (0 ≤ 0 ∧ 0 ≤ ((a_from1.length : Nat) : Int) ∧ ((a_from1.length : Nat) : Int) ≤ ((a_path1.length : Nat) : Int))
(Option.bind (G.slices_Equal_string n (a_path1.take a_from1.length) a_from1) fun v4 =>
(cond v4
(some ((NodeT.mk 0 0 [] [] []), false))
(Option.bind (G.impl_RemoveNode n a_n1 a_from1) fun v5 =>
(cond v5.2
(Option.bind (G.impl_AddNode n v5.1 a_path1 v1.1) fun v6 =>
(some (v6.1, v6.2)))
(some ((NodeT.mk 0 0 [] [] []), false)))))))
(Option.bind (G.impl_RemoveNode n a_n1 a_from1) fun v7 =>
(cond v7.2
(Option.bind (G.impl_AddNode n v7.1 a_path1 v1.1) fun v8 =>
(some (v8.1, v8.2)))
(some ((NodeT.mk 0 0 [] [] []), false)))))))
(some ((NodeT.mk 0 0 [] [] []), false))))
def G.internal_bytealg_CompareString (f : Nat) (a_a1 : Txt) (a_b1 : Txt) : Option (Int) := match f with
| 0 => none
| n + 1 =>
(some ((Go.Lib.compareBytes a_a1 a_b1)))
def G.strings_Compare (f : Nat) (a_a1 : Txt) (a_b1 : Txt) : Option (Int) := match f with
| 0 => none
| n + 1 =>
(Option.bind (G.internal_bytealg_CompareString n a_a1 a_b1) fun v1 =>
(some (v1)))
mutual
def G.impl_compareValid.K4 (f : Nat) (a_a1 : NodeT) (a_b1 : NodeT) (x_i2 : Int) : Option (Int) := match f with
| 0 => none
| n + 1 =>
(chk (0 ≤ x_i2 ∧ x_i2 < ((a_a1.Kids.length : Nat) : Int))
(chk (0 ≤ x_i2 ∧ x_i2 < ((a_b1.Kids.length : Nat) : Int))
(Option.bind (G.impl_compareValid n (a_a1.Kids.getD x_i2.toNat default) (a_b1.Kids.getD x_i2.toNat default)) fun v11 =>
(cond (v11 != 0)
(some (v11))
(G.impl_compareValid.L3 n a_a1 a_b1 (IntKind.wrap .i64 (x_i2 + 1)))))))
def G.impl_compareValid.L3 (f : Nat) (a_a1 : NodeT) (a_b1 : NodeT) (x_i2 : Int) : Option (Int) := match f with
| 0 => none
| n + 1 =>
(cond (decide (x_i2 < ((a_a1.Kids.length : Nat) : Int)))
(cond (decide (x_i2 < ((a_b1.Kids.length : Nat) : Int)))
(cond (a_a1.Kind == 4)
(chk (0 ≤ x_i2 ∧ x_i2 < ((a_a1.Names.length : Nat) : Int))
(chk (0 ≤ x_i2 ∧ x_i2 < ((a_b1.Names.length : Nat) : Int))
(Option.bind (G.strings_Compare n (a_a1.Names.getD x_i2.toNat default) (a_b1.Names.getD x_i2.toNat default)) fun v12 =>
(cond (v12 != 0)
(some (v12))
(G.impl_compareValid.K4 n a_a1 a_b1 x_i2)))))
(G.impl_compareValid.K4 n a_a1 a_b1 x_i2))
(Option.bind (G.cmp_Compare_int n ((a_a1.Kids.length : Nat) : Int) ((a_b1.Kids.length : Nat) : Int)) fun v13 =>
(some (v13))))
(Option.bind (G.cmp_Compare_int n ((a_a1.Kids.length : Nat) : Int) ((a_b1.Kids.length : Nat) : Int)) fun v14 =>
(some (v14))))
def G.impl_compareValid (f : Nat) (a_a1 : NodeT) (a_b1 : NodeT) : Option (Int) := match f with
| 0 => none
| n + 1 =>
(Option.bind (G.cmp_Compare_int n a_a1.Kind a_b1.Kind) fun v1 =>
(cond (v1 != 0)
(some (v1))
(Option.bind (G.cmp_Compare_int n a_a1.Num a_b1.Num) fun v2 =>
(cond (v2 != 0)
(some (v2))
(Option.bind (G.strings_Compare n a_a1.Text a_b1.Text) fun v3 =>
(cond (v3 != 0)
(some (v3))
(G.impl_compareValid.L3 n a_a1 a_b1 0)))))))
end
def G.impl_sameNode (f : Nat) (a_a1 : NodeT) (a_b1 : NodeT) : Option (Bool) := match f with
| 0 => none
| n + 1 =>
(Option.bind (G.impl_compareValid n a_a1 a_b1) fun v1 =>
(some ((v1 == 0))))
def G.impl_testNode (f : Nat) (a_n1 : NodeT) (a_path1 : List Txt) (a_value1 : NodeT) : Option (NodeT × Bool) := match f with
| 0 => none
| n + 1 =>
(Option.bind (G.impl_findNode n a_n1 a_path1) fun v1 =>
(cond v1.2
(Option.bind (G.impl_sameNode n v1.1 a_value1) fun v2 =>
(cond v2
(Option.bind (G.impl_copyNode n a_n1) fun v3 =>
(some (v3, true)))
(some ((NodeT.mk 0 0 [] [] []), false))))
(some ((NodeT.mk 0 0 [] [] []), false))))
def G.impl_ApplyOp (f : Nat) (a_n1 : NodeT) (a_o1 : OpT) : Option (NodeT × Bool) := match f with
| 0 => none
| n + 1 =>
(Option.bind (G.impl_ValidNode n a_n1) fun v1 =>
(cond v1
(Option.bind (G.impl_isOp n a_o1) fun v2 =>
(cond v2
(cond (a_o1.Kind == 1)
(Option.bind (G.impl_AddNode n a_n1 a_o1.Path a_o1.Value) fun v3 =>
(some (v3.1, v3.2)))
(cond (a_o1.Kind == 2)
(Option.bind (G.impl_RemoveNode n a_n1 a_o1.Path) fun v4 =>
(some (v4.1, v4.2)))
(cond (a_o1.Kind == 3)
(Option.bind (G.impl_SetNode n a_n1 a_o1.Path a_o1.Value) fun v5 =>
(some (v5.1, v5.2)))
(cond (a_o1.Kind == 4)
(Option.bind (G.impl_moveNode n a_n1 a_o1.From a_o1.Path) fun v6 =>
(some (v6.1, v6.2)))
(cond (a_o1.Kind == 5)
(Option.bind (G.impl_NodeAt n a_n1 a_o1.From) fun v7 =>
(cond v7.2
(Option.bind (G.impl_AddNode n a_n1 a_o1.Path v7.1) fun v8 =>
(some (v8.1, v8.2)))
(some ((NodeT.mk 0 0 [] [] []), false))))
(Option.bind (G.impl_testNode n a_n1 a_o1.Path a_o1.Value) fun v9 =>
(some (v9.1, v9.2))))))))
(some ((NodeT.mk 0 0 [] [] []), false))))
(some ((NodeT.mk 0 0 [] [] []), false))))
def G.impl_NodeCount (f : Nat) (a_n1 : NodeT) : Option (Int) := match f with
| 0 => none
| n + 1 =>
(Option.bind (G.impl_measureNode n a_n1 1) fun v1 =>
(cond v1.2.2
(cond (decide (40 < v1.1))
(some ((-1)))
(some (v1.1)))
(some ((-1)))))
def G.laws_equalTexts.L1 (f : Nat) (a_a1 : List Txt) (a_b1 : List Txt) (x_i2 : Int) : Option (Bool) := match f with
| 0 => none
| n + 1 =>
(cond (decide (x_i2 < ((a_a1.length : Nat) : Int)))
(chk (0 ≤ x_i2 ∧ x_i2 < ((a_a1.length : Nat) : Int))
(chk (0 ≤ x_i2 ∧ x_i2 < ((a_b1.length : Nat) : Int))
(cond ((a_a1.getD x_i2.toNat default) == (a_b1.getD x_i2.toNat default))
(G.laws_equalTexts.L1 n a_a1 a_b1 (IntKind.wrap .i64 (x_i2 + 1)))
(some (false)))))
(some (true)))
def G.laws_equalTexts (f : Nat) (a_a1 : List Txt) (a_b1 : List Txt) : Option (Bool) := match f with
| 0 => none
| n + 1 =>
(cond (((a_a1.length : Nat) : Int) != ((a_b1.length : Nat) : Int))
(some (false))
(G.laws_equalTexts.L1 n a_a1 a_b1 0))
mutual
def G.laws_equalNode (f : Nat) (a_a1 : NodeT) (a_b1 : NodeT) : Option (Bool) := match f with
| 0 => none
| n + 1 =>
(cond (a_a1.Kind == a_b1.Kind)
(cond (a_a1.Num == a_b1.Num)
(cond (a_a1.Text == a_b1.Text)
(Option.bind (G.laws_equalTexts n a_a1.Names a_b1.Names) fun v1 =>
(cond v1
(Option.bind (G.laws_equalNodes n a_a1.Kids a_b1.Kids) fun v2 =>
(some (v2)))
(some (false))))
(some (false)))
(some (false)))
(some (false)))
def G.laws_equalNodes.L1 (f : Nat) (a_a1 : List NodeT) (a_b1 : List NodeT) (x_i2 : Int) : Option (Bool) := match f with
| 0 => none
| n + 1 =>
(cond (decide (x_i2 < ((a_a1.length : Nat) : Int)))
(chk (0 ≤ x_i2 ∧ x_i2 < ((a_a1.length : Nat) : Int))
(chk (0 ≤ x_i2 ∧ x_i2 < ((a_b1.length : Nat) : Int))
(Option.bind (G.laws_equalNode n (a_a1.getD x_i2.toNat default) (a_b1.getD x_i2.toNat default)) fun v3 =>
(cond v3
(G.laws_equalNodes.L1 n a_a1 a_b1 (IntKind.wrap .i64 (x_i2 + 1)))
(some (false))))))
(some (true)))
def G.laws_equalNodes (f : Nat) (a_a1 : List NodeT) (a_b1 : List NodeT) : Option (Bool) := match f with
| 0 => none
| n + 1 =>
(cond (((a_a1.length : Nat) : Int) != ((a_b1.length : Nat) : Int))
(some (false))
(G.laws_equalNodes.L1 n a_a1 a_b1 0))
end
mutual
def G.spec_copyNode.L1 (f : Nat) (a_n1 : NodeT) (x_i2 : Int) (z2 : List NodeT) : Option (NodeT) := match f with
| 0 => none
| n + 1 =>
(cond (decide (x_i2 < ((a_n1.Kids.length : Nat) : Int)))
(chk (0 ≤ x_i2 ∧ x_i2 < ((a_n1.Kids.length : Nat) : Int))
(Option.bind (G.spec_copyNode n (a_n1.Kids.getD x_i2.toNat default)) fun v3 =>
(chk ((z2.length + 1) * 86 ≤ 2 ^ 46)
(G.spec_copyNode.L1 n a_n1 (IntKind.wrap .i64 (x_i2 + 1)) (z2 ++ [v3])))))
(chk (a_n1.Names.length * 18 ≤ 2 ^ 46)
(some ((NodeT.mk a_n1.Kind a_n1.Num a_n1.Text a_n1.Names z2)))))
def G.spec_copyNode (f : Nat) (a_n1 : NodeT) : Option (NodeT) := match f with
| 0 => none
| n + 1 =>
(G.spec_copyNode.L1 n a_n1 0 [])
end
mutual
def G.spec_decimal (f : Nat) (a_n1 : Int) : Option (Txt) := match f with
| 0 => none
| n + 1 =>
(cond (decide (a_n1 < 0))
(cond (a_n1 == (IntKind.wrap .i64 (0 - a_n1)))
(some ([45, 57, 50, 50, 51, 51, 55, 50, 48, 51, 54, 56, 53, 52, 55, 55, 53, 56, 48, 56]))
(Option.bind (G.spec_decimal n (IntKind.wrap .i64 (0 - a_n1))) fun v1 =>
(chk (1 + v1.length ≤ maxLen)
(some (([45] ++ v1))))))
(cond (decide (a_n1 < 10))
(chk (1 ≤ maxLen)
(some ([UInt8.ofNat (IntKind.wrap .u8 ((IntKind.wrap .i64 (48 + a_n1)))).toNat])))
(Option.bind (G.spec_decimal n (IntKind.wrap .i64 (Int.tdiv a_n1 10))) fun v2 =>
(chk (1 ≤ maxLen)
(chk (v2.length + 1 ≤ maxLen)
(some ((v2 ++ [UInt8.ofNat (IntKind.wrap .u8 ((IntKind.wrap .i64 (48 + (Int.tmod a_n1 10))))).toNat]))))))))
end
def G.spec_place.L1 (f : Nat) (a_n1 : NodeT) (a_step1 : Txt) (x_i2 : Int) : Option (Int) := match f with
| 0 => none
| n + 1 =>
(cond (decide (x_i2 < ((a_n1.Kids.length : Nat) : Int)))
(cond (a_n1.Kind == 4)
(chk (0 ≤ x_i2 ∧ x_i2 < ((a_n1.Names.length : Nat) : Int))
(cond ((a_n1.Names.getD x_i2.toNat default) == a_step1)
(some (x_i2))
(cond (a_n1.Kind == 3)
(Option.bind (G.spec_decimal n x_i2) fun v5 =>
(cond (v5 == a_step1)
(some (x_i2))
(G.spec_place.L1 n a_n1 a_step1 (IntKind.wrap .i64 (x_i2 + 1)))))
(G.spec_place.L1 n a_n1 a_step1 (IntKind.wrap .i64 (x_i2 + 1))))))
(cond (a_n1.Kind == 3)
(Option.bind (G.spec_decimal n x_i2) fun v6 =>
(cond (v6 == a_step1)
(some (x_i2))
(G.spec_place.L1 n a_n1 a_step1 (IntKind.wrap .i64 (x_i2 + 1)))))
(G.spec_place.L1 n a_n1 a_step1 (IntKind.wrap .i64 (x_i2 + 1)))))
(some ((-1))))
def G.spec_place (f : Nat) (a_n1 : NodeT) (a_step1 : Txt) : Option (Int) := match f with
| 0 => none
| n + 1 =>
(G.spec_place.L1 n a_n1 a_step1 0)
def G.spec_slot.L1 (f : Nat) (a_n1 : NodeT) (a_step1 : Txt) (x_i2 : Int) : Option (Int × Bool) := match f with
| 0 => none
| n + 1 =>
(cond (a_n1.Kind == 4)
(cond (decide (x_i2 ≤ ((a_n1.Kids.length : Nat) : Int)))
(cond (x_i2 == ((a_n1.Kids.length : Nat) : Int))
(some (x_i2, false))
(chk (0 ≤ x_i2 ∧ x_i2 < ((a_n1.Names.length : Nat) : Int))
(cond (Op.bytesLess a_step1 (a_n1.Names.getD x_i2.toNat default))
(some (x_i2, false))
(G.spec_slot.L1 n a_n1 a_step1 (IntKind.wrap .i64 (x_i2 + 1))))))
(some ((-1), false)))
(some ((-1), false)))
def G.spec_slot.L2 (f : Nat) (a_n1 : NodeT) (a_step1 : Txt) (x_i4 : Int) : Option (Int × Bool) := match f with
| 0 => none
| n + 1 =>
(cond (a_n1.Kind == 4)
(cond (decide (x_i4 ≤ ((a_n1.Kids.length : Nat) : Int)))
(cond (x_i4 == ((a_n1.Kids.length : Nat) : Int))
(some (x_i4, false))
(chk (0 ≤ x_i4 ∧ x_i4 < ((a_n1.Names.length : Nat) : Int))
(cond (Op.bytesLess a_step1 (a_n1.Names.getD x_i4.toNat default))
(some (x_i4, false))
(G.spec_slot.L2 n a_n1 a_step1 (IntKind.wrap .i64 (x_i4 + 1))))))
(some ((-1), false)))
(some ((-1), false)))
def G.spec_slot (f : Nat) (a_n1 : NodeT) (a_step1 : Txt) : Option (Int × Bool) := match f with
| 0 => none
| n + 1 =>
(Option.bind (G.spec_place n a_n1 a_step1) fun v1 =>
(cond (decide (0 ≤ v1))
(some (v1, (a_n1.Kind == 4)))
(cond (a_n1.Kind == 3)
(cond (a_step1 == [45])
(some (((a_n1.Kids.length : Nat) : Int), false))
(Option.bind (G.spec_decimal n ((a_n1.Kids.length : Nat) : Int)) fun v2 =>
(cond (a_step1 == v2)
(some (((a_n1.Kids.length : Nat) : Int), false))
(G.spec_slot.L1 n a_n1 a_step1 0))))
(G.spec_slot.L2 n a_n1 a_step1 0))))
def G.spec_withKid (f : Nat) (a_n1 : NodeT) (a_k1 : Int) (a_kid1 : NodeT) : Option (NodeT) := match f with
| 0 => none
| n + 1 =>
(Option.bind (G.spec_copyNode n a_n1) fun v1 =>
(Option.bind (G.spec_copyNode n a_kid1) fun v2 =>
(chk (0 ≤ a_k1 ∧ a_k1 < ((v1.Kids.length : Nat) : Int))
(some ((NodeT.mk v1.Kind v1.Num v1.Text v1.Names (v1.Kids.set a_k1.toNat v2)))))))
def G.spec_addHere (f : Nat) (a_n1 : NodeT) (a_step1 : Txt) (a_value1 : NodeT) : Option (NodeT × Bool) := match f with
| 0 => none
| n + 1 =>
(Option.bind (G.spec_slot n a_n1 a_step1) fun v1 =>
(cond (decide (v1.1 < 0))
(some ((NodeT.mk 0 0 [] [] []), false))
(cond v1.2
(Option.bind (G.spec_withKid n a_n1 v1.1 a_value1) fun v2 =>
(some (v2, true)))
(Option.bind (G.spec_copyNode n a_n1) fun v3 =>
(chk (0 ≤ 0 ∧ 0 ≤ v1.1 ∧ v1.1 ≤ ((v3.Kids.length : Nat) : Int))
(chk (((v3.Kids.take v1.1.toNat).length) * 86 ≤ 2 ^ 46)
(Option.bind (G.spec_copyNode n a_value1) fun v4 =>
(chk (((v3.Kids.take v1.1.toNat).length + 1) * 86 ≤ 2 ^ 46)
(chk (0 ≤ v1.1 ∧ v1.1 ≤ ((v3.Kids.length : Nat) : Int) ∧ ((v3.Kids.length : Nat) : Int) ≤ ((v3.Kids.length : Nat) : Int))
(chk ((((v3.Kids.take v1.1.toNat).length + 1) + (v3.Kids.drop v1.1.toNat).length) * 86 ≤ 2 ^ 46)
(cond (a_n1.Kind == 3)
(some ((NodeT.mk a_n1.Kind 0 [] [] (((v3.Kids.take v1.1.toNat) ++ [v4]) ++ (v3.Kids.drop v1.1.toNat))), true))
(chk (0 ≤ 0 ∧ 0 ≤ v1.1 ∧ v1.1 ≤ ((v3.Names.length : Nat) : Int))
(chk (((v3.Names.take v1.1.toNat).length) * 18 ≤ 2 ^ 46)
(chk (((v3.Names.take v1.1.toNat).length + 1) * 18 ≤ 2 ^ 46)
(chk (0 ≤ v1.1 ∧ v1.1 ≤ ((v3.Names.length : Nat) : Int) ∧ ((v3.Names.length : Nat) : Int) ≤ ((v3.Names.length : Nat) : Int))
(chk ((((v3.Names.take v1.1.toNat).length + 1) + (v3.Names.drop v1.1.toNat).length) * 18 ≤ 2 ^ 46)
(some ((NodeT.mk a_n1.Kind 0 [] (((v3.Names.take v1.1.toNat) ++ [a_step1]) ++ (v3.Names.drop v1.1.toNat)) (((v3.Kids.take v1.1.toNat) ++ [v4]) ++ (v3.Kids.drop v1.1.toNat))), true))))))))))))))))))
def G.spec_at.L1 (f : Nat) (a_path1 : List Txt) (x_i2 : Int) (y6 : Int) (y7 : Int) (y8 : Txt) (y9 : List Txt) (y10 : List NodeT) : Option (NodeT × Bool) := match f with
| 0 => none
| n + 1 =>
(cond (decide (x_i2 < ((a_path1.length : Nat) : Int)))
(chk (0 ≤ x_i2 ∧ x_i2 < ((a_path1.length : Nat) : Int))
(Option.bind (G.spec_place n (NodeT.mk y6 y7 y8 y9 y10) (a_path1.getD x_i2.toNat default)) fun v3 =>
(cond (decide (v3 < 0))
(some ((NodeT.mk 0 0 [] [] []), false))
(chk (0 ≤ v3 ∧ v3 < ((y10.length : Nat) : Int))
(G.spec_at.L1 n a_path1 (IntKind.wrap .i64 (x_i2 + 1)) ((y10.getD v3.toNat default).Kind) ((y10.getD v3.toNat default).Num) ((y10.getD v3.toNat default).Text) ((y10.getD v3.toNat default).Names) ((y10.getD v3.toNat default).Kids))))))
(Option.bind (G.spec_copyNode n (NodeT.mk y6 y7 y8 y9 y10)) fun v4 =>
(some (v4, true))))
def G.spec_at (f : Nat) (a_n1 : NodeT) (a_path1 : List Txt) : Option (NodeT × Bool) := match f with
| 0 => none
| n + 1 =>
(G.spec_at.L1 n a_path1 0 a_n1.Kind a_n1.Num a_n1.Text a_n1.Names a_n1.Kids)
mutual
def G.spec_setAt (f : Nat) (a_n1 : NodeT) (a_path1 : List Txt) (a_value1 : NodeT) : Option (NodeT × Bool) := match f with
| 0 => none
| n + 1 =>
(cond (((a_path1.length : Nat) : Int) == 0)
(Option.bind (G.spec_copyNode n a_value1) fun v1 =>
(some (v1, true)))
(chk (0 ≤ 0 ∧ 0 < ((a_path1.length : Nat) : Int))
(Option.bind (G.spec_place n a_n1 (a_path1.getD 0 default)) fun v2 =>
(cond (decide (v2 < 0))
(some ((NodeT.mk 0 0 [] [] []), false))
(chk (0 ≤ v2 ∧ v2 < ((a_n1.Kids.length : Nat) : Int))
(chk (0 ≤ 1 ∧ 1 ≤ ((a_path1.length : Nat) : Int) ∧ ((a_path1.length : Nat) : Int) ≤ ((a_path1.length : Nat) : Int))
(Option.bind (G.spec_setAt n (a_n1.Kids.getD v2.toNat default) (a_path1.drop 1) a_value1) fun v3 =>
(cond v3.2
(Option.bind (G.spec_withKid n a_n1 v2 v3.1) fun v4 =>
(some (v4, true)))
(some ((NodeT.mk 0 0 [] [] []), false))))))))))
end
def G.spec_addAt (f : Nat) (a_n1 : NodeT) (a_path1 : List Txt) (a_value1 : NodeT) : Option (NodeT × Bool) := match f with
| 0 => none
| n + 1 =>
(cond (((a_path1.length : Nat) : Int) == 0)
(Option.bind (G.spec_copyNode n a_value1) fun v1 =>
(some (v1, true)))
(chk (0 ≤ 0 ∧ 0 ≤ (IntKind.wrap .i64 (((a_path1.length : Nat) : Int) - 1)) ∧ (IntKind.wrap .i64 (((a_path1.length : Nat) : Int) - 1)) ≤ ((a_path1.length : Nat) : Int))
(Option.bind (G.spec_at n a_n1 (a_path1.take ((IntKind.wrap .i64 (((a_path1.length : Nat) : Int) - 1)).toNat))) fun v2 =>
(cond v2.2
(chk (0 ≤ (IntKind.wrap .i64 (((a_path1.length : Nat) : Int) - 1)) ∧ (IntKind.wrap .i64 (((a_path1.length : Nat) : Int) - 1)) < ((a_path1.length : Nat) : Int))
(Option.bind (G.spec_addHere n v2.1 (a_path1.getD (IntKind.wrap .i64 (((a_path1.length : Nat) : Int) - 1)).toNat default) a_value1) fun v3 =>
(cond v3.2
(chk (0 ≤ 0 ∧ 0 ≤ (IntKind.wrap .i64 (((a_path1.length : Nat) : Int) - 1)) ∧ (IntKind.wrap .i64 (((a_path1.length : Nat) : Int) - 1)) ≤ ((a_path1.length : Nat) : Int))
(Option.bind (G.spec_setAt n a_n1 (a_path1.take ((IntKind.wrap .i64 (((a_path1.length : Nat) : Int) - 1)).toNat)) v3.1) fun v4 =>
(some (v4.1, v4.2))))
(some ((NodeT.mk 0 0 [] [] []), false)))))
(some ((NodeT.mk 0 0 [] [] []), false))))))
def G.spec_begins.L1 (f : Nat) (a_path1 : List Txt) (a_with1 : List Txt) (x_i2 : Int) : Option (Bool) := match f with
| 0 => none
| n + 1 =>
(cond (decide (x_i2 < ((a_with1.length : Nat) : Int)))
(cond (decide (((a_path1.length : Nat) : Int) ≤ x_i2))
(some (false))
(chk (0 ≤ x_i2 ∧ x_i2 < ((a_path1.length : Nat) : Int))
(chk (0 ≤ x_i2 ∧ x_i2 < ((a_with1.length : Nat) : Int))
(cond ((a_path1.getD x_i2.toNat default) == (a_with1.getD x_i2.toNat default))
(G.spec_begins.L1 n a_path1 a_with1 (IntKind.wrap .i64 (x_i2 + 1)))
(some (false))))))
(some (true)))
def G.spec_begins (f : Nat) (a_path1 : List Txt) (a_with1 : List Txt) : Option (Bool) := match f with
| 0 => none
| n + 1 =>
(G.spec_begins.L1 n a_path1 a_with1 0)
def G.spec_removeAt.K1 (f : Nat) (a_n1 : NodeT) (a_path1 : List Txt) (v1 : NodeT × Bool) (z1 : List NodeT) (z2 : List Txt) : Option (NodeT × Bool) := match f with
| 0 => none
| n + 1 =>
(chk (0 ≤ 0 ∧ 0 ≤ (IntKind.wrap .i64 (((a_path1.length : Nat) : Int) - 1)) ∧ (IntKind.wrap .i64 (((a_path1.length : Nat) : Int) - 1)) ≤ ((a_path1.length : Nat) : Int))
(Option.bind (G.spec_setAt n a_n1 (a_path1.take ((IntKind.wrap .i64 (((a_path1.length : Nat) : Int) - 1)).toNat)) (NodeT.mk v1.1.Kind 0 [] z2 z1)) fun v3 =>
(some (v3.1, v3.2))))
def G.spec_removeAt (f : Nat) (a_n1 : NodeT) (a_path1 : List Txt) : Option (NodeT × Bool) := match f with
| 0 => none
| n + 1 =>
(cond (decide ((IntKind.wrap .i64 (((a_path1.length : Nat) : Int) - 1)) < 0))
(some ((NodeT.mk 0 0 [] [] []), false))
(chk (0 ≤ 0 ∧ 0 ≤ (IntKind.wrap .i64 (((a_path1.length : Nat) : Int) - 1)) ∧ (IntKind.wrap .i64 (((a_path1.length : Nat) : Int) - 1)) ≤ ((a_path1.length : Nat) : Int))
(Option.bind (G.spec_at n a_n1 (a_path1.take ((IntKind.wrap .i64 (((a_path1.length : Nat) : Int) - 1)).toNat))) fun v1 =>
(cond v1.2
(chk (0 ≤ (IntKind.wrap .i64 (((a_path1.length : Nat) : Int) - 1)) ∧ (IntKind.wrap .i64 (((a_path1.length : Nat) : Int) - 1)) < ((a_path1.length : Nat) : Int))
(Option.bind (G.spec_place n v1.1 (a_path1.getD (IntKind.wrap .i64 (((a_path1.length : Nat) : Int) - 1)).toNat default)) fun v2 =>
(cond (decide (v2 < 0))
(some ((NodeT.mk 0 0 [] [] []), false))
(chk (0 ≤ 0 ∧ 0 ≤ v2 ∧ v2 ≤ ((v1.1.Kids.length : Nat) : Int))
(chk (((v1.1.Kids.take v2.toNat).length) * 86 ≤ 2 ^ 46)
(chk (0 ≤ (IntKind.wrap .i64 (v2 + 1)) ∧ (IntKind.wrap .i64 (v2 + 1)) ≤ ((v1.1.Kids.length : Nat) : Int) ∧ ((v1.1.Kids.length : Nat) : Int) ≤ ((v1.1.Kids.length : Nat) : Int))
(chk (((v1.1.Kids.take v2.toNat).length + (v1.1.Kids.drop ((IntKind.wrap .i64 (v2 + 1)).toNat)).length) * 86 ≤ 2 ^ 46)
(cond (v1.1.Kind == 4)
(chk (0 ≤ 0 ∧ 0 ≤ v2 ∧ v2 ≤ ((v1.1.Names.length : Nat) : Int))
(chk (((v1.1.Names.take v2.toNat).length) * 18 ≤ 2 ^ 46)
(chk (0 ≤ (IntKind.wrap .i64 (v2 + 1)) ∧ (IntKind.wrap .i64 (v2 + 1)) ≤ ((v1.1.Names.length : Nat) : Int) ∧ ((v1.1.Names.length : Nat) : Int) ≤ ((v1.1.Names.length : Nat) : Int))
(chk (((v1.1.Names.take v2.toNat).length + (v1.1.Names.drop ((IntKind.wrap .i64 (v2 + 1)).toNat)).length) * 18 ≤ 2 ^ 46)
(G.spec_removeAt.K1 n a_n1 a_path1 v1 ((v1.1.Kids.take v2.toNat) ++ (v1.1.Kids.drop ((IntKind.wrap .i64 (v2 + 1)).toNat))) ((v1.1.Names.take v2.toNat) ++ (v1.1.Names.drop ((IntKind.wrap .i64 (v2 + 1)).toNat))))))))
(G.spec_removeAt.K1 n a_n1 a_path1 v1 ((v1.1.Kids.take v2.toNat) ++ (v1.1.Kids.drop ((IntKind.wrap .i64 (v2 + 1)).toNat))) [])))))))))
(some ((NodeT.mk 0 0 [] [] []), false))))))
def G.spec_toInt (f : Nat) (a_b1 : Bool) : Option (Int) := match f with
| 0 => none
| n + 1 =>
(cond a_b1
(some (1))
(some (0)))
def G.spec_order (f : Nat) (a_a1 : Int) (a_b1 : Int) : Option (Int) := match f with
| 0 => none
| n + 1 =>
(Option.bind (G.spec_toInt n (decide (a_b1 < a_a1))) fun v1 =>
(Option.bind (G.spec_toInt n (decide (a_a1 < a_b1))) fun v2 =>
(some ((IntKind.wrap .i64 (v1 - v2))))))
def G.spec_orderText (f : Nat) (a_a1 : Txt) (a_b1 : Txt) : Option (Int) := match f with
| 0 => none
| n + 1 =>
(cond (Op.bytesLess a_a1 a_b1)
(Option.bind (G.spec_toInt n false) fun v1 =>
(Option.bind (G.spec_toInt n true) fun v2 =>
(some ((IntKind.wrap .i64 (v1 - v2))))))
(cond (a_a1 == a_b1)
(Option.bind (G.spec_toInt n false) fun v3 =>
(Option.bind (G.spec_toInt n false) fun v4 =>
(some ((IntKind.wrap .i64 (v3 - v4))))))
(Option.bind (G.spec_toInt n true) fun v5 =>
(Option.bind (G.spec_toInt n false) fun v6 =>
(some ((IntKind.wrap .i64 (v5 - v6))))))))
mutual
def G.spec_compare.L1 (f : Nat) (a_a1 : NodeT) (a_b1 : NodeT) (x_i2 : Int) : Option (Int) := match f with
| 0 => none
| n + 1 =>
(cond (decide (x_i2 < ((a_a1.Kids.length : Nat) : Int)))
(cond (decide (x_i2 < ((a_b1.Kids.length : Nat) : Int)))
(cond (a_a1.Kind == 4)
(chk (0 ≤ x_i2 ∧ x_i2 < ((a_a1.Names.length : Nat) : Int))
(chk (0 ≤ x_i2 ∧ x_i2 < ((a_b1.Names.length : Nat) : Int))
(cond ((a_a1.Names.getD x_i2.toNat default) == (a_b1.Names.getD x_i2.toNat default))
(chk (0 ≤ x_i2 ∧ x_i2 < ((a_a1.Kids.length : Nat) : Int))
(chk (0 ≤ x_i2 ∧ x_i2 < ((a_b1.Kids.length : Nat) : Int))
(Option.bind (G.spec_compare n (a_a1.Kids.getD x_i2.toNat default) (a_b1.Kids.getD x_i2.toNat default)) fun v9 =>
(cond (v9 != 0)
(some (v9))
(G.spec_compare.L1 n a_a1 a_b1 (IntKind.wrap .i64 (x_i2 + 1)))))))
(chk (0 ≤ x_i2 ∧ x_i2 < ((a_a1.Names.length : Nat) : Int))
(chk (0 ≤ x_i2 ∧ x_i2 < ((a_b1.Names.length : Nat) : Int))
(Option.bind (G.spec_orderText n (a_a1.Names.getD x_i2.toNat default) (a_b1.Names.getD x_i2.toNat default)) fun v10 =>
(some (v10))))))))
(chk (0 ≤ x_i2 ∧ x_i2 < ((a_a1.Kids.length : Nat) : Int))
(chk (0 ≤ x_i2 ∧ x_i2 < ((a_b1.Kids.length : Nat) : Int))
(Option.bind (G.spec_compare n (a_a1.Kids.getD x_i2.toNat default) (a_b1.Kids.getD x_i2.toNat default)) fun v11 =>
(cond (v11 != 0)
(some (v11))
(G.spec_compare.L1 n a_a1 a_b1 (IntKind.wrap .i64 (x_i2 + 1))))))))
(Option.bind (G.spec_order n ((a_a1.Kids.length : Nat) : Int) ((a_b1.Kids.length : Nat) : Int)) fun v12 =>
(some (v12))))
(Option.bind (G.spec_order n ((a_a1.Kids.length : Nat) : Int) ((a_b1.Kids.length : Nat) : Int)) fun v13 =>
(some (v13))))
def G.spec_compare (f : Nat) (a_a1 : NodeT) (a_b1 : NodeT) : Option (Int) := match f with
| 0 => none
| n + 1 =>
(cond (a_a1.Kind != a_b1.Kind)
(Option.bind (G.spec_order n a_a1.Kind a_b1.Kind) fun v1 =>
(some (v1)))
(cond (a_a1.Num != a_b1.Num)
(Option.bind (G.spec_order n a_a1.Num a_b1.Num) fun v2 =>
(some (v2)))
(cond (a_a1.Text == a_b1.Text)
(G.spec_compare.L1 n a_a1 a_b1 0)
(Option.bind (G.spec_orderText n a_a1.Text a_b1.Text) fun v14 =>
(some (v14))))))
end
def G.spec_same (f : Nat) (a_a1 : NodeT) (a_b1 : NodeT) : Option (Bool) := match f with
| 0 => none
| n + 1 =>
(Option.bind (G.spec_compare n a_a1 a_b1) fun v1 =>
(some ((v1 == 0))))
def G.spec_apply.K1 (f : Nat) (a_n1 : NodeT) (a_o1 : OpT) (x_from1 : List Txt) : Option (NodeT × Bool) := match f with
| 0 => none
| n + 1 =>
(Option.bind (G.spec_at n a_n1 x_from1) fun v4 =>
(cond v4.2
(cond (a_o1.Kind == 6)
(Option.bind (G.spec_same n v4.1 a_o1.Value) fun v5 =>
(some (a_n1, v5)))
(cond (a_o1.Kind == 5)
(Option.bind (G.spec_addAt n a_n1 a_o1.Path v4.1) fun v6 =>
(some (v6.1, v6.2)))
(Option.bind (G.spec_begins n a_o1.Path a_o1.From) fun v7 =>
(cond v7
(Option.bind (G.spec_copyNode n a_n1) fun v8 =>
(some (v8, (((a_o1.Path.length : Nat) : Int) == ((a_o1.From.length : Nat) : Int)))))
(Option.bind (G.spec_removeAt n a_n1 a_o1.From) fun v9 =>
(cond v9.2
(Option.bind (G.spec_addAt n v9.1 a_o1.Path v4.1) fun v10 =>
(some (v10.1, v10.2)))
(some ((NodeT.mk 0 0 [] [] []), false))))))))
(some ((NodeT.mk 0 0 [] [] []), false))))
def G.spec_apply (f : Nat) (a_n1 : NodeT) (a_o1 : OpT) : Option (NodeT × Bool) := match f with
| 0 => none
| n + 1 =>
(cond (a_o1.Kind == 1)
(Option.bind (G.spec_addAt n a_n1 a_o1.Path a_o1.Value) fun v1 =>
(some (v1.1, v1.2)))
(cond (a_o1.Kind == 2)
(Option.bind (G.spec_removeAt n a_n1 a_o1.Path) fun v2 =>
(some (v2.1, v2.2)))
(cond (a_o1.Kind == 3)
(Option.bind (G.spec_setAt n a_n1 a_o1.Path a_o1.Value) fun v3 =>
(some (v3.1, v3.2)))
(cond (a_o1.Kind == 6)
(G.spec_apply.K1 n a_n1 a_o1 a_o1.Path)
(G.spec_apply.K1 n a_n1 a_o1 a_o1.From)))))
mutual
def G.spec_count.L1 (f : Nat) (a_n1 : NodeT) (x_k2 : Int) (x_i2 : Int) : Option (Int) := match f with
| 0 => none
| n + 1 =>
(cond (decide (x_i2 < ((a_n1.Kids.length : Nat) : Int)))
(chk (0 ≤ x_i2 ∧ x_i2 < ((a_n1.Kids.length : Nat) : Int))
(Option.bind (G.spec_count n (a_n1.Kids.getD x_i2.toNat default)) fun v3 =>
(G.spec_count.L1 n a_n1 (IntKind.wrap .i64 (x_k2 + v3)) (IntKind.wrap .i64 (x_i2 + 1)))))
(some (x_k2)))
def G.spec_count (f : Nat) (a_n1 : NodeT) : Option (Int) := match f with
| 0 => none
| n + 1 =>
(G.spec_count.L1 n a_n1 1 0)
end
def G.spec_inRange (f : Nat) (a_n1 : Int) (a_low1 : Int) (a_high1 : Int) : Option (Bool) := match f with
| 0 => none
| n + 1 =>
(cond (decide (a_low1 ≤ a_n1))
(some ((decide (a_n1 ≤ a_high1))))
(some (false)))
def G.spec_validText.L1 (f : Nat) (a_s1 : Txt) (x_i2 : Int) : Option (Bool) := match f with
| 0 => none
| n + 1 =>
(cond (decide (x_i2 < ((a_s1.length : Nat) : Int)))
(chk (0 ≤ x_i2 ∧ x_i2 < ((a_s1.length : Nat) : Int))
(Option.bind (G.spec_inRange n (IntKind.wrap .i64 ((((a_s1.getD x_i2.toNat 0).toNat : Nat) : Int))) 32 126) fun v3 =>
(cond v3
(G.spec_validText.L1 n a_s1 (IntKind.wrap .i64 (x_i2 + 1)))
(some (false)))))
(some ((decide (((a_s1.length : Nat) : Int) ≤ 12)))))
def G.spec_validText (f : Nat) (a_s1 : Txt) : Option (Bool) := match f with
| 0 => none
| n + 1 =>
(G.spec_validText.L1 n a_s1 0)
def G.spec_names.L1 (f : Nat) (a_list1 : List Txt) (x_i2 : Int) : Option (Bool) := match f with
| 0 => none
| n + 1 =>
(cond (decide (x_i2 < ((a_list1.length : Nat) : Int)))
(chk (0 ≤ x_i2 ∧ x_i2 < ((a_list1.length : Nat) : Int))
(Option.bind (G.spec_validText n (a_list1.getD x_i2.toNat default)) fun v3 =>
(cond v3
(cond (decide (0 < x_i2))
(chk (0 ≤ x_i2 ∧ x_i2 < ((a_list1.length : Nat) : Int))
(chk (0 ≤ (IntKind.wrap .i64 (x_i2 - 1)) ∧ (IntKind.wrap .i64 (x_i2 - 1)) < ((a_list1.length : Nat) : Int))
(cond (Op.bytesLess (a_list1.getD x_i2.toNat default) (a_list1.getD (IntKind.wrap .i64 (x_i2 - 1)).toNat default))
(some (false))
(cond ((a_list1.getD x_i2.toNat default) == (a_list1.getD (IntKind.wrap .i64 (x_i2 - 1)).toNat default))
(some (false))
(G.spec_names.L1 n a_list1 (IntKind.wrap .i64 (x_i2 + 1)))))))
(G.spec_names.L1 n a_list1 (IntKind.wrap .i64 (x_i2 + 1))))
(some (false)))))
(some (true)))
def G.spec_names (f : Nat) (a_list1 : List Txt) : Option (Bool) := match f with
| 0 => none
| n + 1 =>
(G.spec_names.L1 n a_list1 0)
mutual
def G.spec_kids.L1 (f : Nat) (a_n1 : NodeT) (a_depth1 : Int) (x_i2 : Int) : Option (Bool) := match f with
| 0 => none
| n + 1 =>
(cond (decide (x_i2 < ((a_n1.Kids.length : Nat) : Int)))
(chk (0 ≤ x_i2 ∧ x_i2 < ((a_n1.Kids.length : Nat) : Int))
(Option.bind (G.spec_shape n (a_n1.Kids.getD x_i2.toNat default) (IntKind.wrap .i64 (a_depth1 - 1))) fun v3 =>
(cond v3
(G.spec_kids.L1 n a_n1 a_depth1 (IntKind.wrap .i64 (x_i2 + 1)))
(some (false)))))
(some (true)))
def G.spec_kids (f : Nat) (a_n1 : NodeT) (a_depth1 : Int) : Option (Bool) := match f with
| 0 => none
| n + 1 =>
(G.spec_kids.L1 n a_n1 a_depth1 0)
def G.spec_shape.K1 (f : Nat) (a_n1 : NodeT) (a_depth1 : Int) : Option (Bool) := match f with
| 0 => none
| n + 1 =>
(cond (a_n1.Kind == 1)
(Option.bind (G.spec_inRange n a_n1.Num (-999999) 999999) fun v1 =>
(some (v1)))
(cond (a_n1.Kind == 2)
(Option.bind (G.spec_validText n a_n1.Text) fun v2 =>
(some (v2)))
(cond (a_n1.Kind == 3)
(Option.bind (G.spec_kids n a_n1 a_depth1) fun v3 =>
(some (v3)))
(cond (a_n1.Kind == 4)
(cond (((a_n1.Names.length : Nat) : Int) == ((a_n1.Kids.length : Nat) : Int))
(Option.bind (G.spec_names n a_n1.Names) fun v4 =>
(cond v4
(Option.bind (G.spec_kids n a_n1 a_depth1) fun v5 =>
(some (v5)))
(some (false))))
(some (false)))
(some ((a_n1.Kind == 0)))))))
def G.spec_shape (f : Nat) (a_n1 : NodeT) (a_depth1 : Int) : Option (Bool) := match f with
| 0 => none
| n + 1 =>
(cond (a_depth1 == 0)
(some (false))
(cond (decide (6 < ((a_n1.Kids.length : Nat) : Int)))
(some (false))
(cond (a_n1.Kind != 1)
(cond (a_n1.Num != 0)
(some (false))
(cond (a_n1.Kind != 2)
(cond (a_n1.Text == [])
(cond (a_n1.Kind != 4)
(cond (decide (0 < ((a_n1.Names.length : Nat) : Int)))
(some (false))
(cond (decide (a_n1.Kind < 3))
(cond (decide (0 < ((a_n1.Kids.length : Nat) : Int)))
(some (false))
(G.spec_shape.K1 n a_n1 a_depth1))
(G.spec_shape.K1 n a_n1 a_depth1)))
(cond (decide (a_n1.Kind < 3))
(cond (decide (0 < ((a_n1.Kids.length : Nat) : Int)))
(some (false))
(G.spec_shape.K1 n a_n1 a_depth1))
(G.spec_shape.K1 n a_n1 a_depth1)))
(some (false)))
(cond (a_n1.Kind != 4)
(cond (decide (0 < ((a_n1.Names.length : Nat) : Int)))
(some (false))
(cond (decide (a_n1.Kind < 3))
(cond (decide (0 < ((a_n1.Kids.length : Nat) : Int)))
(some (false))
(G.spec_shape.K1 n a_n1 a_depth1))
(G.spec_shape.K1 n a_n1 a_depth1)))
(cond (decide (a_n1.Kind < 3))
(cond (decide (0 < ((a_n1.Kids.length : Nat) : Int)))
(some (false))
(G.spec_shape.K1 n a_n1 a_depth1))
(G.spec_shape.K1 n a_n1 a_depth1)))))
(cond (a_n1.Kind != 2)
(cond (a_n1.Text == [])
(cond (a_n1.Kind != 4)
(cond (decide (0 < ((a_n1.Names.length : Nat) : Int)))
(some (false))
(cond (decide (a_n1.Kind < 3))
(cond (decide (0 < ((a_n1.Kids.length : Nat) : Int)))
(some (false))
(G.spec_shape.K1 n a_n1 a_depth1))
(G.spec_shape.K1 n a_n1 a_depth1)))
(cond (decide (a_n1.Kind < 3))
(cond (decide (0 < ((a_n1.Kids.length : Nat) : Int)))
(some (false))
(G.spec_shape.K1 n a_n1 a_depth1))
(G.spec_shape.K1 n a_n1 a_depth1)))
(some (false)))
(cond (a_n1.Kind != 4)
(cond (decide (0 < ((a_n1.Names.length : Nat) : Int)))
(some (false))
(cond (decide (a_n1.Kind < 3))
(cond (decide (0 < ((a_n1.Kids.length : Nat) : Int)))
(some (false))
(G.spec_shape.K1 n a_n1 a_depth1))
(G.spec_shape.K1 n a_n1 a_depth1)))
(cond (decide (a_n1.Kind < 3))
(cond (decide (0 < ((a_n1.Kids.length : Nat) : Int)))
(some (false))
(G.spec_shape.K1 n a_n1 a_depth1))
(G.spec_shape.K1 n a_n1 a_depth1)))))))
end
def G.spec_validNode (f : Nat) (a_n1 : NodeT) : Option (Bool) := match f with
| 0 => none
| n + 1 =>
(Option.bind (G.spec_shape n a_n1 5) fun v1 =>
(cond v1
(Option.bind (G.spec_count n a_n1) fun v2 =>
(some ((decide (v2 ≤ 40)))))
(some (false))))
def G.spec_checked (f : Nat) (a_n1 : NodeT) (a_ok1 : Bool) : Option (NodeT × Bool) := match f with
| 0 => none
| n + 1 =>
(cond a_ok1
(Option.bind (G.spec_validNode n a_n1) fun v1 =>
(cond v1
(some (a_n1, true))
(some ((NodeT.mk 0 0 [] [] []), false))))
(some ((NodeT.mk 0 0 [] [] []), false)))
def G.spec_checkedOp (f : Nat) (a_n1 : NodeT) (a_o1 : OpT) : Option (NodeT × Bool) := match f with
| 0 => none
| n + 1 =>
(Option.bind (G.spec_apply n a_n1 a_o1) fun v1 =>
(Option.bind (G.spec_checked n v1.1 v1.2) fun v2 =>
(cond v2.2
(Option.bind (G.spec_copyNode n v2.1) fun v3 =>
(some (v3, true)))
(some ((NodeT.mk 0 0 [] [] []), false)))))
def G.spec_validPath.L1 (f : Nat) (a_path1 : List Txt) (x_i2 : Int) : Option (Bool) := match f with
| 0 => none
| n + 1 =>
(cond (decide (x_i2 < ((a_path1.length : Nat) : Int)))
(chk (0 ≤ x_i2 ∧ x_i2 < ((a_path1.length : Nat) : Int))
(Option.bind (G.spec_validText n (a_path1.getD x_i2.toNat default)) fun v3 =>
(cond v3
(G.spec_validPath.L1 n a_path1 (IntKind.wrap .i64 (x_i2 + 1)))
(some (false)))))
(some ((decide (((a_path1.length : Nat) : Int) ≤ 5)))))
def G.spec_validPath (f : Nat) (a_path1 : List Txt) : Option (Bool) := match f with
| 0 => none
| n + 1 =>
(G.spec_validPath.L1 n a_path1 0)
def G.spec_validOp (f : Nat) (a_o1 : OpT) : Option (Bool) := match f with
| 0 => none
| n + 1 =>
(Option.bind (G.spec_inRange n a_o1.Kind 1 6) fun v1 =>
(cond v1
(Option.bind (G.spec_validPath n a_o1.Path) fun v2 =>
(cond v2
(Option.bind (G.spec_validPath n a_o1.From) fun v3 =>
(cond v3
(Option.bind (G.spec_validNode n a_o1.Value) fun v4 =>
(some (v4)))
(some (false))))
(some (false))))
(some (false))))
def G.spec_ApplyOp (f : Nat) (a_n1 : NodeT) (a_o1 : OpT) : Option (NodeT × Bool) := match f with
| 0 => none
| n + 1 =>
(Option.bind (G.spec_validNode n a_n1) fun v1 =>
(cond v1
(Option.bind (G.spec_validOp n a_o1) fun v2 =>
(cond v2
(Option.bind (G.spec_checkedOp n a_n1 a_o1) fun v3 =>
(some (v3.1, v3.2)))
(some ((NodeT.mk 0 0 [] [] []), false))))
(some ((NodeT.mk 0 0 [] [] []), false))))
def G.spec_reader_pick (f : Nat) (p_r1 : ReaderT) (a_n1 : Int) : Option (Int × ReaderT) := match f with
| 0 => none
| n + 1 =>
(cond (decide (a_n1 < 1))
(some (0, (ReaderT.mk p_r1.b (IntKind.wrap .i64 (p_r1.p + 1)))))
(cond (((p_r1.b.length : Nat) : Int) == 0)
(some (0, (ReaderT.mk p_r1.b (IntKind.wrap .i64 (p_r1.p + 1)))))
(cond (decide ((IntKind.wrap .i64 ((IntKind.wrap .i64 (p_r1.p + 1)) - 1)) < ((p_r1.b.length : Nat) : Int)))
(chk (0 ≤ (IntKind.wrap .i64 ((IntKind.wrap .i64 (p_r1.p + 1)) - 1)) ∧ (IntKind.wrap .i64 ((IntKind.wrap .i64 (p_r1.p + 1)) - 1)) < ((p_r1.b.length : Nat) : Int))
(chk (a_n1 ≠ 0)
(some ((Int.tmod (IntKind.wrap .i64 ((p_r1.b.getD (IntKind.wrap .i64 ((IntKind.wrap .i64 (p_r1.p + 1)) - 1)).toNat default))) a_n1), (ReaderT.mk p_r1.b (IntKind.wrap .i64 (p_r1.p + 1)))))))
(chk (((p_r1.b.length : Nat) : Int) ≠ 0)
(chk (0 ≤ (Int.tmod (IntKind.wrap .i64 ((IntKind.wrap .i64 (p_r1.p + 1)) - 1)) ((p_r1.b.length : Nat) : Int)) ∧ (Int.tmod (IntKind.wrap .i64 ((IntKind.wrap .i64 (p_r1.p + 1)) - 1)) ((p_r1.b.length : Nat) : Int)) < ((p_r1.b.length : Nat) : Int))
(chk (((p_r1.b.length : Nat) : Int) ≠ 0)
(chk (0 ≤ (Int.tmod (IntKind.wrap .i64 ((IntKind.wrap .i64 ((IntKind.wrap .i64 ((IntKind.wrap .i64 (p_r1.p + 1)) - 1)) * 7)) + 3)) ((p_r1.b.length : Nat) : Int)) ∧ (Int.tmod (IntKind.wrap .i64 ((IntKind.wrap .i64 ((IntKind.wrap .i64 ((IntKind.wrap .i64 (p_r1.p + 1)) - 1)) * 7)) + 3)) ((p_r1.b.length : Nat) : Int)) < ((p_r1.b.length : Nat) : Int))
(chk (((p_r1.b.length : Nat) : Int) ≠ 0)
(chk (a_n1 ≠ 0)
(some ((Int.tmod (IntKind.wrap .i64 (((BitVec.ofInt (IntKind.bits .i64) (IntKind.wrap .i64 ((IntKind.wrap .i64 ((IntKind.wrap .i64 ((IntKind.wrap .i64 ((IntKind.wrap .i64 ((p_r1.b.getD (Int.tmod (IntKind.wrap .i64 ((IntKind.wrap .i64 (p_r1.p + 1)) - 1)) ((p_r1.b.length : Nat) : Int)).toNat default))) * 131)) + (IntKind.wrap .i64 ((IntKind.wrap .i64 ((p_r1.b.getD (Int.tmod (IntKind.wrap .i64 ((IntKind.wrap .i64 ((IntKind.wrap .i64 ((IntKind.wrap .i64 (p_r1.p + 1)) - 1)) * 7)) + 3)) ((p_r1.b.length : Nat) : Int)).toNat default))) * 1117)))) + (IntKind.wrap .i64 ((IntKind.wrap .i64 ((IntKind.wrap .i64 (p_r1.p + 1)) - 1)) * 29)))) + (IntKind.wrap .i64 ((IntKind.wrap .i64 (Int.tdiv (IntKind.wrap .i64 ((IntKind.wrap .i64 (p_r1.p + 1)) - 1)) ((p_r1.b.length : Nat) : Int))) * 53)))) ^^^ BitVec.ofInt (IntKind.bits .i64) (IntKind.wrap .i64 (Int.tdiv (IntKind.wrap .i64 ((IntKind.wrap .i64 ((IntKind.wrap .i64 ((IntKind.wrap .i64 ((IntKind.wrap .i64 ((p_r1.b.getD (Int.tmod (IntKind.wrap .i64 ((IntKind.wrap .i64 (p_r1.p + 1)) - 1)) ((p_r1.b.length : Nat) : Int)).toNat default))) * 131)) + (IntKind.wrap .i64 ((IntKind.wrap .i64 ((p_r1.b.getD (Int.tmod (IntKind.wrap .i64 ((IntKind.wrap .i64 ((IntKind.wrap .i64 ((IntKind.wrap .i64 (p_r1.p + 1)) - 1)) * 7)) + 3)) ((p_r1.b.length : Nat) : Int)).toNat default))) * 1117)))) + (IntKind.wrap .i64 ((IntKind.wrap .i64 ((IntKind.wrap .i64 (p_r1.p + 1)) - 1)) * 29)))) + (IntKind.wrap .i64 ((IntKind.wrap .i64 (Int.tdiv (IntKind.wrap .i64 ((IntKind.wrap .i64 (p_r1.p + 1)) - 1)) ((p_r1.b.length : Nat) : Int))) * 53)))) 64))).toNat : Int))) a_n1), (ReaderT.mk p_r1.b (IntKind.wrap .i64 (p_r1.p + 1))))))))))))))
def G.spec_reader_one (f : Nat) (p_r1 : ReaderT) (a_list1 : List Int) : Option (Int × ReaderT) := match f with
| 0 => none
| n + 1 =>
(Option.bind (G.spec_reader_pick n p_r1 ((a_list1.length : Nat) : Int)) fun v1 =>
(chk (0 ≤ v1.1 ∧ v1.1 < ((a_list1.length : Nat) : Int))
(some ((a_list1.getD v1.1.toNat default), v1.2))))
def G.spec_reader_of (f : Nat) (p_r1 : ReaderT) (a_list1 : List Txt) : Option (Txt × ReaderT) := match f with
| 0 => none
| n + 1 =>
(Option.bind (G.spec_reader_pick n p_r1 ((a_list1.length : Nat) : Int)) fun v1 =>
(chk (0 ≤ v1.1 ∧ v1.1 < ((a_list1.length : Nat) : Int))
(some ((a_list1.getD v1.1.toNat default), v1.2))))
def G.spec_someText (f : Nat) (p_r1 : ReaderT) : Option (Txt × ReaderT) := match f with
| 0 => none
| n + 1 =>
(Option.bind (G.spec_reader_of n p_r1 [[97], [98], [], [97, 98, 99], [97, 47, 98], [126], [120, 32, 121], [34, 113, 34], [98, 97, 99, 107, 92, 115], [48], [49], [97, 98, 99, 100, 101, 102, 103, 104, 105, 106, 107, 108]]) fun v1 =>
(some (v1.1, v1.2)))
def G.spec_someName (f : Nat) (p_r1 : ReaderT) : Option (Txt × ReaderT) := match f with
| 0 => none
| n + 1 =>
(Option.bind (G.spec_reader_of n p_r1 [[97], [98], [99], [100], [97, 47, 98], [126, 120], [], [107]]) fun v1 =>
(some (v1.1, v1.2)))
mutual
def G.spec_randomMap.L1 (f : Nat) (a_depth1 : Int) (x_n2 : Int) (y8 : List Int) (y9 : Int) (y10 : Int) (y11 : Int) (y12 : Txt) (y13 : List Txt) (y14 : List NodeT) : Option (NodeT × ReaderT) := match f with
| 0 => none
| n + 1 =>
(cond (decide (0 < x_n2))
(Option.bind (G.spec_someName n (ReaderT.mk y8 y9)) fun v10 =>
(Option.bind (G.spec_randomNode n v10.2 (IntKind.wrap .i64 (a_depth1 - 1))) fun v11 =>
(Option.bind (G.spec_place n (NodeT.mk y10 y11 y12 y13 y14) v10.1) fun v12 =>
(cond (decide (v12 < 0))
(Option.bind (G.spec_addHere n (NodeT.mk y10 y11 y12 y13 y14) v10.1 v11.1) fun v13 =>
(G.spec_randomMap.L1 n a_depth1 (IntKind.wrap .i64 (x_n2 - 1)) v11.2.b v11.2.p v13.1.Kind v13.1.Num v13.1.Text v13.1.Names v13.1.Kids))
(G.spec_randomMap.L1 n a_depth1 (IntKind.wrap .i64 (x_n2 - 1)) v11.2.b v11.2.p y10 y11 y12 y13 y14)))))
(some ((NodeT.mk y10 y11 y12 y13 y14), (ReaderT.mk y8 y9))))
def G.spec_randomMap (f : Nat) (p_r1 : ReaderT) (a_depth1 : Int) : Option (NodeT × ReaderT) := match f with
| 0 => none
| n + 1 =>
(Option.bind (G.spec_reader_one n p_r1 [2, 3, 1, 0, 4]) fun v1 =>
(G.spec_randomMap.L1 n a_depth1 v1.1 v1.2.b v1.2.p 4 0 [] [] []))
def G.spec_randomNode.L2 (f : Nat) (a_depth1 : Int) (x_kind1 : Int) (x_n2 : Int) (y5 : List Int) (y6 : Int) (z2 : List NodeT) : Option (NodeT × ReaderT) := match f with
| 0 => none
| n + 1 =>
(cond (decide (0 < x_n2))
(Option.bind (G.spec_randomNode n (ReaderT.mk y5 y6) (IntKind.wrap .i64 (a_depth1 - 1))) fun v9 =>
(chk ((z2.length + 1) * 86 ≤ 2 ^ 46)
(G.spec_randomNode.L2 n a_depth1 x_kind1 (IntKind.wrap .i64 (x_n2 - 1)) v9.2.b v9.2.p (z2 ++ [v9.1]))))
(some ((NodeT.mk x_kind1 0 [] [] z2), (ReaderT.mk y5 y6))))
def G.spec_randomNode.K1 (f : Nat) (a_depth1 : Int) (x_kind1 : Int) (y1 : List Int) (y2 : Int) : Option (NodeT × ReaderT) := match f with
| 0 => none
| n + 1 =>
(cond (x_kind1 == 1)
(Option.bind (G.spec_reader_pick n (ReaderT.mk y1 y2) 250) fun v3 =>
(Option.bind (G.spec_reader_one n v3.2 [0, 1, 2, 7, (-7), 999999, (-999999), v3.1]) fun v4 =>
(some ((NodeT.mk x_kind1 v4.1 [] [] []), v4.2))))
(cond (x_kind1 == 2)
(Option.bind (G.spec_someText n (ReaderT.mk y1 y2)) fun v5 =>
(some ((NodeT.mk x_kind1 0 v5.1 [] []), v5.2)))
(cond (x_kind1 == 3)
(Option.bind (G.spec_reader_pick n (ReaderT.mk y1 y2) 4) fun v6 =>
(G.spec_randomNode.L2 n a_depth1 x_kind1 v6.1 v6.2.b v6.2.p []))
(cond (x_kind1 == 4)
(Option.bind (G.spec_randomMap n (ReaderT.mk y1 y2) a_depth1) fun v10 =>
(some (v10.1, v10.2)))
(some ((NodeT.mk 0 0 [] [] []), (ReaderT.mk y1 y2)))))))
def G.spec_randomNode (f : Nat) (p_r1 : ReaderT) (a_depth1 : Int) : Option (NodeT × ReaderT) := match f with
| 0 => none
| n + 1 =>
(Option.bind (G.spec_reader_pick n p_r1 5) fun v1 =>
(cond (decide (a_depth1 ≤ 1))
(Option.bind (G.spec_reader_pick n v1.2 3) fun v11 =>
(G.spec_randomNode.K1 n a_depth1 v11.1 v11.2.b v11.2.p))
(G.spec_randomNode.K1 n a_depth1 v1.1 v1.2.b v1.2.p)))
end
def G.spec_someNode.K1 (f : Nat) (y1 : List Int) (y2 : Int) (y3 : Int) (y4 : Int) (y5 : Txt) (y6 : List Txt) (y7 : List NodeT) : Option (NodeT × ReaderT) := match f with
| 0 => none
| n + 1 =>
(Option.bind (G.spec_validNode n (NodeT.mk y3 y4 y5 y6 y7)) fun v4 =>
(cond v4
(some ((NodeT.mk y3 y4 y5 y6 y7), (ReaderT.mk y1 y2)))
(some ((NodeT.mk 0 0 [] [] []), (ReaderT.mk y1 y2)))))
def G.spec_someNode (f : Nat) (p_r1 : ReaderT) : Option (NodeT × ReaderT) := match f with
| 0 => none
| n + 1 =>
(Option.bind (G.spec_randomNode n p_r1 3) fun v1 =>
(Option.bind (G.spec_reader_pick n v1.2 3) fun v5 =>
(cond (decide (0 < v5.1))
(Option.bind (G.spec_randomMap n v5.2 3) fun v6 =>
(G.spec_someNode.K1 n v6.2.b v6.2.p v6.1.Kind v6.1.Num v6.1.Text v6.1.Names v6.1.Kids))
(G.spec_someNode.K1 n v5.2.b v5.2.p v1.1.Kind v1.1.Num v1.1.Text v1.1.Names v1.1.Kids))))
def G.spec_anyNode.L1 (f : Nat) (v1 : NodeT × ReaderT) (x_i2 : Int) (y3 : List Int) (y4 : Int) (z2 : List NodeT) : Option (NodeT × ReaderT) := match f with
| 0 => none
| n + 1 =>
(Option.bind (G.spec_reader_pick n (ReaderT.mk y3 y4) 2) fun v9 =>
(cond (decide (x_i2 < (IntKind.wrap .i64 (6 + v9.1))))
(Option.bind (G.spec_copyNode n v1.1) fun v10 =>
(chk ((z2.length + 1) * 86 ≤ 2 ^ 46)
(G.spec_anyNode.L1 n v1 (IntKind.wrap .i64 (x_i2 + 1)) v9.2.b v9.2.p (z2 ++ [v10]))))
(some ((NodeT.mk 3 0 [] [] z2), v9.2))))
def G.spec_anyNode (f : Nat) (p_r1 : ReaderT) : Option (NodeT × ReaderT) := match f with
| 0 => none
| n + 1 =>
(Option.bind (G.spec_someNode n p_r1) fun v1 =>
(Option.bind (G.spec_reader_pick n v1.2 40) fun v2 =>
(cond (v2.1 == 0)
(Option.bind (G.spec_reader_one n v2.2 [(-1), 5, 0, 3]) fun v3 =>
(some ((NodeT.mk v3.1 v1.1.Num v1.1.Text v1.1.Names v1.1.Kids), v3.2)))
(cond (v2.1 == 1)
(Option.bind (G.spec_reader_one n v2.2 [1, 1000000]) fun v4 =>
(some ((NodeT.mk v1.1.Kind v4.1 v1.1.Text v1.1.Names v1.1.Kids), v4.2)))
(cond (v2.1 == 2)
(some ((NodeT.mk v1.1.Kind v1.1.Num [97, 98, 99, 100, 101, 102, 103, 104, 105, 106, 107, 108, 109] v1.1.Names v1.1.Kids), v2.2))
(cond (v2.1 == 3)
(chk ((v1.1.Names.length + 1) * 18 ≤ 2 ^ 46)
(some ((NodeT.mk v1.1.Kind v1.1.Num v1.1.Text (v1.1.Names ++ [[]]) v1.1.Kids), v2.2)))
(cond (v2.1 == 4)
(some ((NodeT.mk 3 0 [] [] [(NodeT.mk 3 0 [] [] [(NodeT.mk 3 0 [] [] [(NodeT.mk 3 0 [] [] [v1.1])])])]), v2.2))
(cond (v2.1 == 5)
(G.spec_anyNode.L1 n v1 0 v2.2.b v2.2.p [])
(some (v1.1, v2.2))))))))))
def G.spec_anyPath.L1 (f : Nat) (x_n2 : Int) (y3 : List Int) (y4 : Int) (z2 : List Txt) : Option (List Txt × ReaderT) := match f with
| 0 => none
| n + 1 =>
(cond (decide (0 < x_n2))
(Option.bind (G.spec_reader_of n (ReaderT.mk y3 y4) [[97], [98], [48], [49], [45], [97, 47, 98], [126, 120], [], [99]]) fun v4 =>
(chk ((z2.length + 1) * 18 ≤ 2 ^ 46)
(G.spec_anyPath.L1 n (IntKind.wrap .i64 (x_n2 - 1)) v4.2.b v4.2.p (z2 ++ [v4.1]))))
(cond (decide (0 < ((z2.length : Nat) : Int)))
(Option.bind (G.spec_reader_pick n (ReaderT.mk y3 y4) 20) fun v5 =>
(cond (v5.1 == 0)
(Option.bind (G.spec_reader_of n v5.2 [[97, 98, 99, 100, 101, 102, 103, 104, 105, 106, 107, 108, 109], [10]]) fun v6 =>
(chk (0 ≤ 0 ∧ 0 < ((z2.length : Nat) : Int))
(some ((z2.set 0 v6.1), v6.2))))
(some (z2, v5.2))))
(some (z2, (ReaderT.mk y3 y4)))))
def G.spec_anyPath (f : Nat) (p_r1 : ReaderT) : Option (List Txt × ReaderT) := match f with
| 0 => none
| n + 1 =>
(Option.bind (G.spec_reader_one n p_r1 [1, 2, 1, 0, 3, 5, 6]) fun v1 =>
(G.spec_anyPath.L1 n v1.1 v1.2.b v1.2.p []))
mutual
def G.spec_all.L7 (f : Nat) (a_n1 : NodeT) (x_i2 : Int) (x_step3 : Txt) (v6 : List (List Txt)) (x_k6 : Int) (z8 : List (List Txt)) : Option (List (List Txt)) := match f with
| 0 => none
| n + 1 =>
(cond (decide (x_k6 < ((v6.length : Nat) : Int)))
(chk (0 ≤ x_k6 ∧ x_k6 < ((v6.length : Nat) : Int))
(chk ((1 + (v6.getD x_k6.toNat default).length) * 18 ≤ 2 ^ 46)
(chk ((z8.length + 1) * 26 ≤ 2 ^ 46)
(G.spec_all.L7 n a_n1 x_i2 x_step3 v6 (IntKind.wrap .i64 (x_k6 + 1)) (z8 ++ [([x_step3] ++ (v6.getD x_k6.toNat default))])))))
(G.spec_all.L5 n a_n1 (IntKind.wrap .i64 (x_i2 + 1)) z8))
def G.spec_all.K6 (f : Nat) (a_n1 : NodeT) (x_i2 : Int) (z6 : List (List Txt)) (x_step3 : Txt) : Option (List (List Txt)) := match f with
| 0 => none
| n + 1 =>
(chk (0 ≤ x_i2 ∧ x_i2 < ((a_n1.Kids.length : Nat) : Int))
(Option.bind (G.spec_all n (a_n1.Kids.getD x_i2.toNat default)) fun v6 =>
(G.spec_all.L7 n a_n1 x_i2 x_step3 v6 0 z6)))
def G.spec_all.L5 (f : Nat) (a_n1 : NodeT) (x_i2 : Int) (z6 : List (List Txt)) : Option (List (List Txt)) := match f with
| 0 => none
| n + 1 =>
(cond (decide (x_i2 < ((a_n1.Kids.length : Nat) : Int)))
(Option.bind (G.spec_decimal n x_i2) fun v5 =>
(cond (a_n1.Kind == 4)
(chk (0 ≤ x_i2 ∧ x_i2 < ((a_n1.Names.length : Nat) : Int))
(G.spec_all.K6 n a_n1 x_i2 z6 (a_n1.Names.getD x_i2.toNat default)))
(G.spec_all.K6 n a_n1 x_i2 z6 v5)))
(some (z6)))
def G.spec_all (f : Nat) (a_n1 : NodeT) : Option (List (List Txt)) := match f with
| 0 => none
| n + 1 =>
(G.spec_all.L5 n a_n1 0 [[]])
end
def G.spec_AllPaths (f : Nat) (a_n1 : NodeT) : Option (List (List Txt)) := match f with
| 0 => none
| n + 1 =>
(Option.bind (G.spec_validNode n a_n1) fun v1 =>
(cond v1
(Option.bind (G.spec_all n a_n1) fun v2 =>
(some (v2)))
(some ([]))))
def G.spec_pathIn (f : Nat) (p_r1 : ReaderT) (a_n1 : NodeT) : Option (List Txt × ReaderT) := match f with
| 0 => none
| n + 1 =>
(Option.bind (G.spec_AllPaths n a_n1) fun v1 =>
(cond (decide (0 < ((v1.length : Nat) : Int)))
(Option.bind (G.spec_reader_pick n p_r1 4) fun v2 =>
(cond (decide (0 < v2.1))
(Option.bind (G.spec_reader_pick n v2.2 ((v1.length : Nat) : Int)) fun v3 =>
(chk (0 ≤ v3.1 ∧ v3.1 < ((v1.length : Nat) : Int))
(some ((v1.getD v3.1.toNat default), v3.2))))
(Option.bind (G.spec_anyPath n v2.2) fun v4 =>
(some (v4.1, v4.2)))))
(Option.bind (G.spec_anyPath n p_r1) fun v5 =>
(some (v5.1, v5.2)))))
def G.spec_someOp.K4 (f : Nat) (v1 : Int × ReaderT) (v2 : List Txt × ReaderT) (y3 : List Txt) (y4 : Int) (y5 : Int) (y6 : Txt) (y7 : List Txt) (y8 : List NodeT) (x_t3 : Bool) (y9 : List Int) (y10 : Int) : Option (OpT × ReaderT) := match f with
| 0 => none
| n + 1 =>
(cond x_t3
(chk (v2.1.length * 18 ≤ 2 ^ 46)
(Option.bind (G.spec_reader_of n (ReaderT.mk y9 y10) [[122], [45], [48], [101]]) fun v10 =>
(chk ((v2.1.length + 1) * 18 ≤ 2 ^ 46)
(some ((OpT.mk (IntKind.wrap .i64 (1 + v1.1)) (v2.1 ++ [v10.1]) y3 (NodeT.mk y4 y5 y6 y7 y8)), v10.2)))))
(some ((OpT.mk (IntKind.wrap .i64 (1 + v1.1)) v2.1 y3 (NodeT.mk y4 y5 y6 y7 y8)), (ReaderT.mk y9 y10))))
def G.spec_someOp.K3 (f : Nat) (v1 : Int × ReaderT) (v2 : List Txt × ReaderT) (y1 : List Int) (y2 : Int) (y3 : List Txt) (y4 : Int) (y5 : Int) (y6 : Txt) (y7 : List Txt) (y8 : List NodeT) : Option (OpT × ReaderT) := match f with
| 0 => none
| n + 1 =>
(cond (decide (((v2.1.length : Nat) : Int) < 4))
(cond ((IntKind.wrap .i64 (1 + v1.1)) == 1)
(Option.bind (G.spec_reader_pick n (ReaderT.mk y1 y2) 2) fun v11 =>
(G.spec_someOp.K4 n v1 v2 y3 y4 y5 y6 y7 y8 (v11.1 == 0) v11.2.b v11.2.p))
(cond ((IntKind.wrap .i64 (1 + v1.1)) == 4)
(Option.bind (G.spec_reader_pick n (ReaderT.mk y1 y2) 2) fun v12 =>
(G.spec_someOp.K4 n v1 v2 y3 y4 y5 y6 y7 y8 (v12.1 == 0) v12.2.b v12.2.p))
(cond ((IntKind.wrap .i64 (1 + v1.1)) == 5)
(Option.bind (G.spec_reader_pick n (ReaderT.mk y1 y2) 2) fun v13 =>
(G.spec_someOp.K4 n v1 v2 y3 y4 y5 y6 y7 y8 (v13.1 == 0) v13.2.b v13.2.p))
(G.spec_someOp.K4 n v1 v2 y3 y4 y5 y6 y7 y8 false y1 y2))))
(G.spec_someOp.K4 n v1 v2 y3 y4 y5 y6 y7 y8 false y1 y2))
def G.spec_someOp.K6 (f : Nat) (a_n1 : NodeT) (v1 : Int × ReaderT) (v2 : List Txt × ReaderT) (x_t5 : Bool) : Option (OpT × ReaderT) := match f with
| 0 => none
| n + 1 =>
(cond x_t5
(Option.bind (G.spec_pathIn n v2.2 a_n1) fun v17 =>
(G.spec_someOp.K3 n v1 v2 v17.2.b v17.2.p v17.1 0 0 [] [] []))
(G.spec_someOp.K3 n v1 v2 v2.2.b v2.2.p [] 0 0 [] [] []))
def G.spec_someOp.K5 (f : Nat) (a_n1 : NodeT) (v1 : Int × ReaderT) (v2 : List Txt × ReaderT) (x_t4 : Bool) : Option (OpT × ReaderT) := match f with
| 0 => none
| n + 1 =>
(cond x_t4
(Option.bind (G.spec_randomNode n v2.2 2) fun v14 =>
(G.spec_someOp.K3 n v1 v2 v14.2.b v14.2.p [] v14.1.Kind v14.1.Num v14.1.Text v14.1.Names v14.1.Kids))
(cond ((IntKind.wrap .i64 (1 + v1.1)) == 6)
(Option.bind (G.spec_at n a_n1 v2.1) fun v15 =>
(cond v15.2
(Option.bind (G.spec_reader_pick n v2.2 3) fun v16 =>
(cond (decide (0 < v16.1))
(G.spec_someOp.K3 n v1 v2 v16.2.b v16.2.p [] v15.1.Kind v15.1.Num v15.1.Text v15.1.Names v15.1.Kids)
(G.spec_someOp.K3 n v1 v2 v16.2.b v16.2.p [] 0 0 [] [] [])))
(G.spec_someOp.K3 n v1 v2 v2.2.b v2.2.p [] 0 0 [] [] [])))
(cond ((IntKind.wrap .i64 (1 + v1.1)) == 4)
(G.spec_someOp.K6 n a_n1 v1 v2 true)
(G.spec_someOp.K6 n a_n1 v1 v2 ((IntKind.wrap .i64 (1 + v1.1)) == 5)))))
def G.spec_someOp (f : Nat) (p_r1 : ReaderT) (a_n1 : NodeT) : Option (OpT × ReaderT) := match f with
| 0 => none
| n + 1 =>
(Option.bind (G.spec_reader_pick n p_r1 6) fun v1 =>
(Option.bind (G.spec_pathIn n v1.2 a_n1) fun v2 =>
(cond ((IntKind.wrap .i64 (1 + v1.1)) == 1)
(G.spec_someOp.K5 n a_n1 v1 v2 true)
(G.spec_someOp.K5 n a_n1 v1 v2 ((IntKind.wrap .i64 (1 + v1.1)) == 3)))))
def G.spec_anyOp (f : Nat) (p_r1 : ReaderT) (a_n1 : NodeT) : Option (OpT × ReaderT) := match f with
| 0 => none
| n + 1 =>
(Option.bind (G.spec_someOp n p_r1 a_n1) fun v1 =>
(Option.bind (G.spec_reader_pick n v1.2 30) fun v2 =>
(cond (v2.1 == 0)
(Option.bind (G.spec_reader_one n v2.2 [0, 7]) fun v3 =>
(some ((OpT.mk v3.1 v1.1.Path v1.1.From v1.1.Value), v3.2)))
(cond (v2.1 == 1)
(Option.bind (G.spec_anyNode n v2.2) fun v4 =>
(some ((OpT.mk v1.1.Kind v1.1.Path v1.1.From v4.1), v4.2)))
(cond (v2.1 == 2)
(Option.bind (G.spec_anyPath n v2.2) fun v5 =>
(some ((OpT.mk v1.1.Kind v5.1 v1.1.From v1.1.Value), v5.2)))
(some (v1.1, v2.2)))))))
def G.spec_newReader (f : Nat) (a_code1 : List Int) : Option (ReaderT) := match f with
| 0 => none
| n + 1 =>
(cond (decide (2000 < ((a_code1.length : Nat) : Int)))
(chk (0 ≤ 0 ∧ 0 ≤ 2000 ∧ 2000 ≤ ((a_code1.length : Nat) : Int))
(some ((ReaderT.mk (a_code1.take 2000) 0))))
(some ((ReaderT.mk a_code1 0))))
def G.spec_DrawApplyOp (f : Nat) (a_code1 : List Int) : Option (NodeT × OpT) := match f with
| 0 => none
| n + 1 =>
(Option.bind (G.spec_newReader n a_code1) fun v1 =>
(Option.bind (G.spec_anyNode n v1) fun v2 =>
(Option.bind (G.spec_anyOp n v2.2 v2.1) fun v3 =>
(some (v2.1, v3.1)))))
def G.laws_FnApplyOpMove.K2 (f : Nat) (v1 : NodeT × OpT) (v2 : NodeT × Bool) (v14 : NodeT × Bool) (x_two1 : Bool) (y1 : Int) (y2 : Int) (y3 : Txt) (y4 : List Txt) (y5 : List NodeT) : Option (Bool) := match f with
| 0 => none
| n + 1 =>
(Option.bind (G.impl_AddNode n (NodeT.mk y1 y2 y3 y4 y5) v1.2.Path v14.1) fun v16 =>
(cond v14.2
(cond x_two1
(cond v16.2
(Option.bind (G.laws_equalNode n v16.1 v2.1) fun v17 =>
(cond v17
(cond (v1.2.Kind == 5)
(some (true))
(Option.bind (G.impl_NodeCount n v2.1) fun v18 =>
(Option.bind (G.impl_NodeCount n v1.1) fun v19 =>
(some ((decide (v18 ≤ v19)))))))
(some (false))))
(some (false)))
(some (false)))
(some (false))))
def G.laws_FnApplyOpMove.K1 (f : Nat) (v1 : NodeT × OpT) (v2 : NodeT × Bool) : Option (Bool) := match f with
| 0 => none
| n + 1 =>
(Option.bind (G.impl_NodeAt n v1.1 v1.2.From) fun v14 =>
(cond (v1.2.Kind == 4)
(Option.bind (G.impl_RemoveNode n v1.1 v1.2.From) fun v20 =>
(G.laws_FnApplyOpMove.K2 n v1 v2 v14 v20.2 v20.1.Kind v20.1.Num v20.1.Text v20.1.Names v20.1.Kids))
(G.laws_FnApplyOpMove.K2 n v1 v2 v14 true v1.1.Kind v1.1.Num v1.1.Text v1.1.Names v1.1.Kids)))
def G.laws_FnApplyOpMove (f : Nat) (a_code1 : List Int) : Option (Bool) := match f with
| 0 => none
| n + 1 =>
(cond (decide (1048576 < ((a_code1.length : Nat) : Int)))
(some (true))
(Option.bind (G.spec_DrawApplyOp n a_code1) fun v1 =>
(Option.bind (G.impl_ApplyOp n v1.1 v1.2) fun v2 =>
(Option.bind (G.spec_ApplyOp n v1.1 v1.2) fun v3 =>
(Option.bind (G.laws_equalNode n v2.1 v3.1) fun v21 =>
(cond v21
(cond v2.2
(cond v3.2
(cond (v1.2.Kind != 4)
(cond (v1.2.Kind != 5)
(Option.bind (G.laws_equalNode n v2.1 v3.1) fun v22 =>
(cond v22
(some (true))
(some (false))))
(Option.bind (G.laws_equalTexts n v1.2.Path v1.2.From) fun v23 =>
(cond v23
(Option.bind (G.laws_equalNode n v2.1 v3.1) fun v24 =>
(cond v24
(some (true))
(some (false))))
(G.laws_FnApplyOpMove.K1 n v1 v2))))
(Option.bind (G.laws_equalTexts n v1.2.Path v1.2.From) fun v25 =>
(cond v25
(Option.bind (G.laws_equalNode n v2.1 v3.1) fun v26 =>
(cond v26
(some (true))
(some (false))))
(G.laws_FnApplyOpMove.K1 n v1 v2))))
(Option.bind (G.laws_equalNode n v2.1 v3.1) fun v27 =>
(cond v27
(some (false))
(some (false)))))
(cond v3.2
(Option.bind (G.laws_equalNode n v2.1 v3.1) fun v28 =>
(cond v28
(some (false))
(some (false))))
(Option.bind (G.laws_equalNode n v2.1 v3.1) fun v29 =>
(cond v29
(some (true))
(some (false))))))
(Option.bind (G.laws_equalNode n v2.1 v3.1) fun v30 =>
(cond v30
(cond v2.2
(cond v3.2
(some (true))
(some (false)))
(cond v3.2
(some (false))
(some (true))))
(some (false))))))))))
end Go.Ab
end
section
namespace Go.Ab
open Go
set_option maxRecDepth 100000
set_option linter.defProp false
theorem mapTakeS {α β : Type} (f : α → β) (l : List α) (n : Nat) : List.take n (List.map f l) = List.map f (List.take n l) := List.map_take.symm
theorem mapDropS {α β : Type} (f : α → β) (l : List α) (n : Nat) : List.drop n (List.map f l) = List.map f (List.drop n l) := List.map_drop.symm
theorem kq1 {i : Int} {m : Nat} [inst : Decidable (0 ≤ i ∧ i < (m : Int))] {α : Type} {k : Option α} {r : α} (h : chk (0 ≤ i ∧ i < (m : Int)) k = some r) : (0 ≤ i ∧ i < (m : Int)) ∧ i.toNat < m ∧ k = some r := by
  obtain ⟨h1, h2⟩ := chk_some.1 h
  exact ⟨h1, by omega, h2⟩
inductive Mk : Nat → Prop
  | mk (n : Nat) : Mk n
theorem kq0 {m : Nat} [inst : Decidable ((0 : Nat) ≤ 0 ∧ (0 : Int) < (m : Int))] {α : Type} {k : Option α} {r : α} (h : chk ((0 : Nat) ≤ 0 ∧ (0 : Int) < (m : Int)) k = some r) : (0 : Int) < (m : Int) ∧ 0 < m ∧ k = some r := by
  obtain ⟨h1, h2⟩ := chk_some.1 h
  exact ⟨h1.2, by omega, h2⟩
theorem kq {c : Prop} [Decidable c] {α : Type} {k : Option α} {r : α} (h : chk c k = some r) : c ∧ k = some r := chk_some.1 h
theorem bq {α β : Type} {x : Option α} {f : α → Option β} {r : β} (h : Option.bind x f = some r) : ∃ a, x = some a ∧ f a = some r := Option.bind_eq_some_iff.1 h
section
variable {P : Program} {Q : AQ} {st : ASt}
theorem isCall {f : FuncId} {avs : List AV} {p : Bool} {d : Option Nat} {K : List Nat → List Nat → ASt → Prop} {du : DU K} (k : TCallK P f avs p d st K du) : TCallK P f avs p d st K du := k
theorem isLoop {a : AQ → ASt → Prop} {d1 : DU a} {d2 : DU Q} (k : WLoopK a Q st d1 d2) : WLoopK a Q st d1 d2 := k
theorem isCut {a b : AQ → ASt → Prop} {d1 : DU a} {d2 : DU b} {d3 : DU Q} (k : WCutK a b Q st d1 d2 d3) : WCutK a b Q st d1 d2 d3 := k
theorem isEx {X : Type} {p : X → Prop} (k : ∃ x, p x) : ∃ x, p x := k
theorem isEnd {rs : List ARes} {r : AV} (k : PEnd rs r st) : PEnd rs r st := k
theorem isRet {rs : List ARes} {m : Nat} {post : AV → List Box → Prop} (k : RetOK rs m post st) : RetOK rs m post st := k
theorem loopE {a : ACode} {d1 : DU (wpC P a)} {d2 : DU Q} {X : Type} (J : X → Prop) (S : X → ASt) (μ : X → Nat) (h0 : ∃ x0, J x0 ∧ Weak 10 st (S x0))
    (h : ∀ x, J x → wpCK P a (AExit.then (fun st' => ∃ x', (J x' ∧ μ x' < μ x) ∧ Weak 10 st' (S x')) Q) (S x) .mk .mk) : WLoopK (wpC P a) Q st d1 d2 := by
  obtain ⟨x0, h1, h2⟩ := h0
  exact loopK J S μ x0 h1 h2 h
end
theorem sq {α : Type} {x r : α} (h : some x = some r) : r = x := (Option.some.inj h).symm
theorem cq {b : Bool} {α : Type} {x y : Option α} {r : α} (h : cond b x y = some r) : (b = true ∧ x = some r) ∨ (b = false ∧ y = some r) := cond_some.1 h
def egD := And.intro @wpCK_skip (And.intro @wpCK_reg (And.intro @wpCK_regD (And.intro @wpCK_seq (And.intro @wpCK_cut (And.intro @wpCK_loop (And.intro @wpCK_block (And.intro @wpCK_exit (And.intro @wpCK_ret (And.intro @wpCK_cond (And.intro @condK_t (And.intro @condK_f (And.intro @QK_then_n (And.intro @QK_then_e (And.intro @QK_then_r (And.intro @QK_next_n (And.intro @QK_next_e (And.intro @QK_next_r (And.intro @QK_block_n (And.intro @QK_block_e (And.intro @QK_block_r (And.intro @QK_QP_n (And.intro @QK_QP_r (And.intro @QK_QF_n (And.intro @QK_QF_r (And.intro @wpOpsK_nil (And.intro @wpOpsK_cons (And.intro @wpDK_nil (And.intro @wpDK_cons (And.intro @TK_op' (And.intro @TGK_t (And.intro @TGK_f (And.intro @TOpV_m (And.intro @TK_call (And.intro @TK_callv (And.intro @TCallV_eq (And.intro @slots0.eq_1 (And.intro @slots0.eq_2 (And.intro @boxes0.eq_1 (And.intro @boxes0.eq_2 (And.intro @st0.eq_1 (And.intro @guardVC.eq_1 (And.intro @guardVC.eq_2 (And.intro @guardV.eq_1 (And.intro @guardV.eq_2 (And.intro @AOp.valid.eq_1 (And.intro @AOp.valid.eq_2 (And.intro @avOf.eq_1 (And.intro @ev_t (And.intro @ev_k (And.intro @g_v (And.intro @x_v (And.intro @of_tm (And.intro @of_bx (And.intro @of_put (And.intro @of_setb (And.intro @of_keep (And.intro @lookT.eq_1 (And.intro @lookT.eq_2 (And.intro @lookB.eq_1 (And.intro @lookB.eq_2 (And.intro @keepL.eq_1 (And.intro @keepL.eq_2 (And.intro @setB.eq_1 (And.intro @setB.eq_2 (And.intro @putO_none (And.intro @putO_some (And.intro @setbs_nil (And.intro @setbs_cons (And.intro @FR.ok.eq_1 (And.intro @binV.eq_1 (And.intro @binV.eq_2 (And.intro @binV.eq_3 (And.intro @AV.flat.eq_1 (And.intro @AV.flat.eq_2 (And.intro @AV.cells.eq_1 (And.intro @AV.cells.eq_2 (And.intro @AV.cells.eq_3 (And.intro @loadV.eq_1 (And.intro @loadV.eq_2 (And.intro @loadV.eq_3 (And.intro @loadV.eq_4 (And.intro @partOK.eq_1 (And.intro @fillV.eq_1 (And.intro @fillV.eq_2 (And.intro @splice.eq_1 (And.intro @Box.arr.eq_1 (And.intro @Box.arr.eq_2 (And.intro @Box.arr.eq_3 (And.intro @dataOf.eq_1 (And.intro @dataOf.eq_2 (And.intro @dataOf.eq_3 (And.intro @dataOf.eq_4 (And.intro @datas.eq_1 (And.intro @datas.eq_2 (And.intro @bnd.eq_1 (And.intro @bnd.eq_2 (And.intro @pickV.eq_1 (And.intro @pickV.eq_2 (And.intro @logOK_nn (And.intro @logOK_n0 (And.intro @vStr.eq_1 (And.intro @vInt.eq_1 (And.intro @vBool.eq_1 (And.intro @vSl.eq_1 (And.intro @lendA.eq_1 (And.intro @lendA.eq_2 (And.intro @lendA.eq_3 (And.intro @lendC.eq_1 (And.intro @lendC.eq_2 (And.intro @lendC.eq_3 (And.intro @lendOKs.eq_1 (And.intro @lendOKs.eq_2 (And.intro @lendOKs.eq_3 (And.intro @lendOK.eq_1 (And.intro @lendOK.eq_2 (And.intro @lendOK.eq_3 (And.intro @AV.owns.eq_1 (And.intro @AV.owns.eq_2 (And.intro @AV.owns.eq_3 (And.intro @ownsOf.eq_1 (And.intro @ownsOf.eq_2 (And.intro @ownsOf.eq_3 (And.intro @AC.isData.eq_1 (And.intro @AC.isData.eq_2 (And.intro @AC.isLit.eq_1 (And.intro @AC.isLit.eq_2 (And.intro @AV.all.eq_1 (And.intro @AV.all.eq_2 (And.intro @AV.all.eq_3 (And.intro @Cell.isLit.eq_1 (And.intro @Cell.isLit.eq_2 (And.intro @List.mem_cons.{0} (And.intro @List.not_mem_nil.{0} (And.intro @or_false (And.intro @false_or (And.intro @or_true (And.intro @true_or (And.intro @forall_eq.{1} (And.intro @forall_eq_or_imp.{1} (And.intro @true_and (And.intro @and_true (And.intro @true_implies (And.intro @false_implies (And.intro @implies_true.{1} (And.intro @if_true.{1} (And.intro @if_false.{1} (And.intro @Bool.false_eq_true (And.intro @Bool.true_eq_false (And.intro @imp_self (And.intro @and_self (And.intro @cond_true.{1} (And.intro @cond_false.{1} (And.intro @List.map_cons.{0,0} (And.intro @List.map_nil.{0,0} (And.intro @List.take_succ_cons.{0} (And.intro @List.take_zero.{0} (And.intro @List.drop_succ_cons.{0} (And.intro @List.drop_zero.{0} (And.intro @List.take_nil.{0} (And.intro @List.drop_nil.{0} (And.intro @List.cons_append.{0} (And.intro @List.nil_append.{0} (And.intro @List.append_nil.{0} (And.intro @List.length_cons.{0} (And.intro @List.length_nil.{0} (And.intro @List.getElem?_cons_zero.{0} (And.intro @List.getElem?_cons_succ.{0} (And.intro @List.length_map.{0,0} (And.intro @List.length_replicate.{0} (And.intro @List.length_append.{0} (And.intro @List.map_append.{0,0} (And.intro @List.flatMap_cons.{0,0} (And.intro @List.flatMap_nil.{0,0} (And.intro @List.all_cons.{0} (And.intro @List.all_nil.{0} (And.intro @List.contains_cons.{0} (And.intro @List.contains_nil.{0} (And.intro @Bool.and_true (And.intro @Bool.or_false (And.intro @Bool.false_or (And.intro @Bool.true_or (And.intro @Bool.or_true (And.intro @Bool.and_self (And.intro @Bool.not_false (And.intro @Bool.not_true (And.intro @Bool.true_and (And.intro @Bool.false_and (And.intro @Bool.and_false (And.intro @Nat.zero_lt_succ (And.intro @Nat.zero_le (And.intro @Nat.zero_add (And.intro @Nat.le_refl (And.intro @Nat.min_self (And.intro @bq_t (And.intro @bq_f (And.intro @decide_true (And.intro @decide_false (And.intro @beqV.eq_1 (And.intro @beqV.eq_2 (And.intro @shfV.eq_1 (And.intro @shfV.eq_2 (And.intro @capV.eq_1 (And.intro @capV.eq_2 (And.intro @capV.eq_3 (And.intro @cmpsV.eq_1 (And.intro @cmpsV.eq_2 (And.intro @ovlV.eq_1 (And.intro @asSub.eq_1 (And.intro @asSub.eq_2 (And.intro @asSub.eq_3 (And.intro @cI.eq_1 (And.intro @cU.eq_1 (And.intro @cB.eq_1 (And.intro @cS.eq_1 (And.intro @cL.eq_1 (And.intro @cK.eq_1 (And.intro @NodeT.cells_eq (And.intro @OpT.cells_eq (And.intro @ReaderT.cells_eq (And.intro @List.getD_cons_zero.{0} (And.intro @List.getD_cons_succ.{0} (And.intro @List.map_set.{0,0} (And.intro @List.length_set.{0} (And.intro @getD_mapL (And.intro @take_len (And.intro @take_c1 (And.intro @take_c2 (And.intro @of_frzL (And.intro @frzL.eq_1 (And.intro @frzL.eq_2 (And.intro @frzL_nil (And.intro @frzB.eq_1 (And.intro @frzB.eq_2 (And.intro @bytesOf_cU (And.intro @bytesTxt_length (And.intro @bytesOf_nil (And.intro @bytesOf_one (And.intro @Option.map_some.{0,0} (And.intro @Int.toNat_natCast (And.intro @Int.toNat_zero (And.intro @mapTakeS (And.intro @mapDropS (And.intro @bne_self_eq_false.{0} (And.intro @Bool.bne_true (And.intro @Bool.bne_false (And.intro @List.drop_replicate.{0} (And.intro @Nat.sub_self (And.intro @capsOf.eq_1 (And.intro @capsOf.eq_2 (And.intro @capsOf.eq_3 (And.intro @Option.toList_none.{0} (And.intro @Option.toList_some.{0} (And.intro @frzs.eq_1 (And.intro @partOwns.eq_1 (And.intro @partOwns.eq_2 (And.intro @partLend.eq_1 (And.intro @partLend.eq_2 (And.intro @eq_self.{1} (And.intro @List.replicate_zero.{0} (And.intro @List.replicate_succ.{0} (And.intro @fillE.eq_1 (And.intro @fillE.eq_2 (And.intro @datParts.eq_1 (And.intro @datParts.eq_2 (And.intro @List.set_cons_zero.{0} (And.intro @List.set_cons_succ.{0} (And.intro @renB.eq_1 (And.intro @renB.eq_2 (And.intro @renA.eq_1 (And.intro @renA.eq_2 (And.intro @renA.eq_3 (And.intro @List.zip_cons_cons.{0,0} (And.intro @List.zip_nil_right.{0,0} (And.intro @List.zip_nil_left.{0,0} (And.intro @beq_self_eq_true.{0} @Nat.add_zero)))))))))))))))))))))))))))))))))))))))))))))))))))))))))))))))))))))))))))))))))))))))))))))))))))))))))))))))))))))))))))))))))))))))))))))))))))))))))))))))))))))))))))))))))))))))))))))))))))))))))))))))))))))))))))))))))))))))))))))))))))))))))))))))))))))))))))))))))))
theorem egR : type_of% egD := egD
def wkD := And.intro @wkBs.eq_1 (And.intro @wkBs.eq_2 (And.intro @wkTs.eq_1 (And.intro @wkTs.eq_2 (And.intro @wkSl.eq_1 (And.intro @wkSl.eq_2 (And.intro @wkSl.eq_3 (And.intro @wkV.eq_1 (And.intro @wkV.eq_2 (And.intro @wkV.eq_3 (And.intro @wkV.eq_4 (And.intro @wkCs.eq_1 (And.intro @wkCs.eq_2 (And.intro @wkCs.eq_3 (And.intro @piL.eq_1 (And.intro @piL.eq_2 (And.intro @lookT.eq_1 (And.intro @lookT.eq_2 (And.intro @lookB.eq_1 (And.intro @lookB.eq_2 (And.intro @true_and (And.intro @and_true (And.intro @implies_true.{1} (And.intro @List.mem_cons.{0} (And.intro @List.not_mem_nil.{0} (And.intro @or_false (And.intro @or_true (And.intro @true_or (And.intro @Box.arr.eq_1 (And.intro @Box.arr.eq_2 (And.intro @Box.arr.eq_3 (And.intro @vStr.eq_1 (And.intro @vInt.eq_1 (And.intro @vBool.eq_1 (And.intro @vSl.eq_1 (And.intro @not_false_eq_true (And.intro @false_or (And.intro @Option.some.injEq.{0} (And.intro @true_implies (And.intro @cI.eq_1 (And.intro @cU.eq_1 (And.intro @cB.eq_1 (And.intro @cS.eq_1 (And.intro @cL.eq_1 (And.intro @cK.eq_1 (And.intro @NodeT.cells_eq (And.intro @OpT.cells_eq (And.intro @ReaderT.cells_eq (And.intro @List.map_append.{0,0} (And.intro @List.map_cons.{0,0} (And.intro @List.map_nil.{0,0} (And.intro @List.map_set.{0,0} (And.intro @List.map_take.{0,0} (And.intro @List.map_drop.{0,0} (And.intro @List.map_replicate.{0,0} (And.intro @List.length_append.{0} (And.intro @List.length_cons.{0} (And.intro @List.length_nil.{0} (And.intro @List.length_map.{0,0} (And.intro @List.length_set.{0} (And.intro @List.length_replicate.{0} (And.intro @Nat.zero_add (And.intro @Nat.add_zero (And.intro @List.nil_append.{0} (And.intro @List.cons_append.{0} (And.intro @List.append_nil.{0} (And.intro @take_len (And.intro @take_c1 (And.intro @take_c2 @and_self))))))))))))))))))))))))))))))))))))))))))))))))))))))))))))))))))))
theorem wkR : type_of% wkD := wkD
def peD := And.intro @PEnd.eq_1 (And.intro @resOKs.eq_1 (And.intro @resOKs.eq_2 (And.intro @ARes.ok.eq_1 (And.intro @ARes.ok.eq_2 (And.intro @ARes.val.eq_1 (And.intro @ARes.val.eq_2 (And.intro @retV.eq_1 (And.intro @retV.eq_2 (And.intro @resParts.eq_1 (And.intro @resParts.eq_2 (And.intro @partOf.eq_1 (And.intro @partOf.eq_2 (And.intro @partOf.eq_3 (And.intro @of_tm (And.intro @of_bx (And.intro @of_bx' (And.intro @g_v (And.intro @x_v (And.intro @AV.flat.eq_1 (And.intro @AV.flat.eq_2 (And.intro @loadV.eq_1 (And.intro @loadV.eq_2 (And.intro @loadV.eq_3 (And.intro @loadV.eq_4 (And.intro @lookT.eq_1 (And.intro @lookT.eq_2 (And.intro @lookB.eq_1 (And.intro @lookB.eq_2 (And.intro @dV.eq_1 (And.intro @dV.eq_2 (And.intro @dV.eq_3 (And.intro @dV.eq_4 (And.intro @dC.eq_1 (And.intro @dC.eq_2 (And.intro @dC.eq_3 (And.intro @dC.eq_4 (And.intro @dCs.eq_1 (And.intro @dCs.eq_2 (And.intro @dCs.eq_3 (And.intro @dPs.eq_1 (And.intro @dPs.eq_2 (And.intro @dPs.eq_3 (And.intro @Box.arr.eq_1 (And.intro @Box.arr.eq_2 (And.intro @Box.arr.eq_3 (And.intro @List.take_succ_cons.{0} (And.intro @List.take_zero.{0} (And.intro @List.drop_zero.{0} (And.intro @List.drop_succ_cons.{0} (And.intro @List.length_cons.{0} (And.intro @List.length_nil.{0} (And.intro @List.getElem?_cons_zero.{0} (And.intro @List.getElem?_cons_succ.{0} (And.intro @true_and (And.intro @and_true (And.intro @Nat.zero_add (And.intro @vInt.eq_1 (And.intro @vBool.eq_1 (And.intro @vStr.eq_1 (And.intro @vSl.eq_1 (And.intro @FR.ok.eq_1 (And.intro @cI.eq_1 (And.intro @cU.eq_1 (And.intro @cB.eq_1 (And.intro @cS.eq_1 (And.intro @cL.eq_1 (And.intro @cK.eq_1 (And.intro @NodeT.cells_eq (And.intro @OpT.cells_eq (And.intro @ReaderT.cells_eq (And.intro @List.map_append.{0,0} (And.intro @List.map_cons.{0,0} (And.intro @List.map_nil.{0,0} (And.intro @List.map_set.{0,0} (And.intro @List.map_take.{0,0} (And.intro @List.map_drop.{0,0} (And.intro @List.map_replicate.{0,0} (And.intro @List.length_append.{0} (And.intro @List.length_map.{0,0} (And.intro @List.length_set.{0} (And.intro @List.length_replicate.{0} (And.intro @Nat.add_zero (And.intro @List.nil_append.{0} (And.intro @List.cons_append.{0} (And.intro @List.append_nil.{0} (And.intro @take_len (And.intro @take_c1 (And.intro @take_c2 (And.intro @and_self @bytesTxt_length)))))))))))))))))))))))))))))))))))))))))))))))))))))))))))))))))))))))))))))))))))))))))
theorem peR : type_of% peD := peD
def rwD := And.intro @wkBs.eq_1 (And.intro @wkBs.eq_2 (And.intro @wkTs.eq_1 (And.intro @wkTs.eq_2 (And.intro @wkSl.eq_1 (And.intro @wkSl.eq_2 (And.intro @wkSl.eq_3 (And.intro @wkV.eq_1 (And.intro @wkV.eq_2 (And.intro @wkV.eq_3 (And.intro @wkV.eq_4 (And.intro @wkCs.eq_1 (And.intro @wkCs.eq_2 (And.intro @wkCs.eq_3 (And.intro @piL.eq_1 (And.intro @piL.eq_2 (And.intro @lookT.eq_1 (And.intro @lookT.eq_2 (And.intro @lookB.eq_1 (And.intro @lookB.eq_2 (And.intro @true_and (And.intro @and_true (And.intro @implies_true.{1} (And.intro @List.mem_cons.{0} (And.intro @List.not_mem_nil.{0} (And.intro @or_false (And.intro @or_true (And.intro @true_or (And.intro @Box.arr.eq_1 (And.intro @Box.arr.eq_2 (And.intro @Box.arr.eq_3 (And.intro @vStr.eq_1 (And.intro @vInt.eq_1 (And.intro @vBool.eq_1 (And.intro @vSl.eq_1 (And.intro @not_false_eq_true (And.intro @false_or (And.intro @Option.some.injEq.{0} (And.intro @true_implies (And.intro @cI.eq_1 (And.intro @cU.eq_1 (And.intro @cB.eq_1 (And.intro @cS.eq_1 (And.intro @cL.eq_1 (And.intro @cK.eq_1 (And.intro @NodeT.cells_eq (And.intro @OpT.cells_eq (And.intro @ReaderT.cells_eq (And.intro @List.map_append.{0,0} (And.intro @List.map_cons.{0,0} (And.intro @List.map_nil.{0,0} (And.intro @List.map_set.{0,0} (And.intro @List.map_take.{0,0} (And.intro @List.map_drop.{0,0} (And.intro @List.map_replicate.{0,0} (And.intro @List.length_append.{0} (And.intro @List.length_cons.{0} (And.intro @List.length_nil.{0} (And.intro @List.length_map.{0,0} (And.intro @List.length_set.{0} (And.intro @List.length_replicate.{0} (And.intro @Nat.zero_add (And.intro @Nat.add_zero (And.intro @List.nil_append.{0} (And.intro @List.cons_append.{0} (And.intro @List.append_nil.{0} (And.intro @take_len (And.intro @take_c1 (And.intro @take_c2 (And.intro @and_self (And.intro @boxes0.eq_1 (And.intro @boxes0.eq_2 (And.intro @wkPs.eq_1 (And.intro @wkPs.eq_2 (And.intro @wkPs.eq_3 (And.intro @PEnd.eq_1 (And.intro @resOKs.eq_1 (And.intro @resOKs.eq_2 (And.intro @ARes.ok.eq_1 (And.intro @ARes.ok.eq_2 (And.intro @ARes.val.eq_1 (And.intro @ARes.val.eq_2 (And.intro @retV.eq_1 (And.intro @retV.eq_2 (And.intro @resParts.eq_1 (And.intro @resParts.eq_2 (And.intro @partOf.eq_1 (And.intro @partOf.eq_2 (And.intro @partOf.eq_3 (And.intro @of_tm (And.intro @of_bx (And.intro @of_bx' (And.intro @g_v (And.intro @x_v (And.intro @AV.flat.eq_1 (And.intro @AV.flat.eq_2 (And.intro @loadV.eq_1 (And.intro @loadV.eq_2 (And.intro @loadV.eq_3 (And.intro @loadV.eq_4 (And.intro @dV.eq_1 (And.intro @dV.eq_2 (And.intro @dV.eq_3 (And.intro @dV.eq_4 (And.intro @dC.eq_1 (And.intro @dC.eq_2 (And.intro @dC.eq_3 (And.intro @dC.eq_4 (And.intro @dCs.eq_1 (And.intro @dCs.eq_2 (And.intro @dCs.eq_3 (And.intro @dPs.eq_1 (And.intro @dPs.eq_2 (And.intro @dPs.eq_3 (And.intro @List.take_succ_cons.{0} (And.intro @List.take_zero.{0} (And.intro @List.drop_zero.{0} (And.intro @List.drop_succ_cons.{0} (And.intro @List.getElem?_cons_zero.{0} (And.intro @List.getElem?_cons_succ.{0} (And.intro @FR.ok.eq_1 @bytesTxt_length))))))))))))))))))))))))))))))))))))))))))))))))))))))))))))))))))))))))))))))))))))))))))))))))))))))))))))))))))))))))
theorem rwR : type_of% rwD := rwD
def lnD := And.intro @lendA.eq_1 (And.intro @lendA.eq_2 (And.intro @lendA.eq_3 (And.intro @lendC.eq_1 (And.intro @lendC.eq_2 (And.intro @lendC.eq_3 (And.intro @lendOKs.eq_1 (And.intro @lendOKs.eq_2 (And.intro @lendOKs.eq_3 (And.intro @lendOK.eq_1 (And.intro @lendOK.eq_2 (And.intro @lendOK.eq_3 (And.intro @of_bx (And.intro @lookB.eq_1 (And.intro @lookB.eq_2 (And.intro @Box.arr.eq_1 (And.intro @Box.arr.eq_2 (And.intro @Box.arr.eq_3 (And.intro @AV.cells.eq_1 (And.intro @AV.cells.eq_2 (And.intro @AV.cells.eq_3 (And.intro @List.map_cons.{0,0} (And.intro @List.map_nil.{0,0} (And.intro @List.length_map.{0,0} (And.intro @List.length_append.{0} (And.intro @List.length_cons.{0} (And.intro @List.length_nil.{0} (And.intro @List.length_replicate.{0} (And.intro @List.length_set.{0} (And.intro @take_len (And.intro @take_c1 (And.intro @take_c2 (And.intro @true_and (And.intro @and_true (And.intro @and_self (And.intro @Nat.le_refl (And.intro @Nat.zero_add (And.intro @Nat.add_zero (And.intro @vInt.eq_1 (And.intro @vBool.eq_1 (And.intro @vStr.eq_1 (And.intro @vSl.eq_1 (And.intro @cI.eq_1 (And.intro @cU.eq_1 (And.intro @cB.eq_1 (And.intro @cS.eq_1 (And.intro @cL.eq_1 (And.intro @cK.eq_1 (And.intro @List.map_append.{0,0} (And.intro @List.cons_append.{0} (And.intro @List.nil_append.{0} (And.intro @NodeT.cells_eq (And.intro @OpT.cells_eq @ReaderT.cells_eq))))))))))))))))))))))))))))))))))))))))))))))))))))
theorem lnR : type_of% lnD := lnD
def ggD := And.intro @sgOK.eq_1 (And.intro @sgOK.eq_2 (And.intro @nuOK.eq_1 (And.intro @nuOK.eq_2 (And.intro @of_bx (And.intro @lookB.eq_1 (And.intro @lookB.eq_2 (And.intro @renB.eq_1 (And.intro @renB.eq_2 (And.intro @List.getD_cons_zero.{0} (And.intro @List.getD_cons_succ.{0} (And.intro @List.cons_append.{0} (And.intro @List.nil_append.{0} (And.intro @List.append_nil.{0} (And.intro @List.map_cons.{0,0} (And.intro @List.map_nil.{0,0} (And.intro @List.map_append.{0,0} (And.intro @List.map_set.{0,0} (And.intro @List.length_append.{0} (And.intro @List.length_cons.{0} (And.intro @List.length_nil.{0} (And.intro @List.length_map.{0,0} (And.intro @List.length_set.{0} (And.intro @List.length_replicate.{0} (And.intro @List.replicate_zero.{0} (And.intro @List.replicate_succ.{0} (And.intro @List.map_replicate.{0,0} (And.intro @Nat.zero_add (And.intro @Nat.add_zero (And.intro @renA.eq_1 (And.intro @renA.eq_2 (And.intro @renA.eq_3 (And.intro @and_self (And.intro @and_true (And.intro @true_and (And.intro @cI.eq_1 (And.intro @cU.eq_1 (And.intro @cB.eq_1 (And.intro @cS.eq_1 (And.intro @cL.eq_1 (And.intro @cK.eq_1 (And.intro @NodeT.cells_eq (And.intro @OpT.cells_eq @ReaderT.cells_eq))))))))))))))))))))))))))))))))))))))))))
theorem ggR : type_of% ggD := ggD
def ghD := And.intro @sgOK.eq_1 (And.intro @sgOK.eq_2 (And.intro @nuOK.eq_1 (And.intro @nuOK.eq_2 (And.intro @of_bx (And.intro @lookB.eq_1 (And.intro @lookB.eq_2 (And.intro @renB.eq_1 (And.intro @renB.eq_2 (And.intro @List.getD_cons_zero.{0} (And.intro @List.getD_cons_succ.{0} (And.intro @List.cons_append.{0} (And.intro @List.nil_append.{0} (And.intro @List.append_nil.{0} (And.intro @List.map_cons.{0,0} (And.intro @List.map_nil.{0,0} (And.intro @List.map_append.{0,0} (And.intro @List.map_set.{0,0} (And.intro @List.length_append.{0} (And.intro @List.length_cons.{0} (And.intro @List.length_nil.{0} (And.intro @List.length_map.{0,0} (And.intro @List.length_set.{0} (And.intro @List.length_replicate.{0} (And.intro @List.replicate_zero.{0} (And.intro @List.replicate_succ.{0} (And.intro @List.map_replicate.{0,0} (And.intro @Nat.zero_add (And.intro @Nat.add_zero (And.intro @renA.eq_1 (And.intro @renA.eq_2 (And.intro @renA.eq_3 (And.intro @and_self (And.intro @and_true (And.intro @true_and (And.intro @cI.eq_1 (And.intro @cU.eq_1 (And.intro @cB.eq_1 (And.intro @cS.eq_1 (And.intro @cL.eq_1 (And.intro @cK.eq_1 (And.intro @NodeT.cells_eq (And.intro @OpT.cells_eq (And.intro @ReaderT.cells_eq (And.intro @of_frzL (And.intro @frzL.eq_1 (And.intro @frzL.eq_2 (And.intro @frzB.eq_1 (And.intro @frzB.eq_2 (And.intro @List.flatMap_cons.{0,0} (And.intro @List.flatMap_nil.{0,0} (And.intro @AV.owns.eq_1 (And.intro @AV.owns.eq_2 (And.intro @AV.owns.eq_3 (And.intro @ownsOf.eq_1 (And.intro @ownsOf.eq_2 (And.intro @ownsOf.eq_3 (And.intro @List.contains_cons.{0} (And.intro @List.contains_nil.{0} (And.intro @Bool.or_false (And.intro @Bool.or_true (And.intro @Bool.false_or (And.intro @if_true.{1} (And.intro @if_false.{1} (And.intro @Bool.false_eq_true (And.intro @lendA.eq_1 (And.intro @lendA.eq_2 (And.intro @lendA.eq_3 (And.intro @lendC.eq_1 (And.intro @lendC.eq_2 (And.intro @lendC.eq_3 (And.intro @lendOKs.eq_1 (And.intro @lendOKs.eq_2 (And.intro @lendOKs.eq_3 (And.intro @lendOK.eq_1 (And.intro @lendOK.eq_2 (And.intro @lendOK.eq_3 (And.intro @Box.arr.eq_1 (And.intro @Box.arr.eq_2 (And.intro @Box.arr.eq_3 (And.intro @AV.cells.eq_1 (And.intro @AV.cells.eq_2 (And.intro @AV.cells.eq_3 (And.intro @Nat.le_refl (And.intro @take_len (And.intro @take_c1 (And.intro @take_c2 (And.intro @vInt.eq_1 (And.intro @vBool.eq_1 (And.intro @vStr.eq_1 @vSl.eq_1)))))))))))))))))))))))))))))))))))))))))))))))))))))))))))))))))))))))))))))))))))))))))
theorem ghR : type_of% ghD := ghD
end Go.Ab
end
section
namespace Go.Ab
open Go
set_option maxRecDepth 100000
set_option maxHeartbeats 4000000
set_option linter.unusedVariables false
set_option linter.unusedSimpArgs false
def C.cmp_isNaN_int : ACode := (.seq (.reg [ ⟨none, some 2, .op (.mv (.k (.c (.lit (.bool false)))))⟩] [0]) (.seq (.reg [ ⟨none, some 3, .op (.mv (.t 0))⟩, ⟨none, some 4, .op (.mv (.t 0))⟩, ⟨none, some 5, .op (.bin .neq (.t 3) (.t 4))⟩, ⟨none, some 2, .op (.mv (.t 5))⟩] [2]) .ret))
theorem K.cmp_isNaN_int : chkF Go.Proofs.Tryz.prog 99 1 0 C.cmp_isNaN_int [.tmp 2] = true := by kernel_rfl
def C.cmp_Compare_int : ACode := (.seq (.reg [ ⟨none, some 4, .op (.mv (.k (.c (.lit (.int .i64 0)))))⟩] [0, 1]) (.seq (.reg [ ⟨none, some 7, .op (.mv (.t 0))⟩, ⟨none, some 8, .call 99 [.t 7]⟩, ⟨none, some 5, .op (.mv (.t 8))⟩] [0, 1, 5]) (.seq (.reg [ ⟨none, some 9, .op (.mv (.t 1))⟩, ⟨none, some 10, .call 99 [.t 9]⟩, ⟨none, some 6, .op (.mv (.t 10))⟩] [0, 1, 5, 6]) (.seq (.seq (.reg [ ⟨none, some 11, .op (.mv (.t 5))⟩] [0, 1, 6, 11]) (.cond (.t 11) (.seq (.seq (.reg [ ⟨none, some 12, .op (.mv (.t 6))⟩] [12]) (.cond (.t 12) (.seq (.reg [ ⟨none, some 4, .op (.mv (.k (.c (.lit (.int .i64 0)))))⟩] [4]) .ret) .skip)) (.seq (.reg [ ⟨none, some 4, .op (.mv (.k (.c (.lit (.int .i64 (-1))))))⟩] [4]) .ret)) .skip)) (.seq (.seq (.reg [ ⟨none, some 13, .op (.mv (.t 6))⟩] [0, 1, 13]) (.cond (.t 13) (.seq (.reg [ ⟨none, some 4, .op (.mv (.k (.c (.lit (.int .i64 1)))))⟩] [4]) .ret) .skip)) (.seq (.seq (.reg [ ⟨none, some 14, .op (.mv (.t 0))⟩, ⟨none, some 15, .op (.mv (.t 1))⟩, ⟨none, some 16, .op (.bin .lss (.t 14) (.t 15))⟩] [0, 1, 16]) (.cond (.t 16) (.seq (.reg [ ⟨none, some 4, .op (.mv (.k (.c (.lit (.int .i64 (-1))))))⟩] [4]) .ret) .skip)) (.seq (.seq (.reg [ ⟨none, some 17, .op (.mv (.t 0))⟩, ⟨none, some 18, .op (.mv (.t 1))⟩, ⟨none, some 19, .op (.bin .gtr (.t 17) (.t 18))⟩] [19]) (.cond (.t 19) (.seq (.reg [ ⟨none, some 4, .op (.mv (.k (.c (.lit (.int .i64 1)))))⟩] [4]) .ret) .skip)) (.seq (.reg [ ⟨none, some 4, .op (.mv (.k (.c (.lit (.int .i64 0)))))⟩] [4]) .ret))))))))
theorem K.cmp_Compare_int : chkF Go.Proofs.Tryz.prog 87 2 0 C.cmp_Compare_int [.tmp 4] = true := by kernel_rfl
def C.cmp_isNaN_string : ACode := (.seq (.reg [ ⟨none, some 2, .op (.mv (.k (.c (.lit (.bool false)))))⟩] [0]) (.seq (.reg [ ⟨none, some 3, .op (.mv (.t 0))⟩, ⟨none, some 4, .op (.mv (.t 0))⟩, ⟨none, some 5, .op (.bin .neq (.t 3) (.t 4))⟩, ⟨none, some 2, .op (.mv (.t 5))⟩] [2]) .ret))
theorem K.cmp_isNaN_string : chkF Go.Proofs.Tryz.prog 95 1 0 C.cmp_isNaN_string [.tmp 2] = true := by kernel_rfl
def C.cmp_Less_string : ACode := (.seq (.reg [ ⟨none, some 4, .op (.mv (.k (.c (.lit (.bool false)))))⟩] [0, 1]) (.seq (.reg [ ⟨none, some 5, .op (.mv (.t 0))⟩, ⟨none, some 6, .call 95 [.t 5]⟩, ⟨none, some 7, .op (.mv (.t 6))⟩, ⟨(some (7, true)), some 8, .op (.mv (.t 1))⟩, ⟨(some (7, true)), some 9, .call 95 [.t 8]⟩, ⟨(some (7, true)), some 10, .op (.not (.t 9))⟩, ⟨none, some 11, .op (.pick (.t 7) (.t 10) (.k (.c (.lit (.bool false)))))⟩, ⟨none, some 12, .op (.mv (.t 11))⟩, ⟨(some (12, false)), some 13, .op (.mv (.t 0))⟩, ⟨(some (12, false)), some 14, .op (.mv (.t 1))⟩, ⟨(some (12, false)), some 15, .op (.bin .lss (.t 13) (.t 14))⟩, ⟨none, some 16, .op (.pick (.t 12) (.k (.c (.lit (.bool true)))) (.t 15))⟩, ⟨none, some 4, .op (.mv (.t 16))⟩] [4]) .ret))
theorem K.cmp_Less_string : chkF Go.Proofs.Tryz.prog 79 2 0 C.cmp_Less_string [.tmp 4] = true := by kernel_rfl
def C.impl_copyNode : ACode := (.seq (.reg [ ⟨none, some 1, .op (.box 10 (.t 0))⟩, ⟨none, some 2, .op (.alloc 11 [.c (.lit (.int .i64 0)), .c (.lit (.int .i64 0)), .c (.str []), .nsl 1, .nsl 5])⟩] [1, 2]) (.seq (.reg [ ⟨none, some 6, .op (.faddr 0 (.t 1))⟩, ⟨none, some 7, .op (.load false 1 (.t 6))⟩, ⟨none, some 8, .op (.faddr 1 (.t 1))⟩, ⟨none, some 9, .op (.load false 1 (.t 8))⟩, ⟨none, some 10, .op (.faddr 2 (.t 1))⟩, ⟨none, some 11, .op (.load false 1 (.t 10))⟩, ⟨none, some 12, .op (.build [.c (.lit (.int .i64 0)), .c (.lit (.int .i64 0)), .c (.str []), .nsl 1, .nsl 5] [(0, 1, .t 7), (1, 1, .t 9), (2, 1, .t 11)])⟩, ⟨none, some 3, .op (.alloc 12 [.c (.lit (.int .i64 0)), .c (.lit (.int .i64 0)), .c (.str []), .nsl 1, .nsl 5])⟩, ⟨none, none, .op (.store true 5 (.t 3) (.t 12))⟩] [1, 2, 3]) (.cut (.seq (.reg [ ⟨none, some 13, .op (.faddr 3 (.t 1))⟩, ⟨none, some 14, .op (.load false 1 (.t 13))⟩, ⟨none, some 15, .op (.len (.t 14))⟩, ⟨none, some 16, .op (.bin .gtr (.t 15) (.k (.c (.lit (.int .i64 0)))))⟩] [1, 2, 3, 16]) (.cond (.t 16) (.seq (.reg [ ⟨none, some 17, .op (.faddr 3 (.t 1))⟩, ⟨none, some 18, .op (.load false 1 (.t 17))⟩, ⟨none, some 19, .op (.len (.t 18))⟩, ⟨none, some 20, .op (.makes 13 1 16 [.str []] (.t 19) (.t 19))⟩, ⟨none, some 21, .op (.faddr 3 (.t 3))⟩, ⟨none, none, .op (.store false 1 (.t 21) (.t 20))⟩] [1, 2, 3]) (.reg [ ⟨none, some 22, .op (.faddr 3 (.t 3))⟩, ⟨none, some 23, .op (.load false 1 (.t 22))⟩, ⟨none, some 24, .op (.faddr 3 (.t 1))⟩, ⟨none, some 25, .op (.load false 1 (.t 24))⟩, ⟨none, some 26, .op (.copy 1 (.t 23) (.t 25))⟩] [1, 2, 3])) .skip)) (.seq (.seq (.reg [ ⟨none, some 27, .op (.faddr 4 (.t 1))⟩, ⟨none, some 28, .op (.load false 1 (.t 27))⟩, ⟨none, some 29, .op (.len (.t 28))⟩, ⟨none, some 30, .op (.bin .gtr (.t 29) (.k (.c (.lit (.int .i64 0)))))⟩] [1, 2, 3, 30]) (.cond (.t 30) (.seq (.reg [ ⟨none, some 31, .op (.faddr 4 (.t 1))⟩, ⟨none, some 32, .op (.load false 1 (.t 31))⟩, ⟨none, some 33, .op (.len (.t 32))⟩, ⟨none, some 34, .op (.makes 14 5 80 [.lit (.int .i64 0), .lit (.int .i64 0), .str [], .sl 1 [], .sl 5 []] (.t 33) (.t 33))⟩, ⟨none, some 35, .op (.faddr 4 (.t 3))⟩, ⟨none, none, .op (.store false 1 (.t 35) (.t 34))⟩] [1, 2, 3]) (.seq (.reg [ ⟨none, some 36, .op (.faddr 4 (.t 1))⟩, ⟨none, some 37, .op (.load false 1 (.t 36))⟩, ⟨none, some 38, .op (.len (.t 37))⟩, ⟨none, some 39, .op (.mv (.k (.c (.lit (.int .i64 0)))))⟩] [2, 3, 37, 38, 39]) (.block 0 (.loop (.seq (.reg [ ⟨none, some 40, .op (.bin .lss (.t 39) (.t 38))⟩] [2, 3, 37, 38, 39, 40]) (.seq (.cond (.t 40) .skip (.exit 0)) (.seq (.block 1 (.seq (.reg [ ⟨none, some 41, .op (.mv (.t 39))⟩, ⟨none, some 42, .op (.iaddr 5 (.t 37) (.t 39))⟩, ⟨none, some 43, .op (.load true 5 (.t 42))⟩, ⟨none, some 5, .op (.alloc 15 [.c (.lit (.int .i64 0)), .c (.lit (.int .i64 0)), .c (.str []), .nsl 1, .nsl 5])⟩, ⟨none, some 4, .op (.mv (.t 41))⟩, ⟨none, none, .op (.store true 5 (.t 5) (.t 43))⟩] [2, 3, 4, 5, 37, 38, 39]) (.regD [ (⟨none, some 44, .op (.faddr 4 (.t 3))⟩, []), (⟨none, some 45, .op (.load false 1 (.t 44))⟩, [0]), (⟨none, some 46, .op (.mv (.t 4))⟩, []), (⟨none, some 47, .op (.load true 5 (.t 5))⟩, []), (⟨none, some 48, .call 29 [.t 47]⟩, [3]), (⟨none, some 49, .op (.iaddr 5 (.t 45) (.t 46))⟩, [0, 1, 2, 3, 4]), (⟨none, none, .op (.store true 5 (.t 49) (.t 48))⟩, [0, 1, 2, 3, 4, 5])] [2, 3, 37, 38, 39]))) (.reg [ ⟨none, some 50, .op (.bin .add (.t 39) (.k (.c (.lit (.int .i64 1)))))⟩, ⟨none, some 39, .op (.mv (.t 50))⟩] [2, 3, 37, 38, 39])))))))) .skip)) (.seq (.reg [ ⟨none, some 51, .op (.load true 5 (.t 3))⟩, ⟨none, none, .op (.store true 5 (.t 2) (.t 51))⟩] [2]) .ret)))))
theorem K.impl_copyNode : chkF Go.Proofs.Tryz.prog 29 1 0 C.impl_copyNode [.cell 2 true 5] = true := by kernel_rfl
def C.slices_isNaN_string : ACode := (.seq (.reg [ ⟨none, some 2, .op (.mv (.k (.c (.lit (.bool false)))))⟩] [0]) (.seq (.reg [ ⟨none, some 3, .op (.mv (.t 0))⟩, ⟨none, some 4, .op (.mv (.t 0))⟩, ⟨none, some 5, .op (.bin .neq (.t 3) (.t 4))⟩, ⟨none, some 2, .op (.mv (.t 5))⟩] [2]) .ret))
theorem K.slices_isNaN_string : chkF Go.Proofs.Tryz.prog 80 1 0 C.slices_isNaN_string [.tmp 2] = true := by kernel_rfl
def C.slices_BinarySearch_string : ACode := (.seq (.reg [ ⟨none, some 4, .op (.mv (.k (.c (.lit (.int .i64 0)))))⟩, ⟨none, some 5, .op (.mv (.k (.c (.lit (.bool false)))))⟩] [0, 1]) (.seq (.reg [ ⟨none, some 10, .op (.mv (.t 0))⟩, ⟨none, some 11, .op (.len (.t 10))⟩, ⟨none, some 6, .op (.mv (.t 11))⟩] [0, 1, 6]) (.seq (.reg [ ⟨none, some 12, .op (.mv (.t 6))⟩, ⟨none, some 7, .op (.mv (.k (.c (.lit (.int .i64 0)))))⟩, ⟨none, some 8, .op (.mv (.t 12))⟩] [0, 1, 6, 7, 8]) (.seq (.block 0 (.loop (.seq (.seq (.reg [ ⟨none, some 13, .op (.mv (.t 7))⟩, ⟨none, some 14, .op (.mv (.t 8))⟩, ⟨none, some 15, .op (.bin .lss (.t 13) (.t 14))⟩] [0, 1, 6, 7, 8, 15]) (.cond (.t 15) .skip (.exit 0))) (.block 1 (.seq (.reg [ ⟨none, some 16, .op (.mv (.t 7))⟩, ⟨none, some 17, .op (.mv (.t 8))⟩, ⟨none, some 18, .op (.bin .add (.t 16) (.t 17))⟩, ⟨none, some 19, .op (.cint .u64 (.t 18))⟩, ⟨none, some 20, .op (.shf false (.t 19) (.k (.c (.lit (.int .u64 1)))))⟩, ⟨none, some 21, .op (.cint .i64 (.t 20))⟩, ⟨none, some 9, .op (.mv (.t 21))⟩] [0, 1, 6, 7, 8, 9]) (.seq (.reg [ ⟨none, some 22, .op (.mv (.t 0))⟩, ⟨none, some 23, .op (.mv (.t 9))⟩, ⟨none, some 24, .op (.iaddr 1 (.t 22) (.t 23))⟩, ⟨none, some 25, .op (.load false 1 (.t 24))⟩, ⟨none, some 26, .op (.mv (.t 1))⟩, ⟨none, some 27, .call 79 [.t 25, .t 26]⟩] [0, 1, 6, 7, 8, 9, 27]) (.cond (.t 27) (.reg [ ⟨none, some 28, .op (.mv (.t 9))⟩, ⟨none, some 29, .op (.bin .add (.t 28) (.k (.c (.lit (.int .i64 1)))))⟩, ⟨none, some 7, .op (.mv (.t 29))⟩] [0, 1, 6, 7, 8]) (.reg [ ⟨none, some 30, .op (.mv (.t 9))⟩, ⟨none, some 8, .op (.mv (.t 30))⟩] [0, 1, 6, 7, 8])))))))) (.seq (.reg [ ⟨none, some 31, .op (.mv (.t 7))⟩, ⟨none, some 32, .op (.mv (.t 7))⟩, ⟨none, some 33, .op (.mv (.t 6))⟩, ⟨none, some 34, .op (.bin .lss (.t 32) (.t 33))⟩, ⟨none, some 35, .op (.mv (.t 34))⟩, ⟨(some (35, true)), some 36, .op (.mv (.t 0))⟩, ⟨(some (35, true)), some 37, .op (.mv (.t 7))⟩, ⟨(some (35, true)), some 38, .op (.iaddr 1 (.t 36) (.t 37))⟩, ⟨(some (35, true)), some 39, .op (.load false 1 (.t 38))⟩, ⟨(some (35, true)), some 40, .op (.mv (.t 1))⟩, ⟨(some (35, true)), some 41, .op (.bin .eql (.t 39) (.t 40))⟩, ⟨(some (35, true)), some 42, .op (.mv (.t 41))⟩, ⟨(some (42, false)), some 43, .op (.mv (.t 0))⟩, ⟨(some (42, false)), some 44, .op (.mv (.t 7))⟩, ⟨(some (42, false)), some 45, .op (.iaddr 1 (.t 43) (.t 44))⟩, ⟨(some (42, false)), some 46, .op (.load false 1 (.t 45))⟩, ⟨(some (42, false)), some 47, .call 80 [.t 46]⟩, ⟨(some (42, false)), some 48, .op (.mv (.t 47))⟩, ⟨(some (48, true)), some 49, .op (.mv (.t 1))⟩, ⟨(some (48, true)), some 50, .call 80 [.t 49]⟩, ⟨(some (42, false)), some 51, .op (.pick (.t 48) (.t 50) (.k (.c (.lit (.bool false)))))⟩, ⟨(some (35, true)), some 52, .op (.pick (.t 42) (.k (.c (.lit (.bool true)))) (.t 51))⟩, ⟨none, some 53, .op (.pick (.t 35) (.t 52) (.k (.c (.lit (.bool false)))))⟩, ⟨none, some 4, .op (.mv (.t 31))⟩, ⟨none, some 5, .op (.mv (.t 53))⟩] [4, 5]) .ret)))))
theorem K.slices_BinarySearch_string : chkF Go.Proofs.Tryz.prog 59 2 0 C.slices_BinarySearch_string [.tmp 4, .tmp 5] = true := by kernel_rfl
def C.internal_strconv_formatBase10 : ACode := (.seq (.reg [ ⟨none, some 17, .op (.mv (.t 0))⟩, ⟨none, some 18, .op (.len (.t 17))⟩, ⟨none, some 4, .op (.mv (.t 18))⟩] [0, 1, 4]) (.seq (.block 0 (.loop (.seq (.seq (.reg [ ⟨none, some 19, .op (.mv (.t 4))⟩, ⟨none, some 20, .op (.bin .geq (.t 19) (.k (.c (.lit (.int .i64 8)))))⟩] [0, 1, 4, 20]) (.cond (.t 20) .skip (.exit 0))) (.block 1 (.seq (.reg [ ⟨none, some 21, .op (.mv (.t 1))⟩, ⟨none, some 22, .op (.bin .rem (.t 21) (.k (.c (.lit (.int .u64 100000000)))))⟩, ⟨none, some 23, .op (.cint .u32 (.t 22))⟩, ⟨none, some 5, .op (.mv (.t 23))⟩] [0, 1, 4, 5]) (.seq (.reg [ ⟨none, some 24, .op (.mv (.t 1))⟩, ⟨none, some 25, .op (.bin .quo (.t 24) (.k (.c (.lit (.int .u64 100000000)))))⟩, ⟨none, some 1, .op (.mv (.t 25))⟩] [0, 1, 4, 5]) (.seq (.reg [ ⟨none, some 26, .op (.mv (.t 5))⟩, ⟨none, some 27, .op (.bin .quo (.t 26) (.k (.c (.lit (.int .u32 10000)))))⟩, ⟨none, some 28, .op (.mv (.t 5))⟩, ⟨none, some 29, .op (.bin .rem (.t 28) (.k (.c (.lit (.int .u32 10000)))))⟩, ⟨none, some 6, .op (.mv (.t 27))⟩, ⟨none, some 7, .op (.mv (.t 29))⟩] [0, 1, 4, 6, 7]) (.seq (.reg [ ⟨none, some 30, .op (.mv (.t 7))⟩, ⟨none, some 31, .op (.bin .quo (.t 30) (.k (.c (.lit (.int .u32 100)))))⟩, ⟨none, some 32, .op (.bin .mul (.t 31) (.k (.c (.lit (.int .u32 2)))))⟩, ⟨none, some 33, .op (.mv (.t 7))⟩, ⟨none, some 34, .op (.bin .rem (.t 33) (.k (.c (.lit (.int .u32 100)))))⟩, ⟨none, some 35, .op (.bin .mul (.t 34) (.k (.c (.lit (.int .u32 2)))))⟩, ⟨none, some 8, .op (.mv (.t 32))⟩, ⟨none, some 9, .op (.mv (.t 35))⟩] [0, 1, 4, 6, 8, 9]) (.seq (.reg [ ⟨none, some 36, .op (.mv (.t 6))⟩, ⟨none, some 37, .op (.bin .quo (.t 36) (.k (.c (.lit (.int .u32 100)))))⟩, ⟨none, some 38, .op (.bin .mul (.t 37) (.k (.c (.lit (.int .u32 2)))))⟩, ⟨none, some 39, .op (.mv (.t 6))⟩, ⟨none, some 40, .op (.bin .rem (.t 39) (.k (.c (.lit (.int .u32 100)))))⟩, ⟨none, some 41, .op (.bin .mul (.t 40) (.k (.c (.lit (.int .u32 2)))))⟩, ⟨none, some 10, .op (.mv (.t 38))⟩, ⟨none, some 11, .op (.mv (.t 41))⟩] [0, 1, 4, 8, 9, 10, 11]) (.seq (.regD [ (⟨none, some 42, .op (.mv (.t 0))⟩, []), (⟨none, some 43, .op (.mv (.t 4))⟩, []), (⟨none, some 44, .op (.bin .sub (.t 43) (.k (.c (.lit (.int .i64 1)))))⟩, [1]), (⟨none, some 45, .op (.mv (.t 0))⟩, []), (⟨none, some 46, .op (.mv (.t 4))⟩, []), (⟨none, some 47, .op (.bin .sub (.t 46) (.k (.c (.lit (.int .i64 2)))))⟩, [4]), (⟨none, some 48, .op (.mv (.t 9))⟩, []), (⟨none, some 49, .op (.bin .add (.t 48) (.k (.c (.lit (.int .u32 1)))))⟩, [6]), (⟨none, some 50, .op (.idxs (.k (.c (.str [48, 48, 48, 49, 48, 50, 48, 51, 48, 52, 48, 53, 48, 54, 48, 55, 48, 56, 48, 57, 49, 48, 49, 49, 49, 50, 49, 51, 49, 52, 49, 53, 49, 54, 49, 55, 49, 56, 49, 57, 50, 48, 50, 49, 50, 50, 50, 51, 50, 52, 50, 53, 50, 54, 50, 55, 50, 56, 50, 57, 51, 48, 51, 49, 51, 50, 51, 51, 51, 52, 51, 53, 51, 54, 51, 55, 51, 56, 51, 57, 52, 48, 52, 49, 52, 50, 52, 51, 52, 52, 52, 53, 52, 54, 52, 55, 52, 56, 52, 57, 53, 48, 53, 49, 53, 50, 53, 51, 53, 52, 53, 53, 53, 54, 53, 55, 53, 56, 53, 57, 54, 48, 54, 49, 54, 50, 54, 51, 54, 52, 54, 53, 54, 54, 54, 55, 54, 56, 54, 57, 55, 48, 55, 49, 55, 50, 55, 51, 55, 52, 55, 53, 55, 54, 55, 55, 55, 56, 55, 57, 56, 48, 56, 49, 56, 50, 56, 51, 56, 52, 56, 53, 56, 54, 56, 55, 56, 56, 56, 57, 57, 48, 57, 49, 57, 50, 57, 51, 57, 52, 57, 53, 57, 54, 57, 55, 57, 56, 57, 57]))) (.t 49))⟩, [6, 7]), (⟨none, some 51, .op (.mv (.t 9))⟩, []), (⟨none, some 52, .op (.idxs (.k (.c (.str [48, 48, 48, 49, 48, 50, 48, 51, 48, 52, 48, 53, 48, 54, 48, 55, 48, 56, 48, 57, 49, 48, 49, 49, 49, 50, 49, 51, 49, 52, 49, 53, 49, 54, 49, 55, 49, 56, 49, 57, 50, 48, 50, 49, 50, 50, 50, 51, 50, 52, 50, 53, 50, 54, 50, 55, 50, 56, 50, 57, 51, 48, 51, 49, 51, 50, 51, 51, 51, 52, 51, 53, 51, 54, 51, 55, 51, 56, 51, 57, 52, 48, 52, 49, 52, 50, 52, 51, 52, 52, 52, 53, 52, 54, 52, 55, 52, 56, 52, 57, 53, 48, 53, 49, 53, 50, 53, 51, 53, 52, 53, 53, 53, 54, 53, 55, 53, 56, 53, 57, 54, 48, 54, 49, 54, 50, 54, 51, 54, 52, 54, 53, 54, 54, 54, 55, 54, 56, 54, 57, 55, 48, 55, 49, 55, 50, 55, 51, 55, 52, 55, 53, 55, 54, 55, 55, 55, 56, 55, 57, 56, 48, 56, 49, 56, 50, 56, 51, 56, 52, 56, 53, 56, 54, 56, 55, 56, 56, 56, 57, 57, 48, 57, 49, 57, 50, 57, 51, 57, 52, 57, 53, 57, 54, 57, 55, 57, 56, 57, 57]))) (.t 51))⟩, [9]), (⟨none, some 53, .op (.iaddr 1 (.t 42) (.t 44))⟩, [0, 1, 2, 6, 7, 8]), (⟨none, none, .op (.store false 1 (.t 53) (.t 50))⟩, [0, 1, 2, 6, 7, 8, 11]), (⟨none, some 54, .op (.iaddr 1 (.t 45) (.t 47))⟩, [0, 1, 2, 3, 4, 5, 6, 7, 8, 9, 10, 11, 12]), (⟨none, none, .op (.store false 1 (.t 54) (.t 52))⟩, [0, 1, 2, 3, 4, 5, 6, 7, 8, 9, 10, 11, 12, 13])] [0, 1, 4, 8, 10, 11]) (.seq (.regD [ (⟨none, some 55, .op (.mv (.t 0))⟩, []), (⟨none, some 56, .op (.mv (.t 4))⟩, []), (⟨none, some 57, .op (.bin .sub (.t 56) (.k (.c (.lit (.int .i64 3)))))⟩, [1]), (⟨none, some 58, .op (.mv (.t 0))⟩, []), (⟨none, some 59, .op (.mv (.t 4))⟩, []), (⟨none, some 60, .op (.bin .sub (.t 59) (.k (.c (.lit (.int .i64 4)))))⟩, [4]), (⟨none, some 61, .op (.mv (.t 8))⟩, []), (⟨none, some 62, .op (.bin .add (.t 61) (.k (.c (.lit (.int .u32 1)))))⟩, [6]), (⟨none, some 63, .op (.idxs (.k (.c (.str [48, 48, 48, 49, 48, 50, 48, 51, 48, 52, 48, 53, 48, 54, 48, 55, 48, 56, 48, 57, 49, 48, 49, 49, 49, 50, 49, 51, 49, 52, 49, 53, 49, 54, 49, 55, 49, 56, 49, 57, 50, 48, 50, 49, 50, 50, 50, 51, 50, 52, 50, 53, 50, 54, 50, 55, 50, 56, 50, 57, 51, 48, 51, 49, 51, 50, 51, 51, 51, 52, 51, 53, 51, 54, 51, 55, 51, 56, 51, 57, 52, 48, 52, 49, 52, 50, 52, 51, 52, 52, 52, 53, 52, 54, 52, 55, 52, 56, 52, 57, 53, 48, 53, 49, 53, 50, 53, 51, 53, 52, 53, 53, 53, 54, 53, 55, 53, 56, 53, 57, 54, 48, 54, 49, 54, 50, 54, 51, 54, 52, 54, 53, 54, 54, 54, 55, 54, 56, 54, 57, 55, 48, 55, 49, 55, 50, 55, 51, 55, 52, 55, 53, 55, 54, 55, 55, 55, 56, 55, 57, 56, 48, 56, 49, 56, 50, 56, 51, 56, 52, 56, 53, 56, 54, 56, 55, 56, 56, 56, 57, 57, 48, 57, 49, 57, 50, 57, 51, 57, 52, 57, 53, 57, 54, 57, 55, 57, 56, 57, 57]))) (.t 62))⟩, [6, 7]), (⟨none, some 64, .op (.mv (.t 8))⟩, []), (⟨none, some 65, .op (.idxs (.k (.c (.str [48, 48, 48, 49, 48, 50, 48, 51, 48, 52, 48, 53, 48, 54, 48, 55, 48, 56, 48, 57, 49, 48, 49, 49, 49, 50, 49, 51, 49, 52, 49, 53, 49, 54, 49, 55, 49, 56, 49, 57, 50, 48, 50, 49, 50, 50, 50, 51, 50, 52, 50, 53, 50, 54, 50, 55, 50, 56, 50, 57, 51, 48, 51, 49, 51, 50, 51, 51, 51, 52, 51, 53, 51, 54, 51, 55, 51, 56, 51, 57, 52, 48, 52, 49, 52, 50, 52, 51, 52, 52, 52, 53, 52, 54, 52, 55, 52, 56, 52, 57, 53, 48, 53, 49, 53, 50, 53, 51, 53, 52, 53, 53, 53, 54, 53, 55, 53, 56, 53, 57, 54, 48, 54, 49, 54, 50, 54, 51, 54, 52, 54, 53, 54, 54, 54, 55, 54, 56, 54, 57, 55, 48, 55, 49, 55, 50, 55, 51, 55, 52, 55, 53, 55, 54, 55, 55, 55, 56, 55, 57, 56, 48, 56, 49, 56, 50, 56, 51, 56, 52, 56, 53, 56, 54, 56, 55, 56, 56, 56, 57, 57, 48, 57, 49, 57, 50, 57, 51, 57, 52, 57, 53, 57, 54, 57, 55, 57, 56, 57, 57]))) (.t 64))⟩, [9]), (⟨none, some 66, .op (.iaddr 1 (.t 55) (.t 57))⟩, [0, 1, 2, 6, 7, 8]), (⟨none, none, .op (.store false 1 (.t 66) (.t 63))⟩, [0, 1, 2, 6, 7, 8, 11]), (⟨none, some 67, .op (.iaddr 1 (.t 58) (.t 60))⟩, [0, 1, 2, 3, 4, 5, 6, 7, 8, 9, 10, 11, 12]), (⟨none, none, .op (.store false 1 (.t 67) (.t 65))⟩, [0, 1, 2, 3, 4, 5, 6, 7, 8, 9, 10, 11, 12, 13])] [0, 1, 4, 10, 11]) (.seq (.regD [ (⟨none, some 68, .op (.mv (.t 0))⟩, []), (⟨none, some 69, .op (.mv (.t 4))⟩, []), (⟨none, some 70, .op (.bin .sub (.t 69) (.k (.c (.lit (.int .i64 5)))))⟩, [1]), (⟨none, some 71, .op (.mv (.t 0))⟩, []), (⟨none, some 72, .op (.mv (.t 4))⟩, []), (⟨none, some 73, .op (.bin .sub (.t 72) (.k (.c (.lit (.int .i64 6)))))⟩, [4]), (⟨none, some 74, .op (.mv (.t 11))⟩, []), (⟨none, some 75, .op (.bin .add (.t 74) (.k (.c (.lit (.int .u32 1)))))⟩, [6]), (⟨none, some 76, .op (.idxs (.k (.c (.str [48, 48, 48, 49, 48, 50, 48, 51, 48, 52, 48, 53, 48, 54, 48, 55, 48, 56, 48, 57, 49, 48, 49, 49, 49, 50, 49, 51, 49, 52, 49, 53, 49, 54, 49, 55, 49, 56, 49, 57, 50, 48, 50, 49, 50, 50, 50, 51, 50, 52, 50, 53, 50, 54, 50, 55, 50, 56, 50, 57, 51, 48, 51, 49, 51, 50, 51, 51, 51, 52, 51, 53, 51, 54, 51, 55, 51, 56, 51, 57, 52, 48, 52, 49, 52, 50, 52, 51, 52, 52, 52, 53, 52, 54, 52, 55, 52, 56, 52, 57, 53, 48, 53, 49, 53, 50, 53, 51, 53, 52, 53, 53, 53, 54, 53, 55, 53, 56, 53, 57, 54, 48, 54, 49, 54, 50, 54, 51, 54, 52, 54, 53, 54, 54, 54, 55, 54, 56, 54, 57, 55, 48, 55, 49, 55, 50, 55, 51, 55, 52, 55, 53, 55, 54, 55, 55, 55, 56, 55, 57, 56, 48, 56, 49, 56, 50, 56, 51, 56, 52, 56, 53, 56, 54, 56, 55, 56, 56, 56, 57, 57, 48, 57, 49, 57, 50, 57, 51, 57, 52, 57, 53, 57, 54, 57, 55, 57, 56, 57, 57]))) (.t 75))⟩, [6, 7]), (⟨none, some 77, .op (.mv (.t 11))⟩, []), (⟨none, some 78, .op (.idxs (.k (.c (.str [48, 48, 48, 49, 48, 50, 48, 51, 48, 52, 48, 53, 48, 54, 48, 55, 48, 56, 48, 57, 49, 48, 49, 49, 49, 50, 49, 51, 49, 52, 49, 53, 49, 54, 49, 55, 49, 56, 49, 57, 50, 48, 50, 49, 50, 50, 50, 51, 50, 52, 50, 53, 50, 54, 50, 55, 50, 56, 50, 57, 51, 48, 51, 49, 51, 50, 51, 51, 51, 52, 51, 53, 51, 54, 51, 55, 51, 56, 51, 57, 52, 48, 52, 49, 52, 50, 52, 51, 52, 52, 52, 53, 52, 54, 52, 55, 52, 56, 52, 57, 53, 48, 53, 49, 53, 50, 53, 51, 53, 52, 53, 53, 53, 54, 53, 55, 53, 56, 53, 57, 54, 48, 54, 49, 54, 50, 54, 51, 54, 52, 54, 53, 54, 54, 54, 55, 54, 56, 54, 57, 55, 48, 55, 49, 55, 50, 55, 51, 55, 52, 55, 53, 55, 54, 55, 55, 55, 56, 55, 57, 56, 48, 56, 49, 56, 50, 56, 51, 56, 52, 56, 53, 56, 54, 56, 55, 56, 56, 56, 57, 57, 48, 57, 49, 57, 50, 57, 51, 57, 52, 57, 53, 57, 54, 57, 55, 57, 56, 57, 57]))) (.t 77))⟩, [9]), (⟨none, some 79, .op (.iaddr 1 (.t 68) (.t 70))⟩, [0, 1, 2, 6, 7, 8]), (⟨none, none, .op (.store false 1 (.t 79) (.t 76))⟩, [0, 1, 2, 6, 7, 8, 11]), (⟨none, some 80, .op (.iaddr 1 (.t 71) (.t 73))⟩, [0, 1, 2, 3, 4, 5, 6, 7, 8, 9, 10, 11, 12]), (⟨none, none, .op (.store false 1 (.t 80) (.t 78))⟩, [0, 1, 2, 3, 4, 5, 6, 7, 8, 9, 10, 11, 12, 13])] [0, 1, 4, 10]) (.seq (.regD [ (⟨none, some 81, .op (.mv (.t 0))⟩, []), (⟨none, some 82, .op (.mv (.t 4))⟩, []), (⟨none, some 83, .op (.bin .sub (.t 82) (.k (.c (.lit (.int .i64 7)))))⟩, [1]), (⟨none, some 84, .op (.mv (.t 0))⟩, []), (⟨none, some 85, .op (.mv (.t 4))⟩, []), (⟨none, some 86, .op (.bin .sub (.t 85) (.k (.c (.lit (.int .i64 8)))))⟩, [4]), (⟨none, some 87, .op (.mv (.t 10))⟩, []), (⟨none, some 88, .op (.bin .add (.t 87) (.k (.c (.lit (.int .u32 1)))))⟩, [6]), (⟨none, some 89, .op (.idxs (.k (.c (.str [48, 48, 48, 49, 48, 50, 48, 51, 48, 52, 48, 53, 48, 54, 48, 55, 48, 56, 48, 57, 49, 48, 49, 49, 49, 50, 49, 51, 49, 52, 49, 53, 49, 54, 49, 55, 49, 56, 49, 57, 50, 48, 50, 49, 50, 50, 50, 51, 50, 52, 50, 53, 50, 54, 50, 55, 50, 56, 50, 57, 51, 48, 51, 49, 51, 50, 51, 51, 51, 52, 51, 53, 51, 54, 51, 55, 51, 56, 51, 57, 52, 48, 52, 49, 52, 50, 52, 51, 52, 52, 52, 53, 52, 54, 52, 55, 52, 56, 52, 57, 53, 48, 53, 49, 53, 50, 53, 51, 53, 52, 53, 53, 53, 54, 53, 55, 53, 56, 53, 57, 54, 48, 54, 49, 54, 50, 54, 51, 54, 52, 54, 53, 54, 54, 54, 55, 54, 56, 54, 57, 55, 48, 55, 49, 55, 50, 55, 51, 55, 52, 55, 53, 55, 54, 55, 55, 55, 56, 55, 57, 56, 48, 56, 49, 56, 50, 56, 51, 56, 52, 56, 53, 56, 54, 56, 55, 56, 56, 56, 57, 57, 48, 57, 49, 57, 50, 57, 51, 57, 52, 57, 53, 57, 54, 57, 55, 57, 56, 57, 57]))) (.t 88))⟩, [6, 7]), (⟨none, some 90, .op (.mv (.t 10))⟩, []), (⟨none, some 91, .op (.idxs (.k (.c (.str [48, 48, 48, 49, 48, 50, 48, 51, 48, 52, 48, 53, 48, 54, 48, 55, 48, 56, 48, 57, 49, 48, 49, 49, 49, 50, 49, 51, 49, 52, 49, 53, 49, 54, 49, 55, 49, 56, 49, 57, 50, 48, 50, 49, 50, 50, 50, 51, 50, 52, 50, 53, 50, 54, 50, 55, 50, 56, 50, 57, 51, 48, 51, 49, 51, 50, 51, 51, 51, 52, 51, 53, 51, 54, 51, 55, 51, 56, 51, 57, 52, 48, 52, 49, 52, 50, 52, 51, 52, 52, 52, 53, 52, 54, 52, 55, 52, 56, 52, 57, 53, 48, 53, 49, 53, 50, 53, 51, 53, 52, 53, 53, 53, 54, 53, 55, 53, 56, 53, 57, 54, 48, 54, 49, 54, 50, 54, 51, 54, 52, 54, 53, 54, 54, 54, 55, 54, 56, 54, 57, 55, 48, 55, 49, 55, 50, 55, 51, 55, 52, 55, 53, 55, 54, 55, 55, 55, 56, 55, 57, 56, 48, 56, 49, 56, 50, 56, 51, 56, 52, 56, 53, 56, 54, 56, 55, 56, 56, 56, 57, 57, 48, 57, 49, 57, 50, 57, 51, 57, 52, 57, 53, 57, 54, 57, 55, 57, 56, 57, 57]))) (.t 90))⟩, [9]), (⟨none, some 92, .op (.iaddr 1 (.t 81) (.t 83))⟩, [0, 1, 2, 6, 7, 8]), (⟨none, none, .op (.store false 1 (.t 92) (.t 89))⟩, [0, 1, 2, 6, 7, 8, 11]), (⟨none, some 93, .op (.iaddr 1 (.t 84) (.t 86))⟩, [0, 1, 2, 3, 4, 5, 6, 7, 8, 9, 10, 11, 12]), (⟨none, none, .op (.store false 1 (.t 93) (.t 91))⟩, [0, 1, 2, 3, 4, 5, 6, 7, 8, 9, 10, 11, 12, 13])] [0, 1, 4]) (.reg [ ⟨none, some 94, .op (.mv (.t 4))⟩, ⟨none, some 95, .op (.bin .sub (.t 94) (.k (.c (.lit (.int .i64 8)))))⟩, ⟨none, some 4, .op (.mv (.t 95))⟩] [0, 1, 4])))))))))))))) (.seq (.reg [ ⟨none, some 96, .op (.mv (.t 1))⟩, ⟨none, some 97, .op (.cint .u32 (.t 96))⟩, ⟨none, some 12, .op (.mv (.t 97))⟩] [0, 4, 12]) (.cut (.seq (.reg [ ⟨none, some 98, .op (.mv (.t 4))⟩, ⟨none, some 99, .op (.bin .geq (.t 98) (.k (.c (.lit (.int .i64 4)))))⟩] [0, 4, 12, 99]) (.cond (.t 99) (.seq (.reg [ ⟨none, some 100, .op (.mv (.t 12))⟩, ⟨none, some 101, .op (.bin .rem (.t 100) (.k (.c (.lit (.int .u32 10000)))))⟩, ⟨none, some 13, .op (.mv (.t 101))⟩] [0, 4, 12, 13]) (.seq (.reg [ ⟨none, some 102, .op (.mv (.t 12))⟩, ⟨none, some 103, .op (.bin .quo (.t 102) (.k (.c (.lit (.int .u32 10000)))))⟩, ⟨none, some 12, .op (.mv (.t 103))⟩] [0, 4, 12, 13]) (.seq (.reg [ ⟨none, some 104, .op (.mv (.t 13))⟩, ⟨none, some 105, .op (.bin .quo (.t 104) (.k (.c (.lit (.int .u32 100)))))⟩, ⟨none, some 106, .op (.bin .mul (.t 105) (.k (.c (.lit (.int .u32 2)))))⟩, ⟨none, some 107, .op (.mv (.t 13))⟩, ⟨none, some 108, .op (.bin .rem (.t 107) (.k (.c (.lit (.int .u32 100)))))⟩, ⟨none, some 109, .op (.bin .mul (.t 108) (.k (.c (.lit (.int .u32 2)))))⟩, ⟨none, some 14, .op (.mv (.t 106))⟩, ⟨none, some 15, .op (.mv (.t 109))⟩] [0, 4, 12, 14, 15]) (.seq (.regD [ (⟨none, some 110, .op (.mv (.t 0))⟩, []), (⟨none, some 111, .op (.mv (.t 4))⟩, []), (⟨none, some 112, .op (.bin .sub (.t 111) (.k (.c (.lit (.int .i64 1)))))⟩, [1]), (⟨none, some 113, .op (.mv (.t 0))⟩, []), (⟨none, some 114, .op (.mv (.t 4))⟩, []), (⟨none, some 115, .op (.bin .sub (.t 114) (.k (.c (.lit (.int .i64 2)))))⟩, [4]), (⟨none, some 116, .op (.mv (.t 15))⟩, []), (⟨none, some 117, .op (.bin .add (.t 116) (.k (.c (.lit (.int .u32 1)))))⟩, [6]), (⟨none, some 118, .op (.idxs (.k (.c (.str [48, 48, 48, 49, 48, 50, 48, 51, 48, 52, 48, 53, 48, 54, 48, 55, 48, 56, 48, 57, 49, 48, 49, 49, 49, 50, 49, 51, 49, 52, 49, 53, 49, 54, 49, 55, 49, 56, 49, 57, 50, 48, 50, 49, 50, 50, 50, 51, 50, 52, 50, 53, 50, 54, 50, 55, 50, 56, 50, 57, 51, 48, 51, 49, 51, 50, 51, 51, 51, 52, 51, 53, 51, 54, 51, 55, 51, 56, 51, 57, 52, 48, 52, 49, 52, 50, 52, 51, 52, 52, 52, 53, 52, 54, 52, 55, 52, 56, 52, 57, 53, 48, 53, 49, 53, 50, 53, 51, 53, 52, 53, 53, 53, 54, 53, 55, 53, 56, 53, 57, 54, 48, 54, 49, 54, 50, 54, 51, 54, 52, 54, 53, 54, 54, 54, 55, 54, 56, 54, 57, 55, 48, 55, 49, 55, 50, 55, 51, 55, 52, 55, 53, 55, 54, 55, 55, 55, 56, 55, 57, 56, 48, 56, 49, 56, 50, 56, 51, 56, 52, 56, 53, 56, 54, 56, 55, 56, 56, 56, 57, 57, 48, 57, 49, 57, 50, 57, 51, 57, 52, 57, 53, 57, 54, 57, 55, 57, 56, 57, 57]))) (.t 117))⟩, [6, 7]), (⟨none, some 119, .op (.mv (.t 15))⟩, []), (⟨none, some 120, .op (.idxs (.k (.c (.str [48, 48, 48, 49, 48, 50, 48, 51, 48, 52, 48, 53, 48, 54, 48, 55, 48, 56, 48, 57, 49, 48, 49, 49, 49, 50, 49, 51, 49, 52, 49, 53, 49, 54, 49, 55, 49, 56, 49, 57, 50, 48, 50, 49, 50, 50, 50, 51, 50, 52, 50, 53, 50, 54, 50, 55, 50, 56, 50, 57, 51, 48, 51, 49, 51, 50, 51, 51, 51, 52, 51, 53, 51, 54, 51, 55, 51, 56, 51, 57, 52, 48, 52, 49, 52, 50, 52, 51, 52, 52, 52, 53, 52, 54, 52, 55, 52, 56, 52, 57, 53, 48, 53, 49, 53, 50, 53, 51, 53, 52, 53, 53, 53, 54, 53, 55, 53, 56, 53, 57, 54, 48, 54, 49, 54, 50, 54, 51, 54, 52, 54, 53, 54, 54, 54, 55, 54, 56, 54, 57, 55, 48, 55, 49, 55, 50, 55, 51, 55, 52, 55, 53, 55, 54, 55, 55, 55, 56, 55, 57, 56, 48, 56, 49, 56, 50, 56, 51, 56, 52, 56, 53, 56, 54, 56, 55, 56, 56, 56, 57, 57, 48, 57, 49, 57, 50, 57, 51, 57, 52, 57, 53, 57, 54, 57, 55, 57, 56, 57, 57]))) (.t 119))⟩, [9]), (⟨none, some 121, .op (.iaddr 1 (.t 110) (.t 112))⟩, [0, 1, 2, 6, 7, 8]), (⟨none, none, .op (.store false 1 (.t 121) (.t 118))⟩, [0, 1, 2, 6, 7, 8, 11]), (⟨none, some 122, .op (.iaddr 1 (.t 113) (.t 115))⟩, [0, 1, 2, 3, 4, 5, 6, 7, 8, 9, 10, 11, 12]), (⟨none, none, .op (.store false 1 (.t 122) (.t 120))⟩, [0, 1, 2, 3, 4, 5, 6, 7, 8, 9, 10, 11, 12, 13])] [0, 4, 12, 14]) (.seq (.regD [ (⟨none, some 123, .op (.mv (.t 0))⟩, []), (⟨none, some 124, .op (.mv (.t 4))⟩, []), (⟨none, some 125, .op (.bin .sub (.t 124) (.k (.c (.lit (.int .i64 3)))))⟩, [1]), (⟨none, some 126, .op (.mv (.t 0))⟩, []), (⟨none, some 127, .op (.mv (.t 4))⟩, []), (⟨none, some 128, .op (.bin .sub (.t 127) (.k (.c (.lit (.int .i64 4)))))⟩, [4]), (⟨none, some 129, .op (.mv (.t 14))⟩, []), (⟨none, some 130, .op (.bin .add (.t 129) (.k (.c (.lit (.int .u32 1)))))⟩, [6]), (⟨none, some 131, .op (.idxs (.k (.c (.str [48, 48, 48, 49, 48, 50, 48, 51, 48, 52, 48, 53, 48, 54, 48, 55, 48, 56, 48, 57, 49, 48, 49, 49, 49, 50, 49, 51, 49, 52, 49, 53, 49, 54, 49, 55, 49, 56, 49, 57, 50, 48, 50, 49, 50, 50, 50, 51, 50, 52, 50, 53, 50, 54, 50, 55, 50, 56, 50, 57, 51, 48, 51, 49, 51, 50, 51, 51, 51, 52, 51, 53, 51, 54, 51, 55, 51, 56, 51, 57, 52, 48, 52, 49, 52, 50, 52, 51, 52, 52, 52, 53, 52, 54, 52, 55, 52, 56, 52, 57, 53, 48, 53, 49, 53, 50, 53, 51, 53, 52, 53, 53, 53, 54, 53, 55, 53, 56, 53, 57, 54, 48, 54, 49, 54, 50, 54, 51, 54, 52, 54, 53, 54, 54, 54, 55, 54, 56, 54, 57, 55, 48, 55, 49, 55, 50, 55, 51, 55, 52, 55, 53, 55, 54, 55, 55, 55, 56, 55, 57, 56, 48, 56, 49, 56, 50, 56, 51, 56, 52, 56, 53, 56, 54, 56, 55, 56, 56, 56, 57, 57, 48, 57, 49, 57, 50, 57, 51, 57, 52, 57, 53, 57, 54, 57, 55, 57, 56, 57, 57]))) (.t 130))⟩, [6, 7]), (⟨none, some 132, .op (.mv (.t 14))⟩, []), (⟨none, some 133, .op (.idxs (.k (.c (.str [48, 48, 48, 49, 48, 50, 48, 51, 48, 52, 48, 53, 48, 54, 48, 55, 48, 56, 48, 57, 49, 48, 49, 49, 49, 50, 49, 51, 49, 52, 49, 53, 49, 54, 49, 55, 49, 56, 49, 57, 50, 48, 50, 49, 50, 50, 50, 51, 50, 52, 50, 53, 50, 54, 50, 55, 50, 56, 50, 57, 51, 48, 51, 49, 51, 50, 51, 51, 51, 52, 51, 53, 51, 54, 51, 55, 51, 56, 51, 57, 52, 48, 52, 49, 52, 50, 52, 51, 52, 52, 52, 53, 52, 54, 52, 55, 52, 56, 52, 57, 53, 48, 53, 49, 53, 50, 53, 51, 53, 52, 53, 53, 53, 54, 53, 55, 53, 56, 53, 57, 54, 48, 54, 49, 54, 50, 54, 51, 54, 52, 54, 53, 54, 54, 54, 55, 54, 56, 54, 57, 55, 48, 55, 49, 55, 50, 55, 51, 55, 52, 55, 53, 55, 54, 55, 55, 55, 56, 55, 57, 56, 48, 56, 49, 56, 50, 56, 51, 56, 52, 56, 53, 56, 54, 56, 55, 56, 56, 56, 57, 57, 48, 57, 49, 57, 50, 57, 51, 57, 52, 57, 53, 57, 54, 57, 55, 57, 56, 57, 57]))) (.t 132))⟩, [9]), (⟨none, some 134, .op (.iaddr 1 (.t 123) (.t 125))⟩, [0, 1, 2, 6, 7, 8]), (⟨none, none, .op (.store false 1 (.t 134) (.t 131))⟩, [0, 1, 2, 6, 7, 8, 11]), (⟨none, some 135, .op (.iaddr 1 (.t 126) (.t 128))⟩, [0, 1, 2, 3, 4, 5, 6, 7, 8, 9, 10, 11, 12]), (⟨none, none, .op (.store false 1 (.t 135) (.t 133))⟩, [0, 1, 2, 3, 4, 5, 6, 7, 8, 9, 10, 11, 12, 13])] [0, 4, 12]) (.reg [ ⟨none, some 136, .op (.mv (.t 4))⟩, ⟨none, some 137, .op (.bin .sub (.t 136) (.k (.c (.lit (.int .i64 4)))))⟩, ⟨none, some 4, .op (.mv (.t 137))⟩] [0, 4, 12])))))) .skip)) (.cut (.seq (.reg [ ⟨none, some 138, .op (.mv (.t 4))⟩, ⟨none, some 139, .op (.bin .geq (.t 138) (.k (.c (.lit (.int .i64 2)))))⟩] [0, 4, 12, 139]) (.cond (.t 139) (.seq (.reg [ ⟨none, some 140, .op (.mv (.t 12))⟩, ⟨none, some 141, .op (.bin .rem (.t 140) (.k (.c (.lit (.int .u32 100)))))⟩, ⟨none, some 142, .op (.bin .mul (.t 141) (.k (.c (.lit (.int .u32 2)))))⟩, ⟨none, some 16, .op (.mv (.t 142))⟩] [0, 4, 12, 16]) (.seq (.reg [ ⟨none, some 143, .op (.mv (.t 12))⟩, ⟨none, some 144, .op (.bin .quo (.t 143) (.k (.c (.lit (.int .u32 100)))))⟩, ⟨none, some 12, .op (.mv (.t 144))⟩] [0, 4, 12, 16]) (.seq (.regD [ (⟨none, some 145, .op (.mv (.t 0))⟩, []), (⟨none, some 146, .op (.mv (.t 4))⟩, []), (⟨none, some 147, .op (.bin .sub (.t 146) (.k (.c (.lit (.int .i64 1)))))⟩, [1]), (⟨none, some 148, .op (.mv (.t 0))⟩, []), (⟨none, some 149, .op (.mv (.t 4))⟩, []), (⟨none, some 150, .op (.bin .sub (.t 149) (.k (.c (.lit (.int .i64 2)))))⟩, [4]), (⟨none, some 151, .op (.mv (.t 16))⟩, []), (⟨none, some 152, .op (.bin .add (.t 151) (.k (.c (.lit (.int .u32 1)))))⟩, [6]), (⟨none, some 153, .op (.idxs (.k (.c (.str [48, 48, 48, 49, 48, 50, 48, 51, 48, 52, 48, 53, 48, 54, 48, 55, 48, 56, 48, 57, 49, 48, 49, 49, 49, 50, 49, 51, 49, 52, 49, 53, 49, 54, 49, 55, 49, 56, 49, 57, 50, 48, 50, 49, 50, 50, 50, 51, 50, 52, 50, 53, 50, 54, 50, 55, 50, 56, 50, 57, 51, 48, 51, 49, 51, 50, 51, 51, 51, 52, 51, 53, 51, 54, 51, 55, 51, 56, 51, 57, 52, 48, 52, 49, 52, 50, 52, 51, 52, 52, 52, 53, 52, 54, 52, 55, 52, 56, 52, 57, 53, 48, 53, 49, 53, 50, 53, 51, 53, 52, 53, 53, 53, 54, 53, 55, 53, 56, 53, 57, 54, 48, 54, 49, 54, 50, 54, 51, 54, 52, 54, 53, 54, 54, 54, 55, 54, 56, 54, 57, 55, 48, 55, 49, 55, 50, 55, 51, 55, 52, 55, 53, 55, 54, 55, 55, 55, 56, 55, 57, 56, 48, 56, 49, 56, 50, 56, 51, 56, 52, 56, 53, 56, 54, 56, 55, 56, 56, 56, 57, 57, 48, 57, 49, 57, 50, 57, 51, 57, 52, 57, 53, 57, 54, 57, 55, 57, 56, 57, 57]))) (.t 152))⟩, [6, 7]), (⟨none, some 154, .op (.mv (.t 16))⟩, []), (⟨none, some 155, .op (.idxs (.k (.c (.str [48, 48, 48, 49, 48, 50, 48, 51, 48, 52, 48, 53, 48, 54, 48, 55, 48, 56, 48, 57, 49, 48, 49, 49, 49, 50, 49, 51, 49, 52, 49, 53, 49, 54, 49, 55, 49, 56, 49, 57, 50, 48, 50, 49, 50, 50, 50, 51, 50, 52, 50, 53, 50, 54, 50, 55, 50, 56, 50, 57, 51, 48, 51, 49, 51, 50, 51, 51, 51, 52, 51, 53, 51, 54, 51, 55, 51, 56, 51, 57, 52, 48, 52, 49, 52, 50, 52, 51, 52, 52, 52, 53, 52, 54, 52, 55, 52, 56, 52, 57, 53, 48, 53, 49, 53, 50, 53, 51, 53, 52, 53, 53, 53, 54, 53, 55, 53, 56, 53, 57, 54, 48, 54, 49, 54, 50, 54, 51, 54, 52, 54, 53, 54, 54, 54, 55, 54, 56, 54, 57, 55, 48, 55, 49, 55, 50, 55, 51, 55, 52, 55, 53, 55, 54, 55, 55, 55, 56, 55, 57, 56, 48, 56, 49, 56, 50, 56, 51, 56, 52, 56, 53, 56, 54, 56, 55, 56, 56, 56, 57, 57, 48, 57, 49, 57, 50, 57, 51, 57, 52, 57, 53, 57, 54, 57, 55, 57, 56, 57, 57]))) (.t 154))⟩, [9]), (⟨none, some 156, .op (.iaddr 1 (.t 145) (.t 147))⟩, [0, 1, 2, 6, 7, 8]), (⟨none, none, .op (.store false 1 (.t 156) (.t 153))⟩, [0, 1, 2, 6, 7, 8, 11]), (⟨none, some 157, .op (.iaddr 1 (.t 148) (.t 150))⟩, [0, 1, 2, 3, 4, 5, 6, 7, 8, 9, 10, 11, 12]), (⟨none, none, .op (.store false 1 (.t 157) (.t 155))⟩, [0, 1, 2, 3, 4, 5, 6, 7, 8, 9, 10, 11, 12, 13])] [0, 4, 12]) (.reg [ ⟨none, some 158, .op (.mv (.t 4))⟩, ⟨none, some 159, .op (.bin .sub (.t 158) (.k (.c (.lit (.int .i64 2)))))⟩, ⟨none, some 4, .op (.mv (.t 159))⟩] [0, 4, 12])))) .skip)) (.seq (.reg [ ⟨none, some 160, .op (.mv (.t 4))⟩, ⟨none, some 161, .op (.bin .gtr (.t 160) (.k (.c (.lit (.int .i64 0)))))⟩] [0, 12, 161]) (.cond (.t 161) (.reg [ ⟨none, some 162, .op (.mv (.t 0))⟩, ⟨none, some 163, .op (.mv (.t 12))⟩, ⟨none, some 164, .op (.bin .add (.k (.c (.lit (.int .u32 48)))) (.t 163))⟩, ⟨none, some 165, .op (.cint .u8 (.t 164))⟩, ⟨none, some 166, .op (.iaddr 1 (.t 162) (.k (.c (.lit (.int .i64 0)))))⟩, ⟨none, none, .op (.store false 1 (.t 166) (.t 165))⟩] []) .skip)))))))
theorem K.internal_strconv_formatBase10 : chkF Go.Proofs.Tryz.prog 106 2 0 C.internal_strconv_formatBase10 [] = true := by kernel_rfl
def C.internal_strconv_log10Pow2 : ACode := (.seq (.reg [ ⟨none, some 2, .op (.mv (.k (.c (.lit (.int .i64 0)))))⟩] [0]) (.seq (.reg [ ⟨none, some 3, .op (.mv (.t 0))⟩, ⟨none, some 4, .op (.bin .mul (.t 3) (.k (.c (.lit (.int .i64 78913)))))⟩, ⟨none, some 5, .op (.shf false (.t 4) (.k (.c (.lit (.int .u64 18)))))⟩, ⟨none, some 2, .op (.mv (.t 5))⟩] [2]) .ret))
theorem K.internal_strconv_log10Pow2 : chkF Go.Proofs.Tryz.prog 112 1 0 C.internal_strconv_log10Pow2 [.tmp 2] = true := by kernel_rfl
def C.math_bits_Len64 : ACode := (.seq (.reg [ ⟨none, some 2, .op (.mv (.k (.c (.lit (.int .i64 0)))))⟩] [0, 2]) (.cut (.seq (.reg [ ⟨none, some 3, .op (.mv (.t 0))⟩, ⟨none, some 4, .op (.bin .geq (.t 3) (.k (.c (.lit (.int .u64 4294967296)))))⟩] [0, 2, 4]) (.cond (.t 4) (.seq (.reg [ ⟨none, some 5, .op (.mv (.t 0))⟩, ⟨none, some 6, .op (.shf false (.t 5) (.k (.c (.lit (.int .u64 32)))))⟩, ⟨none, some 0, .op (.mv (.t 6))⟩] [0]) (.reg [ ⟨none, some 2, .op (.mv (.k (.c (.lit (.int .i64 32)))))⟩] [0, 2])) .skip)) (.cut (.seq (.reg [ ⟨none, some 7, .op (.mv (.t 0))⟩, ⟨none, some 8, .op (.bin .geq (.t 7) (.k (.c (.lit (.int .u64 65536)))))⟩] [0, 2, 8]) (.cond (.t 8) (.seq (.reg [ ⟨none, some 9, .op (.mv (.t 0))⟩, ⟨none, some 10, .op (.shf false (.t 9) (.k (.c (.lit (.int .u64 16)))))⟩, ⟨none, some 0, .op (.mv (.t 10))⟩] [0, 2]) (.reg [ ⟨none, some 11, .op (.mv (.t 2))⟩, ⟨none, some 12, .op (.bin .add (.t 11) (.k (.c (.lit (.int .i64 16)))))⟩, ⟨none, some 2, .op (.mv (.t 12))⟩] [0, 2])) .skip)) (.seq (.seq (.reg [ ⟨none, some 13, .op (.mv (.t 0))⟩, ⟨none, some 14, .op (.bin .geq (.t 13) (.k (.c (.lit (.int .u64 256)))))⟩] [0, 2, 14]) (.cond (.t 14) (.seq (.reg [ ⟨none, some 15, .op (.mv (.t 0))⟩, ⟨none, some 16, .op (.shf false (.t 15) (.k (.c (.lit (.int .u64 8)))))⟩, ⟨none, some 0, .op (.mv (.t 16))⟩] [0, 2]) (.reg [ ⟨none, some 17, .op (.mv (.t 2))⟩, ⟨none, some 18, .op (.bin .add (.t 17) (.k (.c (.lit (.int .i64 8)))))⟩, ⟨none, some 2, .op (.mv (.t 18))⟩] [0, 2])) .skip)) (.seq (.reg [ ⟨none, some 19, .op (.mv (.t 2))⟩, ⟨none, some 20, .op (.mv (.t 0))⟩, ⟨none, some 21, .op (.cint .u8 (.t 20))⟩, ⟨none, some 22, .op (.idxs (.k (.c (.str [0, 1, 2, 2, 3, 3, 3, 3, 4, 4, 4, 4, 4, 4, 4, 4, 5, 5, 5, 5, 5, 5, 5, 5, 5, 5, 5, 5, 5, 5, 5, 5, 6, 6, 6, 6, 6, 6, 6, 6, 6, 6, 6, 6, 6, 6, 6, 6, 6, 6, 6, 6, 6, 6, 6, 6, 6, 6, 6, 6, 6, 6, 6, 6, 7, 7, 7, 7, 7, 7, 7, 7, 7, 7, 7, 7, 7, 7, 7, 7, 7, 7, 7, 7, 7, 7, 7, 7, 7, 7, 7, 7, 7, 7, 7, 7, 7, 7, 7, 7, 7, 7, 7, 7, 7, 7, 7, 7, 7, 7, 7, 7, 7, 7, 7, 7, 7, 7, 7, 7, 7, 7, 7, 7, 7, 7, 7, 7, 8, 8, 8, 8, 8, 8, 8, 8, 8, 8, 8, 8, 8, 8, 8, 8, 8, 8, 8, 8, 8, 8, 8, 8, 8, 8, 8, 8, 8, 8, 8, 8, 8, 8, 8, 8, 8, 8, 8, 8, 8, 8, 8, 8, 8, 8, 8, 8, 8, 8, 8, 8, 8, 8, 8, 8, 8, 8, 8, 8, 8, 8, 8, 8, 8, 8, 8, 8, 8, 8, 8, 8, 8, 8, 8, 8, 8, 8, 8, 8, 8, 8, 8, 8, 8, 8, 8, 8, 8, 8, 8, 8, 8, 8, 8, 8, 8, 8, 8, 8, 8, 8, 8, 8, 8, 8, 8, 8, 8, 8, 8, 8, 8, 8, 8, 8, 8, 8, 8, 8, 8, 8, 8, 8, 8, 8, 8, 8]))) (.t 21))⟩, ⟨none, some 23, .op (.cint .i64 (.t 22))⟩, ⟨none, some 24, .op (.bin .add (.t 19) (.t 23))⟩, ⟨none, some 2, .op (.mv (.t 24))⟩] [2]) .ret)))))
theorem K.math_bits_Len64 : chkF Go.Proofs.Tryz.prog 113 1 0 C.math_bits_Len64 [.tmp 2] = true := by kernel_rfl
def C.internal_strconv_numDigits : ACode := (.seq (.reg [ ⟨none, some 2, .op (.mv (.k (.c (.lit (.int .i64 0)))))⟩] [0]) (.seq (.reg [ ⟨none, some 4, .op (.mv (.t 0))⟩, ⟨none, some 5, .call 113 [.t 4]⟩, ⟨none, some 6, .call 112 [.t 5]⟩, ⟨none, some 3, .op (.mv (.t 6))⟩] [0, 3]) (.seq (.reg [ ⟨none, some 7, .op (.mv (.t 3))⟩, ⟨none, some 8, .op (.mv (.t 0))⟩, ⟨none, some 9, .op (.mv (.t 3))⟩, ⟨none, some 10, .op (.iaddrA 1 20 (.k (.c (.lit (.pointer (some ⟨1, 0, none⟩))))) (.t 9))⟩, ⟨none, some 11, .op (.load false 1 (.t 10))⟩, ⟨none, some 12, .op (.bin .geq (.t 8) (.t 11))⟩, ⟨none, some 13, .call 114 [.t 12]⟩, ⟨none, some 14, .op (.bin .add (.t 7) (.t 13))⟩, ⟨none, some 2, .op (.mv (.t 14))⟩] [2]) .ret)))
theorem K.internal_strconv_numDigits : chkF Go.Proofs.Tryz.prog 105 1 0 C.internal_strconv_numDigits [.tmp 2] = true := by kernel_rfl
def C.internal_strconv_small : ACode := (.seq (.reg [ ⟨none, some 2, .op (.mv (.k (.c (.str []))))⟩] [0]) (.seq (.seq (.reg [ ⟨none, some 3, .op (.mv (.t 0))⟩, ⟨none, some 4, .op (.bin .lss (.t 3) (.k (.c (.lit (.int .i64 10)))))⟩] [0, 4]) (.cond (.t 4) (.seq (.reg [ ⟨none, some 5, .op (.mv (.t 0))⟩, ⟨none, some 6, .op (.mv (.t 0))⟩, ⟨none, some 7, .op (.bin .add (.t 6) (.k (.c (.lit (.int .i64 1)))))⟩, ⟨none, some 8, .op (.slstr (.k (.c (.str [48, 49, 50, 51, 52, 53, 54, 55, 56, 57, 97, 98, 99, 100, 101, 102, 103, 104, 105, 106, 107, 108, 109, 110, 111, 112, 113, 114, 115, 116, 117, 118, 119, 120, 121, 122]))) (some (.t 5)) (some (.t 7)))⟩, ⟨none, some 2, .op (.mv (.t 8))⟩] [2]) .ret) .skip)) (.seq (.reg [ ⟨none, some 9, .op (.mv (.t 0))⟩, ⟨none, some 10, .op (.bin .mul (.t 9) (.k (.c (.lit (.int .i64 2)))))⟩, ⟨none, some 11, .op (.mv (.t 0))⟩, ⟨none, some 12, .op (.bin .mul (.t 11) (.k (.c (.lit (.int .i64 2)))))⟩, ⟨none, some 13, .op (.bin .add (.t 12) (.k (.c (.lit (.int .i64 2)))))⟩, ⟨none, some 14, .op (.slstr (.k (.c (.str [48, 48, 48, 49, 48, 50, 48, 51, 48, 52, 48, 53, 48, 54, 48, 55, 48, 56, 48, 57, 49, 48, 49, 49, 49, 50, 49, 51, 49, 52, 49, 53, 49, 54, 49, 55, 49, 56, 49, 57, 50, 48, 50, 49, 50, 50, 50, 51, 50, 52, 50, 53, 50, 54, 50, 55, 50, 56, 50, 57, 51, 48, 51, 49, 51, 50, 51, 51, 51, 52, 51, 53, 51, 54, 51, 55, 51, 56, 51, 57, 52, 48, 52, 49, 52, 50, 52, 51, 52, 52, 52, 53, 52, 54, 52, 55, 52, 56, 52, 57, 53, 48, 53, 49, 53, 50, 53, 51, 53, 52, 53, 53, 53, 54, 53, 55, 53, 56, 53, 57, 54, 48, 54, 49, 54, 50, 54, 51, 54, 52, 54, 53, 54, 54, 54, 55, 54, 56, 54, 57, 55, 48, 55, 49, 55, 50, 55, 51, 55, 52, 55, 53, 55, 54, 55, 55, 55, 56, 55, 57, 56, 48, 56, 49, 56, 50, 56, 51, 56, 52, 56, 53, 56, 54, 56, 55, 56, 56, 56, 57, 57, 48, 57, 49, 57, 50, 57, 51, 57, 52, 57, 53, 57, 54, 57, 55, 57, 56, 57, 57]))) (some (.t 10)) (some (.t 13)))⟩, ⟨none, some 2, .op (.mv (.t 14))⟩] [2]) .ret)))
theorem K.internal_strconv_small : chkF Go.Proofs.Tryz.prog 104 1 0 C.internal_strconv_small [.tmp 2] = true := by kernel_rfl
def C.internal_strconv_FormatInt : ACode := (.seq (.reg [ ⟨none, some 4, .op (.mv (.k (.c (.str []))))⟩] [0, 1]) (.seq (.seq (.reg [ ⟨none, some 10, .op (.mv (.t 1))⟩, ⟨none, some 11, .op (.bin .eql (.t 10) (.k (.c (.lit (.int .i64 10)))))⟩] [0, 1, 11]) (.cond (.t 11) (.seq (.seq (.reg [ ⟨none, some 12, .op (.mv (.t 0))⟩, ⟨none, some 13, .op (.bin .leq (.k (.c (.lit (.int .i64 0)))) (.t 12))⟩, ⟨none, some 14, .op (.mv (.t 13))⟩, ⟨(some (14, true)), some 15, .op (.mv (.t 0))⟩, ⟨(some (14, true)), some 16, .op (.bin .lss (.t 15) (.k (.c (.lit (.int .i64 100)))))⟩, ⟨none, some 17, .op (.pick (.t 14) (.t 16) (.k (.c (.lit (.bool false)))))⟩] [0, 17]) (.cond (.t 17) (.seq (.reg [ ⟨none, some 18, .op (.mv (.t 0))⟩, ⟨none, some 19, .call 104 [.t 18]⟩, ⟨none, some 4, .op (.mv (.t 19))⟩] [4]) .ret) .skip)) (.seq (.reg [ ⟨none, some 5, .op (.allocA 10 1 24 [.lit (.int .u8 0)])⟩] [0, 5]) (.seq (.reg [ ⟨none, some 20, .op (.mv (.t 0))⟩, ⟨none, some 21, .op (.cint .u64 (.t 20))⟩, ⟨none, some 6, .op (.mv (.t 21))⟩] [0, 5, 6]) (.cut (.seq (.reg [ ⟨none, some 22, .op (.mv (.t 0))⟩, ⟨none, some 23, .op (.bin .lss (.t 22) (.k (.c (.lit (.int .i64 0)))))⟩] [0, 5, 6, 23]) (.cond (.t 23) (.reg [ ⟨none, some 24, .op (.mv (.t 6))⟩, ⟨none, some 25, .op (.neg (.t 24))⟩, ⟨none, some 6, .op (.mv (.t 25))⟩] [0, 5, 6]) .skip)) (.seq (.reg [ ⟨none, some 26, .op (.mv (.t 6))⟩, ⟨none, some 27, .call 105 [.t 26]⟩, ⟨none, some 7, .op (.mv (.t 27))⟩] [0, 5, 6, 7]) (.seq (.reg [ ⟨none, some 28, .op (.mv (.t 7))⟩, ⟨none, some 29, .op (.bin .add (.k (.c (.lit (.int .i64 1)))) (.t 28))⟩, ⟨none, some 30, .op .stop⟩, ⟨none, some 31, .op (.mv (.t 6))⟩, ⟨none, some 32, .call 106 [.t 30, .t 31]⟩] [0, 5, 7]) (.seq (.seq (.reg [ ⟨none, some 33, .op (.mv (.t 0))⟩, ⟨none, some 34, .op (.bin .lss (.t 33) (.k (.c (.lit (.int .i64 0)))))⟩] [5, 7, 34]) (.cond (.t 34) (.seq (.reg [ ⟨none, some 35, .op (.iaddrA 1 24 (.t 5) (.k (.c (.lit (.int .i64 0)))))⟩, ⟨none, none, .op (.store false 1 (.t 35) (.k (.c (.lit (.int .u8 45)))))⟩] [5, 7]) (.seq (.reg [ ⟨none, some 36, .op (.mv (.t 7))⟩, ⟨none, some 37, .op (.bin .add (.k (.c (.lit (.int .i64 1)))) (.t 36))⟩, ⟨none, some 38, .op .stop⟩, ⟨none, some 39, .op (.cstr (.t 38))⟩, ⟨none, some 4, .op (.mv (.t 39))⟩] [4]) .ret)) .skip)) (.seq (.reg [ ⟨none, some 40, .op (.mv (.t 7))⟩, ⟨none, some 41, .op (.bin .add (.k (.c (.lit (.int .i64 1)))) (.t 40))⟩, ⟨none, some 42, .op .stop⟩, ⟨none, some 43, .op (.cstr (.t 42))⟩, ⟨none, some 4, .op (.mv (.t 43))⟩] [4]) .ret)))))))) .skip)) (.seq (.reg [ ⟨none, some 45, .op (.mv (.t 0))⟩, ⟨none, some 46, .op (.cint .u64 (.t 45))⟩, ⟨none, some 47, .op (.mv (.t 1))⟩, ⟨none, some 48, .op (.mv (.t 0))⟩, ⟨none, some 49, .op (.bin .lss (.t 48) (.k (.c (.lit (.int .i64 0)))))⟩, ⟨none, some 50, .call 107 [.k (.nsl 1), .t 46, .t 47, .t 49, .k (.c (.lit (.bool false)))]⟩, ⟨none, some 44, .op (.mv (.t 50))⟩, ⟨none, some 51, .op (.extract (.t 44) 0)⟩, ⟨none, some 52, .op (.extract (.t 44) 1)⟩, ⟨none, some 8, .op (.mv (.t 51))⟩, ⟨none, some 9, .op (.mv (.t 52))⟩] [9]) (.seq (.reg [ ⟨none, some 53, .op (.mv (.t 9))⟩, ⟨none, some 4, .op (.mv (.t 53))⟩] [4]) .ret))))
theorem K.internal_strconv_FormatInt : chkF Go.Proofs.Tryz.prog 93 2 0 C.internal_strconv_FormatInt [.tmp 4] = true := by kernel_rfl
def C.internal_strconv_Itoa : ACode := (.seq (.reg [ ⟨none, some 2, .op (.mv (.k (.c (.str []))))⟩] [0]) (.seq (.reg [ ⟨none, some 3, .op (.mv (.t 0))⟩, ⟨none, some 4, .call 93 [.t 3, .k (.c (.lit (.int .i64 10)))]⟩, ⟨none, some 2, .op (.mv (.t 4))⟩] [2]) .ret))
theorem K.internal_strconv_Itoa : chkF Go.Proofs.Tryz.prog 76 1 0 C.internal_strconv_Itoa [.tmp 2] = true := by kernel_rfl
def C.strconv_Itoa : ACode := (.seq (.reg [ ⟨none, some 2, .op (.mv (.k (.c (.str []))))⟩] [0]) (.seq (.reg [ ⟨none, some 3, .op (.mv (.t 0))⟩, ⟨none, some 4, .call 76 [.t 3]⟩, ⟨none, some 2, .op (.mv (.t 4))⟩] [2]) .ret))
theorem K.strconv_Itoa : chkF Go.Proofs.Tryz.prog 57 1 0 C.strconv_Itoa [.tmp 2] = true := by kernel_rfl
def C.impl_kidIndex : ACode := (.seq (.reg [ ⟨none, some 2, .op (.box 10 (.t 0))⟩, ⟨none, some 4, .op (.mv (.k (.c (.lit (.int .i64 0)))))⟩, ⟨none, some 5, .op (.mv (.k (.c (.lit (.bool false)))))⟩] [1, 2]) (.seq (.seq (.reg [ ⟨none, some 7, .op (.faddr 0 (.t 2))⟩, ⟨none, some 8, .op (.load false 1 (.t 7))⟩] [1, 2, 8]) (.block 0 (.seq (.reg [ ⟨none, some 10, .op (.bin .eql (.t 8) (.k (.c (.lit (.int .i64 4)))))⟩, ⟨none, some 9, .op (.mv (.t 10))⟩] [1, 2, 8, 9]) (.cond (.t 9) (.seq (.reg [ ⟨none, some 11, .op (.faddr 3 (.t 2))⟩, ⟨none, some 12, .op (.load false 1 (.t 11))⟩, ⟨none, some 13, .op (.mv (.t 1))⟩, ⟨none, some 14, .call 59 [.t 12, .t 13]⟩, ⟨none, some 15, .op (.extract (.t 14) 0)⟩, ⟨none, some 16, .op (.extract (.t 14) 1)⟩, ⟨none, some 4, .op (.mv (.t 15))⟩, ⟨none, some 5, .op (.mv (.t 16))⟩] [4, 5]) .ret) (.seq (.reg [ ⟨none, some 18, .op (.bin .eql (.t 8) (.k (.c (.lit (.int .i64 3)))))⟩, ⟨none, some 17, .op (.mv (.t 18))⟩] [1, 2, 17]) (.cond (.t 17) (.seq (.reg [ ⟨none, some 19, .op (.faddr 4 (.t 2))⟩, ⟨none, some 20, .op (.load false 1 (.t 19))⟩, ⟨none, some 21, .op (.len (.t 20))⟩, ⟨none, some 22, .op (.mv (.k (.c (.lit (.int .i64 0)))))⟩] [1, 21, 22]) (.block 1 (.loop (.seq (.reg [ ⟨none, some 23, .op (.bin .lss (.t 22) (.t 21))⟩] [1, 21, 22, 23]) (.seq (.cond (.t 23) .skip (.exit 1)) (.seq (.block 2 (.seq (.reg [ ⟨none, some 24, .op (.mv (.t 22))⟩, ⟨none, some 6, .op (.mv (.t 24))⟩] [1, 6, 21, 22]) (.seq (.reg [ ⟨none, some 25, .op (.mv (.t 6))⟩, ⟨none, some 26, .call 57 [.t 25]⟩, ⟨none, some 27, .op (.mv (.t 1))⟩, ⟨none, some 28, .op (.bin .eql (.t 26) (.t 27))⟩] [1, 6, 21, 22, 28]) (.cond (.t 28) (.seq (.reg [ ⟨none, some 29, .op (.mv (.t 6))⟩, ⟨none, some 4, .op (.mv (.t 29))⟩, ⟨none, some 5, .op (.mv (.k (.c (.lit (.bool true)))))⟩] [4, 5]) .ret) .skip)))) (.reg [ ⟨none, some 30, .op (.bin .add (.t 22) (.k (.c (.lit (.int .i64 1)))))⟩, ⟨none, some 22, .op (.mv (.t 30))⟩] [1, 21, 22]))))))) .skip)))))) (.seq (.reg [ ⟨none, some 4, .op (.mv (.k (.c (.lit (.int .i64 0)))))⟩, ⟨none, some 5, .op (.mv (.k (.c (.lit (.bool false)))))⟩] [4, 5]) .ret)))
theorem K.impl_kidIndex : chkF Go.Proofs.Tryz.prog 35 2 0 C.impl_kidIndex [.tmp 4, .tmp 5] = true := by kernel_rfl
def C.slices_Insert_impl_Node : ACode := (.seq (.reg [ ⟨none, some 6, .op (.mv (.k (.nsl 5)))⟩] [0, 1, 2]) (.seq (.reg [ ⟨none, some 10, .op (.mv (.t 0))⟩, ⟨none, some 11, .op (.mv (.t 1))⟩, ⟨none, some 12, .op (.sslice 5 (.t 10) (some (.t 11)) none)⟩] [0, 1, 2]) (.seq (.reg [ ⟨none, some 13, .op (.mv (.t 2))⟩, ⟨none, some 14, .op (.len (.t 13))⟩, ⟨none, some 7, .op (.mv (.t 14))⟩] [0, 1, 2, 7]) (.seq (.seq (.reg [ ⟨none, some 15, .op (.mv (.t 7))⟩, ⟨none, some 16, .op (.bin .eql (.t 15) (.k (.c (.lit (.int .i64 0)))))⟩] [0, 1, 2, 7, 16]) (.cond (.t 16) (.seq (.reg [ ⟨none, some 17, .op (.mv (.t 0))⟩, ⟨none, some 6, .op (.mv (.t 17))⟩] [6]) .ret) .skip)) (.seq (.reg [ ⟨none, some 18, .op (.mv (.t 0))⟩, ⟨none, some 19, .op (.len (.t 18))⟩, ⟨none, some 8, .op (.mv (.t 19))⟩] [0, 1, 2, 7, 8]) (.seq (.seq (.reg [ ⟨none, some 20, .op (.mv (.t 1))⟩, ⟨none, some 21, .op (.mv (.t 8))⟩, ⟨none, some 22, .op (.bin .eql (.t 20) (.t 21))⟩] [0, 1, 2, 7, 8, 22]) (.cond (.t 22) (.seq (.reg [ ⟨none, some 23, .op (.mv (.t 0))⟩, ⟨none, some 24, .op (.mv (.t 2))⟩, ⟨none, some 25, .op (.sapp 10 5 80 (.t 23) (.t 24))⟩, ⟨none, some 6, .op (.mv (.t 25))⟩] [6]) .ret) .skip)) (.seq (.seq (.reg [ ⟨none, some 26, .op (.mv (.t 8))⟩, ⟨none, some 27, .op (.mv (.t 7))⟩, ⟨none, some 28, .op (.bin .add (.t 26) (.t 27))⟩, ⟨none, some 29, .op (.mv (.t 0))⟩, ⟨none, some 30, .op (.capo (.t 29))⟩, ⟨none, some 31, .op (.bin .gtr (.t 28) (.t 30))⟩] [0, 1, 2, 7, 8, 31]) (.cond (.t 31) (.seq (.reg [ ⟨none, some 32, .op (.mv (.t 0))⟩, ⟨none, some 33, .op (.mv (.t 1))⟩, ⟨none, some 34, .op (.sslice 5 (.t 32) none (some (.t 33)))⟩, ⟨none, some 35, .op (.mv (.t 8))⟩, ⟨none, some 36, .op (.mv (.t 7))⟩, ⟨none, some 37, .op (.bin .add (.t 35) (.t 36))⟩, ⟨none, some 38, .op (.mv (.t 1))⟩, ⟨none, some 39, .op (.bin .sub (.t 37) (.t 38))⟩, ⟨none, some 40, .op (.appz 11 5 80 [.lit (.int .i64 0), .lit (.int .i64 0), .str [], .sl 1 [], .sl 5 []] (.t 34) (.t 39))⟩, ⟨none, some 9, .op (.mv (.t 40))⟩] [0, 1, 2, 7, 9]) (.seq (.reg [ ⟨none, some 41, .op (.mv (.t 9))⟩, ⟨none, some 42, .op (.mv (.t 1))⟩, ⟨none, some 43, .op (.sslice 5 (.t 41) (some (.t 42)) none)⟩, ⟨none, some 44, .op (.mv (.t 2))⟩, ⟨none, some 45, .op (.scpy 5 (.t 43) (.t 44))⟩] [0, 1, 7, 9]) (.seq (.regD [ (⟨none, some 46, .op (.mv (.t 9))⟩, []), (⟨none, some 47, .op (.mv (.t 1))⟩, []), (⟨none, some 48, .op (.mv (.t 7))⟩, []), (⟨none, some 49, .op (.bin .add (.t 47) (.t 48))⟩, [1, 2]), (⟨none, some 50, .op (.sslice 5 (.t 46) (some (.t 49)) none)⟩, [0, 1, 2, 3]), (⟨none, some 51, .op (.mv (.t 0))⟩, []), (⟨none, some 52, .op (.mv (.t 1))⟩, []), (⟨none, some 53, .op (.sslice 5 (.t 51) (some (.t 52)) none)⟩, [5, 6]), (⟨none, some 54, .op (.scpy 5 (.t 50) (.t 53))⟩, [0, 1, 2, 3, 4, 5, 6, 7])] [9]) (.seq (.reg [ ⟨none, some 55, .op (.mv (.t 9))⟩, ⟨none, some 6, .op (.mv (.t 55))⟩] [6]) .ret)))) .skip)) (.seq (.reg [ ⟨none, some 56, .op (.mv (.t 0))⟩, ⟨none, some 57, .op (.mv (.t 8))⟩, ⟨none, some 58, .op (.mv (.t 7))⟩, ⟨none, some 59, .op (.bin .add (.t 57) (.t 58))⟩, ⟨none, some 60, .op (.sslice 5 (.t 56) none (some (.t 59)))⟩, ⟨none, some 0, .op (.mv (.t 60))⟩] [0, 1, 2, 7, 8]) (.seq (.seq (.reg [ ⟨none, some 61, .op (.mv (.t 2))⟩, ⟨none, some 62, .op (.mv (.t 0))⟩, ⟨none, some 63, .op (.mv (.t 1))⟩, ⟨none, some 64, .op (.mv (.t 7))⟩, ⟨none, some 65, .op (.bin .add (.t 63) (.t 64))⟩, ⟨none, some 66, .op (.sslice 5 (.t 62) (some (.t 65)) none)⟩, ⟨none, some 67, .op (.ovl (.t 61) (.t 66))⟩, ⟨none, some 68, .op (.not (.t 67))⟩] [0, 1, 2, 7, 8, 68]) (.cond (.t 68) (.seq (.regD [ (⟨none, some 69, .op (.mv (.t 0))⟩, []), (⟨none, some 70, .op (.mv (.t 1))⟩, []), (⟨none, some 71, .op (.mv (.t 7))⟩, []), (⟨none, some 72, .op (.bin .add (.t 70) (.t 71))⟩, [1, 2]), (⟨none, some 73, .op (.sslice 5 (.t 69) (some (.t 72)) none)⟩, [0, 1, 2, 3]), (⟨none, some 74, .op (.mv (.t 0))⟩, []), (⟨none, some 75, .op (.mv (.t 1))⟩, []), (⟨none, some 76, .op (.sslice 5 (.t 74) (some (.t 75)) none)⟩, [5, 6]), (⟨none, some 77, .op (.scpy 5 (.t 73) (.t 76))⟩, [0, 1, 2, 3, 4, 5, 6, 7])] [0, 1, 2]) (.seq (.reg [ ⟨none, some 78, .op (.mv (.t 0))⟩, ⟨none, some 79, .op (.mv (.t 1))⟩, ⟨none, some 80, .op (.sslice 5 (.t 78) (some (.t 79)) none)⟩, ⟨none, some 81, .op (.mv (.t 2))⟩, ⟨none, some 82, .op (.scpy 5 (.t 80) (.t 81))⟩] [0]) (.seq (.reg [ ⟨none, some 83, .op (.mv (.t 0))⟩, ⟨none, some 6, .op (.mv (.t 83))⟩] [6]) .ret))) .skip)) (.seq (.reg [ ⟨none, some 84, .op (.mv (.t 0))⟩, ⟨none, some 85, .op (.mv (.t 8))⟩, ⟨none, some 86, .op (.sslice 5 (.t 84) (some (.t 85)) none)⟩, ⟨none, some 87, .op (.mv (.t 2))⟩, ⟨none, some 88, .op (.scpy 5 (.t 86) (.t 87))⟩] [0, 1, 7]) (.seq (.reg [ ⟨none, some 89, .op (.mv (.t 0))⟩, ⟨none, some 90, .op (.mv (.t 1))⟩, ⟨none, some 91, .op (.sslice 5 (.t 89) (some (.t 90)) none)⟩, ⟨none, some 92, .op (.mv (.t 7))⟩, ⟨none, some 93, .call 78 [.t 91, .t 92]⟩] [0]) (.seq (.reg [ ⟨none, some 94, .op (.mv (.t 0))⟩, ⟨none, some 6, .op (.mv (.t 94))⟩] [6]) .ret))))))))))))
theorem K.slices_Insert_impl_Node : chkF Go.Proofs.Tryz.prog 58 3 2 C.slices_Insert_impl_Node [.tmp 6] = true := by kernel_rfl
def C.slices_Insert_string : ACode := (.seq (.reg [ ⟨none, some 6, .op (.mv (.k (.nsl 1)))⟩] [0, 1, 2]) (.seq (.reg [ ⟨none, some 10, .op (.mv (.t 0))⟩, ⟨none, some 11, .op (.mv (.t 1))⟩, ⟨none, some 12, .op (.sslice 1 (.t 10) (some (.t 11)) none)⟩] [0, 1, 2]) (.seq (.reg [ ⟨none, some 13, .op (.mv (.t 2))⟩, ⟨none, some 14, .op (.len (.t 13))⟩, ⟨none, some 7, .op (.mv (.t 14))⟩] [0, 1, 2, 7]) (.seq (.seq (.reg [ ⟨none, some 15, .op (.mv (.t 7))⟩, ⟨none, some 16, .op (.bin .eql (.t 15) (.k (.c (.lit (.int .i64 0)))))⟩] [0, 1, 2, 7, 16]) (.cond (.t 16) (.seq (.reg [ ⟨none, some 17, .op (.mv (.t 0))⟩, ⟨none, some 6, .op (.mv (.t 17))⟩] [6]) .ret) .skip)) (.seq (.reg [ ⟨none, some 18, .op (.mv (.t 0))⟩, ⟨none, some 19, .op (.len (.t 18))⟩, ⟨none, some 8, .op (.mv (.t 19))⟩] [0, 1, 2, 7, 8]) (.seq (.seq (.reg [ ⟨none, some 20, .op (.mv (.t 1))⟩, ⟨none, some 21, .op (.mv (.t 8))⟩, ⟨none, some 22, .op (.bin .eql (.t 20) (.t 21))⟩] [0, 1, 2, 7, 8, 22]) (.cond (.t 22) (.seq (.reg [ ⟨none, some 23, .op (.mv (.t 0))⟩, ⟨none, some 24, .op (.mv (.t 2))⟩, ⟨none, some 25, .op (.sapp 10 1 16 (.t 23) (.t 24))⟩, ⟨none, some 6, .op (.mv (.t 25))⟩] [6]) .ret) .skip)) (.seq (.seq (.reg [ ⟨none, some 26, .op (.mv (.t 8))⟩, ⟨none, some 27, .op (.mv (.t 7))⟩, ⟨none, some 28, .op (.bin .add (.t 26) (.t 27))⟩, ⟨none, some 29, .op (.mv (.t 0))⟩, ⟨none, some 30, .op (.capo (.t 29))⟩, ⟨none, some 31, .op (.bin .gtr (.t 28) (.t 30))⟩] [0, 1, 2, 7, 8, 31]) (.cond (.t 31) (.seq (.reg [ ⟨none, some 32, .op (.mv (.t 0))⟩, ⟨none, some 33, .op (.mv (.t 1))⟩, ⟨none, some 34, .op (.sslice 1 (.t 32) none (some (.t 33)))⟩, ⟨none, some 35, .op (.mv (.t 8))⟩, ⟨none, some 36, .op (.mv (.t 7))⟩, ⟨none, some 37, .op (.bin .add (.t 35) (.t 36))⟩, ⟨none, some 38, .op (.mv (.t 1))⟩, ⟨none, some 39, .op (.bin .sub (.t 37) (.t 38))⟩, ⟨none, some 40, .op (.appz 11 1 16 [.str []] (.t 34) (.t 39))⟩, ⟨none, some 9, .op (.mv (.t 40))⟩] [0, 1, 2, 7, 9]) (.seq (.reg [ ⟨none, some 41, .op (.mv (.t 9))⟩, ⟨none, some 42, .op (.mv (.t 1))⟩, ⟨none, some 43, .op (.sslice 1 (.t 41) (some (.t 42)) none)⟩, ⟨none, some 44, .op (.mv (.t 2))⟩, ⟨none, some 45, .op (.scpy 1 (.t 43) (.t 44))⟩] [0, 1, 7, 9]) (.seq (.regD [ (⟨none, some 46, .op (.mv (.t 9))⟩, []), (⟨none, some 47, .op (.mv (.t 1))⟩, []), (⟨none, some 48, .op (.mv (.t 7))⟩, []), (⟨none, some 49, .op (.bin .add (.t 47) (.t 48))⟩, [1, 2]), (⟨none, some 50, .op (.sslice 1 (.t 46) (some (.t 49)) none)⟩, [0, 1, 2, 3]), (⟨none, some 51, .op (.mv (.t 0))⟩, []), (⟨none, some 52, .op (.mv (.t 1))⟩, []), (⟨none, some 53, .op (.sslice 1 (.t 51) (some (.t 52)) none)⟩, [5, 6]), (⟨none, some 54, .op (.scpy 1 (.t 50) (.t 53))⟩, [0, 1, 2, 3, 4, 5, 6, 7])] [9]) (.seq (.reg [ ⟨none, some 55, .op (.mv (.t 9))⟩, ⟨none, some 6, .op (.mv (.t 55))⟩] [6]) .ret)))) .skip)) (.seq (.reg [ ⟨none, some 56, .op (.mv (.t 0))⟩, ⟨none, some 57, .op (.mv (.t 8))⟩, ⟨none, some 58, .op (.mv (.t 7))⟩, ⟨none, some 59, .op (.bin .add (.t 57) (.t 58))⟩, ⟨none, some 60, .op (.sslice 1 (.t 56) none (some (.t 59)))⟩, ⟨none, some 0, .op (.mv (.t 60))⟩] [0, 1, 2, 7, 8]) (.seq (.seq (.reg [ ⟨none, some 61, .op (.mv (.t 2))⟩, ⟨none, some 62, .op (.mv (.t 0))⟩, ⟨none, some 63, .op (.mv (.t 1))⟩, ⟨none, some 64, .op (.mv (.t 7))⟩, ⟨none, some 65, .op (.bin .add (.t 63) (.t 64))⟩, ⟨none, some 66, .op (.sslice 1 (.t 62) (some (.t 65)) none)⟩, ⟨none, some 67, .op (.ovl (.t 61) (.t 66))⟩, ⟨none, some 68, .op (.not (.t 67))⟩] [0, 1, 2, 7, 8, 68]) (.cond (.t 68) (.seq (.regD [ (⟨none, some 69, .op (.mv (.t 0))⟩, []), (⟨none, some 70, .op (.mv (.t 1))⟩, []), (⟨none, some 71, .op (.mv (.t 7))⟩, []), (⟨none, some 72, .op (.bin .add (.t 70) (.t 71))⟩, [1, 2]), (⟨none, some 73, .op (.sslice 1 (.t 69) (some (.t 72)) none)⟩, [0, 1, 2, 3]), (⟨none, some 74, .op (.mv (.t 0))⟩, []), (⟨none, some 75, .op (.mv (.t 1))⟩, []), (⟨none, some 76, .op (.sslice 1 (.t 74) (some (.t 75)) none)⟩, [5, 6]), (⟨none, some 77, .op (.scpy 1 (.t 73) (.t 76))⟩, [0, 1, 2, 3, 4, 5, 6, 7])] [0, 1, 2]) (.seq (.reg [ ⟨none, some 78, .op (.mv (.t 0))⟩, ⟨none, some 79, .op (.mv (.t 1))⟩, ⟨none, some 80, .op (.sslice 1 (.t 78) (some (.t 79)) none)⟩, ⟨none, some 81, .op (.mv (.t 2))⟩, ⟨none, some 82, .op (.scpy 1 (.t 80) (.t 81))⟩] [0]) (.seq (.reg [ ⟨none, some 83, .op (.mv (.t 0))⟩, ⟨none, some 6, .op (.mv (.t 83))⟩] [6]) .ret))) .skip)) (.seq (.reg [ ⟨none, some 84, .op (.mv (.t 0))⟩, ⟨none, some 85, .op (.mv (.t 8))⟩, ⟨none, some 86, .op (.sslice 1 (.t 84) (some (.t 85)) none)⟩, ⟨none, some 87, .op (.mv (.t 2))⟩, ⟨none, some 88, .op (.scpy 1 (.t 86) (.t 87))⟩] [0, 1, 7]) (.seq (.reg [ ⟨none, some 89, .op (.mv (.t 0))⟩, ⟨none, some 90, .op (.mv (.t 1))⟩, ⟨none, some 91, .op (.sslice 1 (.t 89) (some (.t 90)) none)⟩, ⟨none, some 92, .op (.mv (.t 7))⟩, ⟨none, some 93, .call 92 [.t 91, .t 92]⟩] [0]) (.seq (.reg [ ⟨none, some 94, .op (.mv (.t 0))⟩, ⟨none, some 6, .op (.mv (.t 94))⟩] [6]) .ret))))))))))))
theorem K.slices_Insert_string : chkF Go.Proofs.Tryz.prog 75 3 2 C.slices_Insert_string [.tmp 6] = true := by kernel_rfl
def C.impl_putName : ACode := (.seq (.reg [ ⟨none, some 5, .op (.box 10 (.t 2))⟩] [0, 1, 5]) (.seq (.reg [ ⟨none, some 9, .op (.mv (.t 0))⟩, ⟨none, some 10, .op (.nilck (.t 9))⟩, ⟨none, some 11, .op (.faddr 3 (.t 10))⟩, ⟨none, some 12, .op (.load false 1 (.t 11))⟩, ⟨none, some 13, .op (.mv (.t 1))⟩, ⟨none, some 14, .call 59 [.t 12, .t 13]⟩, ⟨none, some 8, .op (.mv (.t 14))⟩, ⟨none, some 15, .op (.extract (.t 8) 0)⟩, ⟨none, some 16, .op (.extract (.t 8) 1)⟩, ⟨none, some 6, .op (.mv (.t 15))⟩, ⟨none, some 7, .op (.mv (.t 16))⟩] [0, 1, 5, 6, 7]) (.seq (.seq (.reg [ ⟨none, some 17, .op (.mv (.t 7))⟩] [0, 1, 5, 6, 17]) (.cond (.t 17) (.seq (.regD [ (⟨none, some 18, .op (.mv (.t 0))⟩, []), (⟨none, some 19, .op (.nilck (.t 18))⟩, [0]), (⟨none, some 20, .op (.faddr 4 (.t 19))⟩, [0, 1]), (⟨none, some 21, .op (.load false 1 (.t 20))⟩, [0, 1, 2]), (⟨none, some 22, .op (.mv (.t 6))⟩, []), (⟨none, some 23, .op (.load true 5 (.t 5))⟩, []), (⟨none, some 24, .op (.iaddr 5 (.t 21) (.t 22))⟩, [0, 1, 2, 3, 4, 5]), (⟨none, none, .op (.store true 5 (.t 24) (.t 23))⟩, [0, 1, 2, 3, 4, 5, 6])] []) .ret) .skip)) (.seq (.reg [ ⟨none, some 25, .op (.mv (.t 0))⟩, ⟨none, some 26, .op (.mv (.t 0))⟩, ⟨none, some 27, .op (.nilck (.t 26))⟩, ⟨none, some 28, .op (.faddr 3 (.t 27))⟩, ⟨none, some 29, .op (.load false 1 (.t 28))⟩, ⟨none, some 30, .op (.mv (.t 6))⟩, ⟨none, some 31, .op (.mv (.t 1))⟩, ⟨none, some 32, .op (.bslice 11 1 1 [.str []] [(0, .t 31)])⟩, ⟨none, some 33, .call 75 [.t 29, .t 30, .t 32]⟩, ⟨none, some 34, .op (.nilck (.t 25))⟩, ⟨none, some 35, .op (.faddr 3 (.t 34))⟩, ⟨none, none, .op (.store false 1 (.t 35) (.t 33))⟩] [0, 5, 6]) (.regD [ (⟨none, some 36, .op (.mv (.t 0))⟩, []), (⟨none, some 37, .op (.mv (.t 0))⟩, []), (⟨none, some 38, .op (.nilck (.t 37))⟩, [1]), (⟨none, some 39, .op (.faddr 4 (.t 38))⟩, [1, 2]), (⟨none, some 40, .op (.load false 1 (.t 39))⟩, [1, 2, 3]), (⟨none, some 41, .op (.mv (.t 6))⟩, []), (⟨none, some 42, .op (.load true 5 (.t 5))⟩, []), (⟨none, some 43, .op (.bslice 12 5 1 [.lit (.int .i64 0), .lit (.int .i64 0), .str [], .sl 1 [], .sl 5 []] [(0, .t 42)])⟩, [6]), (⟨none, some 44, .call 58 [.t 40, .t 41, .t 43]⟩, [1, 2, 3, 4, 5, 6, 7]), (⟨none, some 45, .op (.nilck (.t 36))⟩, [0, 1, 2, 3, 4, 5, 6, 7, 8]), (⟨none, some 46, .op (.faddr 4 (.t 45))⟩, [0, 1, 2, 3, 4, 5, 6, 7, 8, 9]), (⟨none, none, .op (.store false 1 (.t 46) (.t 44))⟩, [0, 1, 2, 3, 4, 5, 6, 7, 8, 9, 10])] [])))))
theorem K.impl_putName : chkF Go.Proofs.Tryz.prog 56 3 3 C.impl_putName [] = true := by kernel_rfl
def C.impl_addKid : ACode := (.seq (.reg [ ⟨none, some 3, .op (.box 10 (.t 0))⟩, ⟨none, some 5, .op (.box 11 (.t 2))⟩, ⟨none, some 6, .op (.alloc 12 [.c (.lit (.int .i64 0)), .c (.lit (.int .i64 0)), .c (.str []), .nsl 1, .nsl 5])⟩, ⟨none, some 7, .op (.mv (.k (.c (.lit (.bool false)))))⟩] [1, 3, 5, 6]) (.seq (.reg [ ⟨none, some 11, .op (.load true 5 (.t 3))⟩, ⟨none, some 12, .call 29 [.t 11]⟩, ⟨none, some 8, .op (.alloc 13 [.c (.lit (.int .i64 0)), .c (.lit (.int .i64 0)), .c (.str []), .nsl 1, .nsl 5])⟩, ⟨none, none, .op (.store true 5 (.t 8) (.t 12))⟩] [1, 3, 5, 6, 8]) (.seq (.seq (.reg [ ⟨none, some 13, .op (.faddr 0 (.t 3))⟩, ⟨none, some 14, .op (.load false 1 (.t 13))⟩] [1, 3, 5, 6, 8, 14]) (.block 0 (.seq (.reg [ ⟨none, some 16, .op (.bin .eql (.t 14) (.k (.c (.lit (.int .i64 4)))))⟩, ⟨none, some 15, .op (.mv (.t 16))⟩] [1, 3, 5, 6, 8, 14, 15]) (.cond (.t 15) (.seq (.reg [ ⟨none, some 17, .op (.mv (.t 1))⟩, ⟨none, some 18, .op (.load true 5 (.t 5))⟩, ⟨none, some 19, .call 29 [.t 18]⟩, ⟨none, some 20, .call 56 [.t 8, .t 17, .t 19]⟩] [6, 8]) (.seq (.reg [ ⟨none, some 21, .op (.load true 5 (.t 8))⟩, ⟨none, none, .op (.store true 5 (.t 6) (.t 21))⟩, ⟨none, some 7, .op (.mv (.k (.c (.lit (.bool true)))))⟩] [6, 7]) .ret)) (.seq (.reg [ ⟨none, some 23, .op (.bin .eql (.t 14) (.k (.c (.lit (.int .i64 3)))))⟩, ⟨none, some 22, .op (.mv (.t 23))⟩] [1, 3, 5, 6, 8, 22]) (.cond (.t 22) (.seq (.reg [ ⟨none, some 25, .op (.load true 5 (.t 3))⟩, ⟨none, some 26, .op (.mv (.t 1))⟩, ⟨none, some 27, .call 35 [.t 25, .t 26]⟩, ⟨none, some 24, .op (.mv (.t 27))⟩, ⟨none, some 28, .op (.extract (.t 24) 0)⟩, ⟨none, some 29, .op (.extract (.t 24) 1)⟩, ⟨none, some 9, .op (.mv (.t 28))⟩, ⟨none, some 10, .op (.mv (.t 29))⟩] [1, 3, 5, 6, 8, 9, 10]) (.cut (.seq (.reg [ ⟨none, some 30, .op (.mv (.t 10))⟩, ⟨none, some 31, .op (.not (.t 30))⟩, ⟨none, some 32, .op (.mv (.t 31))⟩, ⟨(some (32, true)), some 33, .op (.mv (.t 1))⟩, ⟨(some (32, true)), some 34, .op (.bin .eql (.t 33) (.k (.c (.str [45]))))⟩, ⟨(some (32, true)), some 35, .op (.mv (.t 34))⟩, ⟨(some (35, false)), some 36, .op (.mv (.t 1))⟩, ⟨(some (35, false)), some 37, .op (.faddr 4 (.t 3))⟩, ⟨(some (35, false)), some 38, .op (.load false 1 (.t 37))⟩, ⟨(some (35, false)), some 39, .op (.len (.t 38))⟩, ⟨(some (35, false)), some 40, .call 57 [.t 39]⟩, ⟨(some (35, false)), some 41, .op (.bin .eql (.t 36) (.t 40))⟩, ⟨(some (32, true)), some 42, .op (.pick (.t 35) (.k (.c (.lit (.bool true)))) (.t 41))⟩, ⟨none, some 43, .op (.pick (.t 32) (.t 42) (.k (.c (.lit (.bool false)))))⟩] [3, 5, 6, 8, 9, 10, 43]) (.cond (.t 43) (.reg [ ⟨none, some 44, .op (.faddr 4 (.t 3))⟩, ⟨none, some 45, .op (.load false 1 (.t 44))⟩, ⟨none, some 46, .op (.len (.t 45))⟩, ⟨none, some 9, .op (.mv (.t 46))⟩, ⟨none, some 10, .op (.mv (.k (.c (.lit (.bool true)))))⟩] [5, 6, 8, 9, 10]) .skip)) (.seq (.seq (.reg [ ⟨none, some 47, .op (.mv (.t 10))⟩, ⟨none, some 48, .op (.not (.t 47))⟩] [5, 6, 8, 9, 48]) (.cond (.t 48) (.seq (.reg [ ⟨none, some 49, .op (.build [.c (.lit (.int .i64 0)), .c (.lit (.int .i64 0)), .c (.str []), .nsl 1, .nsl 5] [])⟩, ⟨none, none, .op (.store true 5 (.t 6) (.t 49))⟩, ⟨none, some 7, .op (.mv (.k (.c (.lit (.bool false)))))⟩] [6, 7]) .ret) .skip)) (.seq (.regD [ (⟨none, some 50, .op (.faddr 4 (.t 8))⟩, []), (⟨none, some 51, .op (.load false 1 (.t 50))⟩, [0]), (⟨none, some 52, .op (.mv (.t 9))⟩, []), (⟨none, some 53, .op (.load true 5 (.t 5))⟩, []), (⟨none, some 54, .call 29 [.t 53]⟩, [3]), (⟨none, some 55, .op (.bslice 14 5 1 [.lit (.int .i64 0), .lit (.int .i64 0), .str [], .sl 1 [], .sl 5 []] [(0, .t 54)])⟩, [3, 4]), (⟨none, some 56, .call 58 [.t 51, .t 52, .t 55]⟩, [0, 1, 2, 3, 4, 5]), (⟨none, some 57, .op (.faddr 4 (.t 8))⟩, [0, 1, 2, 3, 4, 5, 6]), (⟨none, none, .op (.store false 1 (.t 57) (.t 56))⟩, [0, 1, 2, 3, 4, 5, 6, 7])] [6, 8]) (.seq (.reg [ ⟨none, some 58, .op (.load true 5 (.t 8))⟩, ⟨none, none, .op (.store true 5 (.t 6) (.t 58))⟩, ⟨none, some 7, .op (.mv (.k (.c (.lit (.bool true)))))⟩] [6, 7]) .ret))))) .skip)))))) (.seq (.reg [ ⟨none, some 59, .op (.build [.c (.lit (.int .i64 0)), .c (.lit (.int .i64 0)), .c (.str []), .nsl 1, .nsl 5] [])⟩, ⟨none, none, .op (.store true 5 (.t 6) (.t 59))⟩, ⟨none, some 7, .op (.mv (.k (.c (.lit (.bool false)))))⟩] [6, 7]) .ret))))
theorem K.impl_addKid : chkF Go.Proofs.Tryz.prog 33 3 0 C.impl_addKid [.cell 6 true 5, .tmp 7] = true := by kernel_rfl
def C.impl_AddNode_1 : ACode := (.seq (.reg [ ⟨none, some 4, .op (.box 10 (.t 0))⟩, ⟨none, some 5, .op (.alloc 11 [.c (.lit (.int .i64 0)), .c (.lit (.int .i64 0)), .c (.str []), .nsl 1, .nsl 5])⟩, ⟨none, some 6, .op (.mv (.k (.c (.lit (.bool false)))))⟩] [1, 2, 3, 4, 5]) (.seq (.regD [ (⟨none, some 7, .op (.load true 5 (.t 4))⟩, []), (⟨none, some 8, .op (.load false 1 (.t 1))⟩, []), (⟨none, some 9, .op (.load false 1 (.t 2))⟩, []), (⟨none, some 10, .op (.iaddr 1 (.t 8) (.t 9))⟩, [1, 2]), (⟨none, some 11, .op (.load false 1 (.t 10))⟩, [1, 2, 3]), (⟨none, some 12, .op (.load true 5 (.t 3))⟩, []), (⟨none, some 13, .call 33 [.t 7, .t 11, .t 12]⟩, [0, 1, 2, 3, 4, 5]), (⟨none, some 14, .op (.extract (.t 13) 0)⟩, [0, 1, 2, 3, 4, 5, 6]), (⟨none, some 15, .op (.extract (.t 13) 1)⟩, [0, 1, 2, 3, 4, 5, 6]), (⟨none, none, .op (.store true 5 (.t 5) (.t 14))⟩, [0, 1, 2, 3, 4, 5, 6, 7, 8]), (⟨none, some 6, .op (.mv (.t 15))⟩, [0, 1, 2, 3, 4, 5, 6, 7, 8, 9])] [5, 6]) .ret))
theorem K.impl_AddNode_1 : chkF Go.Proofs.Tryz.prog 32 4 3 C.impl_AddNode_1 [.cell 5 true 5, .tmp 6] = true := by kernel_rfl
def C.impl_isPlainText : ACode := (.seq (.reg [ ⟨none, some 2, .op (.mv (.k (.c (.lit (.bool false)))))⟩] [0]) (.seq (.seq (.reg [ ⟨none, some 4, .op (.mv (.t 0))⟩, ⟨none, some 5, .op (.lens (.t 4))⟩, ⟨none, some 6, .op (.bin .gtr (.t 5) (.k (.c (.lit (.int .i64 12)))))⟩] [0, 6]) (.cond (.t 6) (.seq (.reg [ ⟨none, some 2, .op (.mv (.k (.c (.lit (.bool false)))))⟩] [2]) .ret) .skip)) (.seq (.seq (.reg [ ⟨none, some 3, .op (.mv (.k (.c (.lit (.int .i64 0)))))⟩] [0, 3]) (.block 0 (.loop (.seq (.seq (.reg [ ⟨none, some 7, .op (.mv (.t 3))⟩, ⟨none, some 8, .op (.mv (.t 0))⟩, ⟨none, some 9, .op (.lens (.t 8))⟩, ⟨none, some 10, .op (.bin .lss (.t 7) (.t 9))⟩] [0, 3, 10]) (.cond (.t 10) .skip (.exit 0))) (.seq (.block 1 (.seq (.reg [ ⟨none, some 13, .op (.mv (.t 0))⟩, ⟨none, some 14, .op (.mv (.t 3))⟩, ⟨none, some 15, .op (.idxs (.t 13) (.t 14))⟩, ⟨none, some 16, .op (.bin .lss (.t 15) (.k (.c (.lit (.int .u8 32)))))⟩, ⟨none, some 17, .op (.mv (.t 16))⟩, ⟨(some (17, false)), some 18, .op (.mv (.t 0))⟩, ⟨(some (17, false)), some 19, .op (.mv (.t 3))⟩, ⟨(some (17, false)), some 20, .op (.idxs (.t 18) (.t 19))⟩, ⟨(some (17, false)), some 21, .op (.bin .gtr (.t 20) (.k (.c (.lit (.int .u8 126)))))⟩, ⟨none, some 22, .op (.pick (.t 17) (.k (.c (.lit (.bool true)))) (.t 21))⟩] [0, 3, 22]) (.cond (.t 22) (.seq (.reg [ ⟨none, some 2, .op (.mv (.k (.c (.lit (.bool false)))))⟩] [2]) .ret) .skip))) (.reg [ ⟨none, some 11, .op (.mv (.t 3))⟩, ⟨none, some 12, .op (.bin .add (.t 11) (.k (.c (.lit (.int .i64 1)))))⟩, ⟨none, some 3, .op (.mv (.t 12))⟩] [0, 3])))))) (.seq (.reg [ ⟨none, some 2, .op (.mv (.k (.c (.lit (.bool true)))))⟩] [2]) .ret))))
theorem K.impl_isPlainText : chkF Go.Proofs.Tryz.prog 55 1 0 C.impl_isPlainText [.tmp 2] = true := by kernel_rfl
def C.impl_areNames : ACode := (.seq (.reg [ ⟨none, some 2, .op (.mv (.k (.c (.lit (.bool false)))))⟩] [0]) (.seq (.seq (.reg [ ⟨none, some 5, .op (.mv (.t 0))⟩, ⟨none, some 6, .op (.len (.t 5))⟩, ⟨none, some 7, .op (.bin .gtr (.t 6) (.k (.c (.lit (.int .i64 6)))))⟩] [0, 7]) (.cond (.t 7) (.seq (.reg [ ⟨none, some 2, .op (.mv (.k (.c (.lit (.bool false)))))⟩] [2]) .ret) .skip)) (.seq (.seq (.reg [ ⟨none, some 8, .op (.mv (.t 0))⟩, ⟨none, some 9, .op (.len (.t 8))⟩, ⟨none, some 10, .op (.mv (.k (.c (.lit (.int .i64 0)))))⟩] [0, 8, 9, 10]) (.block 0 (.loop (.seq (.reg [ ⟨none, some 11, .op (.bin .lss (.t 10) (.t 9))⟩] [0, 8, 9, 10, 11]) (.seq (.cond (.t 11) .skip (.exit 0)) (.seq (.block 1 (.seq (.reg [ ⟨none, some 12, .op (.mv (.t 10))⟩, ⟨none, some 13, .op (.iaddr 1 (.t 8) (.t 10))⟩, ⟨none, some 14, .op (.load false 1 (.t 13))⟩, ⟨none, some 3, .op (.mv (.t 12))⟩, ⟨none, some 4, .op (.mv (.t 14))⟩] [0, 3, 4, 8, 9, 10]) (.seq (.reg [ ⟨none, some 15, .op (.mv (.t 4))⟩, ⟨none, some 16, .call 55 [.t 15]⟩, ⟨none, some 17, .op (.not (.t 16))⟩, ⟨none, some 18, .op (.mv (.t 17))⟩, ⟨(some (18, false)), some 19, .op (.mv (.t 3))⟩, ⟨(some (18, false)), some 20, .op (.bin .gtr (.t 19) (.k (.c (.lit (.int .i64 0)))))⟩, ⟨(some (18, false)), some 21, .op (.mv (.t 20))⟩, ⟨(some (21, true)), some 22, .op (.mv (.t 0))⟩, ⟨(some (21, true)), some 23, .op (.mv (.t 3))⟩, ⟨(some (21, true)), some 24, .op (.bin .sub (.t 23) (.k (.c (.lit (.int .i64 1)))))⟩, ⟨(some (21, true)), some 25, .op (.iaddr 1 (.t 22) (.t 24))⟩, ⟨(some (21, true)), some 26, .op (.load false 1 (.t 25))⟩, ⟨(some (21, true)), some 27, .op (.mv (.t 4))⟩, ⟨(some (21, true)), some 28, .op (.bin .geq (.t 26) (.t 27))⟩, ⟨(some (18, false)), some 29, .op (.pick (.t 21) (.t 28) (.k (.c (.lit (.bool false)))))⟩, ⟨none, some 30, .op (.pick (.t 18) (.k (.c (.lit (.bool true)))) (.t 29))⟩] [0, 8, 9, 10, 30]) (.cond (.t 30) (.seq (.reg [ ⟨none, some 2, .op (.mv (.k (.c (.lit (.bool false)))))⟩] [2]) .ret) .skip)))) (.reg [ ⟨none, some 31, .op (.bin .add (.t 10) (.k (.c (.lit (.int .i64 1)))))⟩, ⟨none, some 10, .op (.mv (.t 31))⟩] [0, 8, 9, 10]))))))) (.seq (.reg [ ⟨none, some 2, .op (.mv (.k (.c (.lit (.bool true)))))⟩] [2]) .ret))))
theorem K.impl_areNames : chkF Go.Proofs.Tryz.prog 81 1 0 C.impl_areNames [.tmp 2] = true := by kernel_rfl
def C.impl_hasValidParts : ACode := (.seq (.reg [ ⟨none, some 1, .op (.box 10 (.t 0))⟩, ⟨none, some 2, .op (.mv (.k (.c (.lit (.bool false)))))⟩] [1]) (.cut (.seq (.reg [ ⟨none, some 3, .op (.faddr 0 (.t 1))⟩, ⟨none, some 4, .op (.load false 1 (.t 3))⟩, ⟨none, some 5, .op (.bin .neq (.t 4) (.k (.c (.lit (.int .i64 1)))))⟩, ⟨none, some 6, .op (.mv (.t 5))⟩, ⟨(some (6, true)), some 7, .op (.faddr 1 (.t 1))⟩, ⟨(some (6, true)), some 8, .op (.load false 1 (.t 7))⟩, ⟨(some (6, true)), some 9, .op (.bin .neq (.t 8) (.k (.c (.lit (.int .i64 0)))))⟩, ⟨none, some 10, .op (.pick (.t 6) (.t 9) (.k (.c (.lit (.bool false)))))⟩, ⟨none, some 11, .op (.mv (.t 10))⟩, ⟨(some (11, false)), some 12, .op (.faddr 0 (.t 1))⟩, ⟨(some (11, false)), some 13, .op (.load false 1 (.t 12))⟩, ⟨(some (11, false)), some 14, .op (.bin .neq (.t 13) (.k (.c (.lit (.int .i64 2)))))⟩, ⟨(some (11, false)), some 15, .op (.mv (.t 14))⟩, ⟨(some (15, true)), some 16, .op (.faddr 2 (.t 1))⟩, ⟨(some (15, true)), some 17, .op (.load false 1 (.t 16))⟩, ⟨(some (15, true)), some 18, .op (.bin .neq (.t 17) (.k (.c (.str []))))⟩, ⟨(some (11, false)), some 19, .op (.pick (.t 15) (.t 18) (.k (.c (.lit (.bool false)))))⟩, ⟨none, some 20, .op (.pick (.t 11) (.k (.c (.lit (.bool true)))) (.t 19))⟩] [1, 20]) (.cond (.t 20) (.seq (.reg [ ⟨none, some 2, .op (.mv (.k (.c (.lit (.bool false)))))⟩] [2]) .ret) .skip)) (.seq (.seq (.reg [ ⟨none, some 21, .op (.faddr 0 (.t 1))⟩, ⟨none, some 22, .op (.load false 1 (.t 21))⟩, ⟨none, some 23, .op (.bin .neq (.t 22) (.k (.c (.lit (.int .i64 4)))))⟩, ⟨none, some 24, .op (.mv (.t 23))⟩, ⟨(some (24, true)), some 25, .op (.faddr 3 (.t 1))⟩, ⟨(some (24, true)), some 26, .op (.load false 1 (.t 25))⟩, ⟨(some (24, true)), some 27, .op (.len (.t 26))⟩, ⟨(some (24, true)), some 28, .op (.bin .gtr (.t 27) (.k (.c (.lit (.int .i64 0)))))⟩, ⟨none, some 29, .op (.pick (.t 24) (.t 28) (.k (.c (.lit (.bool false)))))⟩] [1, 29]) (.cond (.t 29) (.seq (.reg [ ⟨none, some 2, .op (.mv (.k (.c (.lit (.bool false)))))⟩] [2]) .ret) .skip)) (.seq (.seq (.reg [ ⟨none, some 30, .op (.faddr 0 (.t 1))⟩, ⟨none, some 31, .op (.load false 1 (.t 30))⟩] [1, 31]) (.block 0 (.seq (.reg [ ⟨none, some 33, .op (.bin .eql (.t 31) (.k (.c (.lit (.int .i64 0)))))⟩, ⟨none, some 32, .op (.mv (.t 33))⟩] [1, 31, 32]) (.cond (.t 32) (.seq (.reg [ ⟨none, some 34, .op (.faddr 4 (.t 1))⟩, ⟨none, some 35, .op (.load false 1 (.t 34))⟩, ⟨none, some 36, .op (.len (.t 35))⟩, ⟨none, some 37, .op (.bin .eql (.t 36) (.k (.c (.lit (.int .i64 0)))))⟩, ⟨none, some 2, .op (.mv (.t 37))⟩] [2]) .ret) (.seq (.reg [ ⟨none, some 39, .op (.bin .eql (.t 31) (.k (.c (.lit (.int .i64 1)))))⟩, ⟨none, some 38, .op (.mv (.t 39))⟩] [1, 31, 38]) (.cond (.t 38) (.seq (.reg [ ⟨none, some 40, .op (.faddr 1 (.t 1))⟩, ⟨none, some 41, .op (.load false 1 (.t 40))⟩, ⟨none, some 42, .op (.bin .geq (.t 41) (.k (.c (.lit (.int .i64 (-999999))))))⟩, ⟨none, some 43, .op (.mv (.t 42))⟩, ⟨(some (43, true)), some 44, .op (.faddr 1 (.t 1))⟩, ⟨(some (43, true)), some 45, .op (.load false 1 (.t 44))⟩, ⟨(some (43, true)), some 46, .op (.bin .leq (.t 45) (.k (.c (.lit (.int .i64 999999)))))⟩, ⟨none, some 47, .op (.pick (.t 43) (.t 46) (.k (.c (.lit (.bool false)))))⟩, ⟨none, some 48, .op (.mv (.t 47))⟩, ⟨(some (48, true)), some 49, .op (.faddr 4 (.t 1))⟩, ⟨(some (48, true)), some 50, .op (.load false 1 (.t 49))⟩, ⟨(some (48, true)), some 51, .op (.len (.t 50))⟩, ⟨(some (48, true)), some 52, .op (.bin .eql (.t 51) (.k (.c (.lit (.int .i64 0)))))⟩, ⟨none, some 53, .op (.pick (.t 48) (.t 52) (.k (.c (.lit (.bool false)))))⟩, ⟨none, some 2, .op (.mv (.t 53))⟩] [2]) .ret) (.seq (.reg [ ⟨none, some 55, .op (.bin .eql (.t 31) (.k (.c (.lit (.int .i64 2)))))⟩, ⟨none, some 54, .op (.mv (.t 55))⟩] [1, 31, 54]) (.cond (.t 54) (.seq (.reg [ ⟨none, some 56, .op (.faddr 2 (.t 1))⟩, ⟨none, some 57, .op (.load false 1 (.t 56))⟩, ⟨none, some 58, .call 55 [.t 57]⟩, ⟨none, some 59, .op (.mv (.t 58))⟩, ⟨(some (59, true)), some 60, .op (.faddr 4 (.t 1))⟩, ⟨(some (59, true)), some 61, .op (.load false 1 (.t 60))⟩, ⟨(some (59, true)), some 62, .op (.len (.t 61))⟩, ⟨(some (59, true)), some 63, .op (.bin .eql (.t 62) (.k (.c (.lit (.int .i64 0)))))⟩, ⟨none, some 64, .op (.pick (.t 59) (.t 63) (.k (.c (.lit (.bool false)))))⟩, ⟨none, some 2, .op (.mv (.t 64))⟩] [2]) .ret) (.seq (.reg [ ⟨none, some 66, .op (.bin .eql (.t 31) (.k (.c (.lit (.int .i64 3)))))⟩, ⟨none, some 65, .op (.mv (.t 66))⟩] [1, 31, 65]) (.cond (.t 65) (.seq (.reg [ ⟨none, some 67, .op (.faddr 4 (.t 1))⟩, ⟨none, some 68, .op (.load false 1 (.t 67))⟩, ⟨none, some 69, .op (.len (.t 68))⟩, ⟨none, some 70, .op (.bin .leq (.t 69) (.k (.c (.lit (.int .i64 6)))))⟩, ⟨none, some 2, .op (.mv (.t 70))⟩] [2]) .ret) (.seq (.reg [ ⟨none, some 72, .op (.bin .eql (.t 31) (.k (.c (.lit (.int .i64 4)))))⟩, ⟨none, some 71, .op (.mv (.t 72))⟩] [1, 71]) (.cond (.t 71) (.seq (.reg [ ⟨none, some 73, .op (.faddr 3 (.t 1))⟩, ⟨none, some 74, .op (.load false 1 (.t 73))⟩, ⟨none, some 75, .call 81 [.t 74]⟩, ⟨none, some 76, .op (.mv (.t 75))⟩, ⟨(some (76, true)), some 77, .op (.faddr 4 (.t 1))⟩, ⟨(some (76, true)), some 78, .op (.load false 1 (.t 77))⟩, ⟨(some (76, true)), some 79, .op (.len (.t 78))⟩, ⟨(some (76, true)), some 80, .op (.faddr 3 (.t 1))⟩, ⟨(some (76, true)), some 81, .op (.load false 1 (.t 80))⟩, ⟨(some (76, true)), some 82, .op (.len (.t 81))⟩, ⟨(some (76, true)), some 83, .op (.bin .eql (.t 79) (.t 82))⟩, ⟨none, some 84, .op (.pick (.t 76) (.t 83) (.k (.c (.lit (.bool false)))))⟩, ⟨none, some 2, .op (.mv (.t 84))⟩] [2]) .ret) .skip)))))))))))) (.seq (.reg [ ⟨none, some 2, .op (.mv (.k (.c (.lit (.bool false)))))⟩] [2]) .ret)))))
theorem K.impl_hasValidParts : chkF Go.Proofs.Tryz.prog 60 1 0 C.impl_hasValidParts [.tmp 2] = true := by kernel_rfl
def C.impl_measureNode : ACode := (.seq (.reg [ ⟨none, some 2, .op (.box 10 (.t 0))⟩, ⟨none, some 4, .op (.mv (.k (.c (.lit (.int .i64 0)))))⟩, ⟨none, some 5, .op (.mv (.k (.c (.lit (.int .i64 0)))))⟩, ⟨none, some 6, .op (.mv (.k (.c (.lit (.bool false)))))⟩] [1, 2]) (.seq (.seq (.reg [ ⟨none, some 12, .op (.mv (.t 1))⟩, ⟨none, some 13, .op (.bin .gtr (.t 12) (.k (.c (.lit (.int .i64 5)))))⟩, ⟨none, some 14, .op (.mv (.t 13))⟩, ⟨(some (14, false)), some 15, .op (.load true 5 (.t 2))⟩, ⟨(some (14, false)), some 16, .call 60 [.t 15]⟩, ⟨(some (14, false)), some 17, .op (.not (.t 16))⟩, ⟨none, some 18, .op (.pick (.t 14) (.k (.c (.lit (.bool true)))) (.t 17))⟩] [1, 2, 18]) (.cond (.t 18) (.seq (.reg [ ⟨none, some 4, .op (.mv (.k (.c (.lit (.int .i64 0)))))⟩, ⟨none, some 5, .op (.mv (.k (.c (.lit (.int .i64 0)))))⟩, ⟨none, some 6, .op (.mv (.k (.c (.lit (.bool false)))))⟩] [4, 5, 6]) .ret) .skip)) (.seq (.reg [ ⟨none, some 4, .op (.mv (.k (.c (.lit (.int .i64 1)))))⟩, ⟨none, some 5, .op (.mv (.k (.c (.lit (.int .i64 1)))))⟩] [1, 2, 4, 5]) (.seq (.seq (.reg [ ⟨none, some 19, .op (.faddr 4 (.t 2))⟩, ⟨none, some 20, .op (.load false 1 (.t 19))⟩, ⟨none, some 21, .op (.len (.t 20))⟩, ⟨none, some 22, .op (.mv (.k (.c (.lit (.int .i64 0)))))⟩] [1, 4, 5, 20, 21, 22]) (.block 0 (.loop (.seq (.reg [ ⟨none, some 23, .op (.bin .lss (.t 22) (.t 21))⟩] [1, 4, 5, 20, 21, 22, 23]) (.seq (.cond (.t 23) .skip (.exit 0)) (.seq (.block 1 (.seq (.reg [ ⟨none, some 24, .op (.iaddr 5 (.t 20) (.t 22))⟩, ⟨none, some 25, .op (.load true 5 (.t 24))⟩, ⟨none, some 8, .op (.alloc 11 [.c (.lit (.int .i64 0)), .c (.lit (.int .i64 0)), .c (.str []), .nsl 1, .nsl 5])⟩, ⟨none, none, .op (.store true 5 (.t 8) (.t 25))⟩] [1, 4, 5, 8, 20, 21, 22]) (.seq (.reg [ ⟨none, some 27, .op (.load true 5 (.t 8))⟩, ⟨none, some 28, .op (.mv (.t 1))⟩, ⟨none, some 29, .op (.bin .add (.t 28) (.k (.c (.lit (.int .i64 1)))))⟩, ⟨none, some 30, .call 39 [.t 27, .t 29]⟩, ⟨none, some 26, .op (.mv (.t 30))⟩, ⟨none, some 31, .op (.extract (.t 26) 0)⟩, ⟨none, some 32, .op (.extract (.t 26) 1)⟩, ⟨none, some 33, .op (.extract (.t 26) 2)⟩, ⟨none, some 9, .op (.mv (.t 31))⟩, ⟨none, some 10, .op (.mv (.t 32))⟩, ⟨none, some 11, .op (.mv (.t 33))⟩] [1, 4, 5, 9, 10, 11, 20, 21, 22]) (.seq (.seq (.reg [ ⟨none, some 34, .op (.mv (.t 11))⟩, ⟨none, some 35, .op (.not (.t 34))⟩] [1, 4, 5, 9, 10, 20, 21, 22, 35]) (.cond (.t 35) (.seq (.reg [ ⟨none, some 4, .op (.mv (.k (.c (.lit (.int .i64 0)))))⟩, ⟨none, some 5, .op (.mv (.k (.c (.lit (.int .i64 0)))))⟩, ⟨none, some 6, .op (.mv (.k (.c (.lit (.bool false)))))⟩] [4, 5, 6]) .ret) .skip)) (.seq (.reg [ ⟨none, some 36, .op (.mv (.t 4))⟩, ⟨none, some 37, .op (.mv (.t 9))⟩, ⟨none, some 38, .op (.bin .add (.t 36) (.t 37))⟩, ⟨none, some 4, .op (.mv (.t 38))⟩] [1, 4, 5, 10, 20, 21, 22]) (.reg [ ⟨none, some 39, .op (.mv (.t 5))⟩, ⟨none, some 40, .op (.mv (.t 10))⟩, ⟨none, some 41, .op (.bin .add (.t 40) (.k (.c (.lit (.int .i64 1)))))⟩, ⟨none, some 42, .op (.max (.t 39) (.t 41))⟩, ⟨none, some 5, .op (.mv (.t 42))⟩] [1, 4, 5, 20, 21, 22])))))) (.reg [ ⟨none, some 43, .op (.bin .add (.t 22) (.k (.c (.lit (.int .i64 1)))))⟩, ⟨none, some 22, .op (.mv (.t 43))⟩] [1, 4, 5, 20, 21, 22]))))))) (.seq (.reg [ ⟨none, some 44, .op (.mv (.t 4))⟩, ⟨none, some 45, .op (.mv (.t 5))⟩, ⟨none, some 4, .op (.mv (.t 44))⟩, ⟨none, some 5, .op (.mv (.t 45))⟩, ⟨none, some 6, .op (.mv (.k (.c (.lit (.bool true)))))⟩] [4, 5, 6]) .ret)))))
theorem K.impl_measureNode : chkF Go.Proofs.Tryz.prog 39 2 0 C.impl_measureNode [.tmp 4, .tmp 5, .tmp 6] = true := by kernel_rfl
def C.impl_ValidNode : ACode := (.seq (.reg [ ⟨none, some 1, .op (.box 10 (.t 0))⟩, ⟨none, some 2, .op (.mv (.k (.c (.lit (.bool false)))))⟩] [1]) (.seq (.reg [ ⟨none, some 7, .op (.load true 5 (.t 1))⟩, ⟨none, some 8, .call 39 [.t 7, .k (.c (.lit (.int .i64 1)))]⟩, ⟨none, some 6, .op (.mv (.t 8))⟩, ⟨none, some 9, .op (.extract (.t 6) 0)⟩, ⟨none, some 10, .op (.extract (.t 6) 1)⟩, ⟨none, some 11, .op (.extract (.t 6) 2)⟩, ⟨none, some 3, .op (.mv (.t 9))⟩, ⟨none, some 4, .op (.mv (.t 10))⟩, ⟨none, some 5, .op (.mv (.t 11))⟩] [3, 5]) (.seq (.reg [ ⟨none, some 12, .op (.mv (.t 5))⟩, ⟨none, some 13, .op (.mv (.t 12))⟩, ⟨(some (13, true)), some 14, .op (.mv (.t 3))⟩, ⟨(some (13, true)), some 15, .op (.bin .leq (.t 14) (.k (.c (.lit (.int .i64 40)))))⟩, ⟨none, some 16, .op (.pick (.t 13) (.t 15) (.k (.c (.lit (.bool false)))))⟩, ⟨none, some 2, .op (.mv (.t 16))⟩] [2]) .ret)))
theorem K.impl_ValidNode : chkF Go.Proofs.Tryz.prog 14 1 0 C.impl_ValidNode [.tmp 2] = true := by kernel_rfl
def C.impl_changeAt : ACode := (.seq (.reg [ ⟨none, some 3, .op (.box 10 (.t 0))⟩, ⟨none, some 6, .op (.alloc 11 [.c (.lit (.int .i64 0)), .c (.lit (.int .i64 0)), .c (.str []), .nsl 1, .nsl 5])⟩, ⟨none, some 7, .op (.mv (.k (.c (.lit (.bool false)))))⟩] [1, 2, 3, 6]) (.seq (.seq (.reg [ ⟨none, some 12, .op (.mv (.t 1))⟩, ⟨none, some 13, .op (.len (.t 12))⟩, ⟨none, some 14, .op (.bin .eql (.t 13) (.k (.c (.lit (.int .i64 0)))))⟩] [1, 2, 3, 6, 14]) (.cond (.t 14) (.seq (.reg [ ⟨none, some 15, .op (.mv (.t 2))⟩, ⟨none, some 16, .op (.load true 5 (.t 3))⟩, ⟨none, some 17, .callv (.t 15) [.t 16]⟩, ⟨none, some 18, .op (.extract (.t 17) 0)⟩, ⟨none, some 19, .op (.extract (.t 17) 1)⟩, ⟨none, none, .op (.store true 5 (.t 6) (.t 18))⟩, ⟨none, some 7, .op (.mv (.t 19))⟩] [6, 7]) .ret) .skip)) (.seq (.regD [ (⟨none, some 21, .op (.load true 5 (.t 3))⟩, []), (⟨none, some 22, .op (.mv (.t 1))⟩, []), (⟨none, some 23, .op (.iaddr 1 (.t 22) (.k (.c (.lit (.int .i64 0)))))⟩, [1]), (⟨none, some 24, .op (.load false 1 (.t 23))⟩, [1, 2]), (⟨none, some 25, .call 35 [.t 21, .t 24]⟩, [0, 1, 2, 3]), (⟨none, some 20, .op (.mv (.t 25))⟩, [0, 1, 2, 3, 4]), (⟨none, some 26, .op (.extract (.t 20) 0)⟩, [0, 1, 2, 3, 4, 5]), (⟨none, some 27, .op (.extract (.t 20) 1)⟩, [0, 1, 2, 3, 4, 5]), (⟨none, some 8, .op (.mv (.t 26))⟩, [0, 1, 2, 3, 4, 5, 6]), (⟨none, some 9, .op (.mv (.t 27))⟩, [0, 1, 2, 3, 4, 5, 6, 7, 8])] [1, 2, 3, 6, 8, 9]) (.seq (.seq (.reg [ ⟨none, some 28, .op (.mv (.t 9))⟩, ⟨none, some 29, .op (.not (.t 28))⟩] [1, 2, 3, 6, 8, 29]) (.cond (.t 29) (.seq (.reg [ ⟨none, some 30, .op (.build [.c (.lit (.int .i64 0)), .c (.lit (.int .i64 0)), .c (.str []), .nsl 1, .nsl 5] [])⟩, ⟨none, none, .op (.store true 5 (.t 6) (.t 30))⟩, ⟨none, some 7, .op (.mv (.k (.c (.lit (.bool false)))))⟩] [6, 7]) .ret) .skip)) (.seq (.regD [ (⟨none, some 32, .op (.faddr 4 (.t 3))⟩, []), (⟨none, some 33, .op (.load false 1 (.t 32))⟩, [0]), (⟨none, some 34, .op (.mv (.t 8))⟩, []), (⟨none, some 35, .op (.iaddr 5 (.t 33) (.t 34))⟩, [0, 1, 2]), (⟨none, some 36, .op (.load true 5 (.t 35))⟩, [0, 1, 2, 3]), (⟨none, some 37, .op (.mv (.t 1))⟩, []), (⟨none, some 38, .op (.slsl 1 (.t 37) (some (.k (.c (.lit (.int .i64 1))))) none)⟩, [5]), (⟨none, some 39, .op (.mv (.t 2))⟩, []), (⟨none, some 40, .call 31 [.t 36, .t 38, .t 39]⟩, [0, 1, 2, 3, 4, 5, 6, 7]), (⟨none, some 31, .op (.mv (.t 40))⟩, [0, 1, 2, 3, 4, 5, 6, 7, 8]), (⟨none, some 41, .op (.extract (.t 31) 0)⟩, [0, 1, 2, 3, 4, 5, 6, 7, 8, 9]), (⟨none, some 42, .op (.extract (.t 31) 1)⟩, [0, 1, 2, 3, 4, 5, 6, 7, 8, 9]), (⟨none, some 10, .op (.alloc 12 [.c (.lit (.int .i64 0)), .c (.lit (.int .i64 0)), .c (.str []), .nsl 1, .nsl 5])⟩, []), (⟨none, none, .op (.store true 5 (.t 10) (.t 41))⟩, [0, 1, 2, 3, 4, 5, 6, 7, 8, 9, 10, 12]), (⟨none, some 9, .op (.mv (.t 42))⟩, [0, 1, 2, 3, 4, 5, 6, 7, 8, 9, 10, 11, 12, 13])] [3, 6, 8, 9, 10]) (.seq (.seq (.reg [ ⟨none, some 43, .op (.mv (.t 9))⟩, ⟨none, some 44, .op (.not (.t 43))⟩] [3, 6, 8, 10, 44]) (.cond (.t 44) (.seq (.reg [ ⟨none, some 45, .op (.build [.c (.lit (.int .i64 0)), .c (.lit (.int .i64 0)), .c (.str []), .nsl 1, .nsl 5] [])⟩, ⟨none, none, .op (.store true 5 (.t 6) (.t 45))⟩, ⟨none, some 7, .op (.mv (.k (.c (.lit (.bool false)))))⟩] [6, 7]) .ret) .skip)) (.seq (.reg [ ⟨none, some 46, .op (.load true 5 (.t 3))⟩, ⟨none, some 47, .call 29 [.t 46]⟩, ⟨none, some 11, .op (.alloc 13 [.c (.lit (.int .i64 0)), .c (.lit (.int .i64 0)), .c (.str []), .nsl 1, .nsl 5])⟩, ⟨none, none, .op (.store true 5 (.t 11) (.t 47))⟩] [6, 8, 10, 11]) (.seq (.reg [ ⟨none, some 48, .op (.faddr 4 (.t 11))⟩, ⟨none, some 49, .op (.load false 1 (.t 48))⟩, ⟨none, some 50, .op (.mv (.t 8))⟩, ⟨none, some 51, .op (.load true 5 (.t 10))⟩, ⟨none, some 52, .op (.iaddr 5 (.t 49) (.t 50))⟩, ⟨none, none, .op (.store true 5 (.t 52) (.t 51))⟩] [6, 11]) (.seq (.reg [ ⟨none, some 53, .op (.load true 5 (.t 11))⟩, ⟨none, none, .op (.store true 5 (.t 6) (.t 53))⟩, ⟨none, some 7, .op (.mv (.k (.c (.lit (.bool true)))))⟩] [6, 7]) .ret)))))))))
theorem K.impl_changeAt__impl_AddNode_1 : chkF Go.Proofs.Tryz.prog 31 3 3 C.impl_changeAt [.cell 6 true 5, .tmp 7] = true := by kernel_rfl
def C.impl_checked : ACode := (.seq (.reg [ ⟨none, some 2, .op (.box 10 (.t 0))⟩, ⟨none, some 4, .op (.alloc 11 [.c (.lit (.int .i64 0)), .c (.lit (.int .i64 0)), .c (.str []), .nsl 1, .nsl 5])⟩, ⟨none, some 5, .op (.mv (.k (.c (.lit (.bool false)))))⟩] [1, 2, 4]) (.seq (.seq (.reg [ ⟨none, some 6, .op (.mv (.t 1))⟩, ⟨none, some 7, .op (.not (.t 6))⟩, ⟨none, some 8, .op (.mv (.t 7))⟩, ⟨(some (8, false)), some 9, .op (.load true 5 (.t 2))⟩, ⟨(some (8, false)), some 10, .call 14 [.t 9]⟩, ⟨(some (8, false)), some 11, .op (.not (.t 10))⟩, ⟨none, some 12, .op (.pick (.t 8) (.k (.c (.lit (.bool true)))) (.t 11))⟩] [2, 4, 12]) (.cond (.t 12) (.seq (.reg [ ⟨none, some 13, .op (.build [.c (.lit (.int .i64 0)), .c (.lit (.int .i64 0)), .c (.str []), .nsl 1, .nsl 5] [])⟩, ⟨none, none, .op (.store true 5 (.t 4) (.t 13))⟩, ⟨none, some 5, .op (.mv (.k (.c (.lit (.bool false)))))⟩] [4, 5]) .ret) .skip)) (.seq (.reg [ ⟨none, some 14, .op (.load true 5 (.t 2))⟩, ⟨none, none, .op (.store true 5 (.t 4) (.t 14))⟩, ⟨none, some 5, .op (.mv (.k (.c (.lit (.bool true)))))⟩] [4, 5]) .ret)))
theorem K.impl_checked : chkF Go.Proofs.Tryz.prog 30 2 0 C.impl_checked [.cell 4 true 5, .tmp 5] = true := by kernel_rfl
def C.impl_isPath : ACode := (.seq (.reg [ ⟨none, some 2, .op (.mv (.k (.c (.lit (.bool false)))))⟩] [0]) (.seq (.seq (.reg [ ⟨none, some 5, .op (.mv (.t 0))⟩, ⟨none, some 6, .op (.len (.t 5))⟩, ⟨none, some 7, .op (.bin .gtr (.t 6) (.k (.c (.lit (.int .i64 5)))))⟩] [0, 7]) (.cond (.t 7) (.seq (.reg [ ⟨none, some 2, .op (.mv (.k (.c (.lit (.bool false)))))⟩] [2]) .ret) .skip)) (.seq (.seq (.reg [ ⟨none, some 8, .op (.mv (.t 0))⟩, ⟨none, some 9, .op (.len (.t 8))⟩, ⟨none, some 10, .op (.mv (.k (.c (.lit (.int .i64 0)))))⟩] [8, 9, 10]) (.block 0 (.loop (.seq (.reg [ ⟨none, some 11, .op (.bin .lss (.t 10) (.t 9))⟩] [8, 9, 10, 11]) (.seq (.cond (.t 11) .skip (.exit 0)) (.seq (.block 1 (.seq (.reg [ ⟨none, some 12, .op (.iaddr 1 (.t 8) (.t 10))⟩, ⟨none, some 13, .op (.load false 1 (.t 12))⟩, ⟨none, some 4, .op (.mv (.t 13))⟩] [4, 8, 9, 10]) (.seq (.reg [ ⟨none, some 14, .op (.mv (.t 4))⟩, ⟨none, some 15, .call 55 [.t 14]⟩, ⟨none, some 16, .op (.not (.t 15))⟩] [8, 9, 10, 16]) (.cond (.t 16) (.seq (.reg [ ⟨none, some 2, .op (.mv (.k (.c (.lit (.bool false)))))⟩] [2]) .ret) .skip)))) (.reg [ ⟨none, some 17, .op (.bin .add (.t 10) (.k (.c (.lit (.int .i64 1)))))⟩, ⟨none, some 10, .op (.mv (.t 17))⟩] [8, 9, 10]))))))) (.seq (.reg [ ⟨none, some 2, .op (.mv (.k (.c (.lit (.bool true)))))⟩] [2]) .ret))))
theorem K.impl_isPath : chkF Go.Proofs.Tryz.prog 28 1 0 C.impl_isPath [.tmp 2] = true := by kernel_rfl
def C.impl_AddNode : ACode := (.seq (.reg [ ⟨none, some 3, .op (.box 10 (.t 0))⟩, ⟨none, some 4, .op (.box 11 (.t 1))⟩, ⟨none, some 5, .op (.box 12 (.t 2))⟩, ⟨none, some 6, .op (.alloc 13 [.c (.lit (.int .i64 0)), .c (.lit (.int .i64 0)), .c (.str []), .nsl 1, .nsl 5])⟩, ⟨none, some 7, .op (.mv (.k (.c (.lit (.bool false)))))⟩] [3, 4, 5, 6]) (.seq (.seq (.reg [ ⟨none, some 9, .op (.load true 5 (.t 3))⟩, ⟨none, some 10, .call 14 [.t 9]⟩, ⟨none, some 11, .op (.not (.t 10))⟩, ⟨none, some 12, .op (.mv (.t 11))⟩, ⟨(some (12, false)), some 13, .op (.load false 1 (.t 4))⟩, ⟨(some (12, false)), some 14, .call 28 [.t 13]⟩, ⟨(some (12, false)), some 15, .op (.not (.t 14))⟩, ⟨none, some 16, .op (.pick (.t 12) (.k (.c (.lit (.bool true)))) (.t 15))⟩, ⟨none, some 17, .op (.mv (.t 16))⟩, ⟨(some (17, false)), some 18, .op (.load true 5 (.t 5))⟩, ⟨(some (17, false)), some 19, .call 14 [.t 18]⟩, ⟨(some (17, false)), some 20, .op (.not (.t 19))⟩, ⟨none, some 21, .op (.pick (.t 17) (.k (.c (.lit (.bool true)))) (.t 20))⟩] [3, 4, 5, 6, 21]) (.cond (.t 21) (.seq (.reg [ ⟨none, some 22, .op (.build [.c (.lit (.int .i64 0)), .c (.lit (.int .i64 0)), .c (.str []), .nsl 1, .nsl 5] [])⟩, ⟨none, none, .op (.store true 5 (.t 6) (.t 22))⟩, ⟨none, some 7, .op (.mv (.k (.c (.lit (.bool false)))))⟩] [6, 7]) .ret) .skip)) (.seq (.seq (.reg [ ⟨none, some 23, .op (.load false 1 (.t 4))⟩, ⟨none, some 24, .op (.len (.t 23))⟩, ⟨none, some 25, .op (.bin .eql (.t 24) (.k (.c (.lit (.int .i64 0)))))⟩] [3, 4, 5, 6, 25]) (.cond (.t 25) (.seq (.reg [ ⟨none, some 26, .op (.load true 5 (.t 5))⟩, ⟨none, some 27, .call 29 [.t 26]⟩, ⟨none, none, .op (.store true 5 (.t 6) (.t 27))⟩, ⟨none, some 7, .op (.mv (.k (.c (.lit (.bool true)))))⟩] [6, 7]) .ret) .skip)) (.seq (.reg [ ⟨none, some 28, .op (.load false 1 (.t 4))⟩, ⟨none, some 29, .op (.len (.t 28))⟩, ⟨none, some 30, .op (.bin .sub (.t 29) (.k (.c (.lit (.int .i64 1)))))⟩, ⟨none, some 8, .op (.alloc 14 [.c (.lit (.int .i64 0))])⟩, ⟨none, none, .op (.store false 1 (.t 8) (.t 30))⟩] [3, 4, 5, 6, 8]) (.seq (.regD [ (⟨none, some 31, .op (.load true 5 (.t 3))⟩, []), (⟨none, some 32, .op (.load false 1 (.t 4))⟩, []), (⟨none, some 33, .op (.load false 1 (.t 8))⟩, []), (⟨none, some 34, .op (.slsl 1 (.t 32) none (some (.t 33)))⟩, [1, 2]), (⟨none, some 35, .op (.mkfn 32 [.t 4, .t 8, .t 5])⟩, []), (⟨none, some 36, .call 31 [.t 31, .t 34, .t 35]⟩, [0, 1, 2, 3, 4]), (⟨none, some 37, .op (.extract (.t 36) 0)⟩, [0, 1, 2, 3, 4, 5]), (⟨none, some 38, .op (.extract (.t 36) 1)⟩, [0, 1, 2, 3, 4, 5]), (⟨none, some 39, .call 30 [.t 37, .t 38]⟩, [0, 1, 2, 3, 4, 5, 6, 7]), (⟨none, some 40, .op (.extract (.t 39) 0)⟩, [0, 1, 2, 3, 4, 5, 6, 7, 8]), (⟨none, some 41, .op (.extract (.t 39) 1)⟩, [0, 1, 2, 3, 4, 5, 6, 7, 8]), (⟨none, none, .op (.store true 5 (.t 6) (.t 40))⟩, [0, 1, 2, 3, 4, 5, 6, 7, 8, 9, 10]), (⟨none, some 7, .op (.mv (.t 41))⟩, [0, 1, 2, 3, 4, 5, 6, 7, 8, 9, 10, 11])] [6, 7]) .ret)))))
theorem K.impl_AddNode : chkF Go.Proofs.Tryz.prog 11 3 0 C.impl_AddNode [.cell 6 true 5, .tmp 7] = true := by kernel_rfl
def C.impl_findNode : ACode := (.seq (.reg [ ⟨none, some 2, .op (.box 10 (.t 0))⟩, ⟨none, some 4, .op (.alloc 11 [.c (.lit (.int .i64 0)), .c (.lit (.int .i64 0)), .c (.str []), .nsl 1, .nsl 5])⟩, ⟨none, some 5, .op (.mv (.k (.c (.lit (.bool false)))))⟩] [1, 2, 4]) (.seq (.seq (.reg [ ⟨none, some 10, .op (.mv (.t 1))⟩, ⟨none, some 11, .op (.len (.t 10))⟩, ⟨none, some 12, .op (.mv (.k (.c (.lit (.int .i64 0)))))⟩] [2, 4, 10, 11, 12]) (.block 0 (.loop (.seq (.reg [ ⟨none, some 13, .op (.bin .lss (.t 12) (.t 11))⟩] [2, 4, 10, 11, 12, 13]) (.seq (.cond (.t 13) .skip (.exit 0)) (.seq (.block 1 (.seq (.reg [ ⟨none, some 14, .op (.iaddr 1 (.t 10) (.t 12))⟩, ⟨none, some 15, .op (.load false 1 (.t 14))⟩, ⟨none, some 7, .op (.mv (.t 15))⟩] [2, 4, 7, 10, 11, 12]) (.seq (.reg [ ⟨none, some 17, .op (.load true 5 (.t 2))⟩, ⟨none, some 18, .op (.mv (.t 7))⟩, ⟨none, some 19, .call 35 [.t 17, .t 18]⟩, ⟨none, some 16, .op (.mv (.t 19))⟩, ⟨none, some 20, .op (.extract (.t 16) 0)⟩, ⟨none, some 21, .op (.extract (.t 16) 1)⟩, ⟨none, some 8, .op (.mv (.t 20))⟩, ⟨none, some 9, .op (.mv (.t 21))⟩] [2, 4, 8, 9, 10, 11, 12]) (.seq (.seq (.reg [ ⟨none, some 22, .op (.mv (.t 9))⟩, ⟨none, some 23, .op (.not (.t 22))⟩] [2, 4, 8, 10, 11, 12, 23]) (.cond (.t 23) (.seq (.reg [ ⟨none, some 24, .op (.build [.c (.lit (.int .i64 0)), .c (.lit (.int .i64 0)), .c (.str []), .nsl 1, .nsl 5] [])⟩, ⟨none, none, .op (.store true 5 (.t 4) (.t 24))⟩, ⟨none, some 5, .op (.mv (.k (.c (.lit (.bool false)))))⟩] [4, 5]) .ret) .skip)) (.reg [ ⟨none, some 25, .op (.faddr 4 (.t 2))⟩, ⟨none, some 26, .op (.load false 1 (.t 25))⟩, ⟨none, some 27, .op (.mv (.t 8))⟩, ⟨none, some 28, .op (.iaddr 5 (.t 26) (.t 27))⟩, ⟨none, some 29, .op (.load true 5 (.t 28))⟩, ⟨none, none, .op (.store true 5 (.t 2) (.t 29))⟩] [2, 4, 10, 11, 12]))))) (.reg [ ⟨none, some 30, .op (.bin .add (.t 12) (.k (.c (.lit (.int .i64 1)))))⟩, ⟨none, some 12, .op (.mv (.t 30))⟩] [2, 4, 10, 11, 12]))))))) (.seq (.reg [ ⟨none, some 31, .op (.load true 5 (.t 2))⟩, ⟨none, none, .op (.store true 5 (.t 4) (.t 31))⟩, ⟨none, some 5, .op (.mv (.k (.c (.lit (.bool true)))))⟩] [4, 5]) .ret)))
theorem K.impl_findNode : chkF Go.Proofs.Tryz.prog 40 2 0 C.impl_findNode [.cell 4 true 5, .tmp 5] = true := by kernel_rfl
def C.impl_NodeAt : ACode := (.seq (.reg [ ⟨none, some 2, .op (.box 10 (.t 0))⟩, ⟨none, some 4, .op (.alloc 11 [.c (.lit (.int .i64 0)), .c (.lit (.int .i64 0)), .c (.str []), .nsl 1, .nsl 5])⟩, ⟨none, some 5, .op (.mv (.k (.c (.lit (.bool false)))))⟩] [1, 2, 4]) (.seq (.seq (.reg [ ⟨none, some 8, .op (.load true 5 (.t 2))⟩, ⟨none, some 9, .call 14 [.t 8]⟩, ⟨none, some 10, .op (.not (.t 9))⟩, ⟨none, some 11, .op (.mv (.t 10))⟩, ⟨(some (11, false)), some 12, .op (.mv (.t 1))⟩, ⟨(some (11, false)), some 13, .call 28 [.t 12]⟩, ⟨(some (11, false)), some 14, .op (.not (.t 13))⟩, ⟨none, some 15, .op (.pick (.t 11) (.k (.c (.lit (.bool true)))) (.t 14))⟩] [1, 2, 4, 15]) (.cond (.t 15) (.seq (.reg [ ⟨none, some 16, .op (.build [.c (.lit (.int .i64 0)), .c (.lit (.int .i64 0)), .c (.str []), .nsl 1, .nsl 5] [])⟩, ⟨none, none, .op (.store true 5 (.t 4) (.t 16))⟩, ⟨none, some 5, .op (.mv (.k (.c (.lit (.bool false)))))⟩] [4, 5]) .ret) .skip)) (.seq (.reg [ ⟨none, some 18, .op (.load true 5 (.t 2))⟩, ⟨none, some 19, .op (.mv (.t 1))⟩, ⟨none, some 20, .call 40 [.t 18, .t 19]⟩, ⟨none, some 17, .op (.mv (.t 20))⟩, ⟨none, some 21, .op (.extract (.t 17) 0)⟩, ⟨none, some 22, .op (.extract (.t 17) 1)⟩, ⟨none, some 6, .op (.alloc 12 [.c (.lit (.int .i64 0)), .c (.lit (.int .i64 0)), .c (.str []), .nsl 1, .nsl 5])⟩, ⟨none, none, .op (.store true 5 (.t 6) (.t 21))⟩, ⟨none, some 7, .op (.mv (.t 22))⟩] [4, 6, 7]) (.seq (.seq (.reg [ ⟨none, some 23, .op (.mv (.t 7))⟩, ⟨none, some 24, .op (.not (.t 23))⟩] [4, 6, 24]) (.cond (.t 24) (.seq (.reg [ ⟨none, some 25, .op (.build [.c (.lit (.int .i64 0)), .c (.lit (.int .i64 0)), .c (.str []), .nsl 1, .nsl 5] [])⟩, ⟨none, none, .op (.store true 5 (.t 4) (.t 25))⟩, ⟨none, some 5, .op (.mv (.k (.c (.lit (.bool false)))))⟩] [4, 5]) .ret) .skip)) (.seq (.reg [ ⟨none, some 26, .op (.load true 5 (.t 6))⟩, ⟨none, some 27, .call 29 [.t 26]⟩, ⟨none, none, .op (.store true 5 (.t 4) (.t 27))⟩, ⟨none, some 5, .op (.mv (.k (.c (.lit (.bool true)))))⟩] [4, 5]) .ret)))))
theorem K.impl_NodeAt : chkF Go.Proofs.Tryz.prog 15 2 0 C.impl_NodeAt [.cell 4 true 5, .tmp 5] = true := by kernel_rfl
def C.slices_Delete_impl_Node : ACode := (.seq (.reg [ ⟨none, some 6, .op (.mv (.k (.nsl 5)))⟩] [0, 1, 2]) (.seq (.reg [ ⟨none, some 8, .op (.mv (.t 0))⟩, ⟨none, some 9, .op (.mv (.t 1))⟩, ⟨none, some 10, .op (.mv (.t 2))⟩, ⟨none, some 11, .op (.mv (.t 0))⟩, ⟨none, some 12, .op (.len (.t 11))⟩, ⟨none, some 13, .op (.sl3 5 (.t 8) (.t 9) (.t 10) (.t 12))⟩] [0, 1, 2]) (.seq (.seq (.reg [ ⟨none, some 14, .op (.mv (.t 1))⟩, ⟨none, some 15, .op (.mv (.t 2))⟩, ⟨none, some 16, .op (.bin .eql (.t 14) (.t 15))⟩] [0, 1, 2, 16]) (.cond (.t 16) (.seq (.reg [ ⟨none, some 17, .op (.mv (.t 0))⟩, ⟨none, some 6, .op (.mv (.t 17))⟩] [6]) .ret) .skip)) (.seq (.reg [ ⟨none, some 18, .op (.mv (.t 0))⟩, ⟨none, some 19, .op (.len (.t 18))⟩, ⟨none, some 7, .op (.mv (.t 19))⟩] [0, 1, 2, 7]) (.seq (.regD [ (⟨none, some 20, .op (.mv (.t 0))⟩, []), (⟨none, some 21, .op (.mv (.t 1))⟩, []), (⟨none, some 22, .op (.sslice 5 (.t 20) none (some (.t 21)))⟩, [0, 1]), (⟨none, some 23, .op (.mv (.t 0))⟩, []), (⟨none, some 24, .op (.mv (.t 2))⟩, []), (⟨none, some 25, .op (.sslice 5 (.t 23) (some (.t 24)) none)⟩, [3, 4]), (⟨none, some 26, .op (.sapp 10 5 80 (.t 22) (.t 25))⟩, [0, 1, 2, 3, 4, 5]), (⟨none, some 0, .op (.mv (.t 26))⟩, [0, 1, 2, 3, 4, 5, 6])] [0, 7]) (.seq (.reg [ ⟨none, some 27, .op (.mv (.t 0))⟩, ⟨none, some 28, .op (.mv (.t 0))⟩, ⟨none, some 29, .op (.len (.t 28))⟩, ⟨none, some 30, .op (.mv (.t 7))⟩, ⟨none, some 31, .op (.sslice 5 (.t 27) (some (.t 29)) (some (.t 30)))⟩, ⟨none, none, .op (.sclr 5 [.lit (.int .i64 0), .lit (.int .i64 0), .str [], .sl 1 [], .sl 5 []] (.t 31))⟩] [0]) (.seq (.reg [ ⟨none, some 32, .op (.mv (.t 0))⟩, ⟨none, some 6, .op (.mv (.t 32))⟩] [6]) .ret)))))))
theorem K.slices_Delete_impl_Node : chkF Go.Proofs.Tryz.prog 37 3 1 C.slices_Delete_impl_Node [.tmp 6] = true := by kernel_rfl
def C.slices_Delete_string : ACode := (.seq (.reg [ ⟨none, some 6, .op (.mv (.k (.nsl 1)))⟩] [0, 1, 2]) (.seq (.reg [ ⟨none, some 8, .op (.mv (.t 0))⟩, ⟨none, some 9, .op (.mv (.t 1))⟩, ⟨none, some 10, .op (.mv (.t 2))⟩, ⟨none, some 11, .op (.mv (.t 0))⟩, ⟨none, some 12, .op (.len (.t 11))⟩, ⟨none, some 13, .op (.sl3 1 (.t 8) (.t 9) (.t 10) (.t 12))⟩] [0, 1, 2]) (.seq (.seq (.reg [ ⟨none, some 14, .op (.mv (.t 1))⟩, ⟨none, some 15, .op (.mv (.t 2))⟩, ⟨none, some 16, .op (.bin .eql (.t 14) (.t 15))⟩] [0, 1, 2, 16]) (.cond (.t 16) (.seq (.reg [ ⟨none, some 17, .op (.mv (.t 0))⟩, ⟨none, some 6, .op (.mv (.t 17))⟩] [6]) .ret) .skip)) (.seq (.reg [ ⟨none, some 18, .op (.mv (.t 0))⟩, ⟨none, some 19, .op (.len (.t 18))⟩, ⟨none, some 7, .op (.mv (.t 19))⟩] [0, 1, 2, 7]) (.seq (.regD [ (⟨none, some 20, .op (.mv (.t 0))⟩, []), (⟨none, some 21, .op (.mv (.t 1))⟩, []), (⟨none, some 22, .op (.sslice 1 (.t 20) none (some (.t 21)))⟩, [0, 1]), (⟨none, some 23, .op (.mv (.t 0))⟩, []), (⟨none, some 24, .op (.mv (.t 2))⟩, []), (⟨none, some 25, .op (.sslice 1 (.t 23) (some (.t 24)) none)⟩, [3, 4]), (⟨none, some 26, .op (.sapp 10 1 16 (.t 22) (.t 25))⟩, [0, 1, 2, 3, 4, 5]), (⟨none, some 0, .op (.mv (.t 26))⟩, [0, 1, 2, 3, 4, 5, 6])] [0, 7]) (.seq (.reg [ ⟨none, some 27, .op (.mv (.t 0))⟩, ⟨none, some 28, .op (.mv (.t 0))⟩, ⟨none, some 29, .op (.len (.t 28))⟩, ⟨none, some 30, .op (.mv (.t 7))⟩, ⟨none, some 31, .op (.sslice 1 (.t 27) (some (.t 29)) (some (.t 30)))⟩, ⟨none, none, .op (.sclr 1 [.str []] (.t 31))⟩] [0]) (.seq (.reg [ ⟨none, some 32, .op (.mv (.t 0))⟩, ⟨none, some 6, .op (.mv (.t 32))⟩] [6]) .ret)))))))
theorem K.slices_Delete_string : chkF Go.Proofs.Tryz.prog 36 3 1 C.slices_Delete_string [.tmp 6] = true := by kernel_rfl
def C.impl_RemoveNode_1 : ACode := (.seq (.reg [ ⟨none, some 3, .op (.box 10 (.t 0))⟩, ⟨none, some 4, .op (.alloc 11 [.c (.lit (.int .i64 0)), .c (.lit (.int .i64 0)), .c (.str []), .nsl 1, .nsl 5])⟩, ⟨none, some 5, .op (.mv (.k (.c (.lit (.bool false)))))⟩] [1, 2, 3, 4]) (.seq (.regD [ (⟨none, some 10, .op (.load true 5 (.t 3))⟩, []), (⟨none, some 11, .op (.load false 1 (.t 1))⟩, []), (⟨none, some 12, .op (.load false 1 (.t 2))⟩, []), (⟨none, some 13, .op (.iaddr 1 (.t 11) (.t 12))⟩, [1, 2]), (⟨none, some 14, .op (.load false 1 (.t 13))⟩, [1, 2, 3]), (⟨none, some 15, .call 35 [.t 10, .t 14]⟩, [0, 1, 2, 3, 4]), (⟨none, some 9, .op (.mv (.t 15))⟩, [0, 1, 2, 3, 4, 5]), (⟨none, some 16, .op (.extract (.t 9) 0)⟩, [0, 1, 2, 3, 4, 5, 6]), (⟨none, some 17, .op (.extract (.t 9) 1)⟩, [0, 1, 2, 3, 4, 5, 6]), (⟨none, some 6, .op (.mv (.t 16))⟩, [0, 1, 2, 3, 4, 5, 6, 7]), (⟨none, some 7, .op (.mv (.t 17))⟩, [0, 1, 2, 3, 4, 5, 6, 7, 8, 9])] [3, 4, 6, 7]) (.seq (.seq (.reg [ ⟨none, some 18, .op (.mv (.t 7))⟩, ⟨none, some 19, .op (.not (.t 18))⟩] [3, 4, 6, 19]) (.cond (.t 19) (.seq (.reg [ ⟨none, some 20, .op (.build [.c (.lit (.int .i64 0)), .c (.lit (.int .i64 0)), .c (.str []), .nsl 1, .nsl 5] [])⟩, ⟨none, none, .op (.store true 5 (.t 4) (.t 20))⟩, ⟨none, some 5, .op (.mv (.k (.c (.lit (.bool false)))))⟩] [4, 5]) .ret) .skip)) (.seq (.reg [ ⟨none, some 21, .op (.load true 5 (.t 3))⟩, ⟨none, some 22, .call 29 [.t 21]⟩, ⟨none, some 8, .op (.alloc 12 [.c (.lit (.int .i64 0)), .c (.lit (.int .i64 0)), .c (.str []), .nsl 1, .nsl 5])⟩, ⟨none, none, .op (.store true 5 (.t 8) (.t 22))⟩] [3, 4, 6, 8]) (.cut (.seq (.reg [ ⟨none, some 23, .op (.faddr 0 (.t 3))⟩, ⟨none, some 24, .op (.load false 1 (.t 23))⟩, ⟨none, some 25, .op (.bin .eql (.t 24) (.k (.c (.lit (.int .i64 4)))))⟩] [4, 6, 8, 25]) (.cond (.t 25) (.reg [ ⟨none, some 26, .op (.faddr 3 (.t 8))⟩, ⟨none, some 27, .op (.load false 1 (.t 26))⟩, ⟨none, some 28, .op (.mv (.t 6))⟩, ⟨none, some 29, .op (.mv (.t 6))⟩, ⟨none, some 30, .op (.bin .add (.t 29) (.k (.c (.lit (.int .i64 1)))))⟩, ⟨none, some 31, .call 36 [.t 27, .t 28, .t 30]⟩, ⟨none, some 32, .op (.faddr 3 (.t 8))⟩, ⟨none, none, .op (.store false 1 (.t 32) (.t 31))⟩] [4, 6, 8]) .skip)) (.seq (.reg [ ⟨none, some 33, .op (.faddr 4 (.t 8))⟩, ⟨none, some 34, .op (.load false 1 (.t 33))⟩, ⟨none, some 35, .op (.mv (.t 6))⟩, ⟨none, some 36, .op (.mv (.t 6))⟩, ⟨none, some 37, .op (.bin .add (.t 36) (.k (.c (.lit (.int .i64 1)))))⟩, ⟨none, some 38, .call 37 [.t 34, .t 35, .t 37]⟩, ⟨none, some 39, .op (.faddr 4 (.t 8))⟩, ⟨none, none, .op (.store false 1 (.t 39) (.t 38))⟩] [4, 8]) (.seq (.reg [ ⟨none, some 40, .op (.load true 5 (.t 8))⟩, ⟨none, none, .op (.store true 5 (.t 4) (.t 40))⟩, ⟨none, some 5, .op (.mv (.k (.c (.lit (.bool true)))))⟩] [4, 5]) .ret)))))))
theorem K.impl_RemoveNode_1 : chkF Go.Proofs.Tryz.prog 34 3 2 C.impl_RemoveNode_1 [.cell 4 true 5, .tmp 5] = true := by kernel_rfl
theorem K.impl_changeAt__impl_RemoveNode_1 : chkF Go.Proofs.Tryz.prog 31 3 2 C.impl_changeAt [.cell 6 true 5, .tmp 7] = true := by kernel_rfl
def C.impl_RemoveNode : ACode := (.seq (.reg [ ⟨none, some 2, .op (.box 10 (.t 0))⟩, ⟨none, some 3, .op (.box 11 (.t 1))⟩, ⟨none, some 4, .op (.alloc 12 [.c (.lit (.int .i64 0)), .c (.lit (.int .i64 0)), .c (.str []), .nsl 1, .nsl 5])⟩, ⟨none, some 5, .op (.mv (.k (.c (.lit (.bool false)))))⟩] [2, 3, 4]) (.seq (.seq (.reg [ ⟨none, some 7, .op (.load true 5 (.t 2))⟩, ⟨none, some 8, .call 14 [.t 7]⟩, ⟨none, some 9, .op (.not (.t 8))⟩, ⟨none, some 10, .op (.mv (.t 9))⟩, ⟨(some (10, false)), some 11, .op (.load false 1 (.t 3))⟩, ⟨(some (10, false)), some 12, .call 28 [.t 11]⟩, ⟨(some (10, false)), some 13, .op (.not (.t 12))⟩, ⟨none, some 14, .op (.pick (.t 10) (.k (.c (.lit (.bool true)))) (.t 13))⟩, ⟨none, some 15, .op (.mv (.t 14))⟩, ⟨(some (15, false)), some 16, .op (.load false 1 (.t 3))⟩, ⟨(some (15, false)), some 17, .op (.len (.t 16))⟩, ⟨(some (15, false)), some 18, .op (.bin .eql (.t 17) (.k (.c (.lit (.int .i64 0)))))⟩, ⟨none, some 19, .op (.pick (.t 15) (.k (.c (.lit (.bool true)))) (.t 18))⟩] [2, 3, 4, 19]) (.cond (.t 19) (.seq (.reg [ ⟨none, some 20, .op (.build [.c (.lit (.int .i64 0)), .c (.lit (.int .i64 0)), .c (.str []), .nsl 1, .nsl 5] [])⟩, ⟨none, none, .op (.store true 5 (.t 4) (.t 20))⟩, ⟨none, some 5, .op (.mv (.k (.c (.lit (.bool false)))))⟩] [4, 5]) .ret) .skip)) (.seq (.reg [ ⟨none, some 21, .op (.load false 1 (.t 3))⟩, ⟨none, some 22, .op (.len (.t 21))⟩, ⟨none, some 23, .op (.bin .sub (.t 22) (.k (.c (.lit (.int .i64 1)))))⟩, ⟨none, some 6, .op (.alloc 13 [.c (.lit (.int .i64 0))])⟩, ⟨none, none, .op (.store false 1 (.t 6) (.t 23))⟩] [2, 3, 4, 6]) (.seq (.regD [ (⟨none, some 24, .op (.load true 5 (.t 2))⟩, []), (⟨none, some 25, .op (.load false 1 (.t 3))⟩, []), (⟨none, some 26, .op (.load false 1 (.t 6))⟩, []), (⟨none, some 27, .op (.slsl 1 (.t 25) none (some (.t 26)))⟩, [1, 2]), (⟨none, some 28, .op (.mkfn 34 [.t 3, .t 6])⟩, []), (⟨none, some 29, .call 31 [.t 24, .t 27, .t 28]⟩, [0, 1, 2, 3, 4]), (⟨none, some 30, .op (.extract (.t 29) 0)⟩, [0, 1, 2, 3, 4, 5]), (⟨none, some 31, .op (.extract (.t 29) 1)⟩, [0, 1, 2, 3, 4, 5]), (⟨none, none, .op (.store true 5 (.t 4) (.t 30))⟩, [0, 1, 2, 3, 4, 5, 6, 7]), (⟨none, some 5, .op (.mv (.t 31))⟩, [0, 1, 2, 3, 4, 5, 6, 7, 8])] [4, 5]) .ret))))
theorem K.impl_RemoveNode : chkF Go.Proofs.Tryz.prog 12 2 0 C.impl_RemoveNode [.cell 4 true 5, .tmp 5] = true := by kernel_rfl
def C.impl_SetNode_1 : ACode := (.seq (.reg [ ⟨none, some 2, .op (.box 10 (.t 0))⟩, ⟨none, some 3, .op (.alloc 11 [.c (.lit (.int .i64 0)), .c (.lit (.int .i64 0)), .c (.str []), .nsl 1, .nsl 5])⟩, ⟨none, some 4, .op (.mv (.k (.c (.lit (.bool false)))))⟩] [1, 3]) (.seq (.reg [ ⟨none, some 5, .op (.load true 5 (.t 1))⟩, ⟨none, some 6, .call 29 [.t 5]⟩, ⟨none, none, .op (.store true 5 (.t 3) (.t 6))⟩, ⟨none, some 4, .op (.mv (.k (.c (.lit (.bool true)))))⟩] [3, 4]) .ret))
theorem K.impl_SetNode_1 : chkF Go.Proofs.Tryz.prog 38 2 1 C.impl_SetNode_1 [.cell 3 true 5, .tmp 4] = true := by kernel_rfl
theorem K.impl_changeAt__impl_SetNode_1 : chkF Go.Proofs.Tryz.prog 31 3 1 C.impl_changeAt [.cell 6 true 5, .tmp 7] = true := by kernel_rfl
def C.impl_SetNode : ACode := (.seq (.reg [ ⟨none, some 3, .op (.box 10 (.t 0))⟩, ⟨none, some 5, .op (.box 11 (.t 2))⟩, ⟨none, some 6, .op (.alloc 12 [.c (.lit (.int .i64 0)), .c (.lit (.int .i64 0)), .c (.str []), .nsl 1, .nsl 5])⟩, ⟨none, some 7, .op (.mv (.k (.c (.lit (.bool false)))))⟩] [1, 3, 5, 6]) (.seq (.seq (.reg [ ⟨none, some 8, .op (.load true 5 (.t 3))⟩, ⟨none, some 9, .call 14 [.t 8]⟩, ⟨none, some 10, .op (.not (.t 9))⟩, ⟨none, some 11, .op (.mv (.t 10))⟩, ⟨(some (11, false)), some 12, .op (.mv (.t 1))⟩, ⟨(some (11, false)), some 13, .call 28 [.t 12]⟩, ⟨(some (11, false)), some 14, .op (.not (.t 13))⟩, ⟨none, some 15, .op (.pick (.t 11) (.k (.c (.lit (.bool true)))) (.t 14))⟩, ⟨none, some 16, .op (.mv (.t 15))⟩, ⟨(some (16, false)), some 17, .op (.load true 5 (.t 5))⟩, ⟨(some (16, false)), some 18, .call 14 [.t 17]⟩, ⟨(some (16, false)), some 19, .op (.not (.t 18))⟩, ⟨none, some 20, .op (.pick (.t 16) (.k (.c (.lit (.bool true)))) (.t 19))⟩] [1, 3, 5, 6, 20]) (.cond (.t 20) (.seq (.reg [ ⟨none, some 21, .op (.build [.c (.lit (.int .i64 0)), .c (.lit (.int .i64 0)), .c (.str []), .nsl 1, .nsl 5] [])⟩, ⟨none, none, .op (.store true 5 (.t 6) (.t 21))⟩, ⟨none, some 7, .op (.mv (.k (.c (.lit (.bool false)))))⟩] [6, 7]) .ret) .skip)) (.seq (.reg [ ⟨none, some 22, .op (.load true 5 (.t 3))⟩, ⟨none, some 23, .op (.mv (.t 1))⟩, ⟨none, some 24, .op (.mkfn 38 [.t 5])⟩, ⟨none, some 25, .call 31 [.t 22, .t 23, .t 24]⟩, ⟨none, some 26, .op (.extract (.t 25) 0)⟩, ⟨none, some 27, .op (.extract (.t 25) 1)⟩, ⟨none, some 28, .call 30 [.t 26, .t 27]⟩, ⟨none, some 29, .op (.extract (.t 28) 0)⟩, ⟨none, some 30, .op (.extract (.t 28) 1)⟩, ⟨none, none, .op (.store true 5 (.t 6) (.t 29))⟩, ⟨none, some 7, .op (.mv (.t 30))⟩] [6, 7]) .ret)))
theorem K.impl_SetNode : chkF Go.Proofs.Tryz.prog 13 3 0 C.impl_SetNode [.cell 6 true 5, .tmp 7] = true := by kernel_rfl
def C.impl_isOp : ACode := (.seq (.reg [ ⟨none, some 1, .op (.box 10 (.t 0))⟩, ⟨none, some 2, .op (.mv (.k (.c (.lit (.bool false)))))⟩] [1]) (.seq (.reg [ ⟨none, some 3, .op (.faddr 0 (.t 1))⟩, ⟨none, some 4, .op (.load false 1 (.t 3))⟩, ⟨none, some 5, .op (.bin .geq (.t 4) (.k (.c (.lit (.int .i64 1)))))⟩, ⟨none, some 6, .op (.mv (.t 5))⟩, ⟨(some (6, true)), some 7, .op (.faddr 0 (.t 1))⟩, ⟨(some (6, true)), some 8, .op (.load false 1 (.t 7))⟩, ⟨(some (6, true)), some 9, .op (.bin .leq (.t 8) (.k (.c (.lit (.int .i64 6)))))⟩, ⟨none, some 10, .op (.pick (.t 6) (.t 9) (.k (.c (.lit (.bool false)))))⟩, ⟨none, some 11, .op (.mv (.t 10))⟩, ⟨(some (11, true)), some 12, .op (.faddr 1 (.t 1))⟩, ⟨(some (11, true)), some 13, .op (.load false 1 (.t 12))⟩, ⟨(some (11, true)), some 14, .call 28 [.t 13]⟩, ⟨none, some 15, .op (.pick (.t 11) (.t 14) (.k (.c (.lit (.bool false)))))⟩, ⟨none, some 16, .op (.mv (.t 15))⟩, ⟨(some (16, true)), some 17, .op (.faddr 2 (.t 1))⟩, ⟨(some (16, true)), some 18, .op (.load false 1 (.t 17))⟩, ⟨(some (16, true)), some 19, .call 28 [.t 18]⟩, ⟨none, some 20, .op (.pick (.t 16) (.t 19) (.k (.c (.lit (.bool false)))))⟩, ⟨none, some 21, .op (.mv (.t 20))⟩, ⟨(some (21, true)), some 22, .op (.faddr 3 (.t 1))⟩, ⟨(some (21, true)), some 23, .op (.load true 5 (.t 22))⟩, ⟨(some (21, true)), some 24, .call 14 [.t 23]⟩, ⟨none, some 25, .op (.pick (.t 21) (.t 24) (.k (.c (.lit (.bool false)))))⟩, ⟨none, some 2, .op (.mv (.t 25))⟩] [2]) .ret))
theorem K.impl_isOp : chkF Go.Proofs.Tryz.prog 21 1 0 C.impl_isOp [.tmp 2] = true := by kernel_rfl
def C.slices_Equal_string : ACode := (.seq (.reg [ ⟨none, some 4, .op (.mv (.k (.c (.lit (.bool false)))))⟩] [0, 1]) (.seq (.seq (.reg [ ⟨none, some 6, .op (.mv (.t 0))⟩, ⟨none, some 7, .op (.len (.t 6))⟩, ⟨none, some 8, .op (.mv (.t 1))⟩, ⟨none, some 9, .op (.len (.t 8))⟩, ⟨none, some 10, .op (.bin .neq (.t 7) (.t 9))⟩] [0, 1, 10]) (.cond (.t 10) (.seq (.reg [ ⟨none, some 4, .op (.mv (.k (.c (.lit (.bool false)))))⟩] [4]) .ret) .skip)) (.seq (.seq (.reg [ ⟨none, some 11, .op (.mv (.t 0))⟩, ⟨none, some 12, .op (.len (.t 11))⟩, ⟨none, some 13, .op (.mv (.k (.c (.lit (.int .i64 0)))))⟩] [0, 1, 12, 13]) (.block 0 (.loop (.seq (.reg [ ⟨none, some 14, .op (.bin .lss (.t 13) (.t 12))⟩] [0, 1, 12, 13, 14]) (.seq (.cond (.t 14) .skip (.exit 0)) (.seq (.block 1 (.seq (.reg [ ⟨none, some 15, .op (.mv (.t 13))⟩, ⟨none, some 5, .op (.mv (.t 15))⟩] [0, 1, 5, 12, 13]) (.seq (.regD [ (⟨none, some 16, .op (.mv (.t 0))⟩, []), (⟨none, some 17, .op (.mv (.t 5))⟩, []), (⟨none, some 18, .op (.iaddr 1 (.t 16) (.t 17))⟩, [0, 1]), (⟨none, some 19, .op (.load false 1 (.t 18))⟩, [0, 1, 2]), (⟨none, some 20, .op (.mv (.t 1))⟩, []), (⟨none, some 21, .op (.mv (.t 5))⟩, []), (⟨none, some 22, .op (.iaddr 1 (.t 20) (.t 21))⟩, [4, 5]), (⟨none, some 23, .op (.load false 1 (.t 22))⟩, [4, 5, 6]), (⟨none, some 24, .op (.bin .neq (.t 19) (.t 23))⟩, [0, 1, 2, 3, 4, 5, 6, 7])] [0, 1, 12, 13, 24]) (.cond (.t 24) (.seq (.reg [ ⟨none, some 4, .op (.mv (.k (.c (.lit (.bool false)))))⟩] [4]) .ret) .skip)))) (.reg [ ⟨none, some 25, .op (.bin .add (.t 13) (.k (.c (.lit (.int .i64 1)))))⟩, ⟨none, some 13, .op (.mv (.t 25))⟩] [0, 1, 12, 13]))))))) (.seq (.reg [ ⟨none, some 4, .op (.mv (.k (.c (.lit (.bool true)))))⟩] [4]) .ret))))
theorem K.slices_Equal_string : chkF Go.Proofs.Tryz.prog 47 2 0 C.slices_Equal_string [.tmp 4] = true := by kernel_rfl
def C.impl_moveNode : ACode := (.seq (.reg [ ⟨none, some 3, .op (.box 10 (.t 0))⟩, ⟨none, some 6, .op (.alloc 11 [.c (.lit (.int .i64 0)), .c (.lit (.int .i64 0)), .c (.str []), .nsl 1, .nsl 5])⟩, ⟨none, some 7, .op (.mv (.k (.c (.lit (.bool false)))))⟩] [1, 2, 3, 6]) (.seq (.reg [ ⟨none, some 12, .op (.load true 5 (.t 3))⟩, ⟨none, some 13, .op (.mv (.t 1))⟩, ⟨none, some 14, .call 15 [.t 12, .t 13]⟩, ⟨none, some 11, .op (.mv (.t 14))⟩, ⟨none, some 15, .op (.extract (.t 11) 0)⟩, ⟨none, some 16, .op (.extract (.t 11) 1)⟩, ⟨none, some 8, .op (.alloc 12 [.c (.lit (.int .i64 0)), .c (.lit (.int .i64 0)), .c (.str []), .nsl 1, .nsl 5])⟩, ⟨none, none, .op (.store true 5 (.t 8) (.t 15))⟩, ⟨none, some 9, .op (.mv (.t 16))⟩] [1, 2, 3, 6, 8, 9]) (.seq (.seq (.reg [ ⟨none, some 17, .op (.mv (.t 9))⟩, ⟨none, some 18, .op (.not (.t 17))⟩] [1, 2, 3, 6, 8, 18]) (.cond (.t 18) (.seq (.reg [ ⟨none, some 19, .op (.build [.c (.lit (.int .i64 0)), .c (.lit (.int .i64 0)), .c (.str []), .nsl 1, .nsl 5] [])⟩, ⟨none, none, .op (.store true 5 (.t 6) (.t 19))⟩, ⟨none, some 7, .op (.mv (.k (.c (.lit (.bool false)))))⟩] [6, 7]) .ret) .skip)) (.seq (.seq (.reg [ ⟨none, some 20, .op (.mv (.t 2))⟩, ⟨none, some 21, .op (.mv (.t 1))⟩, ⟨none, some 22, .call 47 [.t 20, .t 21]⟩] [1, 2, 3, 6, 8, 22]) (.cond (.t 22) (.seq (.reg [ ⟨none, some 23, .op (.load true 5 (.t 3))⟩, ⟨none, some 24, .call 29 [.t 23]⟩, ⟨none, none, .op (.store true 5 (.t 6) (.t 24))⟩, ⟨none, some 7, .op (.mv (.k (.c (.lit (.bool true)))))⟩] [6, 7]) .ret) .skip)) (.seq (.seq (.reg [ ⟨none, some 25, .op (.mv (.t 2))⟩, ⟨none, some 26, .op (.len (.t 25))⟩, ⟨none, some 27, .op (.mv (.t 1))⟩, ⟨none, some 28, .op (.len (.t 27))⟩, ⟨none, some 29, .op (.bin .gtr (.t 26) (.t 28))⟩, ⟨none, some 30, .op (.mv (.t 29))⟩, ⟨(some (30, true)), some 31, .op (.mv (.t 2))⟩, ⟨(some (30, true)), some 32, .op (.mv (.t 1))⟩, ⟨(some (30, true)), some 33, .op (.len (.t 32))⟩, ⟨(some (30, true)), some 34, .op (.slsl 1 (.t 31) none (some (.t 33)))⟩, ⟨(some (30, true)), some 35, .op (.mv (.t 1))⟩, ⟨(some (30, true)), some 36, .call 47 [.t 34, .t 35]⟩, ⟨none, some 37, .op (.pick (.t 30) (.t 36) (.k (.c (.lit (.bool false)))))⟩] [1, 2, 3, 6, 8, 37]) (.cond (.t 37) (.seq (.reg [ ⟨none, some 38, .op (.build [.c (.lit (.int .i64 0)), .c (.lit (.int .i64 0)), .c (.str []), .nsl 1, .nsl 5] [])⟩, ⟨none, none, .op (.store true 5 (.t 6) (.t 38))⟩, ⟨none, some 7, .op (.mv (.k (.c (.lit (.bool false)))))⟩] [6, 7]) .ret) .skip)) (.seq (.reg [ ⟨none, some 40, .op (.load true 5 (.t 3))⟩, ⟨none, some 41, .op (.mv (.t 1))⟩, ⟨none, some 42, .call 12 [.t 40, .t 41]⟩, ⟨none, some 39, .op (.mv (.t 42))⟩, ⟨none, some 43, .op (.extract (.t 39) 0)⟩, ⟨none, some 44, .op (.extract (.t 39) 1)⟩, ⟨none, some 10, .op (.alloc 13 [.c (.lit (.int .i64 0)), .c (.lit (.int .i64 0)), .c (.str []), .nsl 1, .nsl 5])⟩, ⟨none, none, .op (.store true 5 (.t 10) (.t 43))⟩, ⟨none, some 9, .op (.mv (.t 44))⟩] [2, 6, 8, 9, 10]) (.seq (.seq (.reg [ ⟨none, some 45, .op (.mv (.t 9))⟩, ⟨none, some 46, .op (.not (.t 45))⟩] [2, 6, 8, 10, 46]) (.cond (.t 46) (.seq (.reg [ ⟨none, some 47, .op (.build [.c (.lit (.int .i64 0)), .c (.lit (.int .i64 0)), .c (.str []), .nsl 1, .nsl 5] [])⟩, ⟨none, none, .op (.store true 5 (.t 6) (.t 47))⟩, ⟨none, some 7, .op (.mv (.k (.c (.lit (.bool false)))))⟩] [6, 7]) .ret) .skip)) (.seq (.reg [ ⟨none, some 48, .op (.load true 5 (.t 10))⟩, ⟨none, some 49, .op (.mv (.t 2))⟩, ⟨none, some 50, .op (.load true 5 (.t 8))⟩, ⟨none, some 51, .call 11 [.t 48, .t 49, .t 50]⟩, ⟨none, some 52, .op (.extract (.t 51) 0)⟩, ⟨none, some 53, .op (.extract (.t 51) 1)⟩, ⟨none, none, .op (.store true 5 (.t 6) (.t 52))⟩, ⟨none, some 7, .op (.mv (.t 53))⟩] [6, 7]) .ret))))))))
theorem K.impl_moveNode : chkF Go.Proofs.Tryz.prog 22 3 0 C.impl_moveNode [.cell 6 true 5, .tmp 7] = true := by kernel_rfl
def C.internal_bytealg_CompareString : ACode := (.seq (.reg [ ⟨none, some 4, .op (.mv (.k (.c (.lit (.int .i64 0)))))⟩] [0, 1]) (.seq (.reg [ ⟨none, some 5, .op (.mv (.t 0))⟩, ⟨none, some 6, .op (.mv (.t 1))⟩, ⟨none, some 7, .op (.cmps (.t 5) (.t 6))⟩, ⟨none, some 4, .op (.mv (.t 7))⟩] [4]) .ret))
theorem K.internal_bytealg_CompareString : chkF Go.Proofs.Tryz.prog 100 2 0 C.internal_bytealg_CompareString [.tmp 4] = true := by kernel_rfl
def C.strings_Compare : ACode := (.seq (.reg [ ⟨none, some 4, .op (.mv (.k (.c (.lit (.int .i64 0)))))⟩] [0, 1]) (.seq (.reg [ ⟨none, some 5, .op (.mv (.t 0))⟩, ⟨none, some 6, .op (.mv (.t 1))⟩, ⟨none, some 7, .call 100 [.t 5, .t 6]⟩, ⟨none, some 4, .op (.mv (.t 7))⟩] [4]) .ret))
theorem K.strings_Compare : chkF Go.Proofs.Tryz.prog 88 2 0 C.strings_Compare [.tmp 4] = true := by kernel_rfl
def C.impl_compareValid : ACode := (.seq (.reg [ ⟨none, some 2, .op (.box 10 (.t 0))⟩, ⟨none, some 3, .op (.box 11 (.t 1))⟩, ⟨none, some 4, .op (.mv (.k (.c (.lit (.int .i64 0)))))⟩] [2, 3]) (.seq (.seq (.reg [ ⟨none, some 11, .op (.faddr 0 (.t 2))⟩, ⟨none, some 12, .op (.load false 1 (.t 11))⟩, ⟨none, some 13, .op (.faddr 0 (.t 3))⟩, ⟨none, some 14, .op (.load false 1 (.t 13))⟩, ⟨none, some 15, .call 87 [.t 12, .t 14]⟩, ⟨none, some 5, .op (.mv (.t 15))⟩] [2, 3, 5]) (.seq (.reg [ ⟨none, some 16, .op (.mv (.t 5))⟩, ⟨none, some 17, .op (.bin .neq (.t 16) (.k (.c (.lit (.int .i64 0)))))⟩] [2, 3, 5, 17]) (.cond (.t 17) (.seq (.reg [ ⟨none, some 18, .op (.mv (.t 5))⟩, ⟨none, some 4, .op (.mv (.t 18))⟩] [4]) .ret) .skip))) (.seq (.seq (.reg [ ⟨none, some 19, .op (.faddr 1 (.t 2))⟩, ⟨none, some 20, .op (.load false 1 (.t 19))⟩, ⟨none, some 21, .op (.faddr 1 (.t 3))⟩, ⟨none, some 22, .op (.load false 1 (.t 21))⟩, ⟨none, some 23, .call 87 [.t 20, .t 22]⟩, ⟨none, some 6, .op (.mv (.t 23))⟩] [2, 3, 6]) (.seq (.reg [ ⟨none, some 24, .op (.mv (.t 6))⟩, ⟨none, some 25, .op (.bin .neq (.t 24) (.k (.c (.lit (.int .i64 0)))))⟩] [2, 3, 6, 25]) (.cond (.t 25) (.seq (.reg [ ⟨none, some 26, .op (.mv (.t 6))⟩, ⟨none, some 4, .op (.mv (.t 26))⟩] [4]) .ret) .skip))) (.seq (.seq (.reg [ ⟨none, some 27, .op (.faddr 2 (.t 2))⟩, ⟨none, some 28, .op (.load false 1 (.t 27))⟩, ⟨none, some 29, .op (.faddr 2 (.t 3))⟩, ⟨none, some 30, .op (.load false 1 (.t 29))⟩, ⟨none, some 31, .call 88 [.t 28, .t 30]⟩, ⟨none, some 7, .op (.mv (.t 31))⟩] [2, 3, 7]) (.seq (.reg [ ⟨none, some 32, .op (.mv (.t 7))⟩, ⟨none, some 33, .op (.bin .neq (.t 32) (.k (.c (.lit (.int .i64 0)))))⟩] [2, 3, 7, 33]) (.cond (.t 33) (.seq (.reg [ ⟨none, some 34, .op (.mv (.t 7))⟩, ⟨none, some 4, .op (.mv (.t 34))⟩] [4]) .ret) .skip))) (.seq (.seq (.reg [ ⟨none, some 8, .op (.mv (.k (.c (.lit (.int .i64 0)))))⟩] [2, 3, 8]) (.block 0 (.loop (.seq (.seq (.reg [ ⟨none, some 35, .op (.mv (.t 8))⟩, ⟨none, some 36, .op (.faddr 4 (.t 2))⟩, ⟨none, some 37, .op (.load false 1 (.t 36))⟩, ⟨none, some 38, .op (.len (.t 37))⟩, ⟨none, some 39, .op (.bin .lss (.t 35) (.t 38))⟩, ⟨none, some 40, .op (.mv (.t 39))⟩, ⟨(some (40, true)), some 41, .op (.mv (.t 8))⟩, ⟨(some (40, true)), some 42, .op (.faddr 4 (.t 3))⟩, ⟨(some (40, true)), some 43, .op (.load false 1 (.t 42))⟩, ⟨(some (40, true)), some 44, .op (.len (.t 43))⟩, ⟨(some (40, true)), some 45, .op (.bin .lss (.t 41) (.t 44))⟩, ⟨none, some 46, .op (.pick (.t 40) (.t 45) (.k (.c (.lit (.bool false)))))⟩] [2, 3, 8, 46]) (.cond (.t 46) .skip (.exit 0))) (.seq (.block 1 (.cut (.seq (.reg [ ⟨none, some 49, .op (.faddr 0 (.t 2))⟩, ⟨none, some 50, .op (.load false 1 (.t 49))⟩, ⟨none, some 51, .op (.bin .eql (.t 50) (.k (.c (.lit (.int .i64 4)))))⟩] [2, 3, 8, 51]) (.cond (.t 51) (.seq (.regD [ (⟨none, some 52, .op (.faddr 3 (.t 2))⟩, []), (⟨none, some 53, .op (.load false 1 (.t 52))⟩, [0]), (⟨none, some 54, .op (.mv (.t 8))⟩, []), (⟨none, some 55, .op (.iaddr 1 (.t 53) (.t 54))⟩, [0, 1, 2]), (⟨none, some 56, .op (.load false 1 (.t 55))⟩, [0, 1, 2, 3]), (⟨none, some 57, .op (.faddr 3 (.t 3))⟩, []), (⟨none, some 58, .op (.load false 1 (.t 57))⟩, [5]), (⟨none, some 59, .op (.mv (.t 8))⟩, []), (⟨none, some 60, .op (.iaddr 1 (.t 58) (.t 59))⟩, [5, 6, 7]), (⟨none, some 61, .op (.load false 1 (.t 60))⟩, [5, 6, 7, 8]), (⟨none, some 62, .call 88 [.t 56, .t 61]⟩, [0, 1, 2, 3, 4, 5, 6, 7, 8, 9]), (⟨none, some 9, .op (.mv (.t 62))⟩, [0, 1, 2, 3, 4, 5, 6, 7, 8, 9, 10])] [2, 3, 8, 9]) (.seq (.reg [ ⟨none, some 63, .op (.mv (.t 9))⟩, ⟨none, some 64, .op (.bin .neq (.t 63) (.k (.c (.lit (.int .i64 0)))))⟩] [2, 3, 8, 9, 64]) (.cond (.t 64) (.seq (.reg [ ⟨none, some 65, .op (.mv (.t 9))⟩, ⟨none, some 4, .op (.mv (.t 65))⟩] [4]) .ret) .skip))) .skip)) (.seq (.regD [ (⟨none, some 66, .op (.faddr 4 (.t 2))⟩, []), (⟨none, some 67, .op (.load false 1 (.t 66))⟩, [0]), (⟨none, some 68, .op (.mv (.t 8))⟩, []), (⟨none, some 69, .op (.iaddr 5 (.t 67) (.t 68))⟩, [0, 1, 2]), (⟨none, some 70, .op (.load true 5 (.t 69))⟩, [0, 1, 2, 3]), (⟨none, some 71, .op (.faddr 4 (.t 3))⟩, []), (⟨none, some 72, .op (.load false 1 (.t 71))⟩, [5]), (⟨none, some 73, .op (.mv (.t 8))⟩, []), (⟨none, some 74, .op (.iaddr 5 (.t 72) (.t 73))⟩, [5, 6, 7]), (⟨none, some 75, .op (.load true 5 (.t 74))⟩, [5, 6, 7, 8]), (⟨none, some 76, .call 66 [.t 70, .t 75]⟩, [0, 1, 2, 3, 4, 5, 6, 7, 8, 9]), (⟨none, some 10, .op (.mv (.t 76))⟩, [0, 1, 2, 3, 4, 5, 6, 7, 8, 9, 10])] [2, 3, 8, 10]) (.seq (.reg [ ⟨none, some 77, .op (.mv (.t 10))⟩, ⟨none, some 78, .op (.bin .neq (.t 77) (.k (.c (.lit (.int .i64 0)))))⟩] [2, 3, 8, 10, 78]) (.cond (.t 78) (.seq (.reg [ ⟨none, some 79, .op (.mv (.t 10))⟩, ⟨none, some 4, .op (.mv (.t 79))⟩] [4]) .ret) .skip))))) (.reg [ ⟨none, some 47, .op (.mv (.t 8))⟩, ⟨none, some 48, .op (.bin .add (.t 47) (.k (.c (.lit (.int .i64 1)))))⟩, ⟨none, some 8, .op (.mv (.t 48))⟩] [2, 3, 8])))))) (.seq (.reg [ ⟨none, some 80, .op (.faddr 4 (.t 2))⟩, ⟨none, some 81, .op (.load false 1 (.t 80))⟩, ⟨none, some 82, .op (.len (.t 81))⟩, ⟨none, some 83, .op (.faddr 4 (.t 3))⟩, ⟨none, some 84, .op (.load false 1 (.t 83))⟩, ⟨none, some 85, .op (.len (.t 84))⟩, ⟨none, some 86, .call 87 [.t 82, .t 85]⟩, ⟨none, some 4, .op (.mv (.t 86))⟩] [4]) .ret))))))
theorem K.impl_compareValid : chkF Go.Proofs.Tryz.prog 66 2 0 C.impl_compareValid [.tmp 4] = true := by kernel_rfl
def C.impl_sameNode : ACode := (.seq (.reg [ ⟨none, some 2, .op (.box 10 (.t 0))⟩, ⟨none, some 3, .op (.box 11 (.t 1))⟩, ⟨none, some 4, .op (.mv (.k (.c (.lit (.bool false)))))⟩] [2, 3]) (.seq (.reg [ ⟨none, some 5, .op (.load true 5 (.t 2))⟩, ⟨none, some 6, .op (.load true 5 (.t 3))⟩, ⟨none, some 7, .call 66 [.t 5, .t 6]⟩, ⟨none, some 8, .op (.bin .eql (.t 7) (.k (.c (.lit (.int .i64 0)))))⟩, ⟨none, some 4, .op (.mv (.t 8))⟩] [4]) .ret))
theorem K.impl_sameNode : chkF Go.Proofs.Tryz.prog 48 2 0 C.impl_sameNode [.tmp 4] = true := by kernel_rfl
def C.impl_testNode : ACode := (.seq (.reg [ ⟨none, some 3, .op (.box 10 (.t 0))⟩, ⟨none, some 5, .op (.box 11 (.t 2))⟩, ⟨none, some 6, .op (.alloc 12 [.c (.lit (.int .i64 0)), .c (.lit (.int .i64 0)), .c (.str []), .nsl 1, .nsl 5])⟩, ⟨none, some 7, .op (.mv (.k (.c (.lit (.bool false)))))⟩] [1, 3, 5, 6]) (.seq (.reg [ ⟨none, some 11, .op (.load true 5 (.t 3))⟩, ⟨none, some 12, .op (.mv (.t 1))⟩, ⟨none, some 13, .call 40 [.t 11, .t 12]⟩, ⟨none, some 10, .op (.mv (.t 13))⟩, ⟨none, some 14, .op (.extract (.t 10) 0)⟩, ⟨none, some 15, .op (.extract (.t 10) 1)⟩, ⟨none, some 8, .op (.alloc 13 [.c (.lit (.int .i64 0)), .c (.lit (.int .i64 0)), .c (.str []), .nsl 1, .nsl 5])⟩, ⟨none, none, .op (.store true 5 (.t 8) (.t 14))⟩, ⟨none, some 9, .op (.mv (.t 15))⟩] [3, 5, 6, 8, 9]) (.seq (.seq (.reg [ ⟨none, some 16, .op (.mv (.t 9))⟩, ⟨none, some 17, .op (.not (.t 16))⟩, ⟨none, some 18, .op (.mv (.t 17))⟩, ⟨(some (18, false)), some 19, .op (.load true 5 (.t 8))⟩, ⟨(some (18, false)), some 20, .op (.load true 5 (.t 5))⟩, ⟨(some (18, false)), some 21, .call 48 [.t 19, .t 20]⟩, ⟨(some (18, false)), some 22, .op (.not (.t 21))⟩, ⟨none, some 23, .op (.pick (.t 18) (.k (.c (.lit (.bool true)))) (.t 22))⟩] [3, 6, 23]) (.cond (.t 23) (.seq (.reg [ ⟨none, some 24, .op (.build [.c (.lit (.int .i64 0)), .c (.lit (.int .i64 0)), .c (.str []), .nsl 1, .nsl 5] [])⟩, ⟨none, none, .op (.store true 5 (.t 6) (.t 24))⟩, ⟨none, some 7, .op (.mv (.k (.c (.lit (.bool false)))))⟩] [6, 7]) .ret) .skip)) (.seq (.reg [ ⟨none, some 25, .op (.load true 5 (.t 3))⟩, ⟨none, some 26, .call 29 [.t 25]⟩, ⟨none, none, .op (.store true 5 (.t 6) (.t 26))⟩, ⟨none, some 7, .op (.mv (.k (.c (.lit (.bool true)))))⟩] [6, 7]) .ret))))
theorem K.impl_testNode : chkF Go.Proofs.Tryz.prog 23 3 0 C.impl_testNode [.cell 6 true 5, .tmp 7] = true := by kernel_rfl
def C.impl_ApplyOp : ACode := (.seq (.reg [ ⟨none, some 2, .op (.box 10 (.t 0))⟩, ⟨none, some 3, .op (.box 11 (.t 1))⟩, ⟨none, some 4, .op (.alloc 12 [.c (.lit (.int .i64 0)), .c (.lit (.int .i64 0)), .c (.str []), .nsl 1, .nsl 5])⟩, ⟨none, some 5, .op (.mv (.k (.c (.lit (.bool false)))))⟩] [2, 3, 4]) (.seq (.seq (.reg [ ⟨none, some 8, .op (.load true 5 (.t 2))⟩, ⟨none, some 9, .call 14 [.t 8]⟩, ⟨none, some 10, .op (.not (.t 9))⟩, ⟨none, some 11, .op (.mv (.t 10))⟩, ⟨(some (11, false)), some 12, .op (.load true 8 (.t 3))⟩, ⟨(some (11, false)), some 13, .call 21 [.t 12]⟩, ⟨(some (11, false)), some 14, .op (.not (.t 13))⟩, ⟨none, some 15, .op (.pick (.t 11) (.k (.c (.lit (.bool true)))) (.t 14))⟩] [2, 3, 4, 15]) (.cond (.t 15) (.seq (.reg [ ⟨none, some 16, .op (.build [.c (.lit (.int .i64 0)), .c (.lit (.int .i64 0)), .c (.str []), .nsl 1, .nsl 5] [])⟩, ⟨none, none, .op (.store true 5 (.t 4) (.t 16))⟩, ⟨none, some 5, .op (.mv (.k (.c (.lit (.bool false)))))⟩] [4, 5]) .ret) .skip)) (.seq (.seq (.reg [ ⟨none, some 17, .op (.faddr 0 (.t 3))⟩, ⟨none, some 18, .op (.load false 1 (.t 17))⟩] [2, 3, 4, 18]) (.block 0 (.seq (.reg [ ⟨none, some 20, .op (.bin .eql (.t 18) (.k (.c (.lit (.int .i64 1)))))⟩, ⟨none, some 19, .op (.mv (.t 20))⟩] [2, 3, 4, 18, 19]) (.cond (.t 19) (.seq (.reg [ ⟨none, some 21, .op (.load true 5 (.t 2))⟩, ⟨none, some 22, .op (.faddr 1 (.t 3))⟩, ⟨none, some 23, .op (.load false 1 (.t 22))⟩, ⟨none, some 24, .op (.faddr 3 (.t 3))⟩, ⟨none, some 25, .op (.load true 5 (.t 24))⟩, ⟨none, some 26, .call 11 [.t 21, .t 23, .t 25]⟩, ⟨none, some 27, .op (.extract (.t 26) 0)⟩, ⟨none, some 28, .op (.extract (.t 26) 1)⟩, ⟨none, none, .op (.store true 5 (.t 4) (.t 27))⟩, ⟨none, some 5, .op (.mv (.t 28))⟩] [4, 5]) .ret) (.seq (.reg [ ⟨none, some 30, .op (.bin .eql (.t 18) (.k (.c (.lit (.int .i64 2)))))⟩, ⟨none, some 29, .op (.mv (.t 30))⟩] [2, 3, 4, 18, 29]) (.cond (.t 29) (.seq (.reg [ ⟨none, some 31, .op (.load true 5 (.t 2))⟩, ⟨none, some 32, .op (.faddr 1 (.t 3))⟩, ⟨none, some 33, .op (.load false 1 (.t 32))⟩, ⟨none, some 34, .call 12 [.t 31, .t 33]⟩, ⟨none, some 35, .op (.extract (.t 34) 0)⟩, ⟨none, some 36, .op (.extract (.t 34) 1)⟩, ⟨none, none, .op (.store true 5 (.t 4) (.t 35))⟩, ⟨none, some 5, .op (.mv (.t 36))⟩] [4, 5]) .ret) (.seq (.reg [ ⟨none, some 38, .op (.bin .eql (.t 18) (.k (.c (.lit (.int .i64 3)))))⟩, ⟨none, some 37, .op (.mv (.t 38))⟩] [2, 3, 4, 18, 37]) (.cond (.t 37) (.seq (.reg [ ⟨none, some 39, .op (.load true 5 (.t 2))⟩, ⟨none, some 40, .op (.faddr 1 (.t 3))⟩, ⟨none, some 41, .op (.load false 1 (.t 40))⟩, ⟨none, some 42, .op (.faddr 3 (.t 3))⟩, ⟨none, some 43, .op (.load true 5 (.t 42))⟩, ⟨none, some 44, .call 13 [.t 39, .t 41, .t 43]⟩, ⟨none, some 45, .op (.extract (.t 44) 0)⟩, ⟨none, some 46, .op (.extract (.t 44) 1)⟩, ⟨none, none, .op (.store true 5 (.t 4) (.t 45))⟩, ⟨none, some 5, .op (.mv (.t 46))⟩] [4, 5]) .ret) (.seq (.reg [ ⟨none, some 48, .op (.bin .eql (.t 18) (.k (.c (.lit (.int .i64 4)))))⟩, ⟨none, some 47, .op (.mv (.t 48))⟩] [2, 3, 4, 18, 47]) (.cond (.t 47) (.seq (.reg [ ⟨none, some 49, .op (.load true 5 (.t 2))⟩, ⟨none, some 50, .op (.faddr 2 (.t 3))⟩, ⟨none, some 51, .op (.load false 1 (.t 50))⟩, ⟨none, some 52, .op (.faddr 1 (.t 3))⟩, ⟨none, some 53, .op (.load false 1 (.t 52))⟩, ⟨none, some 54, .call 22 [.t 49, .t 51, .t 53]⟩, ⟨none, some 55, .op (.extract (.t 54) 0)⟩, ⟨none, some 56, .op (.extract (.t 54) 1)⟩, ⟨none, none, .op (.store true 5 (.t 4) (.t 55))⟩, ⟨none, some 5, .op (.mv (.t 56))⟩] [4, 5]) .ret) (.seq (.reg [ ⟨none, some 58, .op (.bin .eql (.t 18) (.k (.c (.lit (.int .i64 5)))))⟩, ⟨none, some 57, .op (.mv (.t 58))⟩] [2, 3, 4, 57]) (.cond (.t 57) (.seq (.reg [ ⟨none, some 60, .op (.load true 5 (.t 2))⟩, ⟨none, some 61, .op (.faddr 2 (.t 3))⟩, ⟨none, some 62, .op (.load false 1 (.t 61))⟩, ⟨none, some 63, .call 15 [.t 60, .t 62]⟩, ⟨none, some 59, .op (.mv (.t 63))⟩, ⟨none, some 64, .op (.extract (.t 59) 0)⟩, ⟨none, some 65, .op (.extract (.t 59) 1)⟩, ⟨none, some 6, .op (.alloc 13 [.c (.lit (.int .i64 0)), .c (.lit (.int .i64 0)), .c (.str []), .nsl 1, .nsl 5])⟩, ⟨none, none, .op (.store true 5 (.t 6) (.t 64))⟩, ⟨none, some 7, .op (.mv (.t 65))⟩] [2, 3, 4, 6, 7]) (.seq (.seq (.reg [ ⟨none, some 66, .op (.mv (.t 7))⟩, ⟨none, some 67, .op (.not (.t 66))⟩] [2, 3, 4, 6, 67]) (.cond (.t 67) (.seq (.reg [ ⟨none, some 68, .op (.build [.c (.lit (.int .i64 0)), .c (.lit (.int .i64 0)), .c (.str []), .nsl 1, .nsl 5] [])⟩, ⟨none, none, .op (.store true 5 (.t 4) (.t 68))⟩, ⟨none, some 5, .op (.mv (.k (.c (.lit (.bool false)))))⟩] [4, 5]) .ret) .skip)) (.seq (.reg [ ⟨none, some 69, .op (.load true 5 (.t 2))⟩, ⟨none, some 70, .op (.faddr 1 (.t 3))⟩, ⟨none, some 71, .op (.load false 1 (.t 70))⟩, ⟨none, some 72, .op (.load true 5 (.t 6))⟩, ⟨none, some 73, .call 11 [.t 69, .t 71, .t 72]⟩, ⟨none, some 74, .op (.extract (.t 73) 0)⟩, ⟨none, some 75, .op (.extract (.t 73) 1)⟩, ⟨none, none, .op (.store true 5 (.t 4) (.t 74))⟩, ⟨none, some 5, .op (.mv (.t 75))⟩] [4, 5]) .ret))) .skip)))))))))))) (.seq (.reg [ ⟨none, some 76, .op (.load true 5 (.t 2))⟩, ⟨none, some 77, .op (.faddr 1 (.t 3))⟩, ⟨none, some 78, .op (.load false 1 (.t 77))⟩, ⟨none, some 79, .op (.faddr 3 (.t 3))⟩, ⟨none, some 80, .op (.load true 5 (.t 79))⟩, ⟨none, some 81, .call 23 [.t 76, .t 78, .t 80]⟩, ⟨none, some 82, .op (.extract (.t 81) 0)⟩, ⟨none, some 83, .op (.extract (.t 81) 1)⟩, ⟨none, none, .op (.store true 5 (.t 4) (.t 82))⟩, ⟨none, some 5, .op (.mv (.t 83))⟩] [4, 5]) .ret))))
theorem K.impl_ApplyOp : chkF Go.Proofs.Tryz.prog 8 2 0 C.impl_ApplyOp [.cell 4 true 5, .tmp 5] = true := by kernel_rfl
def C.impl_NodeCount : ACode := (.seq (.reg [ ⟨none, some 1, .op (.box 10 (.t 0))⟩, ⟨none, some 2, .op (.mv (.k (.c (.lit (.int .i64 0)))))⟩] [1]) (.seq (.reg [ ⟨none, some 7, .op (.load true 5 (.t 1))⟩, ⟨none, some 8, .call 39 [.t 7, .k (.c (.lit (.int .i64 1)))]⟩, ⟨none, some 6, .op (.mv (.t 8))⟩, ⟨none, some 9, .op (.extract (.t 6) 0)⟩, ⟨none, some 10, .op (.extract (.t 6) 1)⟩, ⟨none, some 11, .op (.extract (.t 6) 2)⟩, ⟨none, some 3, .op (.mv (.t 9))⟩, ⟨none, some 4, .op (.mv (.t 10))⟩, ⟨none, some 5, .op (.mv (.t 11))⟩] [3, 5]) (.seq (.seq (.reg [ ⟨none, some 12, .op (.mv (.t 5))⟩, ⟨none, some 13, .op (.not (.t 12))⟩, ⟨none, some 14, .op (.mv (.t 13))⟩, ⟨(some (14, false)), some 15, .op (.mv (.t 3))⟩, ⟨(some (14, false)), some 16, .op (.bin .gtr (.t 15) (.k (.c (.lit (.int .i64 40)))))⟩, ⟨none, some 17, .op (.pick (.t 14) (.k (.c (.lit (.bool true)))) (.t 16))⟩] [3, 17]) (.cond (.t 17) (.seq (.reg [ ⟨none, some 2, .op (.mv (.k (.c (.lit (.int .i64 (-1))))))⟩] [2]) .ret) .skip)) (.seq (.reg [ ⟨none, some 18, .op (.mv (.t 3))⟩, ⟨none, some 2, .op (.mv (.t 18))⟩] [2]) .ret))))
theorem K.impl_NodeCount : chkF Go.Proofs.Tryz.prog 17 1 0 C.impl_NodeCount [.tmp 2] = true := by kernel_rfl
def C.laws_equalTexts : ACode := (.seq (.reg [ ⟨none, some 4, .op (.mv (.k (.c (.lit (.bool false)))))⟩] [0, 1]) (.seq (.seq (.reg [ ⟨none, some 6, .op (.mv (.t 0))⟩, ⟨none, some 7, .op (.len (.t 6))⟩, ⟨none, some 8, .op (.mv (.t 1))⟩, ⟨none, some 9, .op (.len (.t 8))⟩, ⟨none, some 10, .op (.bin .neq (.t 7) (.t 9))⟩] [0, 1, 10]) (.cond (.t 10) (.seq (.reg [ ⟨none, some 4, .op (.mv (.k (.c (.lit (.bool false)))))⟩] [4]) .ret) .skip)) (.seq (.seq (.reg [ ⟨none, some 5, .op (.mv (.k (.c (.lit (.int .i64 0)))))⟩] [0, 1, 5]) (.block 0 (.loop (.seq (.seq (.reg [ ⟨none, some 11, .op (.mv (.t 5))⟩, ⟨none, some 12, .op (.mv (.t 0))⟩, ⟨none, some 13, .op (.len (.t 12))⟩, ⟨none, some 14, .op (.bin .lss (.t 11) (.t 13))⟩] [0, 1, 5, 14]) (.cond (.t 14) .skip (.exit 0))) (.seq (.block 1 (.seq (.regD [ (⟨none, some 17, .op (.mv (.t 0))⟩, []), (⟨none, some 18, .op (.mv (.t 5))⟩, []), (⟨none, some 19, .op (.iaddr 1 (.t 17) (.t 18))⟩, [0, 1]), (⟨none, some 20, .op (.load false 1 (.t 19))⟩, [0, 1, 2]), (⟨none, some 21, .op (.mv (.t 1))⟩, []), (⟨none, some 22, .op (.mv (.t 5))⟩, []), (⟨none, some 23, .op (.iaddr 1 (.t 21) (.t 22))⟩, [4, 5]), (⟨none, some 24, .op (.load false 1 (.t 23))⟩, [4, 5, 6]), (⟨none, some 25, .op (.bin .neq (.t 20) (.t 24))⟩, [0, 1, 2, 3, 4, 5, 6, 7])] [0, 1, 5, 25]) (.cond (.t 25) (.seq (.reg [ ⟨none, some 4, .op (.mv (.k (.c (.lit (.bool false)))))⟩] [4]) .ret) .skip))) (.reg [ ⟨none, some 15, .op (.mv (.t 5))⟩, ⟨none, some 16, .op (.bin .add (.t 15) (.k (.c (.lit (.int .i64 1)))))⟩, ⟨none, some 5, .op (.mv (.t 16))⟩] [0, 1, 5])))))) (.seq (.reg [ ⟨none, some 4, .op (.mv (.k (.c (.lit (.bool true)))))⟩] [4]) .ret))))
theorem K.laws_equalTexts : chkF Go.Proofs.Tryz.prog 16 2 0 C.laws_equalTexts [.tmp 4] = true := by kernel_rfl
def C.laws_equalNode : ACode := (.seq (.reg [ ⟨none, some 2, .op (.box 10 (.t 0))⟩, ⟨none, some 3, .op (.box 11 (.t 1))⟩, ⟨none, some 4, .op (.mv (.k (.c (.lit (.bool false)))))⟩] [2, 3]) (.seq (.reg [ ⟨none, some 5, .op (.faddr 0 (.t 2))⟩, ⟨none, some 6, .op (.load false 1 (.t 5))⟩, ⟨none, some 7, .op (.faddr 0 (.t 3))⟩, ⟨none, some 8, .op (.load false 1 (.t 7))⟩, ⟨none, some 9, .op (.bin .eql (.t 6) (.t 8))⟩, ⟨none, some 10, .op (.mv (.t 9))⟩, ⟨(some (10, true)), some 11, .op (.faddr 1 (.t 2))⟩, ⟨(some (10, true)), some 12, .op (.load false 1 (.t 11))⟩, ⟨(some (10, true)), some 13, .op (.faddr 1 (.t 3))⟩, ⟨(some (10, true)), some 14, .op (.load false 1 (.t 13))⟩, ⟨(some (10, true)), some 15, .op (.bin .eql (.t 12) (.t 14))⟩, ⟨none, some 16, .op (.pick (.t 10) (.t 15) (.k (.c (.lit (.bool false)))))⟩, ⟨none, some 17, .op (.mv (.t 16))⟩, ⟨(some (17, true)), some 18, .op (.faddr 2 (.t 2))⟩, ⟨(some (17, true)), some 19, .op (.load false 1 (.t 18))⟩, ⟨(some (17, true)), some 20, .op (.faddr 2 (.t 3))⟩, ⟨(some (17, true)), some 21, .op (.load false 1 (.t 20))⟩, ⟨(some (17, true)), some 22, .op (.bin .eql (.t 19) (.t 21))⟩, ⟨none, some 23, .op (.pick (.t 17) (.t 22) (.k (.c (.lit (.bool false)))))⟩, ⟨none, some 24, .op (.mv (.t 23))⟩, ⟨(some (24, true)), some 25, .op (.faddr 3 (.t 2))⟩, ⟨(some (24, true)), some 26, .op (.load false 1 (.t 25))⟩, ⟨(some (24, true)), some 27, .op (.faddr 3 (.t 3))⟩, ⟨(some (24, true)), some 28, .op (.load false 1 (.t 27))⟩, ⟨(some (24, true)), some 29, .call 16 [.t 26, .t 28]⟩, ⟨none, some 30, .op (.pick (.t 24) (.t 29) (.k (.c (.lit (.bool false)))))⟩, ⟨none, some 31, .op (.mv (.t 30))⟩, ⟨(some (31, true)), some 32, .op (.faddr 4 (.t 2))⟩, ⟨(some (31, true)), some 33, .op (.load false 1 (.t 32))⟩, ⟨(some (31, true)), some 34, .op (.faddr 4 (.t 3))⟩, ⟨(some (31, true)), some 35, .op (.load false 1 (.t 34))⟩, ⟨(some (31, true)), some 36, .call 27 [.t 33, .t 35]⟩, ⟨none, some 37, .op (.pick (.t 31) (.t 36) (.k (.c (.lit (.bool false)))))⟩, ⟨none, some 4, .op (.mv (.t 37))⟩] [4]) .ret))
theorem K.laws_equalNode : chkF Go.Proofs.Tryz.prog 10 2 0 C.laws_equalNode [.tmp 4] = true := by kernel_rfl
def C.laws_equalNodes : ACode := (.seq (.reg [ ⟨none, some 4, .op (.mv (.k (.c (.lit (.bool false)))))⟩] [0, 1]) (.seq (.seq (.reg [ ⟨none, some 6, .op (.mv (.t 0))⟩, ⟨none, some 7, .op (.len (.t 6))⟩, ⟨none, some 8, .op (.mv (.t 1))⟩, ⟨none, some 9, .op (.len (.t 8))⟩, ⟨none, some 10, .op (.bin .neq (.t 7) (.t 9))⟩] [0, 1, 10]) (.cond (.t 10) (.seq (.reg [ ⟨none, some 4, .op (.mv (.k (.c (.lit (.bool false)))))⟩] [4]) .ret) .skip)) (.seq (.seq (.reg [ ⟨none, some 5, .op (.mv (.k (.c (.lit (.int .i64 0)))))⟩] [0, 1, 5]) (.block 0 (.loop (.seq (.seq (.reg [ ⟨none, some 11, .op (.mv (.t 5))⟩, ⟨none, some 12, .op (.mv (.t 0))⟩, ⟨none, some 13, .op (.len (.t 12))⟩, ⟨none, some 14, .op (.bin .lss (.t 11) (.t 13))⟩] [0, 1, 5, 14]) (.cond (.t 14) .skip (.exit 0))) (.seq (.block 1 (.seq (.regD [ (⟨none, some 17, .op (.mv (.t 0))⟩, []), (⟨none, some 18, .op (.mv (.t 5))⟩, []), (⟨none, some 19, .op (.iaddr 5 (.t 17) (.t 18))⟩, [0, 1]), (⟨none, some 20, .op (.load true 5 (.t 19))⟩, [0, 1, 2]), (⟨none, some 21, .op (.mv (.t 1))⟩, []), (⟨none, some 22, .op (.mv (.t 5))⟩, []), (⟨none, some 23, .op (.iaddr 5 (.t 21) (.t 22))⟩, [4, 5]), (⟨none, some 24, .op (.load true 5 (.t 23))⟩, [4, 5, 6]), (⟨none, some 25, .call 10 [.t 20, .t 24]⟩, [0, 1, 2, 3, 4, 5, 6, 7]), (⟨none, some 26, .op (.not (.t 25))⟩, [0, 1, 2, 3, 4, 5, 6, 7, 8])] [0, 1, 5, 26]) (.cond (.t 26) (.seq (.reg [ ⟨none, some 4, .op (.mv (.k (.c (.lit (.bool false)))))⟩] [4]) .ret) .skip))) (.reg [ ⟨none, some 15, .op (.mv (.t 5))⟩, ⟨none, some 16, .op (.bin .add (.t 15) (.k (.c (.lit (.int .i64 1)))))⟩, ⟨none, some 5, .op (.mv (.t 16))⟩] [0, 1, 5])))))) (.seq (.reg [ ⟨none, some 4, .op (.mv (.k (.c (.lit (.bool true)))))⟩] [4]) .ret))))
theorem K.laws_equalNodes : chkF Go.Proofs.Tryz.prog 27 2 0 C.laws_equalNodes [.tmp 4] = true := by kernel_rfl
def C.spec_copyNode : ACode := (.seq (.reg [ ⟨none, some 1, .op (.box 10 (.t 0))⟩, ⟨none, some 2, .op (.alloc 11 [.c (.lit (.int .i64 0)), .c (.lit (.int .i64 0)), .c (.str []), .nsl 1, .nsl 5])⟩] [1, 2]) (.seq (.reg [ ⟨none, some 5, .op (.bslice 12 5 0 [.lit (.int .i64 0), .lit (.int .i64 0), .str [], .sl 1 [], .sl 5 []] [])⟩, ⟨none, some 3, .op (.mv (.t 5))⟩] [1, 2, 3]) (.seq (.seq (.reg [ ⟨none, some 4, .op (.mv (.k (.c (.lit (.int .i64 0)))))⟩] [1, 2, 3, 4]) (.block 0 (.loop (.seq (.seq (.reg [ ⟨none, some 6, .op (.mv (.t 4))⟩, ⟨none, some 7, .op (.faddr 4 (.t 1))⟩, ⟨none, some 8, .op (.load false 1 (.t 7))⟩, ⟨none, some 9, .op (.len (.t 8))⟩, ⟨none, some 10, .op (.bin .lss (.t 6) (.t 9))⟩] [1, 2, 3, 4, 10]) (.cond (.t 10) .skip (.exit 0))) (.seq (.block 1 (.reg [ ⟨none, some 13, .op (.mv (.t 3))⟩, ⟨none, some 14, .op (.faddr 4 (.t 1))⟩, ⟨none, some 15, .op (.load false 1 (.t 14))⟩, ⟨none, some 16, .op (.mv (.t 4))⟩, ⟨none, some 17, .op (.iaddr 5 (.t 15) (.t 16))⟩, ⟨none, some 18, .op (.load true 5 (.t 17))⟩, ⟨none, some 19, .call 44 [.t 18]⟩, ⟨none, some 20, .op (.bslice 13 5 1 [.lit (.int .i64 0), .lit (.int .i64 0), .str [], .sl 1 [], .sl 5 []] [(0, .t 19)])⟩, ⟨none, some 21, .op (.append 14 5 80 (.t 13) (.t 20))⟩, ⟨none, some 3, .op (.mv (.t 21))⟩] [1, 2, 3, 4])) (.reg [ ⟨none, some 11, .op (.mv (.t 4))⟩, ⟨none, some 12, .op (.bin .add (.t 11) (.k (.c (.lit (.int .i64 1)))))⟩, ⟨none, some 4, .op (.mv (.t 12))⟩] [1, 2, 3, 4])))))) (.seq (.regD [ (⟨none, some 22, .op (.faddr 0 (.t 1))⟩, []), (⟨none, some 23, .op (.load false 1 (.t 22))⟩, [0]), (⟨none, some 24, .op (.faddr 1 (.t 1))⟩, []), (⟨none, some 25, .op (.load false 1 (.t 24))⟩, [2]), (⟨none, some 26, .op (.faddr 2 (.t 1))⟩, []), (⟨none, some 27, .op (.load false 1 (.t 26))⟩, [4]), (⟨none, some 28, .op (.bslice 15 1 0 [.str []] [])⟩, []), (⟨none, some 29, .op (.faddr 3 (.t 1))⟩, []), (⟨none, some 30, .op (.load false 1 (.t 29))⟩, [7]), (⟨none, some 31, .op (.append 16 1 16 (.t 28) (.t 30))⟩, [6, 7, 8]), (⟨none, some 32, .op (.mv (.t 3))⟩, []), (⟨none, some 33, .op (.build [.c (.lit (.int .i64 0)), .c (.lit (.int .i64 0)), .c (.str []), .nsl 1, .nsl 5] [(0, 1, .t 23), (1, 1, .t 25), (2, 1, .t 27), (3, 1, .t 31), (4, 1, .t 32)])⟩, [0, 1, 2, 3, 4, 5, 6, 7, 8, 9, 10]), (⟨none, none, .op (.store true 5 (.t 2) (.t 33))⟩, [0, 1, 2, 3, 4, 5, 6, 7, 8, 9, 10, 11])] [2]) .ret))))
theorem K.spec_copyNode : chkF Go.Proofs.Tryz.prog 44 1 0 C.spec_copyNode [.cell 2 true 5] = true := by kernel_rfl
def C.spec_decimal : ACode := (.seq (.reg [ ⟨none, some 2, .op (.mv (.k (.c (.str []))))⟩] [0]) (.seq (.seq (.reg [ ⟨none, some 3, .op (.mv (.t 0))⟩, ⟨none, some 4, .op (.bin .lss (.t 3) (.k (.c (.lit (.int .i64 0)))))⟩, ⟨none, some 5, .op (.mv (.t 4))⟩, ⟨(some (5, true)), some 6, .op (.mv (.t 0))⟩, ⟨(some (5, true)), some 7, .op (.mv (.t 0))⟩, ⟨(some (5, true)), some 8, .op (.neg (.t 7))⟩, ⟨(some (5, true)), some 9, .op (.bin .eql (.t 6) (.t 8))⟩, ⟨none, some 10, .op (.pick (.t 5) (.t 9) (.k (.c (.lit (.bool false)))))⟩] [0, 10]) (.cond (.t 10) (.seq (.reg [ ⟨none, some 2, .op (.mv (.k (.c (.str [45, 57, 50, 50, 51, 51, 55, 50, 48, 51, 54, 56, 53, 52, 55, 55, 53, 56, 48, 56]))))⟩] [2]) .ret) .skip)) (.seq (.seq (.reg [ ⟨none, some 11, .op (.mv (.t 0))⟩, ⟨none, some 12, .op (.bin .lss (.t 11) (.k (.c (.lit (.int .i64 0)))))⟩] [0, 12]) (.cond (.t 12) (.seq (.reg [ ⟨none, some 13, .op (.mv (.t 0))⟩, ⟨none, some 14, .op (.neg (.t 13))⟩, ⟨none, some 15, .call 96 [.t 14]⟩, ⟨none, some 16, .op (.bin .add (.k (.c (.str [45]))) (.t 15))⟩, ⟨none, some 2, .op (.mv (.t 16))⟩] [2]) .ret) .skip)) (.seq (.seq (.reg [ ⟨none, some 17, .op (.mv (.t 0))⟩, ⟨none, some 18, .op (.bin .lss (.t 17) (.k (.c (.lit (.int .i64 10)))))⟩] [0, 18]) (.cond (.t 18) (.seq (.reg [ ⟨none, some 19, .op (.mv (.t 0))⟩, ⟨none, some 20, .op (.bin .add (.k (.c (.lit (.int .i64 48)))) (.t 19))⟩, ⟨none, some 21, .op (.cint .u8 (.t 20))⟩, ⟨none, some 22, .op (.bslice 10 1 1 [.lit (.int .u8 0)] [(0, .t 21)])⟩, ⟨none, some 23, .op (.cstr (.t 22))⟩, ⟨none, some 2, .op (.mv (.t 23))⟩] [2]) .ret) .skip)) (.seq (.regD [ (⟨none, some 24, .op (.mv (.t 0))⟩, []), (⟨none, some 25, .op (.bin .quo (.t 24) (.k (.c (.lit (.int .i64 10)))))⟩, [0]), (⟨none, some 26, .call 96 [.t 25]⟩, [0, 1]), (⟨none, some 27, .op (.mv (.t 0))⟩, []), (⟨none, some 28, .op (.bin .rem (.t 27) (.k (.c (.lit (.int .i64 10)))))⟩, [3]), (⟨none, some 29, .op (.bin .add (.k (.c (.lit (.int .i64 48)))) (.t 28))⟩, [3, 4]), (⟨none, some 30, .op (.cint .u8 (.t 29))⟩, [3, 4, 5]), (⟨none, some 31, .op (.bslice 11 1 1 [.lit (.int .u8 0)] [(0, .t 30)])⟩, [3, 4, 5, 6]), (⟨none, some 32, .op (.cstr (.t 31))⟩, [3, 4, 5, 6, 7]), (⟨none, some 33, .op (.bin .add (.t 26) (.t 32))⟩, [0, 1, 2, 3, 4, 5, 6, 7, 8]), (⟨none, some 2, .op (.mv (.t 33))⟩, [0, 1, 2, 3, 4, 5, 6, 7, 8, 9])] [2]) .ret)))))
theorem K.spec_decimal : chkF Go.Proofs.Tryz.prog 96 1 0 C.spec_decimal [.tmp 2] = true := by kernel_rfl
def C.spec_place : ACode := (.seq (.reg [ ⟨none, some 2, .op (.box 10 (.t 0))⟩, ⟨none, some 4, .op (.mv (.k (.c (.lit (.int .i64 0)))))⟩] [1, 2]) (.seq (.seq (.reg [ ⟨none, some 5, .op (.mv (.k (.c (.lit (.int .i64 0)))))⟩] [1, 2, 5]) (.block 0 (.loop (.seq (.seq (.reg [ ⟨none, some 6, .op (.mv (.t 5))⟩, ⟨none, some 7, .op (.faddr 4 (.t 2))⟩, ⟨none, some 8, .op (.load false 1 (.t 7))⟩, ⟨none, some 9, .op (.len (.t 8))⟩, ⟨none, some 10, .op (.bin .lss (.t 6) (.t 9))⟩] [1, 2, 5, 10]) (.cond (.t 10) .skip (.exit 0))) (.seq (.block 1 (.seq (.reg [ ⟨none, some 13, .op (.faddr 0 (.t 2))⟩, ⟨none, some 14, .op (.load false 1 (.t 13))⟩, ⟨none, some 15, .op (.bin .eql (.t 14) (.k (.c (.lit (.int .i64 4)))))⟩, ⟨none, some 16, .op (.mv (.t 15))⟩, ⟨(some (16, true)), some 17, .op (.faddr 3 (.t 2))⟩, ⟨(some (16, true)), some 18, .op (.load false 1 (.t 17))⟩, ⟨(some (16, true)), some 19, .op (.mv (.t 5))⟩, ⟨(some (16, true)), some 20, .op (.iaddr 1 (.t 18) (.t 19))⟩, ⟨(some (16, true)), some 21, .op (.load false 1 (.t 20))⟩, ⟨(some (16, true)), some 22, .op (.mv (.t 1))⟩, ⟨(some (16, true)), some 23, .op (.bin .eql (.t 21) (.t 22))⟩, ⟨none, some 24, .op (.pick (.t 16) (.t 23) (.k (.c (.lit (.bool false)))))⟩, ⟨none, some 25, .op (.mv (.t 24))⟩, ⟨(some (25, false)), some 26, .op (.faddr 0 (.t 2))⟩, ⟨(some (25, false)), some 27, .op (.load false 1 (.t 26))⟩, ⟨(some (25, false)), some 28, .op (.bin .eql (.t 27) (.k (.c (.lit (.int .i64 3)))))⟩, ⟨(some (25, false)), some 29, .op (.mv (.t 28))⟩, ⟨(some (29, true)), some 30, .op (.mv (.t 5))⟩, ⟨(some (29, true)), some 31, .call 96 [.t 30]⟩, ⟨(some (29, true)), some 32, .op (.mv (.t 1))⟩, ⟨(some (29, true)), some 33, .op (.bin .eql (.t 31) (.t 32))⟩, ⟨(some (25, false)), some 34, .op (.pick (.t 29) (.t 33) (.k (.c (.lit (.bool false)))))⟩, ⟨none, some 35, .op (.pick (.t 25) (.k (.c (.lit (.bool true)))) (.t 34))⟩] [1, 2, 5, 35]) (.cond (.t 35) (.seq (.reg [ ⟨none, some 36, .op (.mv (.t 5))⟩, ⟨none, some 4, .op (.mv (.t 36))⟩] [4]) .ret) .skip))) (.reg [ ⟨none, some 11, .op (.mv (.t 5))⟩, ⟨none, some 12, .op (.bin .add (.t 11) (.k (.c (.lit (.int .i64 1)))))⟩, ⟨none, some 5, .op (.mv (.t 12))⟩] [1, 2, 5])))))) (.seq (.reg [ ⟨none, some 4, .op (.mv (.k (.c (.lit (.int .i64 (-1))))))⟩] [4]) .ret)))
theorem K.spec_place : chkF Go.Proofs.Tryz.prog 84 2 0 C.spec_place [.tmp 4] = true := by kernel_rfl
def C.spec_slot : ACode := (.seq (.reg [ ⟨none, some 2, .op (.box 10 (.t 0))⟩, ⟨none, some 4, .op (.mv (.k (.c (.lit (.int .i64 0)))))⟩, ⟨none, some 5, .op (.mv (.k (.c (.lit (.bool false)))))⟩] [1, 2]) (.seq (.reg [ ⟨none, some 8, .op (.load true 5 (.t 2))⟩, ⟨none, some 9, .op (.mv (.t 1))⟩, ⟨none, some 10, .call 84 [.t 8, .t 9]⟩, ⟨none, some 6, .op (.mv (.t 10))⟩] [1, 2, 6]) (.seq (.seq (.reg [ ⟨none, some 11, .op (.mv (.t 6))⟩, ⟨none, some 12, .op (.bin .geq (.t 11) (.k (.c (.lit (.int .i64 0)))))⟩] [1, 2, 6, 12]) (.cond (.t 12) (.seq (.regD [ (⟨none, some 13, .op (.mv (.t 6))⟩, []), (⟨none, some 14, .op (.faddr 0 (.t 2))⟩, []), (⟨none, some 15, .op (.load false 1 (.t 14))⟩, [1]), (⟨none, some 16, .op (.bin .eql (.t 15) (.k (.c (.lit (.int .i64 4)))))⟩, [1, 2]), (⟨none, some 4, .op (.mv (.t 13))⟩, [0]), (⟨none, some 5, .op (.mv (.t 16))⟩, [0, 1, 2, 3, 4])] [4, 5]) .ret) .skip)) (.seq (.seq (.reg [ ⟨none, some 17, .op (.faddr 0 (.t 2))⟩, ⟨none, some 18, .op (.load false 1 (.t 17))⟩, ⟨none, some 19, .op (.bin .eql (.t 18) (.k (.c (.lit (.int .i64 3)))))⟩, ⟨none, some 20, .op (.mv (.t 19))⟩, ⟨(some (20, true)), some 21, .op (.mv (.t 1))⟩, ⟨(some (20, true)), some 22, .op (.bin .eql (.t 21) (.k (.c (.str [45]))))⟩, ⟨(some (20, true)), some 23, .op (.mv (.t 22))⟩, ⟨(some (23, false)), some 24, .op (.mv (.t 1))⟩, ⟨(some (23, false)), some 25, .op (.faddr 4 (.t 2))⟩, ⟨(some (23, false)), some 26, .op (.load false 1 (.t 25))⟩, ⟨(some (23, false)), some 27, .op (.len (.t 26))⟩, ⟨(some (23, false)), some 28, .call 96 [.t 27]⟩, ⟨(some (23, false)), some 29, .op (.bin .eql (.t 24) (.t 28))⟩, ⟨(some (20, true)), some 30, .op (.pick (.t 23) (.k (.c (.lit (.bool true)))) (.t 29))⟩, ⟨none, some 31, .op (.pick (.t 20) (.t 30) (.k (.c (.lit (.bool false)))))⟩] [1, 2, 31]) (.cond (.t 31) (.seq (.reg [ ⟨none, some 32, .op (.faddr 4 (.t 2))⟩, ⟨none, some 33, .op (.load false 1 (.t 32))⟩, ⟨none, some 34, .op (.len (.t 33))⟩, ⟨none, some 4, .op (.mv (.t 34))⟩, ⟨none, some 5, .op (.mv (.k (.c (.lit (.bool false)))))⟩] [4, 5]) .ret) .skip)) (.seq (.seq (.reg [ ⟨none, some 7, .op (.mv (.k (.c (.lit (.int .i64 0)))))⟩] [1, 2, 7]) (.block 0 (.loop (.seq (.seq (.reg [ ⟨none, some 35, .op (.faddr 0 (.t 2))⟩, ⟨none, some 36, .op (.load false 1 (.t 35))⟩, ⟨none, some 37, .op (.bin .eql (.t 36) (.k (.c (.lit (.int .i64 4)))))⟩, ⟨none, some 38, .op (.mv (.t 37))⟩, ⟨(some (38, true)), some 39, .op (.mv (.t 7))⟩, ⟨(some (38, true)), some 40, .op (.faddr 4 (.t 2))⟩, ⟨(some (38, true)), some 41, .op (.load false 1 (.t 40))⟩, ⟨(some (38, true)), some 42, .op (.len (.t 41))⟩, ⟨(some (38, true)), some 43, .op (.bin .leq (.t 39) (.t 42))⟩, ⟨none, some 44, .op (.pick (.t 38) (.t 43) (.k (.c (.lit (.bool false)))))⟩] [1, 2, 7, 44]) (.cond (.t 44) .skip (.exit 0))) (.seq (.block 1 (.seq (.reg [ ⟨none, some 47, .op (.mv (.t 7))⟩, ⟨none, some 48, .op (.faddr 4 (.t 2))⟩, ⟨none, some 49, .op (.load false 1 (.t 48))⟩, ⟨none, some 50, .op (.len (.t 49))⟩, ⟨none, some 51, .op (.bin .eql (.t 47) (.t 50))⟩, ⟨none, some 52, .op (.mv (.t 51))⟩, ⟨(some (52, false)), some 53, .op (.mv (.t 1))⟩, ⟨(some (52, false)), some 54, .op (.faddr 3 (.t 2))⟩, ⟨(some (52, false)), some 55, .op (.load false 1 (.t 54))⟩, ⟨(some (52, false)), some 56, .op (.mv (.t 7))⟩, ⟨(some (52, false)), some 57, .op (.iaddr 1 (.t 55) (.t 56))⟩, ⟨(some (52, false)), some 58, .op (.load false 1 (.t 57))⟩, ⟨(some (52, false)), some 59, .op (.bin .lss (.t 53) (.t 58))⟩, ⟨none, some 60, .op (.pick (.t 52) (.k (.c (.lit (.bool true)))) (.t 59))⟩] [1, 2, 7, 60]) (.cond (.t 60) (.seq (.reg [ ⟨none, some 61, .op (.mv (.t 7))⟩, ⟨none, some 4, .op (.mv (.t 61))⟩, ⟨none, some 5, .op (.mv (.k (.c (.lit (.bool false)))))⟩] [4, 5]) .ret) .skip))) (.reg [ ⟨none, some 45, .op (.mv (.t 7))⟩, ⟨none, some 46, .op (.bin .add (.t 45) (.k (.c (.lit (.int .i64 1)))))⟩, ⟨none, some 7, .op (.mv (.t 46))⟩] [1, 2, 7])))))) (.seq (.reg [ ⟨none, some 4, .op (.mv (.k (.c (.lit (.int .i64 (-1))))))⟩, ⟨none, some 5, .op (.mv (.k (.c (.lit (.bool false)))))⟩] [4, 5]) .ret))))))
theorem K.spec_slot : chkF Go.Proofs.Tryz.prog 97 2 0 C.spec_slot [.tmp 4, .tmp 5] = true := by kernel_rfl
def C.spec_withKid : ACode := (.seq (.reg [ ⟨none, some 3, .op (.box 10 (.t 0))⟩, ⟨none, some 5, .op (.box 11 (.t 2))⟩, ⟨none, some 6, .op (.alloc 12 [.c (.lit (.int .i64 0)), .c (.lit (.int .i64 0)), .c (.str []), .nsl 1, .nsl 5])⟩] [1, 3, 5, 6]) (.seq (.reg [ ⟨none, some 8, .op (.load true 5 (.t 3))⟩, ⟨none, some 9, .call 44 [.t 8]⟩, ⟨none, some 7, .op (.alloc 13 [.c (.lit (.int .i64 0)), .c (.lit (.int .i64 0)), .c (.str []), .nsl 1, .nsl 5])⟩, ⟨none, none, .op (.store true 5 (.t 7) (.t 9))⟩] [1, 5, 6, 7]) (.seq (.regD [ (⟨none, some 10, .op (.faddr 4 (.t 7))⟩, []), (⟨none, some 11, .op (.load false 1 (.t 10))⟩, [0]), (⟨none, some 12, .op (.mv (.t 1))⟩, []), (⟨none, some 13, .op (.load true 5 (.t 5))⟩, []), (⟨none, some 14, .call 44 [.t 13]⟩, [3]), (⟨none, some 15, .op (.iaddr 5 (.t 11) (.t 12))⟩, [0, 1, 2, 3, 4]), (⟨none, none, .op (.store true 5 (.t 15) (.t 14))⟩, [0, 1, 2, 3, 4, 5])] [6, 7]) (.seq (.reg [ ⟨none, some 16, .op (.load true 5 (.t 7))⟩, ⟨none, none, .op (.store true 5 (.t 6) (.t 16))⟩] [6]) .ret))))
theorem K.spec_withKid : chkF Go.Proofs.Tryz.prog 89 3 0 C.spec_withKid [.cell 6 true 5] = true := by kernel_rfl
def C.spec_addHere : ACode := (.seq (.reg [ ⟨none, some 3, .op (.box 10 (.t 0))⟩, ⟨none, some 5, .op (.box 11 (.t 2))⟩, ⟨none, some 6, .op (.alloc 12 [.c (.lit (.int .i64 0)), .c (.lit (.int .i64 0)), .c (.str []), .nsl 1, .nsl 5])⟩, ⟨none, some 7, .op (.mv (.k (.c (.lit (.bool false)))))⟩] [1, 3, 5, 6]) (.seq (.reg [ ⟨none, some 14, .op (.load true 5 (.t 3))⟩, ⟨none, some 15, .op (.mv (.t 1))⟩, ⟨none, some 16, .call 97 [.t 14, .t 15]⟩, ⟨none, some 13, .op (.mv (.t 16))⟩, ⟨none, some 17, .op (.extract (.t 13) 0)⟩, ⟨none, some 18, .op (.extract (.t 13) 1)⟩, ⟨none, some 8, .op (.mv (.t 17))⟩, ⟨none, some 9, .op (.mv (.t 18))⟩] [1, 3, 5, 6, 8, 9]) (.seq (.seq (.reg [ ⟨none, some 19, .op (.mv (.t 8))⟩, ⟨none, some 20, .op (.bin .lss (.t 19) (.k (.c (.lit (.int .i64 0)))))⟩] [1, 3, 5, 6, 8, 9, 20]) (.cond (.t 20) (.seq (.reg [ ⟨none, some 21, .op (.build [.c (.lit (.int .i64 0)), .c (.lit (.int .i64 0)), .c (.str []), .nsl 1, .nsl 5] [])⟩, ⟨none, none, .op (.store true 5 (.t 6) (.t 21))⟩, ⟨none, some 7, .op (.mv (.k (.c (.lit (.bool false)))))⟩] [6, 7]) .ret) .skip)) (.seq (.seq (.reg [ ⟨none, some 22, .op (.mv (.t 9))⟩] [1, 3, 5, 6, 8, 22]) (.cond (.t 22) (.seq (.reg [ ⟨none, some 23, .op (.load true 5 (.t 3))⟩, ⟨none, some 24, .op (.mv (.t 8))⟩, ⟨none, some 25, .op (.load true 5 (.t 5))⟩, ⟨none, some 26, .call 89 [.t 23, .t 24, .t 25]⟩, ⟨none, none, .op (.store true 5 (.t 6) (.t 26))⟩, ⟨none, some 7, .op (.mv (.k (.c (.lit (.bool true)))))⟩] [6, 7]) .ret) .skip)) (.seq (.reg [ ⟨none, some 27, .op (.load true 5 (.t 3))⟩, ⟨none, some 28, .call 44 [.t 27]⟩, ⟨none, some 10, .op (.alloc 13 [.c (.lit (.int .i64 0)), .c (.lit (.int .i64 0)), .c (.str []), .nsl 1, .nsl 5])⟩, ⟨none, none, .op (.store true 5 (.t 10) (.t 28))⟩] [1, 3, 5, 6, 8, 10]) (.seq (.regD [ (⟨none, some 29, .op (.bslice 14 5 0 [.lit (.int .i64 0), .lit (.int .i64 0), .str [], .sl 1 [], .sl 5 []] [])⟩, []), (⟨none, some 30, .op (.faddr 4 (.t 10))⟩, []), (⟨none, some 31, .op (.load false 1 (.t 30))⟩, [1]), (⟨none, some 32, .op (.mv (.t 8))⟩, []), (⟨none, some 33, .op (.slsl 5 (.t 31) none (some (.t 32)))⟩, [1, 2, 3]), (⟨none, some 34, .op (.append 15 5 80 (.t 29) (.t 33))⟩, [0, 1, 2, 3, 4]), (⟨none, some 35, .op (.load true 5 (.t 5))⟩, []), (⟨none, some 36, .call 44 [.t 35]⟩, [0, 1, 2, 3, 4, 5, 6]), (⟨none, some 37, .op (.bslice 16 5 1 [.lit (.int .i64 0), .lit (.int .i64 0), .str [], .sl 1 [], .sl 5 []] [(0, .t 36)])⟩, [0, 1, 2, 3, 4, 5, 6, 7]), (⟨none, some 38, .op (.append 17 5 80 (.t 34) (.t 37))⟩, [0, 1, 2, 3, 4, 5, 6, 7, 8]), (⟨none, some 11, .op (.mv (.t 38))⟩, [0, 1, 2, 3, 4, 5, 6, 7, 8, 9])] [1, 3, 6, 8, 10, 11]) (.seq (.reg [ ⟨none, some 39, .op (.mv (.t 11))⟩, ⟨none, some 40, .op (.faddr 4 (.t 10))⟩, ⟨none, some 41, .op (.load false 1 (.t 40))⟩, ⟨none, some 42, .op (.mv (.t 8))⟩, ⟨none, some 43, .op (.slsl 5 (.t 41) (some (.t 42)) none)⟩, ⟨none, some 44, .op (.append 18 5 80 (.t 39) (.t 43))⟩, ⟨none, some 11, .op (.mv (.t 44))⟩] [1, 3, 6, 8, 10, 11]) (.seq (.seq (.reg [ ⟨none, some 45, .op (.faddr 0 (.t 3))⟩, ⟨none, some 46, .op (.load false 1 (.t 45))⟩, ⟨none, some 47, .op (.bin .eql (.t 46) (.k (.c (.lit (.int .i64 3)))))⟩] [1, 3, 6, 8, 10, 11, 47]) (.cond (.t 47) (.seq (.reg [ ⟨none, some 48, .op (.faddr 0 (.t 3))⟩, ⟨none, some 49, .op (.load false 1 (.t 48))⟩, ⟨none, some 50, .op (.bslice 19 1 0 [.str []] [])⟩, ⟨none, some 51, .op (.mv (.t 11))⟩, ⟨none, some 52, .op (.build [.c (.lit (.int .i64 0)), .c (.lit (.int .i64 0)), .c (.str []), .nsl 1, .nsl 5] [(0, 1, .t 49), (3, 1, .t 50), (4, 1, .t 51)])⟩, ⟨none, none, .op (.store true 5 (.t 6) (.t 52))⟩, ⟨none, some 7, .op (.mv (.k (.c (.lit (.bool true)))))⟩] [6, 7]) .ret) .skip)) (.seq (.reg [ ⟨none, some 53, .op (.bslice 20 1 0 [.str []] [])⟩, ⟨none, some 54, .op (.faddr 3 (.t 10))⟩, ⟨none, some 55, .op (.load false 1 (.t 54))⟩, ⟨none, some 56, .op (.mv (.t 8))⟩, ⟨none, some 57, .op (.slsl 1 (.t 55) none (some (.t 56)))⟩, ⟨none, some 58, .op (.append 21 1 16 (.t 53) (.t 57))⟩, ⟨none, some 59, .op (.mv (.t 1))⟩, ⟨none, some 60, .op (.bslice 22 1 1 [.str []] [(0, .t 59)])⟩, ⟨none, some 61, .op (.append 23 1 16 (.t 58) (.t 60))⟩, ⟨none, some 12, .op (.mv (.t 61))⟩] [3, 6, 8, 10, 11, 12]) (.seq (.reg [ ⟨none, some 62, .op (.mv (.t 12))⟩, ⟨none, some 63, .op (.faddr 3 (.t 10))⟩, ⟨none, some 64, .op (.load false 1 (.t 63))⟩, ⟨none, some 65, .op (.mv (.t 8))⟩, ⟨none, some 66, .op (.slsl 1 (.t 64) (some (.t 65)) none)⟩, ⟨none, some 67, .op (.append 24 1 16 (.t 62) (.t 66))⟩, ⟨none, some 12, .op (.mv (.t 67))⟩] [3, 6, 11, 12]) (.seq (.reg [ ⟨none, some 68, .op (.faddr 0 (.t 3))⟩, ⟨none, some 69, .op (.load false 1 (.t 68))⟩, ⟨none, some 70, .op (.mv (.t 12))⟩, ⟨none, some 71, .op (.mv (.t 11))⟩, ⟨none, some 72, .op (.build [.c (.lit (.int .i64 0)), .c (.lit (.int .i64 0)), .c (.str []), .nsl 1, .nsl 5] [(0, 1, .t 69), (3, 1, .t 70), (4, 1, .t 71)])⟩, ⟨none, none, .op (.store true 5 (.t 6) (.t 72))⟩, ⟨none, some 7, .op (.mv (.k (.c (.lit (.bool true)))))⟩] [6, 7]) .ret)))))))))))
theorem K.spec_addHere : chkF Go.Proofs.Tryz.prog 85 3 0 C.spec_addHere [.cell 6 true 5, .tmp 7] = true := by kernel_rfl
def C.spec_at : ACode := (.seq (.reg [ ⟨none, some 2, .op (.box 10 (.t 0))⟩, ⟨none, some 4, .op (.alloc 11 [.c (.lit (.int .i64 0)), .c (.lit (.int .i64 0)), .c (.str []), .nsl 1, .nsl 5])⟩, ⟨none, some 5, .op (.mv (.k (.c (.lit (.bool false)))))⟩] [1, 2, 4]) (.seq (.seq (.reg [ ⟨none, some 6, .op (.mv (.k (.c (.lit (.int .i64 0)))))⟩] [1, 2, 4, 6]) (.block 0 (.loop (.seq (.seq (.reg [ ⟨none, some 8, .op (.mv (.t 6))⟩, ⟨none, some 9, .op (.mv (.t 1))⟩, ⟨none, some 10, .op (.len (.t 9))⟩, ⟨none, some 11, .op (.bin .lss (.t 8) (.t 10))⟩] [1, 2, 4, 6, 11]) (.cond (.t 11) .skip (.exit 0))) (.seq (.block 1 (.seq (.regD [ (⟨none, some 14, .op (.load true 5 (.t 2))⟩, []), (⟨none, some 15, .op (.mv (.t 1))⟩, []), (⟨none, some 16, .op (.mv (.t 6))⟩, []), (⟨none, some 17, .op (.iaddr 1 (.t 15) (.t 16))⟩, [1, 2]), (⟨none, some 18, .op (.load false 1 (.t 17))⟩, [1, 2, 3]), (⟨none, some 19, .call 84 [.t 14, .t 18]⟩, [0, 1, 2, 3, 4]), (⟨none, some 7, .op (.mv (.t 19))⟩, [0, 1, 2, 3, 4, 5])] [1, 2, 4, 6, 7]) (.seq (.seq (.reg [ ⟨none, some 20, .op (.mv (.t 7))⟩, ⟨none, some 21, .op (.bin .lss (.t 20) (.k (.c (.lit (.int .i64 0)))))⟩] [1, 2, 4, 6, 7, 21]) (.cond (.t 21) (.seq (.reg [ ⟨none, some 22, .op (.build [.c (.lit (.int .i64 0)), .c (.lit (.int .i64 0)), .c (.str []), .nsl 1, .nsl 5] [])⟩, ⟨none, none, .op (.store true 5 (.t 4) (.t 22))⟩, ⟨none, some 5, .op (.mv (.k (.c (.lit (.bool false)))))⟩] [4, 5]) .ret) .skip)) (.reg [ ⟨none, some 23, .op (.faddr 4 (.t 2))⟩, ⟨none, some 24, .op (.load false 1 (.t 23))⟩, ⟨none, some 25, .op (.mv (.t 7))⟩, ⟨none, some 26, .op (.iaddr 5 (.t 24) (.t 25))⟩, ⟨none, some 27, .op (.load true 5 (.t 26))⟩, ⟨none, none, .op (.store true 5 (.t 2) (.t 27))⟩] [1, 2, 4, 6])))) (.reg [ ⟨none, some 12, .op (.mv (.t 6))⟩, ⟨none, some 13, .op (.bin .add (.t 12) (.k (.c (.lit (.int .i64 1)))))⟩, ⟨none, some 6, .op (.mv (.t 13))⟩] [1, 2, 4, 6])))))) (.seq (.reg [ ⟨none, some 28, .op (.load true 5 (.t 2))⟩, ⟨none, some 29, .call 44 [.t 28]⟩, ⟨none, none, .op (.store true 5 (.t 4) (.t 29))⟩, ⟨none, some 5, .op (.mv (.k (.c (.lit (.bool true)))))⟩] [4, 5]) .ret)))
theorem K.spec_at : chkF Go.Proofs.Tryz.prog 64 2 0 C.spec_at [.cell 4 true 5, .tmp 5] = true := by kernel_rfl
def C.spec_setAt : ACode := (.seq (.reg [ ⟨none, some 3, .op (.box 10 (.t 0))⟩, ⟨none, some 5, .op (.box 11 (.t 2))⟩, ⟨none, some 6, .op (.alloc 12 [.c (.lit (.int .i64 0)), .c (.lit (.int .i64 0)), .c (.str []), .nsl 1, .nsl 5])⟩, ⟨none, some 7, .op (.mv (.k (.c (.lit (.bool false)))))⟩] [1, 3, 5, 6]) (.seq (.seq (.reg [ ⟨none, some 11, .op (.mv (.t 1))⟩, ⟨none, some 12, .op (.len (.t 11))⟩, ⟨none, some 13, .op (.bin .eql (.t 12) (.k (.c (.lit (.int .i64 0)))))⟩] [1, 3, 5, 6, 13]) (.cond (.t 13) (.seq (.reg [ ⟨none, some 14, .op (.load true 5 (.t 5))⟩, ⟨none, some 15, .call 44 [.t 14]⟩, ⟨none, none, .op (.store true 5 (.t 6) (.t 15))⟩, ⟨none, some 7, .op (.mv (.k (.c (.lit (.bool true)))))⟩] [6, 7]) .ret) .skip)) (.seq (.regD [ (⟨none, some 16, .op (.load true 5 (.t 3))⟩, []), (⟨none, some 17, .op (.mv (.t 1))⟩, []), (⟨none, some 18, .op (.iaddr 1 (.t 17) (.k (.c (.lit (.int .i64 0)))))⟩, [1]), (⟨none, some 19, .op (.load false 1 (.t 18))⟩, [1, 2]), (⟨none, some 20, .call 84 [.t 16, .t 19]⟩, [0, 1, 2, 3]), (⟨none, some 8, .op (.mv (.t 20))⟩, [0, 1, 2, 3, 4])] [1, 3, 5, 6, 8]) (.seq (.seq (.reg [ ⟨none, some 21, .op (.mv (.t 8))⟩, ⟨none, some 22, .op (.bin .lss (.t 21) (.k (.c (.lit (.int .i64 0)))))⟩] [1, 3, 5, 6, 8, 22]) (.cond (.t 22) (.seq (.reg [ ⟨none, some 23, .op (.build [.c (.lit (.int .i64 0)), .c (.lit (.int .i64 0)), .c (.str []), .nsl 1, .nsl 5] [])⟩, ⟨none, none, .op (.store true 5 (.t 6) (.t 23))⟩, ⟨none, some 7, .op (.mv (.k (.c (.lit (.bool false)))))⟩] [6, 7]) .ret) .skip)) (.seq (.regD [ (⟨none, some 25, .op (.faddr 4 (.t 3))⟩, []), (⟨none, some 26, .op (.load false 1 (.t 25))⟩, [0]), (⟨none, some 27, .op (.mv (.t 8))⟩, []), (⟨none, some 28, .op (.iaddr 5 (.t 26) (.t 27))⟩, [0, 1, 2]), (⟨none, some 29, .op (.load true 5 (.t 28))⟩, [0, 1, 2, 3]), (⟨none, some 30, .op (.mv (.t 1))⟩, []), (⟨none, some 31, .op (.slsl 1 (.t 30) (some (.k (.c (.lit (.int .i64 1))))) none)⟩, [5]), (⟨none, some 32, .op (.load true 5 (.t 5))⟩, []), (⟨none, some 33, .call 72 [.t 29, .t 31, .t 32]⟩, [0, 1, 2, 3, 4, 5, 6, 7]), (⟨none, some 24, .op (.mv (.t 33))⟩, [0, 1, 2, 3, 4, 5, 6, 7, 8]), (⟨none, some 34, .op (.extract (.t 24) 0)⟩, [0, 1, 2, 3, 4, 5, 6, 7, 8, 9]), (⟨none, some 35, .op (.extract (.t 24) 1)⟩, [0, 1, 2, 3, 4, 5, 6, 7, 8, 9]), (⟨none, some 9, .op (.alloc 13 [.c (.lit (.int .i64 0)), .c (.lit (.int .i64 0)), .c (.str []), .nsl 1, .nsl 5])⟩, []), (⟨none, none, .op (.store true 5 (.t 9) (.t 34))⟩, [0, 1, 2, 3, 4, 5, 6, 7, 8, 9, 10, 12]), (⟨none, some 10, .op (.mv (.t 35))⟩, [0, 1, 2, 3, 4, 5, 6, 7, 8, 9, 10, 11, 12, 13])] [3, 6, 8, 9, 10]) (.seq (.seq (.reg [ ⟨none, some 36, .op (.mv (.t 10))⟩, ⟨none, some 37, .op (.not (.t 36))⟩] [3, 6, 8, 9, 37]) (.cond (.t 37) (.seq (.reg [ ⟨none, some 38, .op (.build [.c (.lit (.int .i64 0)), .c (.lit (.int .i64 0)), .c (.str []), .nsl 1, .nsl 5] [])⟩, ⟨none, none, .op (.store true 5 (.t 6) (.t 38))⟩, ⟨none, some 7, .op (.mv (.k (.c (.lit (.bool false)))))⟩] [6, 7]) .ret) .skip)) (.seq (.reg [ ⟨none, some 39, .op (.load true 5 (.t 3))⟩, ⟨none, some 40, .op (.mv (.t 8))⟩, ⟨none, some 41, .op (.load true 5 (.t 9))⟩, ⟨none, some 42, .call 89 [.t 39, .t 40, .t 41]⟩, ⟨none, none, .op (.store true 5 (.t 6) (.t 42))⟩, ⟨none, some 7, .op (.mv (.k (.c (.lit (.bool true)))))⟩] [6, 7]) .ret)))))))
theorem K.spec_setAt : chkF Go.Proofs.Tryz.prog 72 3 0 C.spec_setAt [.cell 6 true 5, .tmp 7] = true := by kernel_rfl
def C.spec_addAt : ACode := (.seq (.reg [ ⟨none, some 3, .op (.box 10 (.t 0))⟩, ⟨none, some 5, .op (.box 11 (.t 2))⟩, ⟨none, some 6, .op (.alloc 12 [.c (.lit (.int .i64 0)), .c (.lit (.int .i64 0)), .c (.str []), .nsl 1, .nsl 5])⟩, ⟨none, some 7, .op (.mv (.k (.c (.lit (.bool false)))))⟩] [1, 3, 5, 6]) (.seq (.seq (.reg [ ⟨none, some 13, .op (.mv (.t 1))⟩, ⟨none, some 14, .op (.len (.t 13))⟩, ⟨none, some 15, .op (.bin .eql (.t 14) (.k (.c (.lit (.int .i64 0)))))⟩] [1, 3, 5, 6, 15]) (.cond (.t 15) (.seq (.reg [ ⟨none, some 16, .op (.load true 5 (.t 5))⟩, ⟨none, some 17, .call 44 [.t 16]⟩, ⟨none, none, .op (.store true 5 (.t 6) (.t 17))⟩, ⟨none, some 7, .op (.mv (.k (.c (.lit (.bool true)))))⟩] [6, 7]) .ret) .skip)) (.seq (.reg [ ⟨none, some 18, .op (.mv (.t 1))⟩, ⟨none, some 19, .op (.len (.t 18))⟩, ⟨none, some 20, .op (.bin .sub (.t 19) (.k (.c (.lit (.int .i64 1)))))⟩, ⟨none, some 8, .op (.mv (.t 20))⟩] [1, 3, 5, 6, 8]) (.seq (.regD [ (⟨none, some 22, .op (.load true 5 (.t 3))⟩, []), (⟨none, some 23, .op (.mv (.t 1))⟩, []), (⟨none, some 24, .op (.mv (.t 8))⟩, []), (⟨none, some 25, .op (.slsl 1 (.t 23) none (some (.t 24)))⟩, [1, 2]), (⟨none, some 26, .call 64 [.t 22, .t 25]⟩, [0, 1, 2, 3]), (⟨none, some 21, .op (.mv (.t 26))⟩, [0, 1, 2, 3, 4]), (⟨none, some 27, .op (.extract (.t 21) 0)⟩, [0, 1, 2, 3, 4, 5]), (⟨none, some 28, .op (.extract (.t 21) 1)⟩, [0, 1, 2, 3, 4, 5]), (⟨none, some 9, .op (.alloc 13 [.c (.lit (.int .i64 0)), .c (.lit (.int .i64 0)), .c (.str []), .nsl 1, .nsl 5])⟩, []), (⟨none, none, .op (.store true 5 (.t 9) (.t 27))⟩, [0, 1, 2, 3, 4, 5, 6, 8]), (⟨none, some 10, .op (.mv (.t 28))⟩, [0, 1, 2, 3, 4, 5, 6, 7, 8, 9])] [1, 3, 5, 6, 8, 9, 10]) (.seq (.seq (.reg [ ⟨none, some 29, .op (.mv (.t 10))⟩, ⟨none, some 30, .op (.not (.t 29))⟩] [1, 3, 5, 6, 8, 9, 30]) (.cond (.t 30) (.seq (.reg [ ⟨none, some 31, .op (.build [.c (.lit (.int .i64 0)), .c (.lit (.int .i64 0)), .c (.str []), .nsl 1, .nsl 5] [])⟩, ⟨none, none, .op (.store true 5 (.t 6) (.t 31))⟩, ⟨none, some 7, .op (.mv (.k (.c (.lit (.bool false)))))⟩] [6, 7]) .ret) .skip)) (.seq (.regD [ (⟨none, some 33, .op (.load true 5 (.t 9))⟩, []), (⟨none, some 34, .op (.mv (.t 1))⟩, []), (⟨none, some 35, .op (.mv (.t 8))⟩, []), (⟨none, some 36, .op (.iaddr 1 (.t 34) (.t 35))⟩, [1, 2]), (⟨none, some 37, .op (.load false 1 (.t 36))⟩, [1, 2, 3]), (⟨none, some 38, .op (.load true 5 (.t 5))⟩, []), (⟨none, some 39, .call 85 [.t 33, .t 37, .t 38]⟩, [0, 1, 2, 3, 4, 5]), (⟨none, some 32, .op (.mv (.t 39))⟩, [0, 1, 2, 3, 4, 5, 6]), (⟨none, some 40, .op (.extract (.t 32) 0)⟩, [0, 1, 2, 3, 4, 5, 6, 7]), (⟨none, some 41, .op (.extract (.t 32) 1)⟩, [0, 1, 2, 3, 4, 5, 6, 7]), (⟨none, some 11, .op (.alloc 14 [.c (.lit (.int .i64 0)), .c (.lit (.int .i64 0)), .c (.str []), .nsl 1, .nsl 5])⟩, []), (⟨none, none, .op (.store true 5 (.t 11) (.t 40))⟩, [0, 1, 2, 3, 4, 5, 6, 7, 8, 10]), (⟨none, some 12, .op (.mv (.t 41))⟩, [0, 1, 2, 3, 4, 5, 6, 7, 8, 9, 10, 11])] [1, 3, 6, 8, 11, 12]) (.seq (.seq (.reg [ ⟨none, some 42, .op (.mv (.t 12))⟩, ⟨none, some 43, .op (.not (.t 42))⟩] [1, 3, 6, 8, 11, 43]) (.cond (.t 43) (.seq (.reg [ ⟨none, some 44, .op (.build [.c (.lit (.int .i64 0)), .c (.lit (.int .i64 0)), .c (.str []), .nsl 1, .nsl 5] [])⟩, ⟨none, none, .op (.store true 5 (.t 6) (.t 44))⟩, ⟨none, some 7, .op (.mv (.k (.c (.lit (.bool false)))))⟩] [6, 7]) .ret) .skip)) (.seq (.regD [ (⟨none, some 45, .op (.load true 5 (.t 3))⟩, []), (⟨none, some 46, .op (.mv (.t 1))⟩, []), (⟨none, some 47, .op (.mv (.t 8))⟩, []), (⟨none, some 48, .op (.slsl 1 (.t 46) none (some (.t 47)))⟩, [1, 2]), (⟨none, some 49, .op (.load true 5 (.t 11))⟩, []), (⟨none, some 50, .call 72 [.t 45, .t 48, .t 49]⟩, [0, 1, 2, 3, 4]), (⟨none, some 51, .op (.extract (.t 50) 0)⟩, [0, 1, 2, 3, 4, 5]), (⟨none, some 52, .op (.extract (.t 50) 1)⟩, [0, 1, 2, 3, 4, 5]), (⟨none, none, .op (.store true 5 (.t 6) (.t 51))⟩, [0, 1, 2, 3, 4, 5, 6, 7]), (⟨none, some 7, .op (.mv (.t 52))⟩, [0, 1, 2, 3, 4, 5, 6, 7, 8])] [6, 7]) .ret))))))))
theorem K.spec_addAt : chkF Go.Proofs.Tryz.prog 70 3 0 C.spec_addAt [.cell 6 true 5, .tmp 7] = true := by kernel_rfl
def C.spec_begins : ACode := (.seq (.reg [ ⟨none, some 4, .op (.mv (.k (.c (.lit (.bool false)))))⟩] [0, 1]) (.seq (.seq (.reg [ ⟨none, some 5, .op (.mv (.k (.c (.lit (.int .i64 0)))))⟩] [0, 1, 5]) (.block 0 (.loop (.seq (.seq (.reg [ ⟨none, some 6, .op (.mv (.t 5))⟩, ⟨none, some 7, .op (.mv (.t 1))⟩, ⟨none, some 8, .op (.len (.t 7))⟩, ⟨none, some 9, .op (.bin .lss (.t 6) (.t 8))⟩] [0, 1, 5, 9]) (.cond (.t 9) .skip (.exit 0))) (.seq (.block 1 (.seq (.regD [ (⟨none, some 12, .op (.mv (.t 5))⟩, []), (⟨none, some 13, .op (.mv (.t 0))⟩, []), (⟨none, some 14, .op (.len (.t 13))⟩, [1]), (⟨none, some 15, .op (.bin .geq (.t 12) (.t 14))⟩, [0, 1, 2]), (⟨none, some 16, .op (.mv (.t 15))⟩, [0, 1, 2, 3]), (⟨(some (16, false)), some 17, .op (.mv (.t 0))⟩, [0, 1, 2, 3, 4]), (⟨(some (16, false)), some 18, .op (.mv (.t 5))⟩, [0, 1, 2, 3, 4]), (⟨(some (16, false)), some 19, .op (.iaddr 1 (.t 17) (.t 18))⟩, [0, 1, 2, 3, 4, 5, 6]), (⟨(some (16, false)), some 20, .op (.load false 1 (.t 19))⟩, [0, 1, 2, 3, 4, 5, 6, 7]), (⟨(some (16, false)), some 21, .op (.mv (.t 1))⟩, [0, 1, 2, 3, 4]), (⟨(some (16, false)), some 22, .op (.mv (.t 5))⟩, [0, 1, 2, 3, 4]), (⟨(some (16, false)), some 23, .op (.iaddr 1 (.t 21) (.t 22))⟩, [0, 1, 2, 3, 4, 9, 10]), (⟨(some (16, false)), some 24, .op (.load false 1 (.t 23))⟩, [0, 1, 2, 3, 4, 9, 10, 11]), (⟨(some (16, false)), some 25, .op (.bin .neq (.t 20) (.t 24))⟩, [0, 1, 2, 3, 4, 5, 6, 7, 8, 9, 10, 11, 12]), (⟨none, some 26, .op (.pick (.t 16) (.k (.c (.lit (.bool true)))) (.t 25))⟩, [0, 1, 2, 3, 4, 5, 6, 7, 8, 9, 10, 11, 12, 13])] [0, 1, 5, 26]) (.cond (.t 26) (.seq (.reg [ ⟨none, some 4, .op (.mv (.k (.c (.lit (.bool false)))))⟩] [4]) .ret) .skip))) (.reg [ ⟨none, some 10, .op (.mv (.t 5))⟩, ⟨none, some 11, .op (.bin .add (.t 10) (.k (.c (.lit (.int .i64 1)))))⟩, ⟨none, some 5, .op (.mv (.t 11))⟩] [0, 1, 5])))))) (.seq (.reg [ ⟨none, some 4, .op (.mv (.k (.c (.lit (.bool true)))))⟩] [4]) .ret)))
theorem K.spec_begins : chkF Go.Proofs.Tryz.prog 74 2 0 C.spec_begins [.tmp 4] = true := by kernel_rfl
end Go.Ab
end
