/- The law FnDiffSize of the package laws answers true for every code of bytes and leaves it as it is: the abstract interpreter of the program, the printed functions and proofs, the laws of the data, the statement (part 3 of the proof). Conditions: none but what the row lists. -/
import Derived.Test.YtjflgnaccghfmaaGreatDoorV2
set_option linter.unusedVariables false
set_option linter.unusedSimpArgs false
section
namespace Go.Ab
open Go
set_option maxRecDepth 100000
set_option maxHeartbeats 4000000
set_option linter.unusedVariables false
set_option linter.unusedSimpArgs false
structure NodeT where
  Kind : Int
  Num : Int
  Text : Txt
  Names : List Txt
  Kids : List NodeT
  deriving Inhabited
mutual
def NodeT.cells : NodeT → List Cell
  | NodeT.mk x0 x1 x2 x3 x4 => [.lit (.int .i64 x0), .lit (.int .i64 x1), .str x2, .sl 1 (List.map cS x3), .sl 5 (NodeT.cellsL x4)]
def NodeT.cellsL : List NodeT → List (List Cell)
  | [] => []
  | x :: r => x.cells :: NodeT.cellsL r
end
theorem NodeT.cellsL_eq (ks : List NodeT) : NodeT.cellsL ks = List.map NodeT.cells ks := by
  induction ks with
  | nil => rfl
  | cons x r ih => simp [NodeT.cellsL, ih]
theorem NodeT.cells_eq (n : NodeT) : n.cells = [.lit (.int .i64 n.Kind), .lit (.int .i64 n.Num), .str n.Text, .sl 1 (List.map cS n.Names), .sl 5 (List.map NodeT.cells n.Kids)] := by
  cases n
  rw [NodeT.cells, NodeT.cellsL_eq]
structure OpT where
  Kind : Int
  Path : List Txt
  From : List Txt
  Value : NodeT
  deriving Inhabited
def OpT.cells (n : OpT) : List Cell := [.lit (.int .i64 n.Kind), .sl 1 (List.map cS n.Path), .sl 1 (List.map cS n.From), .lit (.int .i64 n.Value.Kind), .lit (.int .i64 n.Value.Num), .str n.Value.Text, .sl 1 (List.map cS n.Value.Names), .sl 5 (List.map NodeT.cells n.Value.Kids)]
theorem OpT.cells_eq (n : OpT) : n.cells = [.lit (.int .i64 n.Kind), .sl 1 (List.map cS n.Path), .sl 1 (List.map cS n.From), .lit (.int .i64 n.Value.Kind), .lit (.int .i64 n.Value.Num), .str n.Value.Text, .sl 1 (List.map cS n.Value.Names), .sl 5 (List.map NodeT.cells n.Value.Kids)] := rfl
structure DifferencesT where
  list : List OpT
  deriving Inhabited
def DifferencesT.cells (n : DifferencesT) : List Cell := [.sl 8 (List.map OpT.cells n.list)]
theorem DifferencesT.cells_eq (n : DifferencesT) : n.cells = [.sl 8 (List.map OpT.cells n.list)] := rfl
structure ReaderT where
  b : List Int
  p : Int
  deriving Inhabited
def ReaderT.cells (n : ReaderT) : List Cell := [.sl 1 (List.map cU n.b), .lit (.int .i64 n.p)]
theorem ReaderT.cells_eq (n : ReaderT) : n.cells = [.sl 1 (List.map cU n.b), .lit (.int .i64 n.p)] := rfl
end Go.Ab
end
section
namespace Go.Ab
open Go
set_option maxRecDepth 100000
set_option maxHeartbeats 4000000
set_option linter.unusedVariables false
set_option linter.unusedSimpArgs false
def G.cmp_isNaN_int (f : Nat) (a_x1 : Int) : Option (Bool) := match f with
| 0 => none
| n + 1 =>
(some ((a_x1 != a_x1)))
def G.cmp_Compare_int (f : Nat) (a_x1 : Int) (a_y1 : Int) : Option (Int) := match f with
| 0 => none
| n + 1 =>
(Option.bind (G.cmp_isNaN_int n a_x1) fun v1 =>
(Option.bind (G.cmp_isNaN_int n a_y1) fun v2 =>
(cond v1
(cond v2
(some (0))
(some ((-1))))
(cond v2
(some (1))
(cond (decide (a_x1 < a_y1))
(some ((-1)))
(cond (decide (a_y1 < a_x1))
(some (1))
(some (0))))))))
def G.cmp_isNaN_string (f : Nat) (a_x1 : Txt) : Option (Bool) := match f with
| 0 => none
| n + 1 =>
(some ((!(a_x1 == a_x1))))
def G.cmp_Less_string (f : Nat) (a_x1 : Txt) (a_y1 : Txt) : Option (Bool) := match f with
| 0 => none
| n + 1 =>
(Option.bind (G.cmp_isNaN_string n a_x1) fun v1 =>
(cond v1
(Option.bind (G.cmp_isNaN_string n a_y1) fun v2 =>
(cond v2
(some ((Op.bytesLess a_x1 a_y1)))
(some (true))))
(some ((Op.bytesLess a_x1 a_y1)))))
mutual
def G.impl_copyNode.L2 (f : Nat) (a_n1 : NodeT) (z1 : List Txt) (x_t2 : Int) (z4 : List NodeT) : Option (NodeT) := match f with
| 0 => none
| n + 1 =>
(cond (decide (x_t2 < ((a_n1.Kids.length : Nat) : Int)))
(chk (0 ≤ x_t2 ∧ x_t2 < ((a_n1.Kids.length : Nat) : Int))
(Option.bind (G.impl_copyNode n (a_n1.Kids.getD x_t2.toNat default)) fun v3 =>
(chk (0 ≤ x_t2 ∧ x_t2 < ((z4.length : Nat) : Int))
(G.impl_copyNode.L2 n a_n1 z1 (IntKind.wrap .i64 (x_t2 + 1)) (z4.set x_t2.toNat v3)))))
(some ((NodeT.mk a_n1.Kind a_n1.Num a_n1.Text z1 z4))))
def G.impl_copyNode.K1 (f : Nat) (a_n1 : NodeT) (z1 : List Txt) : Option (NodeT) := match f with
| 0 => none
| n + 1 =>
(cond (decide (0 < ((a_n1.Kids.length : Nat) : Int)))
(chk (0 ≤ ((a_n1.Kids.length : Nat) : Int) ∧ ((a_n1.Kids.length : Nat) : Int) ≤ ((a_n1.Kids.length : Nat) : Int) ∧ 80 * ((a_n1.Kids.length : Nat) : Int) ≤ 2 ^ 47 ∧ ((a_n1.Kids.length : Nat) : Int) ≤ 2 ^ 47)
(G.impl_copyNode.L2 n a_n1 z1 0 (List.replicate a_n1.Kids.length (NodeT.mk 0 0 [] [] []))))
(some ((NodeT.mk a_n1.Kind a_n1.Num a_n1.Text z1 []))))
def G.impl_copyNode (f : Nat) (a_n1 : NodeT) : Option (NodeT) := match f with
| 0 => none
| n + 1 =>
(cond (decide (0 < ((a_n1.Names.length : Nat) : Int)))
(chk (0 ≤ ((a_n1.Names.length : Nat) : Int) ∧ ((a_n1.Names.length : Nat) : Int) ≤ ((a_n1.Names.length : Nat) : Int) ∧ 16 * ((a_n1.Names.length : Nat) : Int) ≤ 2 ^ 47 ∧ ((a_n1.Names.length : Nat) : Int) ≤ 2 ^ 47)
(G.impl_copyNode.K1 n a_n1 a_n1.Names))
(G.impl_copyNode.K1 n a_n1 []))
end
def G.slices_isNaN_string (f : Nat) (a_x1 : Txt) : Option (Bool) := match f with
| 0 => none
| n + 1 =>
(some ((!(a_x1 == a_x1))))
def G.slices_BinarySearch_string.L1 (f : Nat) (a_x1 : List Txt) (a_target1 : Txt) (x_i2 : Int) (x_j2 : Int) : Option (Int × Bool) := match f with
| 0 => none
| n + 1 =>
(cond (decide (x_i2 < x_j2))
(chk (0 ≤ (IntKind.wrap .i64 ((Int.fdiv (IntKind.wrap .u64 ((IntKind.wrap .i64 (x_i2 + x_j2)))) (2 ^ (min 1 (IntKind.bits .u64)))))) ∧ (IntKind.wrap .i64 ((Int.fdiv (IntKind.wrap .u64 ((IntKind.wrap .i64 (x_i2 + x_j2)))) (2 ^ (min 1 (IntKind.bits .u64)))))) < ((a_x1.length : Nat) : Int))
(Option.bind (G.cmp_Less_string n (a_x1.getD (IntKind.wrap .i64 ((Int.fdiv (IntKind.wrap .u64 ((IntKind.wrap .i64 (x_i2 + x_j2)))) (2 ^ (min 1 (IntKind.bits .u64)))))).toNat default) a_target1) fun v3 =>
(cond v3
(G.slices_BinarySearch_string.L1 n a_x1 a_target1 (IntKind.wrap .i64 ((IntKind.wrap .i64 ((Int.fdiv (IntKind.wrap .u64 ((IntKind.wrap .i64 (x_i2 + x_j2)))) (2 ^ (min 1 (IntKind.bits .u64)))))) + 1)) x_j2)
(G.slices_BinarySearch_string.L1 n a_x1 a_target1 x_i2 (IntKind.wrap .i64 ((Int.fdiv (IntKind.wrap .u64 ((IntKind.wrap .i64 (x_i2 + x_j2)))) (2 ^ (min 1 (IntKind.bits .u64))))))))))
(cond (decide (x_i2 < ((a_x1.length : Nat) : Int)))
(chk (0 ≤ x_i2 ∧ x_i2 < ((a_x1.length : Nat) : Int))
(cond ((a_x1.getD x_i2.toNat default) == a_target1)
(some (x_i2, true))
(chk (0 ≤ x_i2 ∧ x_i2 < ((a_x1.length : Nat) : Int))
(Option.bind (G.slices_isNaN_string n (a_x1.getD x_i2.toNat default)) fun v4 =>
(cond v4
(Option.bind (G.slices_isNaN_string n a_target1) fun v5 =>
(some (x_i2, v5)))
(some (x_i2, false)))))))
(some (x_i2, false))))
def G.slices_BinarySearch_string (f : Nat) (a_x1 : List Txt) (a_target1 : Txt) : Option (Int × Bool) := match f with
| 0 => none
| n + 1 =>
(G.slices_BinarySearch_string.L1 n a_x1 a_target1 0 ((a_x1.length : Nat) : Int))
def G.internal_strconv_log10Pow2 (f : Nat) (a_x1 : Int) : Option (Int) := match f with
| 0 => none
| n + 1 =>
(some ((Int.fdiv (IntKind.wrap .i64 (a_x1 * 78913)) (2 ^ (min 18 (IntKind.bits .i64))))))
def G.math_bits_Len64.K2 (f : Nat) (x_x2 : Int) (x_n2 : Int) : Option (Int) := match f with
| 0 => none
| n + 1 =>
(cond (decide (256 ≤ x_x2))
(chk (0 ≤ (IntKind.wrap .u8 ((Int.fdiv x_x2 (2 ^ (min 8 (IntKind.bits .u64)))))) ∧ (IntKind.wrap .u8 ((Int.fdiv x_x2 (2 ^ (min 8 (IntKind.bits .u64)))))) < ((256 : Nat) : Int))
(some ((IntKind.wrap .i64 ((IntKind.wrap .i64 (x_n2 + 8)) + (IntKind.wrap .i64 ((((([0, 1, 2, 2, 3, 3, 3, 3, 4, 4, 4, 4, 4, 4, 4, 4, 5, 5, 5, 5, 5, 5, 5, 5, 5, 5, 5, 5, 5, 5, 5, 5, 6, 6, 6, 6, 6, 6, 6, 6, 6, 6, 6, 6, 6, 6, 6, 6, 6, 6, 6, 6, 6, 6, 6, 6, 6, 6, 6, 6, 6, 6, 6, 6, 7, 7, 7, 7, 7, 7, 7, 7, 7, 7, 7, 7, 7, 7, 7, 7, 7, 7, 7, 7, 7, 7, 7, 7, 7, 7, 7, 7, 7, 7, 7, 7, 7, 7, 7, 7, 7, 7, 7, 7, 7, 7, 7, 7, 7, 7, 7, 7, 7, 7, 7, 7, 7, 7, 7, 7, 7, 7, 7, 7, 7, 7, 7, 7, 8, 8, 8, 8, 8, 8, 8, 8, 8, 8, 8, 8, 8, 8, 8, 8, 8, 8, 8, 8, 8, 8, 8, 8, 8, 8, 8, 8, 8, 8, 8, 8, 8, 8, 8, 8, 8, 8, 8, 8, 8, 8, 8, 8, 8, 8, 8, 8, 8, 8, 8, 8, 8, 8, 8, 8, 8, 8, 8, 8, 8, 8, 8, 8, 8, 8, 8, 8, 8, 8, 8, 8, 8, 8, 8, 8, 8, 8, 8, 8, 8, 8, 8, 8, 8, 8, 8, 8, 8, 8, 8, 8, 8, 8, 8, 8, 8, 8, 8, 8, 8, 8, 8, 8, 8, 8, 8, 8, 8, 8, 8, 8, 8, 8, 8, 8, 8, 8, 8, 8, 8, 8, 8, 8, 8, 8, 8, 8] : Txt).getD (IntKind.wrap .u8 ((Int.fdiv x_x2 (2 ^ (min 8 (IntKind.bits .u64)))))).toNat 0).toNat : Nat) : Int))))))))
(chk (0 ≤ (IntKind.wrap .u8 (x_x2)) ∧ (IntKind.wrap .u8 (x_x2)) < ((256 : Nat) : Int))
(some ((IntKind.wrap .i64 (x_n2 + (IntKind.wrap .i64 ((((([0, 1, 2, 2, 3, 3, 3, 3, 4, 4, 4, 4, 4, 4, 4, 4, 5, 5, 5, 5, 5, 5, 5, 5, 5, 5, 5, 5, 5, 5, 5, 5, 6, 6, 6, 6, 6, 6, 6, 6, 6, 6, 6, 6, 6, 6, 6, 6, 6, 6, 6, 6, 6, 6, 6, 6, 6, 6, 6, 6, 6, 6, 6, 6, 7, 7, 7, 7, 7, 7, 7, 7, 7, 7, 7, 7, 7, 7, 7, 7, 7, 7, 7, 7, 7, 7, 7, 7, 7, 7, 7, 7, 7, 7, 7, 7, 7, 7, 7, 7, 7, 7, 7, 7, 7, 7, 7, 7, 7, 7, 7, 7, 7, 7, 7, 7, 7, 7, 7, 7, 7, 7, 7, 7, 7, 7, 7, 7, 8, 8, 8, 8, 8, 8, 8, 8, 8, 8, 8, 8, 8, 8, 8, 8, 8, 8, 8, 8, 8, 8, 8, 8, 8, 8, 8, 8, 8, 8, 8, 8, 8, 8, 8, 8, 8, 8, 8, 8, 8, 8, 8, 8, 8, 8, 8, 8, 8, 8, 8, 8, 8, 8, 8, 8, 8, 8, 8, 8, 8, 8, 8, 8, 8, 8, 8, 8, 8, 8, 8, 8, 8, 8, 8, 8, 8, 8, 8, 8, 8, 8, 8, 8, 8, 8, 8, 8, 8, 8, 8, 8, 8, 8, 8, 8, 8, 8, 8, 8, 8, 8, 8, 8, 8, 8, 8, 8, 8, 8, 8, 8, 8, 8, 8, 8, 8, 8, 8, 8, 8, 8, 8, 8, 8, 8, 8, 8] : Txt).getD (IntKind.wrap .u8 (x_x2)).toNat 0).toNat : Nat) : Int)))))))))
def G.math_bits_Len64.K1 (f : Nat) (x_x1 : Int) (x_n1 : Int) : Option (Int) := match f with
| 0 => none
| n + 1 =>
(cond (decide (65536 ≤ x_x1))
(G.math_bits_Len64.K2 n (Int.fdiv x_x1 (2 ^ (min 16 (IntKind.bits .u64)))) (IntKind.wrap .i64 (x_n1 + 16)))
(G.math_bits_Len64.K2 n x_x1 x_n1))
def G.math_bits_Len64 (f : Nat) (a_x1 : Int) : Option (Int) := match f with
| 0 => none
| n + 1 =>
(cond (decide (4294967296 ≤ a_x1))
(G.math_bits_Len64.K1 n (Int.fdiv a_x1 (2 ^ (min 32 (IntKind.bits .u64)))) 32)
(G.math_bits_Len64.K1 n a_x1 0))
def G.internal_strconv_numDigits (f : Nat) (a_d1 : Int) : Option (Int) := match f with
| 0 => none
| n + 1 =>
(Option.bind (G.math_bits_Len64 n a_d1) fun v1 =>
(Option.bind (G.internal_strconv_log10Pow2 n v1) fun v2 =>
(none)))
def G.internal_strconv_small (f : Nat) (a_i1 : Int) : Option (Txt) := match f with
| 0 => none
| n + 1 =>
(cond (decide (a_i1 < 10))
(chk (0 ≤ a_i1 ∧ a_i1 ≤ (IntKind.wrap .i64 (a_i1 + 1)) ∧ (IntKind.wrap .i64 (a_i1 + 1)) ≤ ((36 : Nat) : Int))
(some ((([48, 49, 50, 51, 52, 53, 54, 55, 56, 57, 97, 98, 99, 100, 101, 102, 103, 104, 105, 106, 107, 108, 109, 110, 111, 112, 113, 114, 115, 116, 117, 118, 119, 120, 121, 122].take ((IntKind.wrap .i64 (a_i1 + 1)).toNat)).drop a_i1.toNat))))
(chk (0 ≤ (IntKind.wrap .i64 (a_i1 * 2)) ∧ (IntKind.wrap .i64 (a_i1 * 2)) ≤ (IntKind.wrap .i64 ((IntKind.wrap .i64 (a_i1 * 2)) + 2)) ∧ (IntKind.wrap .i64 ((IntKind.wrap .i64 (a_i1 * 2)) + 2)) ≤ ((200 : Nat) : Int))
(some ((([48, 48, 48, 49, 48, 50, 48, 51, 48, 52, 48, 53, 48, 54, 48, 55, 48, 56, 48, 57, 49, 48, 49, 49, 49, 50, 49, 51, 49, 52, 49, 53, 49, 54, 49, 55, 49, 56, 49, 57, 50, 48, 50, 49, 50, 50, 50, 51, 50, 52, 50, 53, 50, 54, 50, 55, 50, 56, 50, 57, 51, 48, 51, 49, 51, 50, 51, 51, 51, 52, 51, 53, 51, 54, 51, 55, 51, 56, 51, 57, 52, 48, 52, 49, 52, 50, 52, 51, 52, 52, 52, 53, 52, 54, 52, 55, 52, 56, 52, 57, 53, 48, 53, 49, 53, 50, 53, 51, 53, 52, 53, 53, 53, 54, 53, 55, 53, 56, 53, 57, 54, 48, 54, 49, 54, 50, 54, 51, 54, 52, 54, 53, 54, 54, 54, 55, 54, 56, 54, 57, 55, 48, 55, 49, 55, 50, 55, 51, 55, 52, 55, 53, 55, 54, 55, 55, 55, 56, 55, 57, 56, 48, 56, 49, 56, 50, 56, 51, 56, 52, 56, 53, 56, 54, 56, 55, 56, 56, 56, 57, 57, 48, 57, 49, 57, 50, 57, 51, 57, 52, 57, 53, 57, 54, 57, 55, 57, 56, 57, 57].take ((IntKind.wrap .i64 ((IntKind.wrap .i64 (a_i1 * 2)) + 2)).toNat)).drop ((IntKind.wrap .i64 (a_i1 * 2)).toNat))))))
def G.internal_strconv_FormatInt.K1 (f : Nat) (x_u1 : Int) (z1 : List Int) : Option (Txt) := match f with
| 0 => none
| n + 1 =>
(Option.bind (G.internal_strconv_numDigits n x_u1) fun v2 =>
(none))
def G.internal_strconv_FormatInt.K2 (f : Nat) (x_u2 : Int) (z2 : List Int) : Option (Txt) := match f with
| 0 => none
| n + 1 =>
(Option.bind (G.internal_strconv_numDigits n x_u2) fun v3 =>
(none))
def G.internal_strconv_FormatInt (f : Nat) (a_i1 : Int) (a_base1 : Int) : Option (Txt) := match f with
| 0 => none
| n + 1 =>
(cond (a_base1 == 10)
(cond (decide (0 ≤ a_i1))
(cond (decide (a_i1 < 100))
(Option.bind (G.internal_strconv_small n a_i1) fun v1 =>
(some (v1)))
(cond (decide (a_i1 < 0))
(G.internal_strconv_FormatInt.K1 n (IntKind.wrap .u64 (0 - (IntKind.wrap .u64 (a_i1)))) (List.replicate 24 0))
(G.internal_strconv_FormatInt.K1 n (IntKind.wrap .u64 (a_i1)) (List.replicate 24 0))))
(cond (decide (a_i1 < 0))
(G.internal_strconv_FormatInt.K2 n (IntKind.wrap .u64 (0 - (IntKind.wrap .u64 (a_i1)))) (List.replicate 24 0))
(G.internal_strconv_FormatInt.K2 n (IntKind.wrap .u64 (a_i1)) (List.replicate 24 0))))
(none))
def G.internal_strconv_Itoa (f : Nat) (a_i1 : Int) : Option (Txt) := match f with
| 0 => none
| n + 1 =>
(Option.bind (G.internal_strconv_FormatInt n a_i1 10) fun v1 =>
(some (v1)))
def G.strconv_Itoa (f : Nat) (a_i1 : Int) : Option (Txt) := match f with
| 0 => none
| n + 1 =>
(Option.bind (G.internal_strconv_Itoa n a_i1) fun v1 =>
(some (v1)))
def G.impl_kidIndex.L1 (f : Nat) (a_n1 : NodeT) (a_step1 : Txt) (x_t2 : Int) : Option (Int × Bool) := match f with
| 0 => none
| n + 1 =>
(cond (decide (x_t2 < ((a_n1.Kids.length : Nat) : Int)))
(Option.bind (G.strconv_Itoa n x_t2) fun v4 =>
(cond (v4 == a_step1)
(some (x_t2, true))
(G.impl_kidIndex.L1 n a_n1 a_step1 (IntKind.wrap .i64 (x_t2 + 1)))))
(some (0, false)))
def G.impl_kidIndex (f : Nat) (a_n1 : NodeT) (a_step1 : Txt) : Option (Int × Bool) := match f with
| 0 => none
| n + 1 =>
(cond (a_n1.Kind == 4)
(Option.bind (G.slices_BinarySearch_string n a_n1.Names a_step1) fun v1 =>
(some (v1.1, v1.2)))
(cond (a_n1.Kind == 3)
(G.impl_kidIndex.L1 n a_n1 a_step1 0)
(some (0, false))))
def G.slices_Insert_impl_Node (f : Nat) (s : List NodeT) (i : Int) (v : List NodeT) : Option (List NodeT) := match f with
| 0 => none
| _ + 1 => chk (0 ≤ i ∧ i ≤ ((s.length : Nat) : Int) ∧ v.length = 1 ∧ (s.length + 1) * 86 ≤ 2 ^ 46) (some (s.take i.toNat ++ v ++ s.drop i.toNat))
def G.slices_Insert_string (f : Nat) (s : List Txt) (i : Int) (v : List Txt) : Option (List Txt) := match f with
| 0 => none
| _ + 1 => chk (0 ≤ i ∧ i ≤ ((s.length : Nat) : Int) ∧ v.length = 1 ∧ (s.length + 1) * 18 ≤ 2 ^ 46) (some (s.take i.toNat ++ v ++ s.drop i.toNat))
def G.impl_putName (f : Nat) (p_n1 : NodeT) (a_name1 : Txt) (a_value1 : NodeT) : Option (NodeT) := match f with
| 0 => none
| n + 1 =>
(Option.bind (G.slices_BinarySearch_string n p_n1.Names a_name1) fun v1 =>
(cond v1.2
(chk (0 ≤ v1.1 ∧ v1.1 < ((p_n1.Kids.length : Nat) : Int))
(some ((NodeT.mk p_n1.Kind p_n1.Num p_n1.Text p_n1.Names (p_n1.Kids.set v1.1.toNat a_value1)))))
(Option.bind (G.slices_Insert_string n p_n1.Names v1.1 [a_name1]) fun v2 =>
(Option.bind (G.slices_Insert_impl_Node n p_n1.Kids v1.1 [a_value1]) fun v3 =>
(some ((NodeT.mk p_n1.Kind p_n1.Num p_n1.Text v2 v3)))))))
def G.impl_addKid.K1 (f : Nat) (a_value1 : NodeT) (v1 : NodeT) (x_at1 : Int) (x_ok1 : Bool) : Option (NodeT × Bool) := match f with
| 0 => none
| n + 1 =>
(cond x_ok1
(Option.bind (G.impl_copyNode n a_value1) fun v6 =>
(Option.bind (G.slices_Insert_impl_Node n v1.Kids x_at1 [v6]) fun v7 =>
(some ((NodeT.mk v1.Kind v1.Num v1.Text v1.Names v7), true))))
(some ((NodeT.mk 0 0 [] [] []), false)))
def G.impl_addKid (f : Nat) (a_n1 : NodeT) (a_step1 : Txt) (a_value1 : NodeT) : Option (NodeT × Bool) := match f with
| 0 => none
| n + 1 =>
(Option.bind (G.impl_copyNode n a_n1) fun v1 =>
(cond (a_n1.Kind == 4)
(Option.bind (G.impl_copyNode n a_value1) fun v2 =>
(Option.bind (G.impl_putName n v1 a_step1 v2) fun v3 =>
(some (v3, true))))
(cond (a_n1.Kind == 3)
(Option.bind (G.impl_kidIndex n a_n1 a_step1) fun v4 =>
(cond v4.2
(G.impl_addKid.K1 n a_value1 v1 v4.1 true)
(cond (a_step1 == [45])
(G.impl_addKid.K1 n a_value1 v1 ((a_n1.Kids.length : Nat) : Int) true)
(Option.bind (G.strconv_Itoa n ((a_n1.Kids.length : Nat) : Int)) fun v8 =>
(cond (a_step1 == v8)
(G.impl_addKid.K1 n a_value1 v1 ((a_n1.Kids.length : Nat) : Int) true)
(G.impl_addKid.K1 n a_value1 v1 v4.1 false))))))
(some ((NodeT.mk 0 0 [] [] []), false)))))
def G.impl_AddNode_1 (f : Nat) (a_parent1 : NodeT) (p_cap01 : List Txt) (p_cap11 : Int) (p_cap21 : NodeT) : Option (NodeT × Bool) := match f with
| 0 => none
| n + 1 =>
(chk (0 ≤ p_cap11 ∧ p_cap11 < ((p_cap01.length : Nat) : Int))
(Option.bind (G.impl_addKid n a_parent1 (p_cap01.getD p_cap11.toNat default) p_cap21) fun v1 =>
(some (v1.1, v1.2))))
def G.impl_isPlainText.L1 (f : Nat) (a_s1 : Txt) (x_i2 : Int) : Option (Bool) := match f with
| 0 => none
| n + 1 =>
(cond (decide (x_i2 < ((a_s1.length : Nat) : Int)))
(chk (0 ≤ x_i2 ∧ x_i2 < ((a_s1.length : Nat) : Int))
(cond (decide ((((a_s1.getD x_i2.toNat 0).toNat : Nat) : Int) < 32))
(some (false))
(chk (0 ≤ x_i2 ∧ x_i2 < ((a_s1.length : Nat) : Int))
(cond (decide (126 < (((a_s1.getD x_i2.toNat 0).toNat : Nat) : Int)))
(some (false))
(G.impl_isPlainText.L1 n a_s1 (IntKind.wrap .i64 (x_i2 + 1)))))))
(some (true)))
def G.impl_isPlainText (f : Nat) (a_s1 : Txt) : Option (Bool) := match f with
| 0 => none
| n + 1 =>
(cond (decide (12 < ((a_s1.length : Nat) : Int)))
(some (false))
(G.impl_isPlainText.L1 n a_s1 0))
def G.impl_areNames.L1 (f : Nat) (a_names1 : List Txt) (x_t2 : Int) : Option (Bool) := match f with
| 0 => none
| n + 1 =>
(cond (decide (x_t2 < ((a_names1.length : Nat) : Int)))
(chk (0 ≤ x_t2 ∧ x_t2 < ((a_names1.length : Nat) : Int))
(Option.bind (G.impl_isPlainText n (a_names1.getD x_t2.toNat default)) fun v3 =>
(cond v3
(cond (decide (0 < x_t2))
(chk (0 ≤ (IntKind.wrap .i64 (x_t2 - 1)) ∧ (IntKind.wrap .i64 (x_t2 - 1)) < ((a_names1.length : Nat) : Int))
(cond (Op.bytesLess (a_names1.getD (IntKind.wrap .i64 (x_t2 - 1)).toNat default) (a_names1.getD x_t2.toNat default))
(G.impl_areNames.L1 n a_names1 (IntKind.wrap .i64 (x_t2 + 1)))
(some (false))))
(G.impl_areNames.L1 n a_names1 (IntKind.wrap .i64 (x_t2 + 1))))
(some (false)))))
(some (true)))
def G.impl_areNames (f : Nat) (a_names1 : List Txt) : Option (Bool) := match f with
| 0 => none
| n + 1 =>
(cond (decide (6 < ((a_names1.length : Nat) : Int)))
(some (false))
(G.impl_areNames.L1 n a_names1 0))
def G.impl_hasValidParts.K1 (f : Nat) (a_n1 : NodeT) : Option (Bool) := match f with
| 0 => none
| n + 1 =>
(cond (a_n1.Kind != 4)
(cond (decide (0 < ((a_n1.Names.length : Nat) : Int)))
(some (false))
(cond (a_n1.Kind == 0)
(some ((((a_n1.Kids.length : Nat) : Int) == 0)))
(cond (a_n1.Kind == 1)
(cond (decide ((-999999) ≤ a_n1.Num))
(cond (decide (a_n1.Num ≤ 999999))
(some ((((a_n1.Kids.length : Nat) : Int) == 0)))
(some (false)))
(some (false)))
(cond (a_n1.Kind == 2)
(Option.bind (G.impl_isPlainText n a_n1.Text) fun v1 =>
(cond v1
(some ((((a_n1.Kids.length : Nat) : Int) == 0)))
(some (false))))
(cond (a_n1.Kind == 3)
(some ((decide (((a_n1.Kids.length : Nat) : Int) ≤ 6))))
(cond (a_n1.Kind == 4)
(Option.bind (G.impl_areNames n a_n1.Names) fun v2 =>
(cond v2
(some ((((a_n1.Kids.length : Nat) : Int) == ((a_n1.Names.length : Nat) : Int))))
(some (false))))
(some (false))))))))
(cond (a_n1.Kind == 0)
(some ((((a_n1.Kids.length : Nat) : Int) == 0)))
(cond (a_n1.Kind == 1)
(cond (decide ((-999999) ≤ a_n1.Num))
(cond (decide (a_n1.Num ≤ 999999))
(some ((((a_n1.Kids.length : Nat) : Int) == 0)))
(some (false)))
(some (false)))
(cond (a_n1.Kind == 2)
(Option.bind (G.impl_isPlainText n a_n1.Text) fun v3 =>
(cond v3
(some ((((a_n1.Kids.length : Nat) : Int) == 0)))
(some (false))))
(cond (a_n1.Kind == 3)
(some ((decide (((a_n1.Kids.length : Nat) : Int) ≤ 6))))
(cond (a_n1.Kind == 4)
(Option.bind (G.impl_areNames n a_n1.Names) fun v4 =>
(cond v4
(some ((((a_n1.Kids.length : Nat) : Int) == ((a_n1.Names.length : Nat) : Int))))
(some (false))))
(some (false))))))))
def G.impl_hasValidParts (f : Nat) (a_n1 : NodeT) : Option (Bool) := match f with
| 0 => none
| n + 1 =>
(cond (a_n1.Kind != 1)
(cond (a_n1.Num != 0)
(some (false))
(cond (a_n1.Kind != 2)
(cond (a_n1.Text == [])
(G.impl_hasValidParts.K1 n a_n1)
(some (false)))
(G.impl_hasValidParts.K1 n a_n1)))
(cond (a_n1.Kind != 2)
(cond (a_n1.Text == [])
(G.impl_hasValidParts.K1 n a_n1)
(some (false)))
(G.impl_hasValidParts.K1 n a_n1)))
mutual
def G.impl_measureNode.L1 (f : Nat) (a_n1 : NodeT) (a_level1 : Int) (x_count2 : Int) (x_depth2 : Int) (x_t2 : Int) : Option (Int × Int × Bool) := match f with
| 0 => none
| n + 1 =>
(cond (decide (x_t2 < ((a_n1.Kids.length : Nat) : Int)))
(chk (0 ≤ x_t2 ∧ x_t2 < ((a_n1.Kids.length : Nat) : Int))
(Option.bind (G.impl_measureNode n (a_n1.Kids.getD x_t2.toNat default) (IntKind.wrap .i64 (a_level1 + 1))) fun v4 =>
(cond v4.2.2
(G.impl_measureNode.L1 n a_n1 a_level1 (IntKind.wrap .i64 (x_count2 + v4.1)) (if (IntKind.wrap .i64 (v4.2.1 + 1)) > x_depth2 then (IntKind.wrap .i64 (v4.2.1 + 1)) else x_depth2) (IntKind.wrap .i64 (x_t2 + 1)))
(some (0, 0, false)))))
(some (x_count2, x_depth2, true)))
def G.impl_measureNode (f : Nat) (a_n1 : NodeT) (a_level1 : Int) : Option (Int × Int × Bool) := match f with
| 0 => none
| n + 1 =>
(cond (decide (5 < a_level1))
(some (0, 0, false))
(Option.bind (G.impl_hasValidParts n a_n1) fun v1 =>
(cond v1
(G.impl_measureNode.L1 n a_n1 a_level1 1 1 0)
(some (0, 0, false)))))
end
def G.impl_ValidNode (f : Nat) (a_n1 : NodeT) : Option (Bool) := match f with
| 0 => none
| n + 1 =>
(Option.bind (G.impl_measureNode n a_n1 1) fun v1 =>
(cond v1.2.2
(some ((decide (v1.1 ≤ 40))))
(some (false))))
mutual
def G.impl_changeAt__impl_AddNode_1 (f : Nat) (a_n1 : NodeT) (a_path1 : List Txt) (p_cap01 : List Txt) (p_cap11 : Int) (p_cap21 : NodeT) : Option (NodeT × Bool) := match f with
| 0 => none
| n + 1 =>
(cond (((a_path1.length : Nat) : Int) == 0)
(Option.bind (G.impl_AddNode_1 n a_n1 p_cap01 p_cap11 p_cap21) fun v1 =>
(some (v1.1, v1.2)))
(chk (0 ≤ 0 ∧ 0 < ((a_path1.length : Nat) : Int))
(Option.bind (G.impl_kidIndex n a_n1 (a_path1.getD 0 default)) fun v2 =>
(cond v2.2
(chk (0 ≤ v2.1 ∧ v2.1 < ((a_n1.Kids.length : Nat) : Int))
(chk (0 ≤ 1 ∧ 1 ≤ ((a_path1.length : Nat) : Int) ∧ ((a_path1.length : Nat) : Int) ≤ ((a_path1.length : Nat) : Int))
(Option.bind (G.impl_changeAt__impl_AddNode_1 n (a_n1.Kids.getD v2.1.toNat default) (a_path1.drop 1) p_cap01 p_cap11 p_cap21) fun v3 =>
(cond v3.2
(Option.bind (G.impl_copyNode n a_n1) fun v4 =>
(chk (0 ≤ v2.1 ∧ v2.1 < ((v4.Kids.length : Nat) : Int))
(some ((NodeT.mk v4.Kind v4.Num v4.Text v4.Names (v4.Kids.set v2.1.toNat v3.1)), true))))
(some ((NodeT.mk 0 0 [] [] []), false))))))
(some ((NodeT.mk 0 0 [] [] []), false))))))
end
def G.impl_checked (f : Nat) (a_n1 : NodeT) (a_ok1 : Bool) : Option (NodeT × Bool) := match f with
| 0 => none
| n + 1 =>
(cond a_ok1
(Option.bind (G.impl_ValidNode n a_n1) fun v1 =>
(cond v1
(some (a_n1, true))
(some ((NodeT.mk 0 0 [] [] []), false))))
(some ((NodeT.mk 0 0 [] [] []), false)))
def G.impl_isPath.L1 (f : Nat) (a_path1 : List Txt) (x_t2 : Int) : Option (Bool) := match f with
| 0 => none
| n + 1 =>
(cond (decide (x_t2 < ((a_path1.length : Nat) : Int)))
(chk (0 ≤ x_t2 ∧ x_t2 < ((a_path1.length : Nat) : Int))
(Option.bind (G.impl_isPlainText n (a_path1.getD x_t2.toNat default)) fun v3 =>
(cond v3
(G.impl_isPath.L1 n a_path1 (IntKind.wrap .i64 (x_t2 + 1)))
(some (false)))))
(some (true)))
def G.impl_isPath (f : Nat) (a_path1 : List Txt) : Option (Bool) := match f with
| 0 => none
| n + 1 =>
(cond (decide (5 < ((a_path1.length : Nat) : Int)))
(some (false))
(G.impl_isPath.L1 n a_path1 0))
def G.impl_AddNode (f : Nat) (a_n1 : NodeT) (a_path1 : List Txt) (a_value1 : NodeT) : Option (NodeT × Bool) := match f with
| 0 => none
| n + 1 =>
(Option.bind (G.impl_ValidNode n a_n1) fun v1 =>
(cond v1
(Option.bind (G.impl_isPath n a_path1) fun v2 =>
(cond v2
(Option.bind (G.impl_ValidNode n a_value1) fun v3 =>
(cond v3
(cond (((a_path1.length : Nat) : Int) == 0)
(Option.bind (G.impl_copyNode n a_value1) fun v4 =>
(some (v4, true)))
(chk (0 ≤ 0 ∧ 0 ≤ (IntKind.wrap .i64 (((a_path1.length : Nat) : Int) - 1)) ∧ (IntKind.wrap .i64 (((a_path1.length : Nat) : Int) - 1)) ≤ ((a_path1.length : Nat) : Int))
(Option.bind (G.impl_changeAt__impl_AddNode_1 n a_n1 (a_path1.take ((IntKind.wrap .i64 (((a_path1.length : Nat) : Int) - 1)).toNat)) a_path1 (IntKind.wrap .i64 (((a_path1.length : Nat) : Int) - 1)) a_value1) fun v5 =>
(Option.bind (G.impl_checked n v5.1 v5.2) fun v6 =>
(some (v6.1, v6.2))))))
(some ((NodeT.mk 0 0 [] [] []), false))))
(some ((NodeT.mk 0 0 [] [] []), false))))
(some ((NodeT.mk 0 0 [] [] []), false))))
def G.impl_findNode.L1 (f : Nat) (a_path1 : List Txt) (x_t2 : Int) (y6 : Int) (y7 : Int) (y8 : Txt) (y9 : List Txt) (y10 : List NodeT) : Option (NodeT × Bool) := match f with
| 0 => none
| n + 1 =>
(cond (decide (x_t2 < ((a_path1.length : Nat) : Int)))
(chk (0 ≤ x_t2 ∧ x_t2 < ((a_path1.length : Nat) : Int))
(Option.bind (G.impl_kidIndex n (NodeT.mk y6 y7 y8 y9 y10) (a_path1.getD x_t2.toNat default)) fun v3 =>
(cond v3.2
(chk (0 ≤ v3.1 ∧ v3.1 < ((y10.length : Nat) : Int))
(G.impl_findNode.L1 n a_path1 (IntKind.wrap .i64 (x_t2 + 1)) ((y10.getD v3.1.toNat default).Kind) ((y10.getD v3.1.toNat default).Num) ((y10.getD v3.1.toNat default).Text) ((y10.getD v3.1.toNat default).Names) ((y10.getD v3.1.toNat default).Kids)))
(some ((NodeT.mk 0 0 [] [] []), false)))))
(some ((NodeT.mk y6 y7 y8 y9 y10), true)))
def G.impl_findNode (f : Nat) (a_n1 : NodeT) (a_path1 : List Txt) : Option (NodeT × Bool) := match f with
| 0 => none
| n + 1 =>
(G.impl_findNode.L1 n a_path1 0 a_n1.Kind a_n1.Num a_n1.Text a_n1.Names a_n1.Kids)
def G.impl_NodeAt (f : Nat) (a_n1 : NodeT) (a_path1 : List Txt) : Option (NodeT × Bool) := match f with
| 0 => none
| n + 1 =>
(Option.bind (G.impl_ValidNode n a_n1) fun v1 =>
(cond v1
(Option.bind (G.impl_isPath n a_path1) fun v2 =>
(cond v2
(Option.bind (G.impl_findNode n a_n1 a_path1) fun v3 =>
(cond v3.2
(Option.bind (G.impl_copyNode n v3.1) fun v4 =>
(some (v4, true)))
(some ((NodeT.mk 0 0 [] [] []), false))))
(some ((NodeT.mk 0 0 [] [] []), false))))
(some ((NodeT.mk 0 0 [] [] []), false))))
def G.slices_Delete_impl_Node (f : Nat) (s : List NodeT) (i : Int) (j : Int) : Option (List NodeT) := match f with
| 0 => none
| _ + 1 => chk (0 ≤ i ∧ i < j ∧ j ≤ ((s.length : Nat) : Int) ∧ s.length * 86 ≤ 2 ^ 46) (some (s.take i.toNat ++ s.drop j.toNat))
def G.slices_Delete_string (f : Nat) (s : List Txt) (i : Int) (j : Int) : Option (List Txt) := match f with
| 0 => none
| _ + 1 => chk (0 ≤ i ∧ i < j ∧ j ≤ ((s.length : Nat) : Int) ∧ s.length * 18 ≤ 2 ^ 46) (some (s.take i.toNat ++ s.drop j.toNat))
def G.impl_RemoveNode_1.K1 (f : Nat) (v1 : Int × Bool) (v2 : NodeT) (z1 : List Txt) : Option (NodeT × Bool) := match f with
| 0 => none
| n + 1 =>
(Option.bind (G.slices_Delete_impl_Node n v2.Kids v1.1 (IntKind.wrap .i64 (v1.1 + 1))) fun v4 =>
(some ((NodeT.mk v2.Kind v2.Num v2.Text z1 v4), true)))
def G.impl_RemoveNode_1 (f : Nat) (a_parent1 : NodeT) (p_cap01 : List Txt) (p_cap11 : Int) : Option (NodeT × Bool) := match f with
| 0 => none
| n + 1 =>
(chk (0 ≤ p_cap11 ∧ p_cap11 < ((p_cap01.length : Nat) : Int))
(Option.bind (G.impl_kidIndex n a_parent1 (p_cap01.getD p_cap11.toNat default)) fun v1 =>
(cond v1.2
(Option.bind (G.impl_copyNode n a_parent1) fun v2 =>
(cond (a_parent1.Kind == 4)
(Option.bind (G.slices_Delete_string n v2.Names v1.1 (IntKind.wrap .i64 (v1.1 + 1))) fun v5 =>
(G.impl_RemoveNode_1.K1 n v1 v2 v5))
(G.impl_RemoveNode_1.K1 n v1 v2 v2.Names)))
(some ((NodeT.mk 0 0 [] [] []), false)))))
mutual
def G.impl_changeAt__impl_RemoveNode_1 (f : Nat) (a_n1 : NodeT) (a_path1 : List Txt) (p_cap01 : List Txt) (p_cap11 : Int) : Option (NodeT × Bool) := match f with
| 0 => none
| n + 1 =>
(cond (((a_path1.length : Nat) : Int) == 0)
(Option.bind (G.impl_RemoveNode_1 n a_n1 p_cap01 p_cap11) fun v1 =>
(some (v1.1, v1.2)))
(chk (0 ≤ 0 ∧ 0 < ((a_path1.length : Nat) : Int))
(Option.bind (G.impl_kidIndex n a_n1 (a_path1.getD 0 default)) fun v2 =>
(cond v2.2
(chk (0 ≤ v2.1 ∧ v2.1 < ((a_n1.Kids.length : Nat) : Int))
(chk (0 ≤ 1 ∧ 1 ≤ ((a_path1.length : Nat) : Int) ∧ ((a_path1.length : Nat) : Int) ≤ ((a_path1.length : Nat) : Int))
(Option.bind (G.impl_changeAt__impl_RemoveNode_1 n (a_n1.Kids.getD v2.1.toNat default) (a_path1.drop 1) p_cap01 p_cap11) fun v3 =>
(cond v3.2
(Option.bind (G.impl_copyNode n a_n1) fun v4 =>
(chk (0 ≤ v2.1 ∧ v2.1 < ((v4.Kids.length : Nat) : Int))
(some ((NodeT.mk v4.Kind v4.Num v4.Text v4.Names (v4.Kids.set v2.1.toNat v3.1)), true))))
(some ((NodeT.mk 0 0 [] [] []), false))))))
(some ((NodeT.mk 0 0 [] [] []), false))))))
end
def G.impl_RemoveNode (f : Nat) (a_n1 : NodeT) (a_path1 : List Txt) : Option (NodeT × Bool) := match f with
| 0 => none
| n + 1 =>
(Option.bind (G.impl_ValidNode n a_n1) fun v1 =>
(cond v1
(Option.bind (G.impl_isPath n a_path1) fun v2 =>
(cond v2
(cond (((a_path1.length : Nat) : Int) == 0)
(some ((NodeT.mk 0 0 [] [] []), false))
(chk (0 ≤ 0 ∧ 0 ≤ (IntKind.wrap .i64 (((a_path1.length : Nat) : Int) - 1)) ∧ (IntKind.wrap .i64 (((a_path1.length : Nat) : Int) - 1)) ≤ ((a_path1.length : Nat) : Int))
(Option.bind (G.impl_changeAt__impl_RemoveNode_1 n a_n1 (a_path1.take ((IntKind.wrap .i64 (((a_path1.length : Nat) : Int) - 1)).toNat)) a_path1 (IntKind.wrap .i64 (((a_path1.length : Nat) : Int) - 1))) fun v3 =>
(some (v3.1, v3.2)))))
(some ((NodeT.mk 0 0 [] [] []), false))))
(some ((NodeT.mk 0 0 [] [] []), false))))
def G.impl_SetNode_1 (f : Nat) (a_a1 : NodeT) (p_cap01 : NodeT) : Option (NodeT × Bool) := match f with
| 0 => none
| n + 1 =>
(Option.bind (G.impl_copyNode n p_cap01) fun v1 =>
(some (v1, true)))
mutual
def G.impl_changeAt__impl_SetNode_1 (f : Nat) (a_n1 : NodeT) (a_path1 : List Txt) (p_cap01 : NodeT) : Option (NodeT × Bool) := match f with
| 0 => none
| n + 1 =>
(cond (((a_path1.length : Nat) : Int) == 0)
(Option.bind (G.impl_SetNode_1 n a_n1 p_cap01) fun v1 =>
(some (v1.1, v1.2)))
(chk (0 ≤ 0 ∧ 0 < ((a_path1.length : Nat) : Int))
(Option.bind (G.impl_kidIndex n a_n1 (a_path1.getD 0 default)) fun v2 =>
(cond v2.2
(chk (0 ≤ v2.1 ∧ v2.1 < ((a_n1.Kids.length : Nat) : Int))
(chk (0 ≤ 1 ∧ 1 ≤ ((a_path1.length : Nat) : Int) ∧ ((a_path1.length : Nat) : Int) ≤ ((a_path1.length : Nat) : Int))
(Option.bind (G.impl_changeAt__impl_SetNode_1 n (a_n1.Kids.getD v2.1.toNat default) (a_path1.drop 1) p_cap01) fun v3 =>
(cond v3.2
(Option.bind (G.impl_copyNode n a_n1) fun v4 =>
(chk (0 ≤ v2.1 ∧ v2.1 < ((v4.Kids.length : Nat) : Int))
(some ((NodeT.mk v4.Kind v4.Num v4.Text v4.Names (v4.Kids.set v2.1.toNat v3.1)), true))))
(some ((NodeT.mk 0 0 [] [] []), false))))))
(some ((NodeT.mk 0 0 [] [] []), false))))))
end
def G.impl_SetNode (f : Nat) (a_n1 : NodeT) (a_path1 : List Txt) (a_value1 : NodeT) : Option (NodeT × Bool) := match f with
| 0 => none
| n + 1 =>
(Option.bind (G.impl_ValidNode n a_n1) fun v1 =>
(cond v1
(Option.bind (G.impl_isPath n a_path1) fun v2 =>
(cond v2
(Option.bind (G.impl_ValidNode n a_value1) fun v3 =>
(cond v3
(Option.bind (G.impl_changeAt__impl_SetNode_1 n a_n1 a_path1 a_value1) fun v4 =>
(Option.bind (G.impl_checked n v4.1 v4.2) fun v5 =>
(some (v5.1, v5.2))))
(some ((NodeT.mk 0 0 [] [] []), false))))
(some ((NodeT.mk 0 0 [] [] []), false))))
(some ((NodeT.mk 0 0 [] [] []), false))))
def G.impl_isOp (f : Nat) (a_o1 : OpT) : Option (Bool) := match f with
| 0 => none
| n + 1 =>
(cond (decide (1 ≤ a_o1.Kind))
(cond (decide (a_o1.Kind ≤ 6))
(Option.bind (G.impl_isPath n a_o1.Path) fun v1 =>
(cond v1
(Option.bind (G.impl_isPath n a_o1.From) fun v2 =>
(cond v2
(Option.bind (G.impl_ValidNode n a_o1.Value) fun v3 =>
(some (v3)))
(some (false))))
(some (false))))
(some (false)))
(some (false)))
def G.slices_Equal_string.L1 (f : Nat) (a_s11 : List Txt) (a_s21 : List Txt) (x_t2 : Int) : Option (Bool) := match f with
| 0 => none
| n + 1 =>
(cond (decide (x_t2 < ((a_s11.length : Nat) : Int)))
(chk (0 ≤ x_t2 ∧ x_t2 < ((a_s11.length : Nat) : Int))
(chk (0 ≤ x_t2 ∧ x_t2 < ((a_s21.length : Nat) : Int))
(cond ((a_s11.getD x_t2.toNat default) == (a_s21.getD x_t2.toNat default))
(G.slices_Equal_string.L1 n a_s11 a_s21 (IntKind.wrap .i64 (x_t2 + 1)))
(some (false)))))
(some (true)))
def G.slices_Equal_string (f : Nat) (a_s11 : List Txt) (a_s21 : List Txt) : Option (Bool) := match f with
| 0 => none
| n + 1 =>
(cond (((a_s11.length : Nat) : Int) != ((a_s21.length : Nat) : Int))
(some (false))
(G.slices_Equal_string.L1 n a_s11 a_s21 0))
def G.impl_moveNode (f : Nat) (a_n1 : NodeT) (a_from1 : List Txt) (a_path1 : List Txt) : Option (NodeT × Bool) := match f with
| 0 => none
| n + 1 =>
(Option.bind (G.impl_NodeAt n a_n1 a_from1) fun v1 =>
(cond v1.2
(Option.bind (G.slices_Equal_string n a_path1 a_from1) fun v2 =>
(cond v2
(Option.bind (G.impl_copyNode n a_n1) fun v3 =>
(some (v3, true)))
(cond (decide (((a_from1.length : Nat) : Int) < ((a_path1.length : Nat) : Int)))
(chk (0 ≤ 0 ∧ 0 ≤ ((a_from1.length : Nat) : Int) ∧ ((a_from1.length : Nat) : Int) ≤ ((a_path1.length : Nat) : Int))
(Option.bind (G.slices_Equal_string n (a_path1.take a_from1.length) a_from1) fun v4 =>
(cond v4
(some ((NodeT.mk 0 0 [] [] []), false))
(Option.bind (G.impl_RemoveNode n a_n1 a_from1) fun v5 =>
(cond v5.2
(Option.bind (G.impl_AddNode n v5.1 a_path1 v1.1) fun v6 =>
(some (v6.1, v6.2)))
(some ((NodeT.mk 0 0 [] [] []), false)))))))
(Option.bind (G.impl_RemoveNode n a_n1 a_from1) fun v7 =>
(cond v7.2
(Option.bind (G.impl_AddNode n v7.1 a_path1 v1.1) fun v8 =>
(some (v8.1, v8.2)))
(some ((NodeT.mk 0 0 [] [] []), false)))))))
(some ((NodeT.mk 0 0 [] [] []), false))))
def G.internal_bytealg_CompareString (f : Nat) (a_a1 : Txt) (a_b1 : Txt) : Option (Int) := match f with
| 0 => none
| n + 1 =>
(some ((Go.Lib.compareBytes a_a1 a_b1)))
def G.strings_Compare (f : Nat) (a_a1 : Txt) (a_b1 : Txt) : Option (Int) := match f with
| 0 => none
| n + 1 =>
(Option.bind (G.internal_bytealg_CompareString n a_a1 a_b1) fun v1 =>
(some (v1)))
mutual
def G.impl_compareValid.K4 (f : Nat) (a_a1 : NodeT) (a_b1 : NodeT) (x_i2 : Int) : Option (Int) := match f with
| 0 => none
| n + 1 =>
(chk (0 ≤ x_i2 ∧ x_i2 < ((a_a1.Kids.length : Nat) : Int))
(chk (0 ≤ x_i2 ∧ x_i2 < ((a_b1.Kids.length : Nat) : Int))
(Option.bind (G.impl_compareValid n (a_a1.Kids.getD x_i2.toNat default) (a_b1.Kids.getD x_i2.toNat default)) fun v11 =>
(cond (v11 != 0)
(some (v11))
(G.impl_compareValid.L3 n a_a1 a_b1 (IntKind.wrap .i64 (x_i2 + 1)))))))
def G.impl_compareValid.L3 (f : Nat) (a_a1 : NodeT) (a_b1 : NodeT) (x_i2 : Int) : Option (Int) := match f with
| 0 => none
| n + 1 =>
(cond (decide (x_i2 < ((a_a1.Kids.length : Nat) : Int)))
(cond (decide (x_i2 < ((a_b1.Kids.length : Nat) : Int)))
(cond (a_a1.Kind == 4)
(chk (0 ≤ x_i2 ∧ x_i2 < ((a_a1.Names.length : Nat) : Int))
(chk (0 ≤ x_i2 ∧ x_i2 < ((a_b1.Names.length : Nat) : Int))
(Option.bind (G.strings_Compare n (a_a1.Names.getD x_i2.toNat default) (a_b1.Names.getD x_i2.toNat default)) fun v12 =>
(cond (v12 != 0)
(some (v12))
(G.impl_compareValid.K4 n a_a1 a_b1 x_i2)))))
(G.impl_compareValid.K4 n a_a1 a_b1 x_i2))
(Option.bind (G.cmp_Compare_int n ((a_a1.Kids.length : Nat) : Int) ((a_b1.Kids.length : Nat) : Int)) fun v13 =>
(some (v13))))
(Option.bind (G.cmp_Compare_int n ((a_a1.Kids.length : Nat) : Int) ((a_b1.Kids.length : Nat) : Int)) fun v14 =>
(some (v14))))
def G.impl_compareValid (f : Nat) (a_a1 : NodeT) (a_b1 : NodeT) : Option (Int) := match f with
| 0 => none
| n + 1 =>
(Option.bind (G.cmp_Compare_int n a_a1.Kind a_b1.Kind) fun v1 =>
(cond (v1 != 0)
(some (v1))
(Option.bind (G.cmp_Compare_int n a_a1.Num a_b1.Num) fun v2 =>
(cond (v2 != 0)
(some (v2))
(Option.bind (G.strings_Compare n a_a1.Text a_b1.Text) fun v3 =>
(cond (v3 != 0)
(some (v3))
(G.impl_compareValid.L3 n a_a1 a_b1 0)))))))
end
def G.impl_sameNode (f : Nat) (a_a1 : NodeT) (a_b1 : NodeT) : Option (Bool) := match f with
| 0 => none
| n + 1 =>
(Option.bind (G.impl_compareValid n a_a1 a_b1) fun v1 =>
(some ((v1 == 0))))
def G.impl_testNode (f : Nat) (a_n1 : NodeT) (a_path1 : List Txt) (a_value1 : NodeT) : Option (NodeT × Bool) := match f with
| 0 => none
| n + 1 =>
(Option.bind (G.impl_findNode n a_n1 a_path1) fun v1 =>
(cond v1.2
(Option.bind (G.impl_sameNode n v1.1 a_value1) fun v2 =>
(cond v2
(Option.bind (G.impl_copyNode n a_n1) fun v3 =>
(some (v3, true)))
(some ((NodeT.mk 0 0 [] [] []), false))))
(some ((NodeT.mk 0 0 [] [] []), false))))
def G.impl_ApplyOp (f : Nat) (a_n1 : NodeT) (a_o1 : OpT) : Option (NodeT × Bool) := match f with
| 0 => none
| n + 1 =>
(Option.bind (G.impl_ValidNode n a_n1) fun v1 =>
(cond v1
(Option.bind (G.impl_isOp n a_o1) fun v2 =>
(cond v2
(cond (a_o1.Kind == 1)
(Option.bind (G.impl_AddNode n a_n1 a_o1.Path a_o1.Value) fun v3 =>
(some (v3.1, v3.2)))
(cond (a_o1.Kind == 2)
(Option.bind (G.impl_RemoveNode n a_n1 a_o1.Path) fun v4 =>
(some (v4.1, v4.2)))
(cond (a_o1.Kind == 3)
(Option.bind (G.impl_SetNode n a_n1 a_o1.Path a_o1.Value) fun v5 =>
(some (v5.1, v5.2)))
(cond (a_o1.Kind == 4)
(Option.bind (G.impl_moveNode n a_n1 a_o1.From a_o1.Path) fun v6 =>
(some (v6.1, v6.2)))
(cond (a_o1.Kind == 5)
(Option.bind (G.impl_NodeAt n a_n1 a_o1.From) fun v7 =>
(cond v7.2
(Option.bind (G.impl_AddNode n a_n1 a_o1.Path v7.1) fun v8 =>
(some (v8.1, v8.2)))
(some ((NodeT.mk 0 0 [] [] []), false))))
(Option.bind (G.impl_testNode n a_n1 a_o1.Path a_o1.Value) fun v9 =>
(some (v9.1, v9.2))))))))
(some ((NodeT.mk 0 0 [] [] []), false))))
(some ((NodeT.mk 0 0 [] [] []), false))))
def G.impl_arePatchOps.L1 (f : Nat) (a_list1 : List OpT) (x_t2 : Int) : Option (Bool) := match f with
| 0 => none
| n + 1 =>
(cond (decide (x_t2 < ((a_list1.length : Nat) : Int)))
(chk (0 ≤ x_t2 ∧ x_t2 < ((a_list1.length : Nat) : Int))
(Option.bind (G.impl_isOp n (OpT.mk ((a_list1.getD x_t2.toNat default).Kind) ((a_list1.getD x_t2.toNat default).Path) ((a_list1.getD x_t2.toNat default).From) ((a_list1.getD x_t2.toNat default).Value))) fun v3 =>
(cond v3
(G.impl_arePatchOps.L1 n a_list1 (IntKind.wrap .i64 (x_t2 + 1)))
(some (false)))))
(some (true)))
def G.impl_arePatchOps (f : Nat) (a_list1 : List OpT) : Option (Bool) := match f with
| 0 => none
| n + 1 =>
(cond (decide (12 < ((a_list1.length : Nat) : Int)))
(some (false))
(G.impl_arePatchOps.L1 n a_list1 0))
def G.impl_runPatch.L1 (f : Nat) (a_list1 : List OpT) (x_t2 : Int) (y6 : Int) (y7 : Int) (y8 : Txt) (y9 : List Txt) (y10 : List NodeT) : Option (NodeT × Int) := match f with
| 0 => none
| n + 1 =>
(cond (decide (x_t2 < ((a_list1.length : Nat) : Int)))
(chk (0 ≤ x_t2 ∧ x_t2 < ((a_list1.length : Nat) : Int))
(Option.bind (G.impl_ApplyOp n (NodeT.mk y6 y7 y8 y9 y10) (OpT.mk ((a_list1.getD x_t2.toNat default).Kind) ((a_list1.getD x_t2.toNat default).Path) ((a_list1.getD x_t2.toNat default).From) ((a_list1.getD x_t2.toNat default).Value))) fun v4 =>
(cond v4.2
(G.impl_runPatch.L1 n a_list1 (IntKind.wrap .i64 (x_t2 + 1)) v4.1.Kind v4.1.Num v4.1.Text v4.1.Names v4.1.Kids)
(some ((NodeT.mk 0 0 [] [] []), x_t2)))))
(some ((NodeT.mk y6 y7 y8 y9 y10), ((a_list1.length : Nat) : Int))))
def G.impl_runPatch (f : Nat) (a_n1 : NodeT) (a_list1 : List OpT) : Option (NodeT × Int) := match f with
| 0 => none
| n + 1 =>
(Option.bind (G.impl_copyNode n a_n1) fun v1 =>
(G.impl_runPatch.L1 n a_list1 0 v1.Kind v1.Num v1.Text v1.Names v1.Kids))
def G.impl_ApplyPatch (f : Nat) (a_n1 : NodeT) (a_list1 : List OpT) : Option (NodeT × Bool) := match f with
| 0 => none
| n + 1 =>
(Option.bind (G.impl_ValidNode n a_n1) fun v1 =>
(cond v1
(Option.bind (G.impl_arePatchOps n a_list1) fun v2 =>
(cond v2
(Option.bind (G.impl_runPatch n a_n1 a_list1) fun v3 =>
(some (v3.1, (v3.2 == ((a_list1.length : Nat) : Int)))))
(some ((NodeT.mk 0 0 [] [] []), false))))
(some ((NodeT.mk 0 0 [] [] []), false))))
def G.impl_copyTexts (f : Nat) (a_list1 : List Txt) : Option (List Txt) := match f with
| 0 => none
| n + 1 =>
(cond (((a_list1.length : Nat) : Int) == 0)
(some ([]))
(chk (0 ≤ ((a_list1.length : Nat) : Int) ∧ ((a_list1.length : Nat) : Int) ≤ ((a_list1.length : Nat) : Int) ∧ 16 * ((a_list1.length : Nat) : Int) ≤ 2 ^ 47 ∧ ((a_list1.length : Nat) : Int) ≤ 2 ^ 47)
(some (a_list1))))
def G.impl_differences_put (f : Nat) (p_d1 : DifferencesT) (a_kind1 : Int) (a_path1 : List Txt) (a_value1 : NodeT) : Option (DifferencesT) := match f with
| 0 => none
| n + 1 =>
(Option.bind (G.impl_copyTexts n a_path1) fun v1 =>
(Option.bind (G.impl_copyNode n a_value1) fun v2 =>
(chk ((p_d1.list.length + 1) * 145 ≤ 2 ^ 46)
(some ((DifferencesT.mk (p_d1.list ++ [(OpT.mk a_kind1 v1 [] v2)])))))))
def G.impl_stepBehind (f : Nat) (a_path1 : List Txt) (a_step1 : Txt) : Option (List Txt) := match f with
| 0 => none
| n + 1 =>
(chk (0 ≤ 0 ∧ 0 ≤ (IntKind.wrap .i64 (((a_path1.length : Nat) : Int) + 1)) ∧ 16 * (IntKind.wrap .i64 (((a_path1.length : Nat) : Int) + 1)) ≤ 2 ^ 47 ∧ (IntKind.wrap .i64 (((a_path1.length : Nat) : Int) + 1)) ≤ 2 ^ 47)
(chk (a_path1.length * 18 ≤ 2 ^ 46)
(chk ((a_path1.length + 1) * 18 ≤ 2 ^ 46)
(some ((((List.replicate 0 []) ++ a_path1) ++ [a_step1]))))))
mutual
def G.impl_differences_visit (f : Nat) (p_d1 : DifferencesT) (a_a1 : NodeT) (a_b1 : NodeT) (a_path1 : List Txt) : Option (DifferencesT) := match f with
| 0 => none
| n + 1 =>
(Option.bind (G.impl_sameNode n a_a1 a_b1) fun v1 =>
(cond v1
(some (p_d1))
(cond (a_a1.Kind == 4)
(cond (a_b1.Kind == 4)
(Option.bind (G.impl_differences_visitMaps n p_d1 a_a1 a_b1 a_path1) fun v2 =>
(some (v2)))
(cond (a_a1.Kind == 3)
(cond (a_b1.Kind == 3)
(Option.bind (G.impl_differences_visitLists n p_d1 a_a1 a_b1 a_path1) fun v3 =>
(some (v3)))
(Option.bind (G.impl_differences_put n p_d1 3 a_path1 a_b1) fun v4 =>
(some (v4))))
(Option.bind (G.impl_differences_put n p_d1 3 a_path1 a_b1) fun v5 =>
(some (v5)))))
(cond (a_a1.Kind == 3)
(cond (a_b1.Kind == 3)
(Option.bind (G.impl_differences_visitLists n p_d1 a_a1 a_b1 a_path1) fun v6 =>
(some (v6)))
(Option.bind (G.impl_differences_put n p_d1 3 a_path1 a_b1) fun v7 =>
(some (v7))))
(Option.bind (G.impl_differences_put n p_d1 3 a_path1 a_b1) fun v8 =>
(some (v8)))))))
def G.impl_differences_visitLists.L3 (f : Nat) (a_b1 : NodeT) (a_path1 : List Txt) (x_i4 : Int) (z6 : List OpT) : Option (DifferencesT) := match f with
| 0 => none
| n + 1 =>
(cond (decide (x_i4 < ((a_b1.Kids.length : Nat) : Int)))
(Option.bind (G.strconv_Itoa n x_i4) fun v25 =>
(Option.bind (G.impl_stepBehind n a_path1 v25) fun v26 =>
(chk (0 ≤ x_i4 ∧ x_i4 < ((a_b1.Kids.length : Nat) : Int))
(Option.bind (G.impl_differences_put n (DifferencesT.mk z6) 1 v26 (a_b1.Kids.getD x_i4.toNat default)) fun v27 =>
(G.impl_differences_visitLists.L3 n a_b1 a_path1 (IntKind.wrap .i64 (x_i4 + 1)) v27.list)))))
(some ((DifferencesT.mk z6))))
def G.impl_differences_visitLists.L2 (f : Nat) (a_a1 : NodeT) (a_b1 : NodeT) (a_path1 : List Txt) (x_i2 : Int) (z4 : List OpT) : Option (DifferencesT) := match f with
| 0 => none
| n + 1 =>
(cond (decide ((if ((a_b1.Kids.length : Nat) : Int) < ((a_a1.Kids.length : Nat) : Int) then ((a_b1.Kids.length : Nat) : Int) else ((a_a1.Kids.length : Nat) : Int)) ≤ x_i2))
(Option.bind (G.strconv_Itoa n x_i2) fun v16 =>
(Option.bind (G.impl_stepBehind n a_path1 v16) fun v17 =>
(Option.bind (G.impl_differences_put n (DifferencesT.mk z4) 2 v17 (NodeT.mk 0 0 [] [] [])) fun v18 =>
(G.impl_differences_visitLists.L2 n a_a1 a_b1 a_path1 (IntKind.wrap .i64 (x_i2 - 1)) v18.list))))
(G.impl_differences_visitLists.L3 n a_b1 a_path1 (if ((a_b1.Kids.length : Nat) : Int) < ((a_a1.Kids.length : Nat) : Int) then ((a_b1.Kids.length : Nat) : Int) else ((a_a1.Kids.length : Nat) : Int)) z4))
def G.impl_differences_visitLists.L1 (f : Nat) (a_a1 : NodeT) (a_b1 : NodeT) (a_path1 : List Txt) (x_t2 : Int) (z2 : List OpT) : Option (DifferencesT) := match f with
| 0 => none
| n + 1 =>
(cond (decide (x_t2 < (if ((a_b1.Kids.length : Nat) : Int) < ((a_a1.Kids.length : Nat) : Int) then ((a_b1.Kids.length : Nat) : Int) else ((a_a1.Kids.length : Nat) : Int))))
(chk (0 ≤ x_t2 ∧ x_t2 < ((a_a1.Kids.length : Nat) : Int))
(chk (0 ≤ x_t2 ∧ x_t2 < ((a_b1.Kids.length : Nat) : Int))
(Option.bind (G.strconv_Itoa n x_t2) fun v7 =>
(Option.bind (G.impl_stepBehind n a_path1 v7) fun v8 =>
(Option.bind (G.impl_differences_visit n (DifferencesT.mk z2) (a_a1.Kids.getD x_t2.toNat default) (a_b1.Kids.getD x_t2.toNat default) v8) fun v9 =>
(G.impl_differences_visitLists.L1 n a_a1 a_b1 a_path1 (IntKind.wrap .i64 (x_t2 + 1)) v9.list))))))
(G.impl_differences_visitLists.L2 n a_a1 a_b1 a_path1 (IntKind.wrap .i64 (((a_a1.Kids.length : Nat) : Int) - 1)) z2))
def G.impl_differences_visitLists (f : Nat) (p_d1 : DifferencesT) (a_a1 : NodeT) (a_b1 : NodeT) (a_path1 : List Txt) : Option (DifferencesT) := match f with
| 0 => none
| n + 1 =>
(G.impl_differences_visitLists.L1 n a_a1 a_b1 a_path1 0 p_d1.list)
def G.impl_differences_visitMaps.L2 (f : Nat) (a_a1 : NodeT) (a_b1 : NodeT) (a_path1 : List Txt) (x_t4 : Int) (z4 : List OpT) : Option (DifferencesT) := match f with
| 0 => none
| n + 1 =>
(cond (decide (x_t4 < ((a_b1.Names.length : Nat) : Int)))
(chk (0 ≤ x_t4 ∧ x_t4 < ((a_b1.Names.length : Nat) : Int))
(Option.bind (G.slices_BinarySearch_string n a_a1.Names (a_b1.Names.getD x_t4.toNat default)) fun v22 =>
(cond v22.2
(G.impl_differences_visitMaps.L2 n a_a1 a_b1 a_path1 (IntKind.wrap .i64 (x_t4 + 1)) z4)
(Option.bind (G.impl_stepBehind n a_path1 (a_b1.Names.getD x_t4.toNat default)) fun v23 =>
(chk (0 ≤ x_t4 ∧ x_t4 < ((a_b1.Kids.length : Nat) : Int))
(Option.bind (G.impl_differences_put n (DifferencesT.mk z4) 1 v23 (a_b1.Kids.getD x_t4.toNat default)) fun v24 =>
(G.impl_differences_visitMaps.L2 n a_a1 a_b1 a_path1 (IntKind.wrap .i64 (x_t4 + 1)) v24.list)))))))
(some ((DifferencesT.mk z4))))
def G.impl_differences_visitMaps.L1 (f : Nat) (a_a1 : NodeT) (a_b1 : NodeT) (a_path1 : List Txt) (x_t2 : Int) (z2 : List OpT) : Option (DifferencesT) := match f with
| 0 => none
| n + 1 =>
(cond (decide (x_t2 < ((a_a1.Names.length : Nat) : Int)))
(chk (0 ≤ x_t2 ∧ x_t2 < ((a_a1.Names.length : Nat) : Int))
(Option.bind (G.slices_BinarySearch_string n a_b1.Names (a_a1.Names.getD x_t2.toNat default)) fun v11 =>
(cond v11.2
(chk (0 ≤ x_t2 ∧ x_t2 < ((a_a1.Kids.length : Nat) : Int))
(chk (0 ≤ v11.1 ∧ v11.1 < ((a_b1.Kids.length : Nat) : Int))
(Option.bind (G.impl_stepBehind n a_path1 (a_a1.Names.getD x_t2.toNat default)) fun v12 =>
(Option.bind (G.impl_differences_visit n (DifferencesT.mk z2) (a_a1.Kids.getD x_t2.toNat default) (a_b1.Kids.getD v11.1.toNat default) v12) fun v13 =>
(G.impl_differences_visitMaps.L1 n a_a1 a_b1 a_path1 (IntKind.wrap .i64 (x_t2 + 1)) v13.list)))))
(Option.bind (G.impl_stepBehind n a_path1 (a_a1.Names.getD x_t2.toNat default)) fun v14 =>
(Option.bind (G.impl_differences_put n (DifferencesT.mk z2) 2 v14 (NodeT.mk 0 0 [] [] [])) fun v15 =>
(G.impl_differences_visitMaps.L1 n a_a1 a_b1 a_path1 (IntKind.wrap .i64 (x_t2 + 1)) v15.list))))))
(G.impl_differences_visitMaps.L2 n a_a1 a_b1 a_path1 0 z2))
def G.impl_differences_visitMaps (f : Nat) (p_d1 : DifferencesT) (a_a1 : NodeT) (a_b1 : NodeT) (a_path1 : List Txt) : Option (DifferencesT) := match f with
| 0 => none
| n + 1 =>
(G.impl_differences_visitMaps.L1 n a_a1 a_b1 a_path1 0 p_d1.list)
end
def G.impl_DiffNodes.K1 (f : Nat) (a_a1 : NodeT) (a_b1 : NodeT) : Option (List OpT × Bool) := match f with
| 0 => none
| n + 1 =>
(Option.bind (G.impl_differences_visit n (DifferencesT.mk []) a_a1 a_b1 []) fun v3 =>
(Option.bind (G.impl_ApplyPatch n a_a1 v3.list) fun v4 =>
(cond v4.2
(some (v3.list, true))
(some ([], false)))))
def G.impl_DiffNodes (f : Nat) (a_a1 : NodeT) (a_b1 : NodeT) : Option (List OpT × Bool) := match f with
| 0 => none
| n + 1 =>
(Option.bind (G.impl_ValidNode n a_a1) fun v1 =>
(cond v1
(Option.bind (G.impl_ValidNode n a_b1) fun v2 =>
(cond v2
(G.impl_DiffNodes.K1 n a_a1 a_b1)
(some ([], false))))
(some ([], false))))
def G.impl_DiffSize.K1 (f : Nat) (a_a1 : NodeT) (a_b1 : NodeT) : Option (Int) := match f with
| 0 => none
| n + 1 =>
(Option.bind (G.impl_differences_visit n (DifferencesT.mk []) a_a1 a_b1 []) fun v3 =>
(some (((v3.list.length : Nat) : Int))))
def G.impl_DiffSize (f : Nat) (a_a1 : NodeT) (a_b1 : NodeT) : Option (Int) := match f with
| 0 => none
| n + 1 =>
(Option.bind (G.impl_ValidNode n a_a1) fun v1 =>
(cond v1
(Option.bind (G.impl_ValidNode n a_b1) fun v2 =>
(cond v2
(G.impl_DiffSize.K1 n a_a1 a_b1)
(some ((-1)))))
(some ((-1)))))
def G.laws_equalTexts.L1 (f : Nat) (a_a1 : List Txt) (a_b1 : List Txt) (x_i2 : Int) : Option (Bool) := match f with
| 0 => none
| n + 1 =>
(cond (decide (x_i2 < ((a_a1.length : Nat) : Int)))
(chk (0 ≤ x_i2 ∧ x_i2 < ((a_a1.length : Nat) : Int))
(chk (0 ≤ x_i2 ∧ x_i2 < ((a_b1.length : Nat) : Int))
(cond ((a_a1.getD x_i2.toNat default) == (a_b1.getD x_i2.toNat default))
(G.laws_equalTexts.L1 n a_a1 a_b1 (IntKind.wrap .i64 (x_i2 + 1)))
(some (false)))))
(some (true)))
def G.laws_equalTexts (f : Nat) (a_a1 : List Txt) (a_b1 : List Txt) : Option (Bool) := match f with
| 0 => none
| n + 1 =>
(cond (((a_a1.length : Nat) : Int) != ((a_b1.length : Nat) : Int))
(some (false))
(G.laws_equalTexts.L1 n a_a1 a_b1 0))
mutual
def G.laws_equalNode (f : Nat) (a_a1 : NodeT) (a_b1 : NodeT) : Option (Bool) := match f with
| 0 => none
| n + 1 =>
(cond (a_a1.Kind == a_b1.Kind)
(cond (a_a1.Num == a_b1.Num)
(cond (a_a1.Text == a_b1.Text)
(Option.bind (G.laws_equalTexts n a_a1.Names a_b1.Names) fun v1 =>
(cond v1
(Option.bind (G.laws_equalNodes n a_a1.Kids a_b1.Kids) fun v2 =>
(some (v2)))
(some (false))))
(some (false)))
(some (false)))
(some (false)))
def G.laws_equalNodes.L1 (f : Nat) (a_a1 : List NodeT) (a_b1 : List NodeT) (x_i2 : Int) : Option (Bool) := match f with
| 0 => none
| n + 1 =>
(cond (decide (x_i2 < ((a_a1.length : Nat) : Int)))
(chk (0 ≤ x_i2 ∧ x_i2 < ((a_a1.length : Nat) : Int))
(chk (0 ≤ x_i2 ∧ x_i2 < ((a_b1.length : Nat) : Int))
(Option.bind (G.laws_equalNode n (a_a1.getD x_i2.toNat default) (a_b1.getD x_i2.toNat default)) fun v3 =>
(cond v3
(G.laws_equalNodes.L1 n a_a1 a_b1 (IntKind.wrap .i64 (x_i2 + 1)))
(some (false))))))
(some (true)))
def G.laws_equalNodes (f : Nat) (a_a1 : List NodeT) (a_b1 : List NodeT) : Option (Bool) := match f with
| 0 => none
| n + 1 =>
(cond (((a_a1.length : Nat) : Int) != ((a_b1.length : Nat) : Int))
(some (false))
(G.laws_equalNodes.L1 n a_a1 a_b1 0))
end
mutual
def G.spec_decimal (f : Nat) (a_n1 : Int) : Option (Txt) := match f with
| 0 => none
| n + 1 =>
(cond (decide (a_n1 < 0))
(cond (a_n1 == (IntKind.wrap .i64 (0 - a_n1)))
(some ([45, 57, 50, 50, 51, 51, 55, 50, 48, 51, 54, 56, 53, 52, 55, 55, 53, 56, 48, 56]))
(Option.bind (G.spec_decimal n (IntKind.wrap .i64 (0 - a_n1))) fun v1 =>
(chk (1 + v1.length ≤ maxLen)
(some (([45] ++ v1))))))
(cond (decide (a_n1 < 10))
(chk (1 ≤ maxLen)
(some ([UInt8.ofNat (IntKind.wrap .u8 ((IntKind.wrap .i64 (48 + a_n1)))).toNat])))
(Option.bind (G.spec_decimal n (IntKind.wrap .i64 (Int.tdiv a_n1 10))) fun v2 =>
(chk (1 ≤ maxLen)
(chk (v2.length + 1 ≤ maxLen)
(some ((v2 ++ [UInt8.ofNat (IntKind.wrap .u8 ((IntKind.wrap .i64 (48 + (Int.tmod a_n1 10))))).toNat]))))))))
end
mutual
def G.spec_copyNode.L1 (f : Nat) (a_n1 : NodeT) (x_i2 : Int) (z2 : List NodeT) : Option (NodeT) := match f with
| 0 => none
| n + 1 =>
(cond (decide (x_i2 < ((a_n1.Kids.length : Nat) : Int)))
(chk (0 ≤ x_i2 ∧ x_i2 < ((a_n1.Kids.length : Nat) : Int))
(Option.bind (G.spec_copyNode n (a_n1.Kids.getD x_i2.toNat default)) fun v3 =>
(chk ((z2.length + 1) * 86 ≤ 2 ^ 46)
(G.spec_copyNode.L1 n a_n1 (IntKind.wrap .i64 (x_i2 + 1)) (z2 ++ [v3])))))
(chk (a_n1.Names.length * 18 ≤ 2 ^ 46)
(some ((NodeT.mk a_n1.Kind a_n1.Num a_n1.Text a_n1.Names z2)))))
def G.spec_copyNode (f : Nat) (a_n1 : NodeT) : Option (NodeT) := match f with
| 0 => none
| n + 1 =>
(G.spec_copyNode.L1 n a_n1 0 [])
end
def G.spec_op (f : Nat) (a_kind1 : Int) (a_path1 : List Txt) (a_value1 : NodeT) : Option (OpT) := match f with
| 0 => none
| n + 1 =>
(Option.bind (G.spec_copyNode n a_value1) fun v1 =>
(some ((OpT.mk a_kind1 a_path1 [] v1))))
def G.spec_under.L1 (f : Nat) (a_step1 : Txt) (a_list1 : List OpT) (x_i2 : Int) (z2 : List OpT) : Option (List OpT) := match f with
| 0 => none
| n + 1 =>
(cond (decide (x_i2 < ((a_list1.length : Nat) : Int)))
(chk (0 ≤ x_i2 ∧ x_i2 < ((a_list1.length : Nat) : Int))
(chk ((1 + ((a_list1.getD x_i2.toNat default).Path).length) * 18 ≤ 2 ^ 46)
(chk (0 ≤ x_i2 ∧ x_i2 < ((a_list1.length : Nat) : Int))
(chk (0 ≤ x_i2 ∧ x_i2 < ((a_list1.length : Nat) : Int))
(chk ((z2.length + 1) * 145 ≤ 2 ^ 46)
(G.spec_under.L1 n a_step1 a_list1 (IntKind.wrap .i64 (x_i2 + 1)) (z2 ++ [(OpT.mk ((a_list1.getD x_i2.toNat default).Kind) ([a_step1] ++ (a_list1.getD x_i2.toNat default).Path) [] ((a_list1.getD x_i2.toNat default).Value))])))))))
(some (z2)))
def G.spec_under (f : Nat) (a_step1 : Txt) (a_list1 : List OpT) : Option (List OpT) := match f with
| 0 => none
| n + 1 =>
(G.spec_under.L1 n a_step1 a_list1 0 [])
def G.spec_place.L1 (f : Nat) (a_n1 : NodeT) (a_step1 : Txt) (x_i2 : Int) : Option (Int) := match f with
| 0 => none
| n + 1 =>
(cond (decide (x_i2 < ((a_n1.Kids.length : Nat) : Int)))
(cond (a_n1.Kind == 4)
(chk (0 ≤ x_i2 ∧ x_i2 < ((a_n1.Names.length : Nat) : Int))
(cond ((a_n1.Names.getD x_i2.toNat default) == a_step1)
(some (x_i2))
(cond (a_n1.Kind == 3)
(Option.bind (G.spec_decimal n x_i2) fun v5 =>
(cond (v5 == a_step1)
(some (x_i2))
(G.spec_place.L1 n a_n1 a_step1 (IntKind.wrap .i64 (x_i2 + 1)))))
(G.spec_place.L1 n a_n1 a_step1 (IntKind.wrap .i64 (x_i2 + 1))))))
(cond (a_n1.Kind == 3)
(Option.bind (G.spec_decimal n x_i2) fun v6 =>
(cond (v6 == a_step1)
(some (x_i2))
(G.spec_place.L1 n a_n1 a_step1 (IntKind.wrap .i64 (x_i2 + 1)))))
(G.spec_place.L1 n a_n1 a_step1 (IntKind.wrap .i64 (x_i2 + 1)))))
(some ((-1))))
def G.spec_place (f : Nat) (a_n1 : NodeT) (a_step1 : Txt) : Option (Int) := match f with
| 0 => none
| n + 1 =>
(G.spec_place.L1 n a_n1 a_step1 0)
def G.spec_toInt (f : Nat) (a_b1 : Bool) : Option (Int) := match f with
| 0 => none
| n + 1 =>
(cond a_b1
(some (1))
(some (0)))
def G.spec_order (f : Nat) (a_a1 : Int) (a_b1 : Int) : Option (Int) := match f with
| 0 => none
| n + 1 =>
(Option.bind (G.spec_toInt n (decide (a_b1 < a_a1))) fun v1 =>
(Option.bind (G.spec_toInt n (decide (a_a1 < a_b1))) fun v2 =>
(some ((IntKind.wrap .i64 (v1 - v2))))))
def G.spec_orderText (f : Nat) (a_a1 : Txt) (a_b1 : Txt) : Option (Int) := match f with
| 0 => none
| n + 1 =>
(cond (Op.bytesLess a_a1 a_b1)
(Option.bind (G.spec_toInt n false) fun v1 =>
(Option.bind (G.spec_toInt n true) fun v2 =>
(some ((IntKind.wrap .i64 (v1 - v2))))))
(cond (a_a1 == a_b1)
(Option.bind (G.spec_toInt n false) fun v3 =>
(Option.bind (G.spec_toInt n false) fun v4 =>
(some ((IntKind.wrap .i64 (v3 - v4))))))
(Option.bind (G.spec_toInt n true) fun v5 =>
(Option.bind (G.spec_toInt n false) fun v6 =>
(some ((IntKind.wrap .i64 (v5 - v6))))))))
mutual
def G.spec_compare.L1 (f : Nat) (a_a1 : NodeT) (a_b1 : NodeT) (x_i2 : Int) : Option (Int) := match f with
| 0 => none
| n + 1 =>
(cond (decide (x_i2 < ((a_a1.Kids.length : Nat) : Int)))
(cond (decide (x_i2 < ((a_b1.Kids.length : Nat) : Int)))
(cond (a_a1.Kind == 4)
(chk (0 ≤ x_i2 ∧ x_i2 < ((a_a1.Names.length : Nat) : Int))
(chk (0 ≤ x_i2 ∧ x_i2 < ((a_b1.Names.length : Nat) : Int))
(cond ((a_a1.Names.getD x_i2.toNat default) == (a_b1.Names.getD x_i2.toNat default))
(chk (0 ≤ x_i2 ∧ x_i2 < ((a_a1.Kids.length : Nat) : Int))
(chk (0 ≤ x_i2 ∧ x_i2 < ((a_b1.Kids.length : Nat) : Int))
(Option.bind (G.spec_compare n (a_a1.Kids.getD x_i2.toNat default) (a_b1.Kids.getD x_i2.toNat default)) fun v9 =>
(cond (v9 != 0)
(some (v9))
(G.spec_compare.L1 n a_a1 a_b1 (IntKind.wrap .i64 (x_i2 + 1)))))))
(chk (0 ≤ x_i2 ∧ x_i2 < ((a_a1.Names.length : Nat) : Int))
(chk (0 ≤ x_i2 ∧ x_i2 < ((a_b1.Names.length : Nat) : Int))
(Option.bind (G.spec_orderText n (a_a1.Names.getD x_i2.toNat default) (a_b1.Names.getD x_i2.toNat default)) fun v10 =>
(some (v10))))))))
(chk (0 ≤ x_i2 ∧ x_i2 < ((a_a1.Kids.length : Nat) : Int))
(chk (0 ≤ x_i2 ∧ x_i2 < ((a_b1.Kids.length : Nat) : Int))
(Option.bind (G.spec_compare n (a_a1.Kids.getD x_i2.toNat default) (a_b1.Kids.getD x_i2.toNat default)) fun v11 =>
(cond (v11 != 0)
(some (v11))
(G.spec_compare.L1 n a_a1 a_b1 (IntKind.wrap .i64 (x_i2 + 1))))))))
(Option.bind (G.spec_order n ((a_a1.Kids.length : Nat) : Int) ((a_b1.Kids.length : Nat) : Int)) fun v12 =>
(some (v12))))
(Option.bind (G.spec_order n ((a_a1.Kids.length : Nat) : Int) ((a_b1.Kids.length : Nat) : Int)) fun v13 =>
(some (v13))))
def G.spec_compare (f : Nat) (a_a1 : NodeT) (a_b1 : NodeT) : Option (Int) := match f with
| 0 => none
| n + 1 =>
(cond (a_a1.Kind != a_b1.Kind)
(Option.bind (G.spec_order n a_a1.Kind a_b1.Kind) fun v1 =>
(some (v1)))
(cond (a_a1.Num != a_b1.Num)
(Option.bind (G.spec_order n a_a1.Num a_b1.Num) fun v2 =>
(some (v2)))
(cond (a_a1.Text == a_b1.Text)
(G.spec_compare.L1 n a_a1 a_b1 0)
(Option.bind (G.spec_orderText n a_a1.Text a_b1.Text) fun v14 =>
(some (v14))))))
end
def G.spec_same (f : Nat) (a_a1 : NodeT) (a_b1 : NodeT) : Option (Bool) := match f with
| 0 => none
| n + 1 =>
(Option.bind (G.spec_compare n a_a1 a_b1) fun v1 =>
(some ((v1 == 0))))
mutual
def G.spec_diff (f : Nat) (a_a1 : NodeT) (a_b1 : NodeT) : Option (List OpT) := match f with
| 0 => none
| n + 1 =>
(Option.bind (G.spec_same n a_a1 a_b1) fun v1 =>
(cond v1
(some ([]))
(cond (a_a1.Kind == 4)
(cond (a_b1.Kind == 4)
(Option.bind (G.spec_diffMaps n a_a1 a_b1) fun v2 =>
(some (v2)))
(cond (a_a1.Kind == 3)
(cond (a_b1.Kind == 3)
(Option.bind (G.spec_diffLists n a_a1 a_b1) fun v3 =>
(some (v3)))
(Option.bind (G.spec_op n 3 [] a_b1) fun v4 =>
(some ([v4]))))
(Option.bind (G.spec_op n 3 [] a_b1) fun v5 =>
(some ([v5])))))
(cond (a_a1.Kind == 3)
(cond (a_b1.Kind == 3)
(Option.bind (G.spec_diffLists n a_a1 a_b1) fun v6 =>
(some (v6)))
(Option.bind (G.spec_op n 3 [] a_b1) fun v7 =>
(some ([v7]))))
(Option.bind (G.spec_op n 3 [] a_b1) fun v8 =>
(some ([v8])))))))
def G.spec_diffLists.L3 (f : Nat) (a_b1 : NodeT) (x_i6 : Int) (z6 : List OpT) : Option (List OpT) := match f with
| 0 => none
| n + 1 =>
(cond (decide (x_i6 < ((a_b1.Kids.length : Nat) : Int)))
(Option.bind (G.spec_decimal n x_i6) fun v20 =>
(chk (0 ≤ x_i6 ∧ x_i6 < ((a_b1.Kids.length : Nat) : Int))
(Option.bind (G.spec_op n 1 [v20] (a_b1.Kids.getD x_i6.toNat default)) fun v21 =>
(chk ((z6.length + 1) * 145 ≤ 2 ^ 46)
(G.spec_diffLists.L3 n a_b1 (IntKind.wrap .i64 (x_i6 + 1)) (z6 ++ [v21]))))))
(some (z6)))
def G.spec_diffLists.L2 (f : Nat) (a_a1 : NodeT) (a_b1 : NodeT) (x_i4 : Int) (z4 : List OpT) : Option (List OpT) := match f with
| 0 => none
| n + 1 =>
(cond (decide ((if ((a_b1.Kids.length : Nat) : Int) < ((a_a1.Kids.length : Nat) : Int) then ((a_b1.Kids.length : Nat) : Int) else ((a_a1.Kids.length : Nat) : Int)) ≤ x_i4))
(Option.bind (G.spec_decimal n x_i4) fun v14 =>
(Option.bind (G.spec_op n 2 [v14] (NodeT.mk 0 0 [] [] [])) fun v15 =>
(chk ((z4.length + 1) * 145 ≤ 2 ^ 46)
(G.spec_diffLists.L2 n a_a1 a_b1 (IntKind.wrap .i64 (x_i4 - 1)) (z4 ++ [v15])))))
(G.spec_diffLists.L3 n a_b1 (if ((a_b1.Kids.length : Nat) : Int) < ((a_a1.Kids.length : Nat) : Int) then ((a_b1.Kids.length : Nat) : Int) else ((a_a1.Kids.length : Nat) : Int)) z4))
def G.spec_diffLists.L1 (f : Nat) (a_a1 : NodeT) (a_b1 : NodeT) (x_i2 : Int) (z2 : List OpT) : Option (List OpT) := match f with
| 0 => none
| n + 1 =>
(cond (decide (x_i2 < (if ((a_b1.Kids.length : Nat) : Int) < ((a_a1.Kids.length : Nat) : Int) then ((a_b1.Kids.length : Nat) : Int) else ((a_a1.Kids.length : Nat) : Int))))
(Option.bind (G.spec_decimal n x_i2) fun v7 =>
(chk (0 ≤ x_i2 ∧ x_i2 < ((a_a1.Kids.length : Nat) : Int))
(chk (0 ≤ x_i2 ∧ x_i2 < ((a_b1.Kids.length : Nat) : Int))
(Option.bind (G.spec_diff n (a_a1.Kids.getD x_i2.toNat default) (a_b1.Kids.getD x_i2.toNat default)) fun v8 =>
(Option.bind (G.spec_under n v7 v8) fun v9 =>
(chk ((z2.length + v9.length) * 145 ≤ 2 ^ 46)
(G.spec_diffLists.L1 n a_a1 a_b1 (IntKind.wrap .i64 (x_i2 + 1)) (z2 ++ v9))))))))
(G.spec_diffLists.L2 n a_a1 a_b1 (IntKind.wrap .i64 (((a_a1.Kids.length : Nat) : Int) - 1)) z2))
def G.spec_diffLists (f : Nat) (a_a1 : NodeT) (a_b1 : NodeT) : Option (List OpT) := match f with
| 0 => none
| n + 1 =>
(G.spec_diffLists.L1 n a_a1 a_b1 0 [])
def G.spec_diffMaps.L2 (f : Nat) (a_a1 : NodeT) (a_b1 : NodeT) (x_k2 : Int) (z4 : List OpT) : Option (List OpT) := match f with
| 0 => none
| n + 1 =>
(cond (decide (x_k2 < ((a_b1.Kids.length : Nat) : Int)))
(chk (0 ≤ x_k2 ∧ x_k2 < ((a_b1.Names.length : Nat) : Int))
(Option.bind (G.spec_place n a_a1 (a_b1.Names.getD x_k2.toNat default)) fun v17 =>
(cond (decide (v17 < 0))
(chk (0 ≤ x_k2 ∧ x_k2 < ((a_b1.Names.length : Nat) : Int))
(chk (0 ≤ x_k2 ∧ x_k2 < ((a_b1.Kids.length : Nat) : Int))
(Option.bind (G.spec_op n 1 [(a_b1.Names.getD x_k2.toNat default)] (a_b1.Kids.getD x_k2.toNat default)) fun v18 =>
(chk ((z4.length + 1) * 145 ≤ 2 ^ 46)
(G.spec_diffMaps.L2 n a_a1 a_b1 (IntKind.wrap .i64 (x_k2 + 1)) (z4 ++ [v18]))))))
(G.spec_diffMaps.L2 n a_a1 a_b1 (IntKind.wrap .i64 (x_k2 + 1)) z4))))
(some (z4)))
def G.spec_diffMaps.L1 (f : Nat) (a_a1 : NodeT) (a_b1 : NodeT) (x_i2 : Int) (z2 : List OpT) : Option (List OpT) := match f with
| 0 => none
| n + 1 =>
(cond (decide (x_i2 < ((a_a1.Kids.length : Nat) : Int)))
(chk (0 ≤ x_i2 ∧ x_i2 < ((a_a1.Names.length : Nat) : Int))
(Option.bind (G.spec_place n a_b1 (a_a1.Names.getD x_i2.toNat default)) fun v9 =>
(cond (decide (v9 < 0))
(chk (0 ≤ x_i2 ∧ x_i2 < ((a_a1.Names.length : Nat) : Int))
(Option.bind (G.spec_op n 2 [(a_a1.Names.getD x_i2.toNat default)] (NodeT.mk 0 0 [] [] [])) fun v10 =>
(chk ((z2.length + 1) * 145 ≤ 2 ^ 46)
(G.spec_diffMaps.L1 n a_a1 a_b1 (IntKind.wrap .i64 (x_i2 + 1)) (z2 ++ [v10])))))
(chk (0 ≤ x_i2 ∧ x_i2 < ((a_a1.Names.length : Nat) : Int))
(chk (0 ≤ x_i2 ∧ x_i2 < ((a_a1.Kids.length : Nat) : Int))
(chk (0 ≤ v9 ∧ v9 < ((a_b1.Kids.length : Nat) : Int))
(Option.bind (G.spec_diff n (a_a1.Kids.getD x_i2.toNat default) (a_b1.Kids.getD v9.toNat default)) fun v11 =>
(Option.bind (G.spec_under n (a_a1.Names.getD x_i2.toNat default) v11) fun v12 =>
(chk ((z2.length + v12.length) * 145 ≤ 2 ^ 46)
(G.spec_diffMaps.L1 n a_a1 a_b1 (IntKind.wrap .i64 (x_i2 + 1)) (z2 ++ v12)))))))))))
(G.spec_diffMaps.L2 n a_a1 a_b1 0 z2))
def G.spec_diffMaps (f : Nat) (a_a1 : NodeT) (a_b1 : NodeT) : Option (List OpT) := match f with
| 0 => none
| n + 1 =>
(G.spec_diffMaps.L1 n a_a1 a_b1 0 [])
end
mutual
def G.spec_count.L1 (f : Nat) (a_n1 : NodeT) (x_k2 : Int) (x_i2 : Int) : Option (Int) := match f with
| 0 => none
| n + 1 =>
(cond (decide (x_i2 < ((a_n1.Kids.length : Nat) : Int)))
(chk (0 ≤ x_i2 ∧ x_i2 < ((a_n1.Kids.length : Nat) : Int))
(Option.bind (G.spec_count n (a_n1.Kids.getD x_i2.toNat default)) fun v3 =>
(G.spec_count.L1 n a_n1 (IntKind.wrap .i64 (x_k2 + v3)) (IntKind.wrap .i64 (x_i2 + 1)))))
(some (x_k2)))
def G.spec_count (f : Nat) (a_n1 : NodeT) : Option (Int) := match f with
| 0 => none
| n + 1 =>
(G.spec_count.L1 n a_n1 1 0)
end
def G.spec_inRange (f : Nat) (a_n1 : Int) (a_low1 : Int) (a_high1 : Int) : Option (Bool) := match f with
| 0 => none
| n + 1 =>
(cond (decide (a_low1 ≤ a_n1))
(some ((decide (a_n1 ≤ a_high1))))
(some (false)))
def G.spec_validText.L1 (f : Nat) (a_s1 : Txt) (x_i2 : Int) : Option (Bool) := match f with
| 0 => none
| n + 1 =>
(cond (decide (x_i2 < ((a_s1.length : Nat) : Int)))
(chk (0 ≤ x_i2 ∧ x_i2 < ((a_s1.length : Nat) : Int))
(Option.bind (G.spec_inRange n (IntKind.wrap .i64 ((((a_s1.getD x_i2.toNat 0).toNat : Nat) : Int))) 32 126) fun v3 =>
(cond v3
(G.spec_validText.L1 n a_s1 (IntKind.wrap .i64 (x_i2 + 1)))
(some (false)))))
(some ((decide (((a_s1.length : Nat) : Int) ≤ 12)))))
def G.spec_validText (f : Nat) (a_s1 : Txt) : Option (Bool) := match f with
| 0 => none
| n + 1 =>
(G.spec_validText.L1 n a_s1 0)
def G.spec_names.L1 (f : Nat) (a_list1 : List Txt) (x_i2 : Int) : Option (Bool) := match f with
| 0 => none
| n + 1 =>
(cond (decide (x_i2 < ((a_list1.length : Nat) : Int)))
(chk (0 ≤ x_i2 ∧ x_i2 < ((a_list1.length : Nat) : Int))
(Option.bind (G.spec_validText n (a_list1.getD x_i2.toNat default)) fun v3 =>
(cond v3
(cond (decide (0 < x_i2))
(chk (0 ≤ x_i2 ∧ x_i2 < ((a_list1.length : Nat) : Int))
(chk (0 ≤ (IntKind.wrap .i64 (x_i2 - 1)) ∧ (IntKind.wrap .i64 (x_i2 - 1)) < ((a_list1.length : Nat) : Int))
(cond (Op.bytesLess (a_list1.getD x_i2.toNat default) (a_list1.getD (IntKind.wrap .i64 (x_i2 - 1)).toNat default))
(some (false))
(cond ((a_list1.getD x_i2.toNat default) == (a_list1.getD (IntKind.wrap .i64 (x_i2 - 1)).toNat default))
(some (false))
(G.spec_names.L1 n a_list1 (IntKind.wrap .i64 (x_i2 + 1)))))))
(G.spec_names.L1 n a_list1 (IntKind.wrap .i64 (x_i2 + 1))))
(some (false)))))
(some (true)))
def G.spec_names (f : Nat) (a_list1 : List Txt) : Option (Bool) := match f with
| 0 => none
| n + 1 =>
(G.spec_names.L1 n a_list1 0)
mutual
def G.spec_kids.L1 (f : Nat) (a_n1 : NodeT) (a_depth1 : Int) (x_i2 : Int) : Option (Bool) := match f with
| 0 => none
| n + 1 =>
(cond (decide (x_i2 < ((a_n1.Kids.length : Nat) : Int)))
(chk (0 ≤ x_i2 ∧ x_i2 < ((a_n1.Kids.length : Nat) : Int))
(Option.bind (G.spec_shape n (a_n1.Kids.getD x_i2.toNat default) (IntKind.wrap .i64 (a_depth1 - 1))) fun v3 =>
(cond v3
(G.spec_kids.L1 n a_n1 a_depth1 (IntKind.wrap .i64 (x_i2 + 1)))
(some (false)))))
(some (true)))
def G.spec_kids (f : Nat) (a_n1 : NodeT) (a_depth1 : Int) : Option (Bool) := match f with
| 0 => none
| n + 1 =>
(G.spec_kids.L1 n a_n1 a_depth1 0)
def G.spec_shape.K1 (f : Nat) (a_n1 : NodeT) (a_depth1 : Int) : Option (Bool) := match f with
| 0 => none
| n + 1 =>
(cond (a_n1.Kind == 1)
(Option.bind (G.spec_inRange n a_n1.Num (-999999) 999999) fun v1 =>
(some (v1)))
(cond (a_n1.Kind == 2)
(Option.bind (G.spec_validText n a_n1.Text) fun v2 =>
(some (v2)))
(cond (a_n1.Kind == 3)
(Option.bind (G.spec_kids n a_n1 a_depth1) fun v3 =>
(some (v3)))
(cond (a_n1.Kind == 4)
(cond (((a_n1.Names.length : Nat) : Int) == ((a_n1.Kids.length : Nat) : Int))
(Option.bind (G.spec_names n a_n1.Names) fun v4 =>
(cond v4
(Option.bind (G.spec_kids n a_n1 a_depth1) fun v5 =>
(some (v5)))
(some (false))))
(some (false)))
(some ((a_n1.Kind == 0)))))))
def G.spec_shape (f : Nat) (a_n1 : NodeT) (a_depth1 : Int) : Option (Bool) := match f with
| 0 => none
| n + 1 =>
(cond (a_depth1 == 0)
(some (false))
(cond (decide (6 < ((a_n1.Kids.length : Nat) : Int)))
(some (false))
(cond (a_n1.Kind != 1)
(cond (a_n1.Num != 0)
(some (false))
(cond (a_n1.Kind != 2)
(cond (a_n1.Text == [])
(cond (a_n1.Kind != 4)
(cond (decide (0 < ((a_n1.Names.length : Nat) : Int)))
(some (false))
(cond (decide (a_n1.Kind < 3))
(cond (decide (0 < ((a_n1.Kids.length : Nat) : Int)))
(some (false))
(G.spec_shape.K1 n a_n1 a_depth1))
(G.spec_shape.K1 n a_n1 a_depth1)))
(cond (decide (a_n1.Kind < 3))
(cond (decide (0 < ((a_n1.Kids.length : Nat) : Int)))
(some (false))
(G.spec_shape.K1 n a_n1 a_depth1))
(G.spec_shape.K1 n a_n1 a_depth1)))
(some (false)))
(cond (a_n1.Kind != 4)
(cond (decide (0 < ((a_n1.Names.length : Nat) : Int)))
(some (false))
(cond (decide (a_n1.Kind < 3))
(cond (decide (0 < ((a_n1.Kids.length : Nat) : Int)))
(some (false))
(G.spec_shape.K1 n a_n1 a_depth1))
(G.spec_shape.K1 n a_n1 a_depth1)))
(cond (decide (a_n1.Kind < 3))
(cond (decide (0 < ((a_n1.Kids.length : Nat) : Int)))
(some (false))
(G.spec_shape.K1 n a_n1 a_depth1))
(G.spec_shape.K1 n a_n1 a_depth1)))))
(cond (a_n1.Kind != 2)
(cond (a_n1.Text == [])
(cond (a_n1.Kind != 4)
(cond (decide (0 < ((a_n1.Names.length : Nat) : Int)))
(some (false))
(cond (decide (a_n1.Kind < 3))
(cond (decide (0 < ((a_n1.Kids.length : Nat) : Int)))
(some (false))
(G.spec_shape.K1 n a_n1 a_depth1))
(G.spec_shape.K1 n a_n1 a_depth1)))
(cond (decide (a_n1.Kind < 3))
(cond (decide (0 < ((a_n1.Kids.length : Nat) : Int)))
(some (false))
(G.spec_shape.K1 n a_n1 a_depth1))
(G.spec_shape.K1 n a_n1 a_depth1)))
(some (false)))
(cond (a_n1.Kind != 4)
(cond (decide (0 < ((a_n1.Names.length : Nat) : Int)))
(some (false))
(cond (decide (a_n1.Kind < 3))
(cond (decide (0 < ((a_n1.Kids.length : Nat) : Int)))
(some (false))
(G.spec_shape.K1 n a_n1 a_depth1))
(G.spec_shape.K1 n a_n1 a_depth1)))
(cond (decide (a_n1.Kind < 3))
(cond (decide (0 < ((a_n1.Kids.length : Nat) : Int)))
(some (false))
(G.spec_shape.K1 n a_n1 a_depth1))
(G.spec_shape.K1 n a_n1 a_depth1)))))))
end
def G.spec_validNode (f : Nat) (a_n1 : NodeT) : Option (Bool) := match f with
| 0 => none
| n + 1 =>
(Option.bind (G.spec_shape n a_n1 5) fun v1 =>
(cond v1
(Option.bind (G.spec_count n a_n1) fun v2 =>
(some ((decide (v2 ≤ 40)))))
(some (false))))
def G.spec_DiffSize (f : Nat) (a_a1 : NodeT) (a_b1 : NodeT) : Option (Int) := match f with
| 0 => none
| n + 1 =>
(Option.bind (G.spec_validNode n a_a1) fun v1 =>
(cond v1
(Option.bind (G.spec_validNode n a_b1) fun v2 =>
(cond v2
(Option.bind (G.spec_diff n a_a1 a_b1) fun v3 =>
(some (((v3.length : Nat) : Int))))
(some ((-1)))))
(some ((-1)))))
def G.spec_reader_pick (f : Nat) (p_r1 : ReaderT) (a_n1 : Int) : Option (Int × ReaderT) := match f with
| 0 => none
| n + 1 =>
(cond (decide (a_n1 < 1))
(some (0, (ReaderT.mk p_r1.b (IntKind.wrap .i64 (p_r1.p + 1)))))
(cond (((p_r1.b.length : Nat) : Int) == 0)
(some (0, (ReaderT.mk p_r1.b (IntKind.wrap .i64 (p_r1.p + 1)))))
(cond (decide ((IntKind.wrap .i64 ((IntKind.wrap .i64 (p_r1.p + 1)) - 1)) < ((p_r1.b.length : Nat) : Int)))
(chk (0 ≤ (IntKind.wrap .i64 ((IntKind.wrap .i64 (p_r1.p + 1)) - 1)) ∧ (IntKind.wrap .i64 ((IntKind.wrap .i64 (p_r1.p + 1)) - 1)) < ((p_r1.b.length : Nat) : Int))
(chk (a_n1 ≠ 0)
(some ((Int.tmod (IntKind.wrap .i64 ((p_r1.b.getD (IntKind.wrap .i64 ((IntKind.wrap .i64 (p_r1.p + 1)) - 1)).toNat default))) a_n1), (ReaderT.mk p_r1.b (IntKind.wrap .i64 (p_r1.p + 1)))))))
(chk (((p_r1.b.length : Nat) : Int) ≠ 0)
(chk (0 ≤ (Int.tmod (IntKind.wrap .i64 ((IntKind.wrap .i64 (p_r1.p + 1)) - 1)) ((p_r1.b.length : Nat) : Int)) ∧ (Int.tmod (IntKind.wrap .i64 ((IntKind.wrap .i64 (p_r1.p + 1)) - 1)) ((p_r1.b.length : Nat) : Int)) < ((p_r1.b.length : Nat) : Int))
(chk (((p_r1.b.length : Nat) : Int) ≠ 0)
(chk (0 ≤ (Int.tmod (IntKind.wrap .i64 ((IntKind.wrap .i64 ((IntKind.wrap .i64 ((IntKind.wrap .i64 (p_r1.p + 1)) - 1)) * 7)) + 3)) ((p_r1.b.length : Nat) : Int)) ∧ (Int.tmod (IntKind.wrap .i64 ((IntKind.wrap .i64 ((IntKind.wrap .i64 ((IntKind.wrap .i64 (p_r1.p + 1)) - 1)) * 7)) + 3)) ((p_r1.b.length : Nat) : Int)) < ((p_r1.b.length : Nat) : Int))
(chk (((p_r1.b.length : Nat) : Int) ≠ 0)
(chk (a_n1 ≠ 0)
(some ((Int.tmod (IntKind.wrap .i64 (((BitVec.ofInt (IntKind.bits .i64) (IntKind.wrap .i64 ((IntKind.wrap .i64 ((IntKind.wrap .i64 ((IntKind.wrap .i64 ((IntKind.wrap .i64 ((p_r1.b.getD (Int.tmod (IntKind.wrap .i64 ((IntKind.wrap .i64 (p_r1.p + 1)) - 1)) ((p_r1.b.length : Nat) : Int)).toNat default))) * 131)) + (IntKind.wrap .i64 ((IntKind.wrap .i64 ((p_r1.b.getD (Int.tmod (IntKind.wrap .i64 ((IntKind.wrap .i64 ((IntKind.wrap .i64 ((IntKind.wrap .i64 (p_r1.p + 1)) - 1)) * 7)) + 3)) ((p_r1.b.length : Nat) : Int)).toNat default))) * 1117)))) + (IntKind.wrap .i64 ((IntKind.wrap .i64 ((IntKind.wrap .i64 (p_r1.p + 1)) - 1)) * 29)))) + (IntKind.wrap .i64 ((IntKind.wrap .i64 (Int.tdiv (IntKind.wrap .i64 ((IntKind.wrap .i64 (p_r1.p + 1)) - 1)) ((p_r1.b.length : Nat) : Int))) * 53)))) ^^^ BitVec.ofInt (IntKind.bits .i64) (IntKind.wrap .i64 (Int.tdiv (IntKind.wrap .i64 ((IntKind.wrap .i64 ((IntKind.wrap .i64 ((IntKind.wrap .i64 ((IntKind.wrap .i64 ((p_r1.b.getD (Int.tmod (IntKind.wrap .i64 ((IntKind.wrap .i64 (p_r1.p + 1)) - 1)) ((p_r1.b.length : Nat) : Int)).toNat default))) * 131)) + (IntKind.wrap .i64 ((IntKind.wrap .i64 ((p_r1.b.getD (Int.tmod (IntKind.wrap .i64 ((IntKind.wrap .i64 ((IntKind.wrap .i64 ((IntKind.wrap .i64 (p_r1.p + 1)) - 1)) * 7)) + 3)) ((p_r1.b.length : Nat) : Int)).toNat default))) * 1117)))) + (IntKind.wrap .i64 ((IntKind.wrap .i64 ((IntKind.wrap .i64 (p_r1.p + 1)) - 1)) * 29)))) + (IntKind.wrap .i64 ((IntKind.wrap .i64 (Int.tdiv (IntKind.wrap .i64 ((IntKind.wrap .i64 (p_r1.p + 1)) - 1)) ((p_r1.b.length : Nat) : Int))) * 53)))) 64))).toNat : Int))) a_n1), (ReaderT.mk p_r1.b (IntKind.wrap .i64 (p_r1.p + 1))))))))))))))
def G.spec_reader_one (f : Nat) (p_r1 : ReaderT) (a_list1 : List Int) : Option (Int × ReaderT) := match f with
| 0 => none
| n + 1 =>
(Option.bind (G.spec_reader_pick n p_r1 ((a_list1.length : Nat) : Int)) fun v1 =>
(chk (0 ≤ v1.1 ∧ v1.1 < ((a_list1.length : Nat) : Int))
(some ((a_list1.getD v1.1.toNat default), v1.2))))
def G.spec_slot.L1 (f : Nat) (a_n1 : NodeT) (a_step1 : Txt) (x_i2 : Int) : Option (Int × Bool) := match f with
| 0 => none
| n + 1 =>
(cond (a_n1.Kind == 4)
(cond (decide (x_i2 ≤ ((a_n1.Kids.length : Nat) : Int)))
(cond (x_i2 == ((a_n1.Kids.length : Nat) : Int))
(some (x_i2, false))
(chk (0 ≤ x_i2 ∧ x_i2 < ((a_n1.Names.length : Nat) : Int))
(cond (Op.bytesLess a_step1 (a_n1.Names.getD x_i2.toNat default))
(some (x_i2, false))
(G.spec_slot.L1 n a_n1 a_step1 (IntKind.wrap .i64 (x_i2 + 1))))))
(some ((-1), false)))
(some ((-1), false)))
def G.spec_slot.L2 (f : Nat) (a_n1 : NodeT) (a_step1 : Txt) (x_i4 : Int) : Option (Int × Bool) := match f with
| 0 => none
| n + 1 =>
(cond (a_n1.Kind == 4)
(cond (decide (x_i4 ≤ ((a_n1.Kids.length : Nat) : Int)))
(cond (x_i4 == ((a_n1.Kids.length : Nat) : Int))
(some (x_i4, false))
(chk (0 ≤ x_i4 ∧ x_i4 < ((a_n1.Names.length : Nat) : Int))
(cond (Op.bytesLess a_step1 (a_n1.Names.getD x_i4.toNat default))
(some (x_i4, false))
(G.spec_slot.L2 n a_n1 a_step1 (IntKind.wrap .i64 (x_i4 + 1))))))
(some ((-1), false)))
(some ((-1), false)))
def G.spec_slot (f : Nat) (a_n1 : NodeT) (a_step1 : Txt) : Option (Int × Bool) := match f with
| 0 => none
| n + 1 =>
(Option.bind (G.spec_place n a_n1 a_step1) fun v1 =>
(cond (decide (0 ≤ v1))
(some (v1, (a_n1.Kind == 4)))
(cond (a_n1.Kind == 3)
(cond (a_step1 == [45])
(some (((a_n1.Kids.length : Nat) : Int), false))
(Option.bind (G.spec_decimal n ((a_n1.Kids.length : Nat) : Int)) fun v2 =>
(cond (a_step1 == v2)
(some (((a_n1.Kids.length : Nat) : Int), false))
(G.spec_slot.L1 n a_n1 a_step1 0))))
(G.spec_slot.L2 n a_n1 a_step1 0))))
def G.spec_withKid (f : Nat) (a_n1 : NodeT) (a_k1 : Int) (a_kid1 : NodeT) : Option (NodeT) := match f with
| 0 => none
| n + 1 =>
(Option.bind (G.spec_copyNode n a_n1) fun v1 =>
(Option.bind (G.spec_copyNode n a_kid1) fun v2 =>
(chk (0 ≤ a_k1 ∧ a_k1 < ((v1.Kids.length : Nat) : Int))
(some ((NodeT.mk v1.Kind v1.Num v1.Text v1.Names (v1.Kids.set a_k1.toNat v2)))))))
def G.spec_addHere (f : Nat) (a_n1 : NodeT) (a_step1 : Txt) (a_value1 : NodeT) : Option (NodeT × Bool) := match f with
| 0 => none
| n + 1 =>
(Option.bind (G.spec_slot n a_n1 a_step1) fun v1 =>
(cond (decide (v1.1 < 0))
(some ((NodeT.mk 0 0 [] [] []), false))
(cond v1.2
(Option.bind (G.spec_withKid n a_n1 v1.1 a_value1) fun v2 =>
(some (v2, true)))
(Option.bind (G.spec_copyNode n a_n1) fun v3 =>
(chk (0 ≤ 0 ∧ 0 ≤ v1.1 ∧ v1.1 ≤ ((v3.Kids.length : Nat) : Int))
(chk (((v3.Kids.take v1.1.toNat).length) * 86 ≤ 2 ^ 46)
(Option.bind (G.spec_copyNode n a_value1) fun v4 =>
(chk (((v3.Kids.take v1.1.toNat).length + 1) * 86 ≤ 2 ^ 46)
(chk (0 ≤ v1.1 ∧ v1.1 ≤ ((v3.Kids.length : Nat) : Int) ∧ ((v3.Kids.length : Nat) : Int) ≤ ((v3.Kids.length : Nat) : Int))
(chk ((((v3.Kids.take v1.1.toNat).length + 1) + (v3.Kids.drop v1.1.toNat).length) * 86 ≤ 2 ^ 46)
(cond (a_n1.Kind == 3)
(some ((NodeT.mk a_n1.Kind 0 [] [] (((v3.Kids.take v1.1.toNat) ++ [v4]) ++ (v3.Kids.drop v1.1.toNat))), true))
(chk (0 ≤ 0 ∧ 0 ≤ v1.1 ∧ v1.1 ≤ ((v3.Names.length : Nat) : Int))
(chk (((v3.Names.take v1.1.toNat).length) * 18 ≤ 2 ^ 46)
(chk (((v3.Names.take v1.1.toNat).length + 1) * 18 ≤ 2 ^ 46)
(chk (0 ≤ v1.1 ∧ v1.1 ≤ ((v3.Names.length : Nat) : Int) ∧ ((v3.Names.length : Nat) : Int) ≤ ((v3.Names.length : Nat) : Int))
(chk ((((v3.Names.take v1.1.toNat).length + 1) + (v3.Names.drop v1.1.toNat).length) * 18 ≤ 2 ^ 46)
(some ((NodeT.mk a_n1.Kind 0 [] (((v3.Names.take v1.1.toNat) ++ [a_step1]) ++ (v3.Names.drop v1.1.toNat)) (((v3.Kids.take v1.1.toNat) ++ [v4]) ++ (v3.Kids.drop v1.1.toNat))), true))))))))))))))))))
def G.spec_reader_of (f : Nat) (p_r1 : ReaderT) (a_list1 : List Txt) : Option (Txt × ReaderT) := match f with
| 0 => none
| n + 1 =>
(Option.bind (G.spec_reader_pick n p_r1 ((a_list1.length : Nat) : Int)) fun v1 =>
(chk (0 ≤ v1.1 ∧ v1.1 < ((a_list1.length : Nat) : Int))
(some ((a_list1.getD v1.1.toNat default), v1.2))))
def G.spec_someText (f : Nat) (p_r1 : ReaderT) : Option (Txt × ReaderT) := match f with
| 0 => none
| n + 1 =>
(Option.bind (G.spec_reader_of n p_r1 [[97], [98], [], [97, 98, 99], [97, 47, 98], [126], [120, 32, 121], [34, 113, 34], [98, 97, 99, 107, 92, 115], [48], [49], [97, 98, 99, 100, 101, 102, 103, 104, 105, 106, 107, 108]]) fun v1 =>
(some (v1.1, v1.2)))
def G.spec_someName (f : Nat) (p_r1 : ReaderT) : Option (Txt × ReaderT) := match f with
| 0 => none
| n + 1 =>
(Option.bind (G.spec_reader_of n p_r1 [[97], [98], [99], [100], [97, 47, 98], [126, 120], [], [107]]) fun v1 =>
(some (v1.1, v1.2)))
mutual
def G.spec_randomMap.L1 (f : Nat) (a_depth1 : Int) (x_n2 : Int) (y8 : List Int) (y9 : Int) (y10 : Int) (y11 : Int) (y12 : Txt) (y13 : List Txt) (y14 : List NodeT) : Option (NodeT × ReaderT) := match f with
| 0 => none
| n + 1 =>
(cond (decide (0 < x_n2))
(Option.bind (G.spec_someName n (ReaderT.mk y8 y9)) fun v10 =>
(Option.bind (G.spec_randomNode n v10.2 (IntKind.wrap .i64 (a_depth1 - 1))) fun v11 =>
(Option.bind (G.spec_place n (NodeT.mk y10 y11 y12 y13 y14) v10.1) fun v12 =>
(cond (decide (v12 < 0))
(Option.bind (G.spec_addHere n (NodeT.mk y10 y11 y12 y13 y14) v10.1 v11.1) fun v13 =>
(G.spec_randomMap.L1 n a_depth1 (IntKind.wrap .i64 (x_n2 - 1)) v11.2.b v11.2.p v13.1.Kind v13.1.Num v13.1.Text v13.1.Names v13.1.Kids))
(G.spec_randomMap.L1 n a_depth1 (IntKind.wrap .i64 (x_n2 - 1)) v11.2.b v11.2.p y10 y11 y12 y13 y14)))))
(some ((NodeT.mk y10 y11 y12 y13 y14), (ReaderT.mk y8 y9))))
def G.spec_randomMap (f : Nat) (p_r1 : ReaderT) (a_depth1 : Int) : Option (NodeT × ReaderT) := match f with
| 0 => none
| n + 1 =>
(Option.bind (G.spec_reader_one n p_r1 [2, 3, 1, 0, 4]) fun v1 =>
(G.spec_randomMap.L1 n a_depth1 v1.1 v1.2.b v1.2.p 4 0 [] [] []))
def G.spec_randomNode.L2 (f : Nat) (a_depth1 : Int) (x_kind1 : Int) (x_n2 : Int) (y5 : List Int) (y6 : Int) (z2 : List NodeT) : Option (NodeT × ReaderT) := match f with
| 0 => none
| n + 1 =>
(cond (decide (0 < x_n2))
(Option.bind (G.spec_randomNode n (ReaderT.mk y5 y6) (IntKind.wrap .i64 (a_depth1 - 1))) fun v9 =>
(chk ((z2.length + 1) * 86 ≤ 2 ^ 46)
(G.spec_randomNode.L2 n a_depth1 x_kind1 (IntKind.wrap .i64 (x_n2 - 1)) v9.2.b v9.2.p (z2 ++ [v9.1]))))
(some ((NodeT.mk x_kind1 0 [] [] z2), (ReaderT.mk y5 y6))))
def G.spec_randomNode.K1 (f : Nat) (a_depth1 : Int) (x_kind1 : Int) (y1 : List Int) (y2 : Int) : Option (NodeT × ReaderT) := match f with
| 0 => none
| n + 1 =>
(cond (x_kind1 == 1)
(Option.bind (G.spec_reader_pick n (ReaderT.mk y1 y2) 250) fun v3 =>
(Option.bind (G.spec_reader_one n v3.2 [0, 1, 2, 7, (-7), 999999, (-999999), v3.1]) fun v4 =>
(some ((NodeT.mk x_kind1 v4.1 [] [] []), v4.2))))
(cond (x_kind1 == 2)
(Option.bind (G.spec_someText n (ReaderT.mk y1 y2)) fun v5 =>
(some ((NodeT.mk x_kind1 0 v5.1 [] []), v5.2)))
(cond (x_kind1 == 3)
(Option.bind (G.spec_reader_pick n (ReaderT.mk y1 y2) 4) fun v6 =>
(G.spec_randomNode.L2 n a_depth1 x_kind1 v6.1 v6.2.b v6.2.p []))
(cond (x_kind1 == 4)
(Option.bind (G.spec_randomMap n (ReaderT.mk y1 y2) a_depth1) fun v10 =>
(some (v10.1, v10.2)))
(some ((NodeT.mk 0 0 [] [] []), (ReaderT.mk y1 y2)))))))
def G.spec_randomNode (f : Nat) (p_r1 : ReaderT) (a_depth1 : Int) : Option (NodeT × ReaderT) := match f with
| 0 => none
| n + 1 =>
(Option.bind (G.spec_reader_pick n p_r1 5) fun v1 =>
(cond (decide (a_depth1 ≤ 1))
(Option.bind (G.spec_reader_pick n v1.2 3) fun v11 =>
(G.spec_randomNode.K1 n a_depth1 v11.1 v11.2.b v11.2.p))
(G.spec_randomNode.K1 n a_depth1 v1.1 v1.2.b v1.2.p)))
end
def G.spec_someNode.K1 (f : Nat) (y1 : List Int) (y2 : Int) (y3 : Int) (y4 : Int) (y5 : Txt) (y6 : List Txt) (y7 : List NodeT) : Option (NodeT × ReaderT) := match f with
| 0 => none
| n + 1 =>
(Option.bind (G.spec_validNode n (NodeT.mk y3 y4 y5 y6 y7)) fun v4 =>
(cond v4
(some ((NodeT.mk y3 y4 y5 y6 y7), (ReaderT.mk y1 y2)))
(some ((NodeT.mk 0 0 [] [] []), (ReaderT.mk y1 y2)))))
def G.spec_someNode (f : Nat) (p_r1 : ReaderT) : Option (NodeT × ReaderT) := match f with
| 0 => none
| n + 1 =>
(Option.bind (G.spec_randomNode n p_r1 3) fun v1 =>
(Option.bind (G.spec_reader_pick n v1.2 3) fun v5 =>
(cond (decide (0 < v5.1))
(Option.bind (G.spec_randomMap n v5.2 3) fun v6 =>
(G.spec_someNode.K1 n v6.2.b v6.2.p v6.1.Kind v6.1.Num v6.1.Text v6.1.Names v6.1.Kids))
(G.spec_someNode.K1 n v5.2.b v5.2.p v1.1.Kind v1.1.Num v1.1.Text v1.1.Names v1.1.Kids))))
def G.spec_anyNode.L1 (f : Nat) (v1 : NodeT × ReaderT) (x_i2 : Int) (y3 : List Int) (y4 : Int) (z2 : List NodeT) : Option (NodeT × ReaderT) := match f with
| 0 => none
| n + 1 =>
(Option.bind (G.spec_reader_pick n (ReaderT.mk y3 y4) 2) fun v9 =>
(cond (decide (x_i2 < (IntKind.wrap .i64 (6 + v9.1))))
(Option.bind (G.spec_copyNode n v1.1) fun v10 =>
(chk ((z2.length + 1) * 86 ≤ 2 ^ 46)
(G.spec_anyNode.L1 n v1 (IntKind.wrap .i64 (x_i2 + 1)) v9.2.b v9.2.p (z2 ++ [v10]))))
(some ((NodeT.mk 3 0 [] [] z2), v9.2))))
def G.spec_anyNode (f : Nat) (p_r1 : ReaderT) : Option (NodeT × ReaderT) := match f with
| 0 => none
| n + 1 =>
(Option.bind (G.spec_someNode n p_r1) fun v1 =>
(Option.bind (G.spec_reader_pick n v1.2 40) fun v2 =>
(cond (v2.1 == 0)
(Option.bind (G.spec_reader_one n v2.2 [(-1), 5, 0, 3]) fun v3 =>
(some ((NodeT.mk v3.1 v1.1.Num v1.1.Text v1.1.Names v1.1.Kids), v3.2)))
(cond (v2.1 == 1)
(Option.bind (G.spec_reader_one n v2.2 [1, 1000000]) fun v4 =>
(some ((NodeT.mk v1.1.Kind v4.1 v1.1.Text v1.1.Names v1.1.Kids), v4.2)))
(cond (v2.1 == 2)
(some ((NodeT.mk v1.1.Kind v1.1.Num [97, 98, 99, 100, 101, 102, 103, 104, 105, 106, 107, 108, 109] v1.1.Names v1.1.Kids), v2.2))
(cond (v2.1 == 3)
(chk ((v1.1.Names.length + 1) * 18 ≤ 2 ^ 46)
(some ((NodeT.mk v1.1.Kind v1.1.Num v1.1.Text (v1.1.Names ++ [[]]) v1.1.Kids), v2.2)))
(cond (v2.1 == 4)
(some ((NodeT.mk 3 0 [] [] [(NodeT.mk 3 0 [] [] [(NodeT.mk 3 0 [] [] [(NodeT.mk 3 0 [] [] [v1.1])])])]), v2.2))
(cond (v2.1 == 5)
(G.spec_anyNode.L1 n v1 0 v2.2.b v2.2.p [])
(some (v1.1, v2.2))))))))))
def G.spec_at.L1 (f : Nat) (a_path1 : List Txt) (x_i2 : Int) (y6 : Int) (y7 : Int) (y8 : Txt) (y9 : List Txt) (y10 : List NodeT) : Option (NodeT × Bool) := match f with
| 0 => none
| n + 1 =>
(cond (decide (x_i2 < ((a_path1.length : Nat) : Int)))
(chk (0 ≤ x_i2 ∧ x_i2 < ((a_path1.length : Nat) : Int))
(Option.bind (G.spec_place n (NodeT.mk y6 y7 y8 y9 y10) (a_path1.getD x_i2.toNat default)) fun v3 =>
(cond (decide (v3 < 0))
(some ((NodeT.mk 0 0 [] [] []), false))
(chk (0 ≤ v3 ∧ v3 < ((y10.length : Nat) : Int))
(G.spec_at.L1 n a_path1 (IntKind.wrap .i64 (x_i2 + 1)) ((y10.getD v3.toNat default).Kind) ((y10.getD v3.toNat default).Num) ((y10.getD v3.toNat default).Text) ((y10.getD v3.toNat default).Names) ((y10.getD v3.toNat default).Kids))))))
(Option.bind (G.spec_copyNode n (NodeT.mk y6 y7 y8 y9 y10)) fun v4 =>
(some (v4, true))))
def G.spec_at (f : Nat) (a_n1 : NodeT) (a_path1 : List Txt) : Option (NodeT × Bool) := match f with
| 0 => none
| n + 1 =>
(G.spec_at.L1 n a_path1 0 a_n1.Kind a_n1.Num a_n1.Text a_n1.Names a_n1.Kids)
mutual
def G.spec_setAt (f : Nat) (a_n1 : NodeT) (a_path1 : List Txt) (a_value1 : NodeT) : Option (NodeT × Bool) := match f with
| 0 => none
| n + 1 =>
(cond (((a_path1.length : Nat) : Int) == 0)
(Option.bind (G.spec_copyNode n a_value1) fun v1 =>
(some (v1, true)))
(chk (0 ≤ 0 ∧ 0 < ((a_path1.length : Nat) : Int))
(Option.bind (G.spec_place n a_n1 (a_path1.getD 0 default)) fun v2 =>
(cond (decide (v2 < 0))
(some ((NodeT.mk 0 0 [] [] []), false))
(chk (0 ≤ v2 ∧ v2 < ((a_n1.Kids.length : Nat) : Int))
(chk (0 ≤ 1 ∧ 1 ≤ ((a_path1.length : Nat) : Int) ∧ ((a_path1.length : Nat) : Int) ≤ ((a_path1.length : Nat) : Int))
(Option.bind (G.spec_setAt n (a_n1.Kids.getD v2.toNat default) (a_path1.drop 1) a_value1) fun v3 =>
(cond v3.2
(Option.bind (G.spec_withKid n a_n1 v2 v3.1) fun v4 =>
(some (v4, true)))
(some ((NodeT.mk 0 0 [] [] []), false))))))))))
end
def G.spec_addAt (f : Nat) (a_n1 : NodeT) (a_path1 : List Txt) (a_value1 : NodeT) : Option (NodeT × Bool) := match f with
| 0 => none
| n + 1 =>
(cond (((a_path1.length : Nat) : Int) == 0)
(Option.bind (G.spec_copyNode n a_value1) fun v1 =>
(some (v1, true)))
(chk (0 ≤ 0 ∧ 0 ≤ (IntKind.wrap .i64 (((a_path1.length : Nat) : Int) - 1)) ∧ (IntKind.wrap .i64 (((a_path1.length : Nat) : Int) - 1)) ≤ ((a_path1.length : Nat) : Int))
(Option.bind (G.spec_at n a_n1 (a_path1.take ((IntKind.wrap .i64 (((a_path1.length : Nat) : Int) - 1)).toNat))) fun v2 =>
(cond v2.2
(chk (0 ≤ (IntKind.wrap .i64 (((a_path1.length : Nat) : Int) - 1)) ∧ (IntKind.wrap .i64 (((a_path1.length : Nat) : Int) - 1)) < ((a_path1.length : Nat) : Int))
(Option.bind (G.spec_addHere n v2.1 (a_path1.getD (IntKind.wrap .i64 (((a_path1.length : Nat) : Int) - 1)).toNat default) a_value1) fun v3 =>
(cond v3.2
(chk (0 ≤ 0 ∧ 0 ≤ (IntKind.wrap .i64 (((a_path1.length : Nat) : Int) - 1)) ∧ (IntKind.wrap .i64 (((a_path1.length : Nat) : Int) - 1)) ≤ ((a_path1.length : Nat) : Int))
(Option.bind (G.spec_setAt n a_n1 (a_path1.take ((IntKind.wrap .i64 (((a_path1.length : Nat) : Int) - 1)).toNat)) v3.1) fun v4 =>
(some (v4.1, v4.2))))
(some ((NodeT.mk 0 0 [] [] []), false)))))
(some ((NodeT.mk 0 0 [] [] []), false))))))
mutual
def G.spec_all.L7 (f : Nat) (a_n1 : NodeT) (x_i2 : Int) (x_step3 : Txt) (v6 : List (List Txt)) (x_k6 : Int) (z8 : List (List Txt)) : Option (List (List Txt)) := match f with
| 0 => none
| n + 1 =>
(cond (decide (x_k6 < ((v6.length : Nat) : Int)))
(chk (0 ≤ x_k6 ∧ x_k6 < ((v6.length : Nat) : Int))
(chk ((1 + (v6.getD x_k6.toNat default).length) * 18 ≤ 2 ^ 46)
(chk ((z8.length + 1) * 26 ≤ 2 ^ 46)
(G.spec_all.L7 n a_n1 x_i2 x_step3 v6 (IntKind.wrap .i64 (x_k6 + 1)) (z8 ++ [([x_step3] ++ (v6.getD x_k6.toNat default))])))))
(G.spec_all.L5 n a_n1 (IntKind.wrap .i64 (x_i2 + 1)) z8))
def G.spec_all.K6 (f : Nat) (a_n1 : NodeT) (x_i2 : Int) (z6 : List (List Txt)) (x_step3 : Txt) : Option (List (List Txt)) := match f with
| 0 => none
| n + 1 =>
(chk (0 ≤ x_i2 ∧ x_i2 < ((a_n1.Kids.length : Nat) : Int))
(Option.bind (G.spec_all n (a_n1.Kids.getD x_i2.toNat default)) fun v6 =>
(G.spec_all.L7 n a_n1 x_i2 x_step3 v6 0 z6)))
def G.spec_all.L5 (f : Nat) (a_n1 : NodeT) (x_i2 : Int) (z6 : List (List Txt)) : Option (List (List Txt)) := match f with
| 0 => none
| n + 1 =>
(cond (decide (x_i2 < ((a_n1.Kids.length : Nat) : Int)))
(Option.bind (G.spec_decimal n x_i2) fun v5 =>
(cond (a_n1.Kind == 4)
(chk (0 ≤ x_i2 ∧ x_i2 < ((a_n1.Names.length : Nat) : Int))
(G.spec_all.K6 n a_n1 x_i2 z6 (a_n1.Names.getD x_i2.toNat default)))
(G.spec_all.K6 n a_n1 x_i2 z6 v5)))
(some (z6)))
def G.spec_all (f : Nat) (a_n1 : NodeT) : Option (List (List Txt)) := match f with
| 0 => none
| n + 1 =>
(G.spec_all.L5 n a_n1 0 [[]])
end
def G.spec_removeAt.K1 (f : Nat) (a_n1 : NodeT) (a_path1 : List Txt) (v1 : NodeT × Bool) (z1 : List NodeT) (z2 : List Txt) : Option (NodeT × Bool) := match f with
| 0 => none
| n + 1 =>
(chk (0 ≤ 0 ∧ 0 ≤ (IntKind.wrap .i64 (((a_path1.length : Nat) : Int) - 1)) ∧ (IntKind.wrap .i64 (((a_path1.length : Nat) : Int) - 1)) ≤ ((a_path1.length : Nat) : Int))
(Option.bind (G.spec_setAt n a_n1 (a_path1.take ((IntKind.wrap .i64 (((a_path1.length : Nat) : Int) - 1)).toNat)) (NodeT.mk v1.1.Kind 0 [] z2 z1)) fun v3 =>
(some (v3.1, v3.2))))
def G.spec_removeAt (f : Nat) (a_n1 : NodeT) (a_path1 : List Txt) : Option (NodeT × Bool) := match f with
| 0 => none
| n + 1 =>
(cond (decide ((IntKind.wrap .i64 (((a_path1.length : Nat) : Int) - 1)) < 0))
(some ((NodeT.mk 0 0 [] [] []), false))
(chk (0 ≤ 0 ∧ 0 ≤ (IntKind.wrap .i64 (((a_path1.length : Nat) : Int) - 1)) ∧ (IntKind.wrap .i64 (((a_path1.length : Nat) : Int) - 1)) ≤ ((a_path1.length : Nat) : Int))
(Option.bind (G.spec_at n a_n1 (a_path1.take ((IntKind.wrap .i64 (((a_path1.length : Nat) : Int) - 1)).toNat))) fun v1 =>
(cond v1.2
(chk (0 ≤ (IntKind.wrap .i64 (((a_path1.length : Nat) : Int) - 1)) ∧ (IntKind.wrap .i64 (((a_path1.length : Nat) : Int) - 1)) < ((a_path1.length : Nat) : Int))
(Option.bind (G.spec_place n v1.1 (a_path1.getD (IntKind.wrap .i64 (((a_path1.length : Nat) : Int) - 1)).toNat default)) fun v2 =>
(cond (decide (v2 < 0))
(some ((NodeT.mk 0 0 [] [] []), false))
(chk (0 ≤ 0 ∧ 0 ≤ v2 ∧ v2 ≤ ((v1.1.Kids.length : Nat) : Int))
(chk (((v1.1.Kids.take v2.toNat).length) * 86 ≤ 2 ^ 46)
(chk (0 ≤ (IntKind.wrap .i64 (v2 + 1)) ∧ (IntKind.wrap .i64 (v2 + 1)) ≤ ((v1.1.Kids.length : Nat) : Int) ∧ ((v1.1.Kids.length : Nat) : Int) ≤ ((v1.1.Kids.length : Nat) : Int))
(chk (((v1.1.Kids.take v2.toNat).length + (v1.1.Kids.drop ((IntKind.wrap .i64 (v2 + 1)).toNat)).length) * 86 ≤ 2 ^ 46)
(cond (v1.1.Kind == 4)
(chk (0 ≤ 0 ∧ 0 ≤ v2 ∧ v2 ≤ ((v1.1.Names.length : Nat) : Int))
(chk (((v1.1.Names.take v2.toNat).length) * 18 ≤ 2 ^ 46)
(chk (0 ≤ (IntKind.wrap .i64 (v2 + 1)) ∧ (IntKind.wrap .i64 (v2 + 1)) ≤ ((v1.1.Names.length : Nat) : Int) ∧ ((v1.1.Names.length : Nat) : Int) ≤ ((v1.1.Names.length : Nat) : Int))
(chk (((v1.1.Names.take v2.toNat).length + (v1.1.Names.drop ((IntKind.wrap .i64 (v2 + 1)).toNat)).length) * 18 ≤ 2 ^ 46)
(G.spec_removeAt.K1 n a_n1 a_path1 v1 ((v1.1.Kids.take v2.toNat) ++ (v1.1.Kids.drop ((IntKind.wrap .i64 (v2 + 1)).toNat))) ((v1.1.Names.take v2.toNat) ++ (v1.1.Names.drop ((IntKind.wrap .i64 (v2 + 1)).toNat))))))))
(G.spec_removeAt.K1 n a_n1 a_path1 v1 ((v1.1.Kids.take v2.toNat) ++ (v1.1.Kids.drop ((IntKind.wrap .i64 (v2 + 1)).toNat))) [])))))))))
(some ((NodeT.mk 0 0 [] [] []), false))))))
def G.spec_nearNode.K1 (f : Nat) (a_n1 : NodeT) (x_ok1 : Bool) (y1 : List Int) (y2 : Int) (y3 : Int) (y4 : Int) (y5 : Txt) (y6 : List Txt) (y7 : List NodeT) : Option (NodeT × ReaderT) := match f with
| 0 => none
| n + 1 =>
(cond x_ok1
(Option.bind (G.spec_validNode n (NodeT.mk y3 y4 y5 y6 y7)) fun v12 =>
(cond v12
(some ((NodeT.mk y3 y4 y5 y6 y7), (ReaderT.mk y1 y2)))
(Option.bind (G.spec_copyNode n a_n1) fun v13 =>
(some (v13, (ReaderT.mk y1 y2))))))
(Option.bind (G.spec_copyNode n a_n1) fun v14 =>
(some (v14, (ReaderT.mk y1 y2)))))
def G.spec_nearNode (f : Nat) (p_r1 : ReaderT) (a_n1 : NodeT) : Option (NodeT × ReaderT) := match f with
| 0 => none
| n + 1 =>
(Option.bind (G.spec_all n a_n1) fun v1 =>
(Option.bind (G.spec_reader_pick n p_r1 ((v1.length : Nat) : Int)) fun v2 =>
(chk (0 ≤ v2.1 ∧ v2.1 < ((v1.length : Nat) : Int))
(Option.bind (G.spec_copyNode n a_n1) fun v3 =>
(Option.bind (G.spec_reader_pick n v2.2 5) fun v15 =>
(cond (v15.1 == 0)
(Option.bind (G.spec_removeAt n a_n1 (v1.getD v2.1.toNat default)) fun v16 =>
(G.spec_nearNode.K1 n a_n1 v16.2 v15.2.b v15.2.p v16.1.Kind v16.1.Num v16.1.Text v16.1.Names v16.1.Kids))
(cond (v15.1 == 1)
(chk (((v1.getD v2.1.toNat default).length) * 18 ≤ 2 ^ 46)
(Option.bind (G.spec_reader_of n v15.2 [[97], [48], [45], [122]]) fun v17 =>
(chk (((v1.getD v2.1.toNat default).length + 1) * 18 ≤ 2 ^ 46)
(Option.bind (G.spec_randomNode n v17.2 2) fun v18 =>
(Option.bind (G.spec_addAt n a_n1 ((v1.getD v2.1.toNat default) ++ [v17.1]) v18.1) fun v19 =>
(G.spec_nearNode.K1 n a_n1 v19.2 v18.2.b v18.2.p v19.1.Kind v19.1.Num v19.1.Text v19.1.Names v19.1.Kids))))))
(cond (v15.1 == 2)
(Option.bind (G.spec_randomNode n v15.2 2) fun v20 =>
(Option.bind (G.spec_setAt n a_n1 (v1.getD v2.1.toNat default) v20.1) fun v21 =>
(G.spec_nearNode.K1 n a_n1 v21.2 v20.2.b v20.2.p v21.1.Kind v21.1.Num v21.1.Text v21.1.Names v21.1.Kids)))
(cond (v15.1 == 3)
(Option.bind (G.spec_someNode n v15.2) fun v22 =>
(some (v22.1, v22.2)))
(G.spec_nearNode.K1 n a_n1 true v15.2.b v15.2.p v3.Kind v3.Num v3.Text v3.Names v3.Kids))))))))))
def G.spec_anyPair (f : Nat) (p_r1 : ReaderT) : Option (NodeT × NodeT × ReaderT) := match f with
| 0 => none
| n + 1 =>
(Option.bind (G.spec_anyNode n p_r1) fun v1 =>
(Option.bind (G.spec_validNode n v1.1) fun v2 =>
(cond v2
(Option.bind (G.spec_reader_pick n v1.2 3) fun v3 =>
(cond (decide (0 < v3.1))
(Option.bind (G.spec_nearNode n v3.2 v1.1) fun v4 =>
(some (v1.1, v4.1, v4.2)))
(Option.bind (G.spec_anyNode n v3.2) fun v5 =>
(some (v1.1, v5.1, v5.2)))))
(Option.bind (G.spec_anyNode n v1.2) fun v6 =>
(some (v1.1, v6.1, v6.2))))))
def G.spec_newReader (f : Nat) (a_code1 : List Int) : Option (ReaderT) := match f with
| 0 => none
| n + 1 =>
(cond (decide (2000 < ((a_code1.length : Nat) : Int)))
(chk (0 ≤ 0 ∧ 0 ≤ 2000 ∧ 2000 ≤ ((a_code1.length : Nat) : Int))
(some ((ReaderT.mk (a_code1.take 2000) 0))))
(some ((ReaderT.mk a_code1 0))))
def G.spec_DrawDiffSize (f : Nat) (a_code1 : List Int) : Option (NodeT × NodeT) := match f with
| 0 => none
| n + 1 =>
(Option.bind (G.spec_newReader n a_code1) fun v1 =>
(Option.bind (G.spec_anyPair n v1) fun v2 =>
(some (v2.1, v2.2.1))))
def G.laws_FnDiffSize (f : Nat) (a_code1 : List Int) : Option (Bool) := match f with
| 0 => none
| n + 1 =>
(cond (decide (1048576 < ((a_code1.length : Nat) : Int)))
(some (true))
(Option.bind (G.spec_DrawDiffSize n a_code1) fun v1 =>
(Option.bind (G.impl_DiffSize n v1.1 v1.2) fun v2 =>
(Option.bind (G.spec_DiffSize n v1.1 v1.2) fun v3 =>
(cond (v2 != v3)
(Option.bind (G.spec_DiffSize n v1.1 v1.2) fun v4 =>
(some ((v2 == v4))))
(cond (decide (v2 < 0))
(Option.bind (G.spec_DiffSize n v1.1 v1.2) fun v5 =>
(some ((v2 == v5))))
(Option.bind (G.impl_DiffNodes n v1.1 v1.2) fun v6 =>
(cond v6.2
(cond (((v6.1.length : Nat) : Int) == v2)
(Option.bind (G.laws_equalNode n v1.1 v1.2) fun v7 =>
(cond (v2 == 0)
(cond v7
(some (true))
(some (false)))
(cond v7
(some (false))
(some (true)))))
(some (false)))
(Option.bind (G.laws_equalNode n v1.1 v1.2) fun v8 =>
(cond (v2 == 0)
(cond v8
(some (true))
(some (false)))
(cond v8
(some (false))
(some (true)))))))))))))
end Go.Ab
end
section
namespace Go.Ab
open Go
set_option maxRecDepth 100000
set_option linter.defProp false
theorem mapTakeS {α β : Type} (f : α → β) (l : List α) (n : Nat) : List.take n (List.map f l) = List.map f (List.take n l) := List.map_take.symm
theorem mapDropS {α β : Type} (f : α → β) (l : List α) (n : Nat) : List.drop n (List.map f l) = List.map f (List.drop n l) := List.map_drop.symm
theorem kq1 {i : Int} {m : Nat} [inst : Decidable (0 ≤ i ∧ i < (m : Int))] {α : Type} {k : Option α} {r : α} (h : chk (0 ≤ i ∧ i < (m : Int)) k = some r) : (0 ≤ i ∧ i < (m : Int)) ∧ i.toNat < m ∧ k = some r := by
  obtain ⟨h1, h2⟩ := chk_some.1 h
  exact ⟨h1, by omega, h2⟩
inductive Mk : Nat → Prop
  | mk (n : Nat) : Mk n
theorem kq0 {m : Nat} [inst : Decidable ((0 : Nat) ≤ 0 ∧ (0 : Int) < (m : Int))] {α : Type} {k : Option α} {r : α} (h : chk ((0 : Nat) ≤ 0 ∧ (0 : Int) < (m : Int)) k = some r) : (0 : Int) < (m : Int) ∧ 0 < m ∧ k = some r := by
  obtain ⟨h1, h2⟩ := chk_some.1 h
  exact ⟨h1.2, by omega, h2⟩
theorem kq {c : Prop} [Decidable c] {α : Type} {k : Option α} {r : α} (h : chk c k = some r) : c ∧ k = some r := chk_some.1 h
theorem bq {α β : Type} {x : Option α} {f : α → Option β} {r : β} (h : Option.bind x f = some r) : ∃ a, x = some a ∧ f a = some r := Option.bind_eq_some_iff.1 h
section
variable {P : Program} {Q : AQ} {st : ASt}
theorem isCall {f : FuncId} {avs : List AV} {p : Bool} {d : Option Nat} {K : List Nat → List Nat → ASt → Prop} {du : DU K} (k : TCallK P f avs p d st K du) : TCallK P f avs p d st K du := k
theorem isLoop {a : AQ → ASt → Prop} {d1 : DU a} {d2 : DU Q} (k : WLoopK a Q st d1 d2) : WLoopK a Q st d1 d2 := k
theorem isCut {a b : AQ → ASt → Prop} {d1 : DU a} {d2 : DU b} {d3 : DU Q} (k : WCutK a b Q st d1 d2 d3) : WCutK a b Q st d1 d2 d3 := k
theorem isEx {X : Type} {p : X → Prop} (k : ∃ x, p x) : ∃ x, p x := k
theorem isEnd {rs : List ARes} {r : AV} (k : PEnd rs r st) : PEnd rs r st := k
theorem isRet {rs : List ARes} {m : Nat} {post : AV → List Box → Prop} (k : RetOK rs m post st) : RetOK rs m post st := k
end
theorem sq {α : Type} {x r : α} (h : some x = some r) : r = x := (Option.some.inj h).symm
theorem cq {b : Bool} {α : Type} {x y : Option α} {r : α} (h : cond b x y = some r) : (b = true ∧ x = some r) ∨ (b = false ∧ y = some r) := cond_some.1 h
def egD := And.intro @wpCK_skip (And.intro @wpCK_reg (And.intro @wpCK_regD (And.intro @wpCK_seq (And.intro @wpCK_cut (And.intro @wpCK_loop (And.intro @wpCK_block (And.intro @wpCK_exit (And.intro @wpCK_ret (And.intro @wpCK_cond (And.intro @condK_t (And.intro @condK_f (And.intro @QK_then_n (And.intro @QK_then_e (And.intro @QK_then_r (And.intro @QK_next_n (And.intro @QK_next_e (And.intro @QK_next_r (And.intro @QK_block_n (And.intro @QK_block_e (And.intro @QK_block_r (And.intro @QK_QP_n (And.intro @QK_QP_r (And.intro @QK_QF_n (And.intro @QK_QF_r (And.intro @wpOpsK_nil (And.intro @wpOpsK_cons (And.intro @wpDK_nil (And.intro @wpDK_cons (And.intro @TK_op' (And.intro @TGK_t (And.intro @TGK_f (And.intro @TOpV_m (And.intro @TK_call (And.intro @TK_callv (And.intro @TCallV_eq (And.intro @slots0.eq_1 (And.intro @slots0.eq_2 (And.intro @boxes0.eq_1 (And.intro @boxes0.eq_2 (And.intro @st0.eq_1 (And.intro @guardVC.eq_1 (And.intro @guardVC.eq_2 (And.intro @guardV.eq_1 (And.intro @guardV.eq_2 (And.intro @AOp.valid.eq_1 (And.intro @AOp.valid.eq_2 (And.intro @avOf.eq_1 (And.intro @ev_t (And.intro @ev_k (And.intro @g_v (And.intro @x_v (And.intro @of_tm (And.intro @of_bx (And.intro @of_put (And.intro @of_setb (And.intro @of_keep (And.intro @lookT.eq_1 (And.intro @lookT.eq_2 (And.intro @lookB.eq_1 (And.intro @lookB.eq_2 (And.intro @keepL.eq_1 (And.intro @keepL.eq_2 (And.intro @setB.eq_1 (And.intro @setB.eq_2 (And.intro @putO_none (And.intro @putO_some (And.intro @setbs_nil (And.intro @setbs_cons (And.intro @FR.ok.eq_1 (And.intro @binV.eq_1 (And.intro @binV.eq_2 (And.intro @binV.eq_3 (And.intro @AV.flat.eq_1 (And.intro @AV.flat.eq_2 (And.intro @AV.cells.eq_1 (And.intro @AV.cells.eq_2 (And.intro @AV.cells.eq_3 (And.intro @loadV.eq_1 (And.intro @loadV.eq_2 (And.intro @loadV.eq_3 (And.intro @loadV.eq_4 (And.intro @partOK.eq_1 (And.intro @fillV.eq_1 (And.intro @fillV.eq_2 (And.intro @splice.eq_1 (And.intro @Box.arr.eq_1 (And.intro @Box.arr.eq_2 (And.intro @Box.arr.eq_3 (And.intro @dataOf.eq_1 (And.intro @dataOf.eq_2 (And.intro @dataOf.eq_3 (And.intro @dataOf.eq_4 (And.intro @datas.eq_1 (And.intro @datas.eq_2 (And.intro @bnd.eq_1 (And.intro @bnd.eq_2 (And.intro @pickV.eq_1 (And.intro @pickV.eq_2 (And.intro @logOK_nn (And.intro @logOK_n0 (And.intro @vStr.eq_1 (And.intro @vInt.eq_1 (And.intro @vBool.eq_1 (And.intro @vSl.eq_1 (And.intro @lendA.eq_1 (And.intro @lendA.eq_2 (And.intro @lendA.eq_3 (And.intro @lendC.eq_1 (And.intro @lendC.eq_2 (And.intro @lendC.eq_3 (And.intro @lendOKs.eq_1 (And.intro @lendOKs.eq_2 (And.intro @lendOKs.eq_3 (And.intro @lendOK.eq_1 (And.intro @lendOK.eq_2 (And.intro @lendOK.eq_3 (And.intro @AV.owns.eq_1 (And.intro @AV.owns.eq_2 (And.intro @AV.owns.eq_3 (And.intro @ownsOf.eq_1 (And.intro @ownsOf.eq_2 (And.intro @ownsOf.eq_3 (And.intro @AC.isData.eq_1 (And.intro @AC.isData.eq_2 (And.intro @AC.isLit.eq_1 (And.intro @AC.isLit.eq_2 (And.intro @AV.all.eq_1 (And.intro @AV.all.eq_2 (And.intro @AV.all.eq_3 (And.intro @Cell.isLit.eq_1 (And.intro @Cell.isLit.eq_2 (And.intro @List.mem_cons.{0} (And.intro @List.not_mem_nil.{0} (And.intro @or_false (And.intro @false_or (And.intro @or_true (And.intro @true_or (And.intro @forall_eq.{1} (And.intro @forall_eq_or_imp.{1} (And.intro @true_and (And.intro @and_true (And.intro @true_implies (And.intro @false_implies (And.intro @implies_true.{1} (And.intro @if_true.{1} (And.intro @if_false.{1} (And.intro @Bool.false_eq_true (And.intro @Bool.true_eq_false (And.intro @imp_self (And.intro @and_self (And.intro @cond_true.{1} (And.intro @cond_false.{1} (And.intro @List.map_cons.{0,0} (And.intro @List.map_nil.{0,0} (And.intro @List.take_succ_cons.{0} (And.intro @List.take_zero.{0} (And.intro @List.drop_succ_cons.{0} (And.intro @List.drop_zero.{0} (And.intro @List.take_nil.{0} (And.intro @List.drop_nil.{0} (And.intro @List.cons_append.{0} (And.intro @List.nil_append.{0} (And.intro @List.append_nil.{0} (And.intro @List.length_cons.{0} (And.intro @List.length_nil.{0} (And.intro @List.getElem?_cons_zero.{0} (And.intro @List.getElem?_cons_succ.{0} (And.intro @List.length_map.{0,0} (And.intro @List.length_replicate.{0} (And.intro @List.length_append.{0} (And.intro @List.map_append.{0,0} (And.intro @List.flatMap_cons.{0,0} (And.intro @List.flatMap_nil.{0,0} (And.intro @List.all_cons.{0} (And.intro @List.all_nil.{0} (And.intro @List.contains_cons.{0} (And.intro @List.contains_nil.{0} (And.intro @Bool.and_true (And.intro @Bool.or_false (And.intro @Bool.false_or (And.intro @Bool.true_or (And.intro @Bool.or_true (And.intro @Bool.and_self (And.intro @Bool.not_false (And.intro @Bool.not_true (And.intro @Bool.true_and (And.intro @Bool.false_and (And.intro @Bool.and_false (And.intro @Nat.zero_lt_succ (And.intro @Nat.zero_le (And.intro @Nat.zero_add (And.intro @Nat.le_refl (And.intro @Nat.min_self (And.intro @bq_t (And.intro @bq_f (And.intro @decide_true (And.intro @decide_false (And.intro @beqV.eq_1 (And.intro @beqV.eq_2 (And.intro @shfV.eq_1 (And.intro @shfV.eq_2 (And.intro @capV.eq_1 (And.intro @capV.eq_2 (And.intro @capV.eq_3 (And.intro @cmpsV.eq_1 (And.intro @cmpsV.eq_2 (And.intro @ovlV.eq_1 (And.intro @asSub.eq_1 (And.intro @asSub.eq_2 (And.intro @asSub.eq_3 (And.intro @cI.eq_1 (And.intro @cU.eq_1 (And.intro @cB.eq_1 (And.intro @cS.eq_1 (And.intro @cL.eq_1 (And.intro @cK.eq_1 (And.intro @NodeT.cells_eq (And.intro @OpT.cells_eq (And.intro @DifferencesT.cells_eq (And.intro @ReaderT.cells_eq (And.intro @List.getD_cons_zero.{0} (And.intro @List.getD_cons_succ.{0} (And.intro @List.map_set.{0,0} (And.intro @List.length_set.{0} (And.intro @getD_mapL (And.intro @take_len (And.intro @take_c1 (And.intro @take_c2 (And.intro @of_frzL (And.intro @frzL.eq_1 (And.intro @frzL.eq_2 (And.intro @frzL_nil (And.intro @frzB.eq_1 (And.intro @frzB.eq_2 (And.intro @bytesOf_cU (And.intro @bytesTxt_length (And.intro @bytesOf_nil (And.intro @bytesOf_one (And.intro @Option.map_some.{0,0} (And.intro @Int.toNat_natCast (And.intro @Int.toNat_zero (And.intro @mapTakeS (And.intro @mapDropS (And.intro @bne_self_eq_false.{0} (And.intro @Bool.bne_true (And.intro @Bool.bne_false (And.intro @List.drop_replicate.{0} (And.intro @Nat.sub_self (And.intro @capsOf.eq_1 (And.intro @capsOf.eq_2 (And.intro @capsOf.eq_3 (And.intro @Option.toList_none.{0} (And.intro @Option.toList_some.{0} (And.intro @frzs.eq_1 (And.intro @partOwns.eq_1 (And.intro @partOwns.eq_2 (And.intro @partLend.eq_1 (And.intro @partLend.eq_2 (And.intro @eq_self.{1} (And.intro @List.replicate_zero.{0} (And.intro @List.replicate_succ.{0} (And.intro @fillE.eq_1 (And.intro @fillE.eq_2 (And.intro @datParts.eq_1 (And.intro @datParts.eq_2 (And.intro @List.set_cons_zero.{0} (And.intro @List.set_cons_succ.{0} (And.intro @drop1S (And.intro @renB.eq_1 (And.intro @renB.eq_2 (And.intro @renA.eq_1 (And.intro @renA.eq_2 (And.intro @renA.eq_3 (And.intro @List.zip_cons_cons.{0,0} (And.intro @List.zip_nil_right.{0,0} (And.intro @List.zip_nil_left.{0,0} (And.intro @beq_self_eq_true.{0} @Nat.add_zero)))))))))))))))))))))))))))))))))))))))))))))))))))))))))))))))))))))))))))))))))))))))))))))))))))))))))))))))))))))))))))))))))))))))))))))))))))))))))))))))))))))))))))))))))))))))))))))))))))))))))))))))))))))))))))))))))))))))))))))))))))))))))))))))))))))))))))))))))))))
theorem egR : type_of% egD := egD
def wkD := And.intro @wkBs.eq_1 (And.intro @wkBs.eq_2 (And.intro @wkTs.eq_1 (And.intro @wkTs.eq_2 (And.intro @wkSl.eq_1 (And.intro @wkSl.eq_2 (And.intro @wkSl.eq_3 (And.intro @wkV.eq_1 (And.intro @wkV.eq_2 (And.intro @wkV.eq_3 (And.intro @wkV.eq_4 (And.intro @wkCs.eq_1 (And.intro @wkCs.eq_2 (And.intro @wkCs.eq_3 (And.intro @piL.eq_1 (And.intro @piL.eq_2 (And.intro @lookT.eq_1 (And.intro @lookT.eq_2 (And.intro @lookB.eq_1 (And.intro @lookB.eq_2 (And.intro @true_and (And.intro @and_true (And.intro @implies_true.{1} (And.intro @List.mem_cons.{0} (And.intro @List.not_mem_nil.{0} (And.intro @or_false (And.intro @or_true (And.intro @true_or (And.intro @Box.arr.eq_1 (And.intro @Box.arr.eq_2 (And.intro @Box.arr.eq_3 (And.intro @vStr.eq_1 (And.intro @vInt.eq_1 (And.intro @vBool.eq_1 (And.intro @vSl.eq_1 (And.intro @not_false_eq_true (And.intro @false_or (And.intro @Option.some.injEq.{0} (And.intro @true_implies (And.intro @cI.eq_1 (And.intro @cU.eq_1 (And.intro @cB.eq_1 (And.intro @cS.eq_1 (And.intro @cL.eq_1 (And.intro @cK.eq_1 (And.intro @NodeT.cells_eq (And.intro @OpT.cells_eq (And.intro @DifferencesT.cells_eq (And.intro @ReaderT.cells_eq (And.intro @List.map_append.{0,0} (And.intro @List.map_cons.{0,0} (And.intro @List.map_nil.{0,0} (And.intro @List.map_set.{0,0} (And.intro @List.map_take.{0,0} (And.intro @List.map_drop.{0,0} (And.intro @List.map_replicate.{0,0} (And.intro @List.length_append.{0} (And.intro @List.length_cons.{0} (And.intro @List.length_nil.{0} (And.intro @List.length_map.{0,0} (And.intro @List.length_set.{0} (And.intro @List.length_replicate.{0} (And.intro @Nat.zero_add (And.intro @Nat.add_zero (And.intro @List.nil_append.{0} (And.intro @List.cons_append.{0} (And.intro @List.append_nil.{0} (And.intro @take_len (And.intro @take_c1 (And.intro @take_c2 @and_self)))))))))))))))))))))))))))))))))))))))))))))))))))))))))))))))))))))
theorem wkR : type_of% wkD := wkD
def peD := And.intro @PEnd.eq_1 (And.intro @resOKs.eq_1 (And.intro @resOKs.eq_2 (And.intro @ARes.ok.eq_1 (And.intro @ARes.ok.eq_2 (And.intro @ARes.val.eq_1 (And.intro @ARes.val.eq_2 (And.intro @retV.eq_1 (And.intro @retV.eq_2 (And.intro @resParts.eq_1 (And.intro @resParts.eq_2 (And.intro @partOf.eq_1 (And.intro @partOf.eq_2 (And.intro @partOf.eq_3 (And.intro @of_tm (And.intro @of_bx (And.intro @of_bx' (And.intro @g_v (And.intro @x_v (And.intro @AV.flat.eq_1 (And.intro @AV.flat.eq_2 (And.intro @loadV.eq_1 (And.intro @loadV.eq_2 (And.intro @loadV.eq_3 (And.intro @loadV.eq_4 (And.intro @lookT.eq_1 (And.intro @lookT.eq_2 (And.intro @lookB.eq_1 (And.intro @lookB.eq_2 (And.intro @dV.eq_1 (And.intro @dV.eq_2 (And.intro @dV.eq_3 (And.intro @dV.eq_4 (And.intro @dC.eq_1 (And.intro @dC.eq_2 (And.intro @dC.eq_3 (And.intro @dC.eq_4 (And.intro @dCs.eq_1 (And.intro @dCs.eq_2 (And.intro @dCs.eq_3 (And.intro @dPs.eq_1 (And.intro @dPs.eq_2 (And.intro @dPs.eq_3 (And.intro @Box.arr.eq_1 (And.intro @Box.arr.eq_2 (And.intro @Box.arr.eq_3 (And.intro @List.take_succ_cons.{0} (And.intro @List.take_zero.{0} (And.intro @List.drop_zero.{0} (And.intro @List.drop_succ_cons.{0} (And.intro @List.length_cons.{0} (And.intro @List.length_nil.{0} (And.intro @List.getElem?_cons_zero.{0} (And.intro @List.getElem?_cons_succ.{0} (And.intro @true_and (And.intro @and_true (And.intro @Nat.zero_add (And.intro @vInt.eq_1 (And.intro @vBool.eq_1 (And.intro @vStr.eq_1 (And.intro @vSl.eq_1 (And.intro @FR.ok.eq_1 (And.intro @cI.eq_1 (And.intro @cU.eq_1 (And.intro @cB.eq_1 (And.intro @cS.eq_1 (And.intro @cL.eq_1 (And.intro @cK.eq_1 (And.intro @NodeT.cells_eq (And.intro @OpT.cells_eq (And.intro @DifferencesT.cells_eq (And.intro @ReaderT.cells_eq (And.intro @List.map_append.{0,0} (And.intro @List.map_cons.{0,0} (And.intro @List.map_nil.{0,0} (And.intro @List.map_set.{0,0} (And.intro @List.map_take.{0,0} (And.intro @List.map_drop.{0,0} (And.intro @List.map_replicate.{0,0} (And.intro @List.length_append.{0} (And.intro @List.length_map.{0,0} (And.intro @List.length_set.{0} (And.intro @List.length_replicate.{0} (And.intro @Nat.add_zero (And.intro @List.nil_append.{0} (And.intro @List.cons_append.{0} (And.intro @List.append_nil.{0} (And.intro @take_len (And.intro @take_c1 (And.intro @take_c2 (And.intro @and_self @bytesTxt_length))))))))))))))))))))))))))))))))))))))))))))))))))))))))))))))))))))))))))))))))))))))))))
theorem peR : type_of% peD := peD
def rwD := And.intro @wkBs.eq_1 (And.intro @wkBs.eq_2 (And.intro @wkTs.eq_1 (And.intro @wkTs.eq_2 (And.intro @wkSl.eq_1 (And.intro @wkSl.eq_2 (And.intro @wkSl.eq_3 (And.intro @wkV.eq_1 (And.intro @wkV.eq_2 (And.intro @wkV.eq_3 (And.intro @wkV.eq_4 (And.intro @wkCs.eq_1 (And.intro @wkCs.eq_2 (And.intro @wkCs.eq_3 (And.intro @piL.eq_1 (And.intro @piL.eq_2 (And.intro @lookT.eq_1 (And.intro @lookT.eq_2 (And.intro @lookB.eq_1 (And.intro @lookB.eq_2 (And.intro @true_and (And.intro @and_true (And.intro @implies_true.{1} (And.intro @List.mem_cons.{0} (And.intro @List.not_mem_nil.{0} (And.intro @or_false (And.intro @or_true (And.intro @true_or (And.intro @Box.arr.eq_1 (And.intro @Box.arr.eq_2 (And.intro @Box.arr.eq_3 (And.intro @vStr.eq_1 (And.intro @vInt.eq_1 (And.intro @vBool.eq_1 (And.intro @vSl.eq_1 (And.intro @not_false_eq_true (And.intro @false_or (And.intro @Option.some.injEq.{0} (And.intro @true_implies (And.intro @cI.eq_1 (And.intro @cU.eq_1 (And.intro @cB.eq_1 (And.intro @cS.eq_1 (And.intro @cL.eq_1 (And.intro @cK.eq_1 (And.intro @NodeT.cells_eq (And.intro @OpT.cells_eq (And.intro @DifferencesT.cells_eq (And.intro @ReaderT.cells_eq (And.intro @List.map_append.{0,0} (And.intro @List.map_cons.{0,0} (And.intro @List.map_nil.{0,0} (And.intro @List.map_set.{0,0} (And.intro @List.map_take.{0,0} (And.intro @List.map_drop.{0,0} (And.intro @List.map_replicate.{0,0} (And.intro @List.length_append.{0} (And.intro @List.length_cons.{0} (And.intro @List.length_nil.{0} (And.intro @List.length_map.{0,0} (And.intro @List.length_set.{0} (And.intro @List.length_replicate.{0} (And.intro @Nat.zero_add (And.intro @Nat.add_zero (And.intro @List.nil_append.{0} (And.intro @List.cons_append.{0} (And.intro @List.append_nil.{0} (And.intro @take_len (And.intro @take_c1 (And.intro @take_c2 (And.intro @and_self (And.intro @boxes0.eq_1 (And.intro @boxes0.eq_2 (And.intro @wkPs.eq_1 (And.intro @wkPs.eq_2 (And.intro @wkPs.eq_3 (And.intro @PEnd.eq_1 (And.intro @resOKs.eq_1 (And.intro @resOKs.eq_2 (And.intro @ARes.ok.eq_1 (And.intro @ARes.ok.eq_2 (And.intro @ARes.val.eq_1 (And.intro @ARes.val.eq_2 (And.intro @retV.eq_1 (And.intro @retV.eq_2 (And.intro @resParts.eq_1 (And.intro @resParts.eq_2 (And.intro @partOf.eq_1 (And.intro @partOf.eq_2 (And.intro @partOf.eq_3 (And.intro @of_tm (And.intro @of_bx (And.intro @of_bx' (And.intro @g_v (And.intro @x_v (And.intro @AV.flat.eq_1 (And.intro @AV.flat.eq_2 (And.intro @loadV.eq_1 (And.intro @loadV.eq_2 (And.intro @loadV.eq_3 (And.intro @loadV.eq_4 (And.intro @dV.eq_1 (And.intro @dV.eq_2 (And.intro @dV.eq_3 (And.intro @dV.eq_4 (And.intro @dC.eq_1 (And.intro @dC.eq_2 (And.intro @dC.eq_3 (And.intro @dC.eq_4 (And.intro @dCs.eq_1 (And.intro @dCs.eq_2 (And.intro @dCs.eq_3 (And.intro @dPs.eq_1 (And.intro @dPs.eq_2 (And.intro @dPs.eq_3 (And.intro @List.take_succ_cons.{0} (And.intro @List.take_zero.{0} (And.intro @List.drop_zero.{0} (And.intro @List.drop_succ_cons.{0} (And.intro @List.getElem?_cons_zero.{0} (And.intro @List.getElem?_cons_succ.{0} (And.intro @FR.ok.eq_1 @bytesTxt_length)))))))))))))))))))))))))))))))))))))))))))))))))))))))))))))))))))))))))))))))))))))))))))))))))))))))))))))))))))))))))
theorem rwR : type_of% rwD := rwD
def lnD := And.intro @lendA.eq_1 (And.intro @lendA.eq_2 (And.intro @lendA.eq_3 (And.intro @lendC.eq_1 (And.intro @lendC.eq_2 (And.intro @lendC.eq_3 (And.intro @lendOKs.eq_1 (And.intro @lendOKs.eq_2 (And.intro @lendOKs.eq_3 (And.intro @lendOK.eq_1 (And.intro @lendOK.eq_2 (And.intro @lendOK.eq_3 (And.intro @of_bx (And.intro @lookB.eq_1 (And.intro @lookB.eq_2 (And.intro @Box.arr.eq_1 (And.intro @Box.arr.eq_2 (And.intro @Box.arr.eq_3 (And.intro @AV.cells.eq_1 (And.intro @AV.cells.eq_2 (And.intro @AV.cells.eq_3 (And.intro @List.map_cons.{0,0} (And.intro @List.map_nil.{0,0} (And.intro @List.length_map.{0,0} (And.intro @List.length_append.{0} (And.intro @List.length_cons.{0} (And.intro @List.length_nil.{0} (And.intro @List.length_replicate.{0} (And.intro @List.length_set.{0} (And.intro @take_len (And.intro @take_c1 (And.intro @take_c2 (And.intro @true_and (And.intro @and_true (And.intro @and_self (And.intro @Nat.le_refl (And.intro @Nat.zero_add (And.intro @Nat.add_zero (And.intro @vInt.eq_1 (And.intro @vBool.eq_1 (And.intro @vStr.eq_1 (And.intro @vSl.eq_1 (And.intro @cI.eq_1 (And.intro @cU.eq_1 (And.intro @cB.eq_1 (And.intro @cS.eq_1 (And.intro @cL.eq_1 (And.intro @cK.eq_1 (And.intro @List.map_append.{0,0} (And.intro @List.cons_append.{0} (And.intro @List.nil_append.{0} (And.intro @NodeT.cells_eq (And.intro @OpT.cells_eq (And.intro @DifferencesT.cells_eq @ReaderT.cells_eq)))))))))))))))))))))))))))))))))))))))))))))))))))))
theorem lnR : type_of% lnD := lnD
def ggD := And.intro @sgOK.eq_1 (And.intro @sgOK.eq_2 (And.intro @nuOK.eq_1 (And.intro @nuOK.eq_2 (And.intro @of_bx (And.intro @lookB.eq_1 (And.intro @lookB.eq_2 (And.intro @renB.eq_1 (And.intro @renB.eq_2 (And.intro @List.getD_cons_zero.{0} (And.intro @List.getD_cons_succ.{0} (And.intro @List.cons_append.{0} (And.intro @List.nil_append.{0} (And.intro @List.append_nil.{0} (And.intro @List.map_cons.{0,0} (And.intro @List.map_nil.{0,0} (And.intro @List.map_append.{0,0} (And.intro @List.map_set.{0,0} (And.intro @List.length_append.{0} (And.intro @List.length_cons.{0} (And.intro @List.length_nil.{0} (And.intro @List.length_map.{0,0} (And.intro @List.length_set.{0} (And.intro @List.length_replicate.{0} (And.intro @List.replicate_zero.{0} (And.intro @List.replicate_succ.{0} (And.intro @List.map_replicate.{0,0} (And.intro @Nat.zero_add (And.intro @Nat.add_zero (And.intro @renA.eq_1 (And.intro @renA.eq_2 (And.intro @renA.eq_3 (And.intro @and_self (And.intro @and_true (And.intro @true_and (And.intro @cI.eq_1 (And.intro @cU.eq_1 (And.intro @cB.eq_1 (And.intro @cS.eq_1 (And.intro @cL.eq_1 (And.intro @cK.eq_1 (And.intro @NodeT.cells_eq (And.intro @OpT.cells_eq (And.intro @DifferencesT.cells_eq @ReaderT.cells_eq)))))))))))))))))))))))))))))))))))))))))))
theorem ggR : type_of% ggD := ggD
def ghD := And.intro @sgOK.eq_1 (And.intro @sgOK.eq_2 (And.intro @nuOK.eq_1 (And.intro @nuOK.eq_2 (And.intro @of_bx (And.intro @lookB.eq_1 (And.intro @lookB.eq_2 (And.intro @renB.eq_1 (And.intro @renB.eq_2 (And.intro @List.getD_cons_zero.{0} (And.intro @List.getD_cons_succ.{0} (And.intro @List.cons_append.{0} (And.intro @List.nil_append.{0} (And.intro @List.append_nil.{0} (And.intro @List.map_cons.{0,0} (And.intro @List.map_nil.{0,0} (And.intro @List.map_append.{0,0} (And.intro @List.map_set.{0,0} (And.intro @List.length_append.{0} (And.intro @List.length_cons.{0} (And.intro @List.length_nil.{0} (And.intro @List.length_map.{0,0} (And.intro @List.length_set.{0} (And.intro @List.length_replicate.{0} (And.intro @List.replicate_zero.{0} (And.intro @List.replicate_succ.{0} (And.intro @List.map_replicate.{0,0} (And.intro @Nat.zero_add (And.intro @Nat.add_zero (And.intro @renA.eq_1 (And.intro @renA.eq_2 (And.intro @renA.eq_3 (And.intro @and_self (And.intro @and_true (And.intro @true_and (And.intro @cI.eq_1 (And.intro @cU.eq_1 (And.intro @cB.eq_1 (And.intro @cS.eq_1 (And.intro @cL.eq_1 (And.intro @cK.eq_1 (And.intro @NodeT.cells_eq (And.intro @OpT.cells_eq (And.intro @DifferencesT.cells_eq (And.intro @ReaderT.cells_eq (And.intro @of_frzL (And.intro @frzL.eq_1 (And.intro @frzL.eq_2 (And.intro @frzB.eq_1 (And.intro @frzB.eq_2 (And.intro @List.flatMap_cons.{0,0} (And.intro @List.flatMap_nil.{0,0} (And.intro @AV.owns.eq_1 (And.intro @AV.owns.eq_2 (And.intro @AV.owns.eq_3 (And.intro @ownsOf.eq_1 (And.intro @ownsOf.eq_2 (And.intro @ownsOf.eq_3 (And.intro @List.contains_cons.{0} (And.intro @List.contains_nil.{0} (And.intro @Bool.or_false (And.intro @Bool.or_true (And.intro @Bool.false_or (And.intro @if_true.{1} (And.intro @if_false.{1} (And.intro @Bool.false_eq_true (And.intro @lendA.eq_1 (And.intro @lendA.eq_2 (And.intro @lendA.eq_3 (And.intro @lendC.eq_1 (And.intro @lendC.eq_2 (And.intro @lendC.eq_3 (And.intro @lendOKs.eq_1 (And.intro @lendOKs.eq_2 (And.intro @lendOKs.eq_3 (And.intro @lendOK.eq_1 (And.intro @lendOK.eq_2 (And.intro @lendOK.eq_3 (And.intro @Box.arr.eq_1 (And.intro @Box.arr.eq_2 (And.intro @Box.arr.eq_3 (And.intro @AV.cells.eq_1 (And.intro @AV.cells.eq_2 (And.intro @AV.cells.eq_3 (And.intro @Nat.le_refl (And.intro @take_len (And.intro @take_c1 (And.intro @take_c2 (And.intro @vInt.eq_1 (And.intro @vBool.eq_1 (And.intro @vStr.eq_1 @vSl.eq_1))))))))))))))))))))))))))))))))))))))))))))))))))))))))))))))))))))))))))))))))))))))))))
theorem ghR : type_of% ghD := ghD
end Go.Ab
end
section
namespace Go.Ab
open Go
set_option maxRecDepth 100000
set_option linter.unusedVariables false
def pp {α : Sort _} {β : Sort _} (a : α) (b : β) : PProd α β := ⟨a, b⟩
theorem ihL {n : Nat} {A B : Nat → Prop} (h : ∀ m, m < n → A m ∧ B m) : ∀ m, m < n → A m := fun m hm => (h m hm).1
theorem ihR {n : Nat} {A B : Nat → Prop} (h : ∀ m, m < n → A m ∧ B m) : ∀ m, m < n → B m := fun m hm => (h m hm).2
theorem weakX (zs : List Nat) (pi : List (Nat × Nat)) (vs : List Nat) {m : Nat} {ts0 ts : List (Nat × Slot)} {bs0 bs : List (Nat × Box)} (hk : keysOK m bs0 bs pi vs = true)
    (hb : wkBs zs (lookB bs0) (piL pi) vs bs) (ht : wkTs zs (lookB bs0) (piL pi) vs ts0 ts) : Weak m (ASt.of ts0 bs0) (ASt.of ts bs) := weak_of zs pi vs hk hb ht
theorem retX (zs : List Nat) (pi : List (Nat × Nat)) (vs : List Nat) {rs : List ARes} {ts : List (Nat × Slot)} {bs0 : List (Nat × Box)} {m : Nat} {r : AV} {bs : List Box} (hk : keysOK m bs0 (boxes0 bs 0) pi vs = true)
    (hok : resOKs (ASt.of ts bs0) rs) (hb : wkBs zs (lookB bs0) (piL pi) vs (boxes0 bs 0)) (hv : wkV zs (lookB bs0) (piL pi) vs (retV (ASt.of ts bs0) rs) r) :
    RetOK rs m (fun r1 b1 => r1 = r ∧ b1 = bs) (ASt.of ts bs0) := ret_of zs pi vs hk hok hb hv
section
variable {P : Program} {f : FuncId} {avs : List AV} {d : Option Nat} {st : ASt} {K : List Nat → List Nat → ASt → Prop} {du : DU K} {Q : AQ}
theorem cG (sg nu : List Nat) {P : Program} {f : FuncId} {avs : List AV} {d : Option Nat} {st : ASt} {K : List Nat → List Nat → ASt → Prop} {du : DU K} {ds : List AV} {fp bs0 : List Box} {r0 : AV} (h : ACalls P f ds fp (fun r bs => r = r0 ∧ bs = bs0)) (hl : sg.length = fp.length) (hn : nodupB (sg ++ nu) = true) (hf : sgOK st (sg ++ nu) fp 0) (hv : nuOK st nu)
    (hra : (ds.all fun x => x.all (AC.refsLt fp.length)) = true) (hrf : fp.all (Box.refsLt fp.length) = true) (ha : avs = ds.map (renA fun b => (sg ++ nu).getD b 0)) (hb : bs0.length = (sg ++ nu).length)
    (k : K (sg ++ nu) (sg ++ nu) ((st.setbs ((sg ++ nu).zip (bs0.map (renB fun b => (sg ++ nu).getD b 0)))).putO d (.v true (renA (fun b => (sg ++ nu).getD b 0) r0)))) : TCallK P f avs true d st K du := callG sg nu h hl hn hf hv hra hrf ha hb k
theorem cH (sg nu : List Nat) {P : Program} {f : FuncId} {avs : List AV} {d : Option Nat} {st : ASt} {K : List Nat → List Nat → ASt → Prop} {du : DU K} {ds : List AV} {fp bs0 : List Box} {r0 : AV} (h : ACalls P f ds fp (fun r bs => r = r0 ∧ bs = bs0)) (he : avs.map (lendA st.bx) = ds.map (renA fun b => (sg ++ nu).getD b 0)) (hlo : lendOKs st.bx avs)
    (hl : sg.length = fp.length) (hn : nodupB (sg ++ nu) = true) (hf : sgOK (st.frz (avs.flatMap AV.owns)) (sg ++ nu) fp 0) (hv : nuOK st nu)
    (hra : (ds.all fun x => x.all (AC.refsLt fp.length)) = true) (hrf : fp.all (Box.refsLt fp.length) = true) (hb : bs0.length = (sg ++ nu).length)
    (k : K (avs.flatMap AV.owns ++ (sg ++ nu)) (avs.flatMap AV.owns ++ (sg ++ nu)) (((st.frz (avs.flatMap AV.owns)).setbs ((sg ++ nu).zip (bs0.map (renB fun b => (sg ++ nu).getD b 0)))).putO d (.v true (renA (fun b => (sg ++ nu).getD b 0) r0)))) : TCallK P f avs true d st K du := callH sg nu h he hlo hl hn hf hv hra hrf hb k
theorem cutX (X : Type) (R : Type) (g : Nat → X → Option R) (r : R) (S : X → ASt) (N : Nat) {P : Program} {st : ASt} {Q : AQ} {a b : ACode} {d1 : DU (wpC P a)} {d2 : DU (wpC P b)} {d3 : DU Q}
    (h1 : wpCK P a (AExit.then (fun st' => ∃ x m, (g m x = some r ∧ m ≤ N) ∧ Weak 10 st' (S x)) Q) st .mk .mk) (h2 : ∀ n x, n ≤ N → g n x = some r → wpCK P b Q (S x) .mk .mk) : WCutK (wpC P a) (wpC P b) Q st d1 d2 d3 := by
  refine cutK (X := X × Nat) (fun p => g p.2 p.1 = some r ∧ p.2 ≤ N) (fun p => S p.1) (wpC_mono (fun e st h => ?_) h1) (fun p hp => h2 p.2 p.1 hp.2 hp.1)
  cases e with
  | normal => obtain ⟨x, m, h, hw⟩ := h; exact ⟨(x, m), h, hw⟩
  | _ => exact h
theorem lopX (X : Type) (R : Type) (g : Nat → X → Option R) (r : R) (S : X → ASt) (N : Nat) {P : Program} {st : ASt} {Q : AQ} {a : ACode} {d1 : DU (wpC P a)} {d2 : DU Q} (h0 : ∃ x m, (g m x = some r ∧ m ≤ N) ∧ Weak 10 st (S x))
    (h : ∀ n x, n ≤ N → g n x = some r → wpCK P a (AExit.then (fun st' => ∃ x' m, (g m x' = some r ∧ m ≤ N ∧ m < n) ∧ Weak 10 st' (S x')) Q) (S x) .mk .mk) : WLoopK (wpC P a) Q st d1 d2 := by
  obtain ⟨x, m, h0, hw⟩ := h0
  refine loopK (X := X × Nat) (fun p => g p.2 p.1 = some r ∧ p.2 ≤ N) (fun p => S p.1) (fun p => p.2) (x, m) h0 hw (fun p hp => wpC_mono (fun e st h => ?_) (h p.2 p.1 hp.2 hp.1))
  cases e with
  | normal => obtain ⟨x, m, h, hw⟩ := h; exact ⟨(x, m), ⟨⟨h.1, h.2.1⟩, h.2.2⟩, hw⟩
  | _ => exact h
end
theorem tWK {p : Prop} (x : p := by simp -dsimp only [wkR, wkB, wkC, reduceIte, Nat.reduceEqDiff, reduceCtorEq] <;> simp [List.take_of_length_le] <;> fail) : p := x
theorem tPE {p : Prop} (x : p := by (simp -dsimp only [peR, reduceIte, Nat.reduceEqDiff, Nat.reduceAdd, Nat.reduceLeDiff, reduceCtorEq] <;> first | (simp [List.take_of_length_le]; done) | ((try simp only [List.map_take, List.map_drop, List.map_append, List.map_cons, List.map_nil]) <;> (repeat' apply And.intro) <;> first | rfl | (simp; done) | (simp <;> omega; done) | (congr 1; exact (List.take_of_length_le (by simp <;> omega)).symm)))) : p := x
theorem tRE {p : Prop} (x : p := by (simp -dsimp only [rwR, wkB, wkC, reduceIte, Nat.reduceEqDiff, reduceCtorEq, Nat.reduceAdd, Nat.reduceLeDiff] <;> first | (simp [List.take_of_length_le]; done) | ((try simp only [List.map_take, List.map_drop, List.map_append, List.map_cons, List.map_nil]) <;> (repeat' apply And.intro) <;> first | rfl | (simp; done) | (simp <;> omega; done) | (congr 1; exact (List.take_of_length_le (by simp <;> omega)).symm)))) : p := x
theorem tLN {p : Prop} (x : p := by (simp only [lnR, reduceIte, Nat.reduceEqDiff] <;> omega)) : p := x
theorem tGG {p : Prop} (x : p := by (simp only [ggR, renC, reduceIte, Nat.reduceEqDiff, Nat.reduceLeDiff, Nat.reduceAdd] <;> omega)) : p := x
theorem tGR {p : Prop} (x : p := by first | rfl | (simp only [ggR, renC, reduceIte, Nat.reduceEqDiff, Nat.reduceLeDiff, Nat.reduceAdd] <;> omega)) : p := x
theorem tGH {p : Prop} (x : p := by (simp only [ghR, renC, reduceIte, Nat.reduceEqDiff, Nat.reduceLeDiff, Nat.reduceAdd, Nat.reduceBEq] <;> omega)) : p := x
theorem tFIT {p : Prop} (x : p := by ((try simp only [Prod.exists]); (first | refine ⟨_, _, ⟨h, ?_⟩, ?_⟩ | refine ⟨_, _, _, ⟨h, ?_⟩, ?_⟩ | refine ⟨_, _, _, _, ⟨h, ?_⟩, ?_⟩ | refine ⟨_, _, _, _, _, ⟨h, ?_⟩, ?_⟩ | refine ⟨_, _, _, _, _, _, ⟨h, ?_⟩, ?_⟩ | refine ⟨_, _, _, _, _, _, _, ⟨h, ?_⟩, ?_⟩ | refine ⟨_, _, _, _, _, _, _, _, ⟨h, ?_⟩, ?_⟩ | refine ⟨_, _, _, _, _, _, _, _, _, ⟨h, ?_⟩, ?_⟩ | refine ⟨_, _, _, _, _, _, _, _, _, _, ⟨h, ?_⟩, ?_⟩ | refine ⟨_, _, _, _, _, _, _, _, _, _, _, ⟨h, ?_⟩, ?_⟩ | refine ⟨_, _, _, _, _, _, _, _, _, _, _, _, ⟨h, ?_⟩, ?_⟩ | refine ⟨_, _, _, _, _, _, _, _, _, _, _, _, _, ⟨h, ?_⟩, ?_⟩ | refine ⟨_, _, _, _, _, _, _, _, _, _, _, _, _, _, ⟨h, ?_⟩, ?_⟩ | refine ⟨_, _, _, _, _, _, _, _, _, _, _, _, _, _, _, ⟨h, ?_⟩, ?_⟩ | refine ⟨_, _, _, _, _, _, _, _, _, _, _, _, _, _, _, _, ⟨h, ?_⟩, ?_⟩ | refine ⟨(), _, ⟨h, ?_⟩, ?_⟩); (focus omega); first | exact zj.1 (by rfl) tWK tWK | exact zj.2.1 (by rfl) tWK tWK | exact zj.2.2.1 (by rfl) tWK tWK | exact zj.2.2.2.1 (by rfl) tWK tWK | exact zj.2.2.2.2.1 (by rfl) tWK tWK | exact zj.2.2.2.2.2.1 (by rfl) tWK tWK | exact zj.2.2.2.2.2.2.1 (by rfl) tWK tWK | exact zj.2.2.2.2.2.2.2.1 (by rfl) tWK tWK | exact zj.2.2.2.2.2.2.2.2.1 (by rfl) tWK tWK | exact zj.2.2.2.2.2.2.2.2.2.1 (by rfl) tWK tWK | exact zj.2.2.2.2.2.2.2.2.2.2.1 (by rfl) tWK tWK | exact zj.2.2.2.2.2.2.2.2.2.2.2.1 (by rfl) tWK tWK | exact zj.2.2.2.2.2.2.2.2.2.2.2.2.1 (by rfl) tWK tWK | exact zj.2.2.2.2.2.2.2.2.2.2.2.2.2.1 (by rfl) tWK tWK)) : p := x
theorem drv {p : Prop} (x : p := by
  repeat' first
  | (clear h; (with_reducible intro n x hn h); rcases n with _ | n <;> simp only [ze.1, reduceCtorEq] at h)
  | (simp only [reduceCtorEq] at h; done)
  | ((with_reducible replace h := kq0 h); obtain ⟨_, _, h⟩ := h)
  | ((with_reducible replace h := kq1 h); obtain ⟨_, _, h⟩ := h)
  | ((with_reducible replace h := kq h); obtain ⟨_, h⟩ := h)
  | ((with_reducible replace h := sq h); subst h; have h := True.intro)
  | (try simp -dsimp only [egR, AOp.opds, AOp.f, AOp.rd, intBin, storeV, lvl, srcOf, reduceIte, Nat.reduceEqDiff, Nat.reduceAdd, Nat.reduceLeDiff, Nat.reduceBEq, reduceCtorEq, Int.reduceBNe, Int.reduceBEq, Int.reduceLT, Int.reduceLE, Int.reduceNeg, Nat.reduceLT, strBin, Int.reduceToNat, renC, *]
     repeat ((with_reducible refine And.intro ?_ ?_); focus first | (show logOK _ _ _ _ = true; kernel_rfl) | (show callOK _ _ = true; kernel_rfl) | omega | assumption | (show _ ≤ maxLen; decide))
     first
     | with_reducible refine callN ?_
     | ((with_reducible refine isCut ?_); with_reducible refine zu.1 n ?_ ?_)
     | ((with_reducible refine isLoop ?_); first | ((with_reducible refine zk.1 n ?_ ?_); (focus exact tFIT)) | ((with_reducible refine zk.2.1 n ?_ ?_); (focus exact tFIT)) | ((with_reducible refine zk.2.2.1 n ?_ ?_); (focus exact tFIT)) | ((with_reducible refine zk.2.2.2.1 n ?_ ?_); (focus exact tFIT)) | ((with_reducible refine zk.2.2.2.2.1 n ?_ ?_); (focus exact tFIT)) | ((with_reducible refine zk.2.2.2.2.2.1 n ?_ ?_); (focus exact tFIT)))
     | ((with_reducible refine isCall ?_); (with_reducible replace h := bq h); obtain ⟨_, hv, h⟩ := h; first | ((first | with_reducible have hc := zc.1 hv | with_reducible have hc := zc.1 _ (by omega) hv | with_reducible have hc := zc.2.1 hv | with_reducible have hc := zc.2.1 _ (by omega) hv | with_reducible have hc := zc.2.2.1 hv | with_reducible have hc := zc.2.2.1 _ (by omega) hv | with_reducible have hc := zc.2.2.2.1 hv | with_reducible have hc := zc.2.2.2.2.1 hv | with_reducible have hc := zc.2.2.2.2.2.1 hv | with_reducible have hc := zc.2.2.2.2.2.2.1 hv | with_reducible have hc := zc.2.2.2.2.2.2.2.1 hv | with_reducible have hc := zc.2.2.2.2.2.2.2.2.1 hv | with_reducible have hc := zc.2.2.2.2.2.2.2.2.2.1 hv | with_reducible have hc := zc.2.2.2.2.2.2.2.2.2.2.1 hv | with_reducible have hc := zc.2.2.2.2.2.2.2.2.2.2.2.1 hv | with_reducible have hc := zc.2.2.2.2.2.2.2.2.2.2.2.2.1 hv | with_reducible have hc := zc.2.2.2.2.2.2.2.2.2.2.2.2.2.1 hv | with_reducible have hc := zc.2.2.2.2.2.2.2.2.2.2.2.2.2.2.1 hv | with_reducible have hc := zc.2.2.2.2.2.2.2.2.2.2.2.2.2.2.2.1 hv | with_reducible have hc := zc.2.2.2.2.2.2.2.2.2.2.2.2.2.2.2.2.1 hv | with_reducible have hc := zc.2.2.2.2.2.2.2.2.2.2.2.2.2.2.2.2.2.1 hv | with_reducible have hc := zc.2.2.2.2.2.2.2.2.2.2.2.2.2.2.2.2.2.2.1 hv | with_reducible have hc := zc.2.2.2.2.2.2.2.2.2.2.2.2.2.2.2.2.2.2.2.1 hv | with_reducible have hc := zc.2.2.2.2.2.2.2.2.2.2.2.2.2.2.2.2.2.2.2.2.1 hv | with_reducible have hc := zc.2.2.2.2.2.2.2.2.2.2.2.2.2.2.2.2.2.2.2.2.2.1 hv); (first | refine callL (fun _ => hc) rfl rfl ?_ | refine callP hc rfl rfl ?_ | refine callE hc tLN tLN rfl rfl ?_ | refine callD hc tLN tLN rfl rfl ?_)) | ((first | with_reducible have hc := zg.1.1 hv | with_reducible have hc := zg.1.1 _ (by omega) hv); (first | refine zg.1.2 hc rfl rfl tGG tGG rfl rfl tGR rfl ?_ | refine zg.1.2 hc tGH tGH rfl rfl tGH tGH rfl rfl rfl ?_)) | ((first | with_reducible have hc := zg.2.1.1 hv | with_reducible have hc := zg.2.1.1 _ (by omega) hv); (first | refine zg.2.1.2 hc rfl rfl tGG tGG rfl rfl tGR rfl ?_ | refine zg.2.1.2 hc tGH tGH rfl rfl tGH tGH rfl rfl rfl ?_)) | ((first | with_reducible have hc := zg.2.2.1.1 hv | with_reducible have hc := zg.2.2.1.1 _ (by omega) hv); (first | refine zg.2.2.1.2 hc rfl rfl tGG tGG rfl rfl tGR rfl ?_ | refine zg.2.2.1.2 hc tGH tGH rfl rfl tGH tGH rfl rfl rfl ?_)) | ((with_reducible have hc := zg.2.2.2.1.1 hv); (first | refine zg.2.2.2.1.2 hc rfl rfl tGG tGG rfl rfl tGR rfl ?_ | refine zg.2.2.2.1.2 hc tGH tGH rfl rfl tGH tGH rfl rfl rfl ?_)) | ((with_reducible have hc := zg.2.2.2.2.1.1 hv); (first | refine zg.2.2.2.2.1.2 hc rfl rfl tGG tGG rfl rfl tGR rfl ?_ | refine zg.2.2.2.2.1.2 hc tGH tGH rfl rfl tGH tGH rfl rfl rfl ?_)) | ((with_reducible have hc := zg.2.2.2.2.2.1.1 hv); (first | refine zg.2.2.2.2.2.1.2 hc rfl rfl tGG tGG rfl rfl tGR rfl ?_ | refine zg.2.2.2.2.2.1.2 hc tGH tGH rfl rfl tGH tGH rfl rfl rfl ?_)) | ((with_reducible have hc := zg.2.2.2.2.2.2.1.1 hv); (first | refine zg.2.2.2.2.2.2.1.2 hc rfl rfl tGG tGG rfl rfl tGR rfl ?_ | refine zg.2.2.2.2.2.2.1.2 hc tGH tGH rfl rfl tGH tGH rfl rfl rfl ?_)) | ((with_reducible have hc := zg.2.2.2.2.2.2.2.1.1 hv); (first | refine zg.2.2.2.2.2.2.2.1.2 hc rfl rfl tGG tGG rfl rfl tGR rfl ?_ | refine zg.2.2.2.2.2.2.2.1.2 hc tGH tGH rfl rfl tGH tGH rfl rfl rfl ?_)) | ((with_reducible have hc := zg.2.2.2.2.2.2.2.2.1.1 hv); (first | refine zg.2.2.2.2.2.2.2.2.1.2 hc rfl rfl tGG tGG rfl rfl tGR rfl ?_ | refine zg.2.2.2.2.2.2.2.2.1.2 hc tGH tGH rfl rfl tGH tGH rfl rfl rfl ?_)) | ((with_reducible have hc := zg.2.2.2.2.2.2.2.2.2.1.1 hv); (first | refine zg.2.2.2.2.2.2.2.2.2.1.2 hc rfl rfl tGG tGG rfl rfl tGR rfl ?_ | refine zg.2.2.2.2.2.2.2.2.2.1.2 hc tGH tGH rfl rfl tGH tGH rfl rfl rfl ?_)) | ((with_reducible have hc := zg.2.2.2.2.2.2.2.2.2.2.1.1 hv); (first | refine zg.2.2.2.2.2.2.2.2.2.2.1.2 hc rfl rfl tGG tGG rfl rfl tGR rfl ?_ | refine zg.2.2.2.2.2.2.2.2.2.2.1.2 hc tGH tGH rfl rfl tGH tGH rfl rfl rfl ?_)) | ((with_reducible have hc := zg.2.2.2.2.2.2.2.2.2.2.2.1.1 hv); (first | refine zg.2.2.2.2.2.2.2.2.2.2.2.1.2 hc rfl rfl tGG tGG rfl rfl tGR rfl ?_ | refine zg.2.2.2.2.2.2.2.2.2.2.2.1.2 hc tGH tGH rfl rfl tGH tGH rfl rfl rfl ?_)))
     | ((with_reducible replace h := cq h); rcases h with ⟨c, h⟩ | ⟨c, h⟩ <;> try (simp only [*, Bool.false_eq_true, reduceCtorEq] at c; done))
     | ((with_reducible refine isEx ?_); exact tFIT)
     | ((with_reducible refine isEnd ?_); exact tPE)
     | ((with_reducible refine isRet ?_); first | exact zt.1 (by rfl) tRE tRE tRE | exact zt.2.1 (by rfl) tRE tRE tRE | exact zt.2.2.1 (by rfl) tRE tRE tRE | exact zt.2.2.2.1 (by rfl) tRE tRE tRE | exact zt.2.2.2.2.1 (by rfl) tRE tRE tRE | exact zt.2.2.2.2.2.1 (by rfl) tRE tRE tRE | exact zt.2.2.2.2.2.2.1 (by rfl) tRE tRE tRE | exact zt.2.2.2.2.2.2.2.1 (by rfl) tRE tRE tRE | exact zt.2.2.2.2.2.2.2.2.1 (by rfl) tRE tRE tRE | exact zt.2.2.2.2.2.2.2.2.2.1 (by rfl) tRE tRE tRE | exact zt.2.2.2.2.2.2.2.2.2.2.1 (by rfl) tRE tRE tRE | exact zt.2.2.2.2.2.2.2.2.2.2.2.1 (by rfl) tRE tRE tRE)
     | (cases h; done))) : p := x
theorem drvM {p : Prop} (x : p := by
  repeat' first
  | (clear h; (with_reducible intro n x hn h); rcases n with _ | n <;> simp only [ze.1, reduceCtorEq] at h)
  | (simp only [reduceCtorEq] at h; done)
  | ((with_reducible replace h := kq0 h); obtain ⟨_, _, h⟩ := h)
  | ((with_reducible replace h := kq1 h); obtain ⟨_, _, h⟩ := h)
  | ((with_reducible replace h := kq h); obtain ⟨_, h⟩ := h)
  | ((with_reducible replace h := sq h); subst h; have h := True.intro)
  | (try simp -dsimp only [egR, AOp.opds, AOp.f, AOp.rd, intBin, storeV, lvl, srcOf, reduceIte, Nat.reduceEqDiff, Nat.reduceAdd, Nat.reduceLeDiff, Nat.reduceBEq, reduceCtorEq, Int.reduceBNe, Int.reduceBEq, Int.reduceLT, Int.reduceLE, Int.reduceNeg, Nat.reduceLT, strBin, Int.reduceToNat, renC, *]
     repeat ((with_reducible refine And.intro ?_ ?_); focus first | (show logOK _ _ _ _ = true; kernel_rfl) | (show callOK _ _ = true; kernel_rfl) | omega | assumption | (show _ ≤ maxLen; decide))
     first
     | with_reducible refine callN ?_
     | ((with_reducible refine isCut ?_); first | (rename Mk 1 => tk; clear tk; have : True := (by (first | rewrite [zq.1.1] at h | rewrite [zq.1.2.1] at h | rewrite [zq.1.2.2.1] at h | rewrite [zq.1.2.2.2.1] at h | rewrite [zq.1.2.2.2.2.1] at h | rewrite [zq.1.2.2.2.2.2.1] at h | rewrite [zq.1.2.2.2.2.2.2.1] at h | rewrite [zq.1.2.2.2.2.2.2.2.1] at h); exact True.intro); with_reducible refine zu.1 n ?_ ?_) | (rename Mk 2 => tk; clear tk; have : True := (by (first | rewrite [zq.2.1.1] at h | rewrite [zq.2.1.2.1] at h | rewrite [zq.2.1.2.2.1] at h | rewrite [zq.2.1.2.2.2.1] at h | rewrite [zq.2.1.2.2.2.2.1] at h | rewrite [zq.2.1.2.2.2.2.2.1] at h | rewrite [zq.2.1.2.2.2.2.2.2.1] at h | rewrite [zq.2.1.2.2.2.2.2.2.2.1] at h); exact True.intro); with_reducible refine zu.2.1 n ?_ ?_) | (rename Mk 3 => tk; clear tk; have : True := (by (first | rewrite [zq.2.2.1.1] at h | rewrite [zq.2.2.1.2.1] at h | rewrite [zq.2.2.1.2.2.1] at h | rewrite [zq.2.2.1.2.2.2.1] at h | rewrite [zq.2.2.1.2.2.2.2.1] at h | rewrite [zq.2.2.1.2.2.2.2.2.1] at h | rewrite [zq.2.2.1.2.2.2.2.2.2.1] at h | rewrite [zq.2.2.1.2.2.2.2.2.2.2.1] at h); exact True.intro); with_reducible refine zu.2.2.1 n ?_ ?_) | (rename Mk 4 => tk; clear tk; have : True := (by (first | rewrite [zq.2.2.2.1.1] at h | rewrite [zq.2.2.2.1.2.1] at h | rewrite [zq.2.2.2.1.2.2.1] at h | rewrite [zq.2.2.2.1.2.2.2.1] at h | rewrite [zq.2.2.2.1.2.2.2.2.1] at h | rewrite [zq.2.2.2.1.2.2.2.2.2.1] at h | rewrite [zq.2.2.2.1.2.2.2.2.2.2.1] at h | rewrite [zq.2.2.2.1.2.2.2.2.2.2.2.1] at h); exact True.intro); with_reducible refine zu.2.2.2.1 n ?_ ?_) | (rename Mk 5 => tk; clear tk; have : True := (by (first | rewrite [zq.2.2.2.2.1.1] at h | rewrite [zq.2.2.2.2.1.2.1] at h | rewrite [zq.2.2.2.2.1.2.2.1] at h | rewrite [zq.2.2.2.2.1.2.2.2.1] at h | rewrite [zq.2.2.2.2.1.2.2.2.2.1] at h | rewrite [zq.2.2.2.2.1.2.2.2.2.2.1] at h | rewrite [zq.2.2.2.2.1.2.2.2.2.2.2.1] at h | rewrite [zq.2.2.2.2.1.2.2.2.2.2.2.2.1] at h); exact True.intro); with_reducible refine zu.2.2.2.2.1 n ?_ ?_) | (rename Mk 6 => tk; clear tk; have : True := (by (first | rewrite [zq.2.2.2.2.2.1.1] at h | rewrite [zq.2.2.2.2.2.1.2.1] at h | rewrite [zq.2.2.2.2.2.1.2.2.1] at h | rewrite [zq.2.2.2.2.2.1.2.2.2.1] at h | rewrite [zq.2.2.2.2.2.1.2.2.2.2.1] at h | rewrite [zq.2.2.2.2.2.1.2.2.2.2.2.1] at h | rewrite [zq.2.2.2.2.2.1.2.2.2.2.2.2.1] at h | rewrite [zq.2.2.2.2.2.1.2.2.2.2.2.2.2.1] at h); exact True.intro); with_reducible refine zu.2.2.2.2.2.1 n ?_ ?_))
     | ((with_reducible refine isLoop ?_); first | ((with_reducible refine zk.1 n ?_ ?_); (focus exact tFIT)) | ((with_reducible refine zk.2.1 n ?_ ?_); (focus exact tFIT)) | ((with_reducible refine zk.2.2.1 n ?_ ?_); (focus exact tFIT)) | ((with_reducible refine zk.2.2.2.1 n ?_ ?_); (focus exact tFIT)) | ((with_reducible refine zk.2.2.2.2.1 n ?_ ?_); (focus exact tFIT)) | ((with_reducible refine zk.2.2.2.2.2.1 n ?_ ?_); (focus exact tFIT)))
     | ((with_reducible refine isCall ?_); (with_reducible replace h := bq h); obtain ⟨_, hv, h⟩ := h; first | ((first | with_reducible have hc := zc.1 hv | with_reducible have hc := zc.1 _ (by omega) hv | with_reducible have hc := zc.2.1 hv | with_reducible have hc := zc.2.1 _ (by omega) hv | with_reducible have hc := zc.2.2.1 hv | with_reducible have hc := zc.2.2.1 _ (by omega) hv | with_reducible have hc := zc.2.2.2.1 hv | with_reducible have hc := zc.2.2.2.2.1 hv | with_reducible have hc := zc.2.2.2.2.2.1 hv | with_reducible have hc := zc.2.2.2.2.2.2.1 hv | with_reducible have hc := zc.2.2.2.2.2.2.2.1 hv | with_reducible have hc := zc.2.2.2.2.2.2.2.2.1 hv | with_reducible have hc := zc.2.2.2.2.2.2.2.2.2.1 hv | with_reducible have hc := zc.2.2.2.2.2.2.2.2.2.2.1 hv | with_reducible have hc := zc.2.2.2.2.2.2.2.2.2.2.2.1 hv | with_reducible have hc := zc.2.2.2.2.2.2.2.2.2.2.2.2.1 hv | with_reducible have hc := zc.2.2.2.2.2.2.2.2.2.2.2.2.2.1 hv | with_reducible have hc := zc.2.2.2.2.2.2.2.2.2.2.2.2.2.2.1 hv | with_reducible have hc := zc.2.2.2.2.2.2.2.2.2.2.2.2.2.2.2.1 hv | with_reducible have hc := zc.2.2.2.2.2.2.2.2.2.2.2.2.2.2.2.2.1 hv | with_reducible have hc := zc.2.2.2.2.2.2.2.2.2.2.2.2.2.2.2.2.2.1 hv | with_reducible have hc := zc.2.2.2.2.2.2.2.2.2.2.2.2.2.2.2.2.2.2.1 hv | with_reducible have hc := zc.2.2.2.2.2.2.2.2.2.2.2.2.2.2.2.2.2.2.2.1 hv | with_reducible have hc := zc.2.2.2.2.2.2.2.2.2.2.2.2.2.2.2.2.2.2.2.2.1 hv | with_reducible have hc := zc.2.2.2.2.2.2.2.2.2.2.2.2.2.2.2.2.2.2.2.2.2.1 hv); (first | refine callL (fun _ => hc) rfl rfl ?_ | refine callP hc rfl rfl ?_ | refine callE hc tLN tLN rfl rfl ?_ | refine callD hc tLN tLN rfl rfl ?_)) | ((first | with_reducible have hc := zg.1.1 hv | with_reducible have hc := zg.1.1 _ (by omega) hv); (first | refine zg.1.2 hc rfl rfl tGG tGG rfl rfl tGR rfl ?_ | refine zg.1.2 hc tGH tGH rfl rfl tGH tGH rfl rfl rfl ?_)) | ((first | with_reducible have hc := zg.2.1.1 hv | with_reducible have hc := zg.2.1.1 _ (by omega) hv); (first | refine zg.2.1.2 hc rfl rfl tGG tGG rfl rfl tGR rfl ?_ | refine zg.2.1.2 hc tGH tGH rfl rfl tGH tGH rfl rfl rfl ?_)) | ((first | with_reducible have hc := zg.2.2.1.1 hv | with_reducible have hc := zg.2.2.1.1 _ (by omega) hv); (first | refine zg.2.2.1.2 hc rfl rfl tGG tGG rfl rfl tGR rfl ?_ | refine zg.2.2.1.2 hc tGH tGH rfl rfl tGH tGH rfl rfl rfl ?_)) | ((with_reducible have hc := zg.2.2.2.1.1 hv); (first | refine zg.2.2.2.1.2 hc rfl rfl tGG tGG rfl rfl tGR rfl ?_ | refine zg.2.2.2.1.2 hc tGH tGH rfl rfl tGH tGH rfl rfl rfl ?_)) | ((with_reducible have hc := zg.2.2.2.2.1.1 hv); (first | refine zg.2.2.2.2.1.2 hc rfl rfl tGG tGG rfl rfl tGR rfl ?_ | refine zg.2.2.2.2.1.2 hc tGH tGH rfl rfl tGH tGH rfl rfl rfl ?_)) | ((with_reducible have hc := zg.2.2.2.2.2.1.1 hv); (first | refine zg.2.2.2.2.2.1.2 hc rfl rfl tGG tGG rfl rfl tGR rfl ?_ | refine zg.2.2.2.2.2.1.2 hc tGH tGH rfl rfl tGH tGH rfl rfl rfl ?_)) | ((with_reducible have hc := zg.2.2.2.2.2.2.1.1 hv); (first | refine zg.2.2.2.2.2.2.1.2 hc rfl rfl tGG tGG rfl rfl tGR rfl ?_ | refine zg.2.2.2.2.2.2.1.2 hc tGH tGH rfl rfl tGH tGH rfl rfl rfl ?_)) | ((with_reducible have hc := zg.2.2.2.2.2.2.2.1.1 hv); (first | refine zg.2.2.2.2.2.2.2.1.2 hc rfl rfl tGG tGG rfl rfl tGR rfl ?_ | refine zg.2.2.2.2.2.2.2.1.2 hc tGH tGH rfl rfl tGH tGH rfl rfl rfl ?_)) | ((with_reducible have hc := zg.2.2.2.2.2.2.2.2.1.1 hv); (first | refine zg.2.2.2.2.2.2.2.2.1.2 hc rfl rfl tGG tGG rfl rfl tGR rfl ?_ | refine zg.2.2.2.2.2.2.2.2.1.2 hc tGH tGH rfl rfl tGH tGH rfl rfl rfl ?_)) | ((with_reducible have hc := zg.2.2.2.2.2.2.2.2.2.1.1 hv); (first | refine zg.2.2.2.2.2.2.2.2.2.1.2 hc rfl rfl tGG tGG rfl rfl tGR rfl ?_ | refine zg.2.2.2.2.2.2.2.2.2.1.2 hc tGH tGH rfl rfl tGH tGH rfl rfl rfl ?_)) | ((with_reducible have hc := zg.2.2.2.2.2.2.2.2.2.2.1.1 hv); (first | refine zg.2.2.2.2.2.2.2.2.2.2.1.2 hc rfl rfl tGG tGG rfl rfl tGR rfl ?_ | refine zg.2.2.2.2.2.2.2.2.2.2.1.2 hc tGH tGH rfl rfl tGH tGH rfl rfl rfl ?_)) | ((with_reducible have hc := zg.2.2.2.2.2.2.2.2.2.2.2.1.1 hv); (first | refine zg.2.2.2.2.2.2.2.2.2.2.2.1.2 hc rfl rfl tGG tGG rfl rfl tGR rfl ?_ | refine zg.2.2.2.2.2.2.2.2.2.2.2.1.2 hc tGH tGH rfl rfl tGH tGH rfl rfl rfl ?_)))
     | ((with_reducible replace h := cq h); rcases h with ⟨c, h⟩ | ⟨c, h⟩ <;> try (simp only [*, Bool.false_eq_true, reduceCtorEq] at c; done))
     | ((with_reducible refine isEx ?_); exact tFIT)
     | ((with_reducible refine isEnd ?_); exact tPE)
     | ((with_reducible refine isRet ?_); first | exact zt.1 (by rfl) tRE tRE tRE | exact zt.2.1 (by rfl) tRE tRE tRE | exact zt.2.2.1 (by rfl) tRE tRE tRE | exact zt.2.2.2.1 (by rfl) tRE tRE tRE | exact zt.2.2.2.2.1 (by rfl) tRE tRE tRE | exact zt.2.2.2.2.2.1 (by rfl) tRE tRE tRE | exact zt.2.2.2.2.2.2.1 (by rfl) tRE tRE tRE | exact zt.2.2.2.2.2.2.2.1 (by rfl) tRE tRE tRE | exact zt.2.2.2.2.2.2.2.2.1 (by rfl) tRE tRE tRE | exact zt.2.2.2.2.2.2.2.2.2.1 (by rfl) tRE tRE tRE | exact zt.2.2.2.2.2.2.2.2.2.2.1 (by rfl) tRE tRE tRE | exact zt.2.2.2.2.2.2.2.2.2.2.2.1 (by rfl) tRE tRE tRE)
     | (cases h; done))) : p := x
end Go.Ab
end
section
namespace Go.Ab
open Go
set_option maxRecDepth 100000
set_option maxHeartbeats 4000000
set_option linter.unusedVariables false
set_option linter.unusedSimpArgs false
abbrev zA (d : Nat) (x : AOp) : AOper := ⟨none, some d, .op x⟩
abbrev zM (d s : Nat) : AOper := ⟨none, some d, .op (.mv (.t s))⟩
abbrev zS (x : AOp) : AOper := ⟨none, none, .op x⟩
abbrev zG (g : Nat) (b : Bool) (d : Nat) (x : AOp) : AOper := ⟨some (g, b), some d, .op x⟩
def C.cmp_isNaN_int : ACode := (.seq (.reg [ zA 2 (.mv (.k (.c (.lit (.bool false)))))] [0]) (.seq (.reg [ zM 3 0, zM 4 0, zA 5 (.bin .neq (.t 3) (.t 4)), zM 2 5] [2]) .ret))
theorem K.cmp_isNaN_int : chkF Go.Proofs.Tryz.prog 164 1 0 C.cmp_isNaN_int [.tmp 2] = true := by kernel_rfl
def C.cmp_Compare_int : ACode := (.seq (.reg [ zA 4 (.mv (.k (.c (.lit (.int .i64 0)))))] [0, 1]) (.seq (.reg [ zM 7 0, ⟨none, some 8, .call 164 [.t 7]⟩, zM 5 8] [0, 1, 5]) (.seq (.reg [ zM 9 1, ⟨none, some 10, .call 164 [.t 9]⟩, zM 6 10] [0, 1, 5, 6]) (.seq (.seq (.reg [ zM 11 5] [0, 1, 6, 11]) (.cond (.t 11) (.seq (.seq (.reg [ zM 12 6] [12]) (.cond (.t 12) (.seq (.reg [ zA 4 (.mv (.k (.c (.lit (.int .i64 0)))))] [4]) .ret) .skip)) (.seq (.reg [ zA 4 (.mv (.k (.c (.lit (.int .i64 (-1))))))] [4]) .ret)) .skip)) (.seq (.seq (.reg [ zM 13 6] [0, 1, 13]) (.cond (.t 13) (.seq (.reg [ zA 4 (.mv (.k (.c (.lit (.int .i64 1)))))] [4]) .ret) .skip)) (.seq (.seq (.reg [ zM 14 0, zM 15 1, zA 16 (.bin .lss (.t 14) (.t 15))] [0, 1, 16]) (.cond (.t 16) (.seq (.reg [ zA 4 (.mv (.k (.c (.lit (.int .i64 (-1))))))] [4]) .ret) .skip)) (.seq (.seq (.reg [ zM 17 0, zM 18 1, zA 19 (.bin .gtr (.t 17) (.t 18))] [19]) (.cond (.t 19) (.seq (.reg [ zA 4 (.mv (.k (.c (.lit (.int .i64 1)))))] [4]) .ret) .skip)) (.seq (.reg [ zA 4 (.mv (.k (.c (.lit (.int .i64 0)))))] [4]) .ret))))))))
theorem K.cmp_Compare_int : chkF Go.Proofs.Tryz.prog 110 2 0 C.cmp_Compare_int [.tmp 4] = true := by kernel_rfl
def C.cmp_isNaN_string : ACode := (.seq (.reg [ zA 2 (.mv (.k (.c (.lit (.bool false)))))] [0]) (.seq (.reg [ zM 3 0, zM 4 0, zA 5 (.bin .neq (.t 3) (.t 4)), zM 2 5] [2]) .ret))
theorem K.cmp_isNaN_string : chkF Go.Proofs.Tryz.prog 178 1 0 C.cmp_isNaN_string [.tmp 2] = true := by kernel_rfl
def C.cmp_Less_string : ACode := (.seq (.reg [ zA 4 (.mv (.k (.c (.lit (.bool false)))))] [0, 1]) (.seq (.reg [ zM 5 0, ⟨none, some 6, .call 178 [.t 5]⟩, zM 7 6, zG 7 true 8 (.mv (.t 1)), ⟨(some (7, true)), some 9, .call 178 [.t 8]⟩, zG 7 true 10 (.not (.t 9)), zA 11 (.pick (.t 7) (.t 10) (.k (.c (.lit (.bool false))))), zM 12 11, zG 12 false 13 (.mv (.t 0)), zG 12 false 14 (.mv (.t 1)), zG 12 false 15 (.bin .lss (.t 13) (.t 14)), zA 16 (.pick (.t 12) (.k (.c (.lit (.bool true)))) (.t 15)), zM 4 16] [4]) .ret))
theorem K.cmp_Less_string : chkF Go.Proofs.Tryz.prog 137 2 0 C.cmp_Less_string [.tmp 4] = true := by kernel_rfl
def C.impl_copyNode : ACode := (.seq (.reg [ zA 1 (.box 10 (.t 0)), zA 2 (.alloc 11 [.c (.lit (.int .i64 0)), .c (.lit (.int .i64 0)), .c (.str []), .nsl 1, .nsl 5])] [1, 2]) (.seq (.reg [ zA 6 (.faddr 0 (.t 1)), zA 7 (.load false 1 (.t 6)), zA 8 (.faddr 1 (.t 1)), zA 9 (.load false 1 (.t 8)), zA 10 (.faddr 2 (.t 1)), zA 11 (.load false 1 (.t 10)), zA 12 (.build [.c (.lit (.int .i64 0)), .c (.lit (.int .i64 0)), .c (.str []), .nsl 1, .nsl 5] [(0, 1, .t 7), (1, 1, .t 9), (2, 1, .t 11)]), zA 3 (.alloc 12 [.c (.lit (.int .i64 0)), .c (.lit (.int .i64 0)), .c (.str []), .nsl 1, .nsl 5]), zS (.store true 5 (.t 3) (.t 12))] [1, 2, 3]) (.cut (.seq (.reg [ zA 13 (.faddr 3 (.t 1)), zA 14 (.load false 1 (.t 13)), zA 15 (.len (.t 14)), zA 16 (.bin .gtr (.t 15) (.k (.c (.lit (.int .i64 0)))))] [1, 2, 3, 16]) (.cond (.t 16) (.seq (.reg [ zA 17 (.faddr 3 (.t 1)), zA 18 (.load false 1 (.t 17)), zA 19 (.len (.t 18)), zA 20 (.makes 13 1 16 [.str []] (.t 19) (.t 19)), zA 21 (.faddr 3 (.t 3)), zS (.store false 1 (.t 21) (.t 20))] [1, 2, 3]) (.reg [ zA 22 (.faddr 3 (.t 3)), zA 23 (.load false 1 (.t 22)), zA 24 (.faddr 3 (.t 1)), zA 25 (.load false 1 (.t 24)), zA 26 (.copy 1 (.t 23) (.t 25))] [1, 2, 3])) .skip)) (.seq (.seq (.reg [ zA 27 (.faddr 4 (.t 1)), zA 28 (.load false 1 (.t 27)), zA 29 (.len (.t 28)), zA 30 (.bin .gtr (.t 29) (.k (.c (.lit (.int .i64 0)))))] [1, 2, 3, 30]) (.cond (.t 30) (.seq (.reg [ zA 31 (.faddr 4 (.t 1)), zA 32 (.load false 1 (.t 31)), zA 33 (.len (.t 32)), zA 34 (.makes 14 5 80 [.lit (.int .i64 0), .lit (.int .i64 0), .str [], .sl 1 [], .sl 5 []] (.t 33) (.t 33)), zA 35 (.faddr 4 (.t 3)), zS (.store false 1 (.t 35) (.t 34))] [1, 2, 3]) (.seq (.reg [ zA 36 (.faddr 4 (.t 1)), zA 37 (.load false 1 (.t 36)), zA 38 (.len (.t 37)), zA 39 (.mv (.k (.c (.lit (.int .i64 0)))))] [2, 3, 37, 38, 39]) (.block 0 (.loop (.seq (.reg [ zA 40 (.bin .lss (.t 39) (.t 38))] [2, 3, 37, 38, 39, 40]) (.seq (.cond (.t 40) .skip (.exit 0)) (.seq (.block 1 (.seq (.reg [ zM 41 39, zA 42 (.iaddr 5 (.t 37) (.t 39)), zA 43 (.load true 5 (.t 42)), zA 5 (.alloc 15 [.c (.lit (.int .i64 0)), .c (.lit (.int .i64 0)), .c (.str []), .nsl 1, .nsl 5]), zM 4 41, zS (.store true 5 (.t 5) (.t 43))] [2, 3, 4, 5, 37, 38, 39]) (.regD [ (zA 44 (.faddr 4 (.t 3)), []), (zA 45 (.load false 1 (.t 44)), [0]), (zM 46 4, []), (zA 47 (.load true 5 (.t 5)), []), (⟨none, some 48, .call 61 [.t 47]⟩, [3]), (zA 49 (.iaddr 5 (.t 45) (.t 46)), [0, 1, 2, 3, 4]), (zS (.store true 5 (.t 49) (.t 48)), [0, 1, 2, 3, 4, 5])] [2, 3, 37, 38, 39]))) (.reg [ zA 50 (.bin .add (.t 39) (.k (.c (.lit (.int .i64 1))))), zM 39 50] [2, 3, 37, 38, 39])))))))) .skip)) (.seq (.reg [ zA 51 (.load true 5 (.t 3)), zS (.store true 5 (.t 2) (.t 51))] [2]) .ret)))))
theorem K.impl_copyNode : chkF Go.Proofs.Tryz.prog 61 1 0 C.impl_copyNode [.cell 2 true 5] = true := by kernel_rfl
def C.slices_isNaN_string : ACode := (.seq (.reg [ zA 2 (.mv (.k (.c (.lit (.bool false)))))] [0]) (.seq (.reg [ zM 3 0, zM 4 0, zA 5 (.bin .neq (.t 3) (.t 4)), zM 2 5] [2]) .ret))
theorem K.slices_isNaN_string : chkF Go.Proofs.Tryz.prog 138 1 0 C.slices_isNaN_string [.tmp 2] = true := by kernel_rfl
def C.slices_BinarySearch_string : ACode := (.seq (.reg [ zA 4 (.mv (.k (.c (.lit (.int .i64 0))))), zA 5 (.mv (.k (.c (.lit (.bool false)))))] [0, 1]) (.seq (.reg [ zM 10 0, zA 11 (.len (.t 10)), zM 6 11] [0, 1, 6]) (.seq (.reg [ zM 12 6, zA 7 (.mv (.k (.c (.lit (.int .i64 0))))), zM 8 12] [0, 1, 6, 7, 8]) (.seq (.block 0 (.loop (.seq (.seq (.reg [ zM 13 7, zM 14 8, zA 15 (.bin .lss (.t 13) (.t 14))] [0, 1, 6, 7, 8, 15]) (.cond (.t 15) .skip (.exit 0))) (.block 1 (.seq (.reg [ zM 16 7, zM 17 8, zA 18 (.bin .add (.t 16) (.t 17)), zA 19 (.cint .u64 (.t 18)), zA 20 (.shf false (.t 19) (.k (.c (.lit (.int .u64 1))))), zA 21 (.cint .i64 (.t 20)), zM 9 21] [0, 1, 6, 7, 8, 9]) (.seq (.reg [ zM 22 0, zM 23 9, zA 24 (.iaddr 1 (.t 22) (.t 23)), zA 25 (.load false 1 (.t 24)), zM 26 1, ⟨none, some 27, .call 137 [.t 25, .t 26]⟩] [0, 1, 6, 7, 8, 9, 27]) (.cond (.t 27) (.reg [ zM 28 9, zA 29 (.bin .add (.t 28) (.k (.c (.lit (.int .i64 1))))), zM 7 29] [0, 1, 6, 7, 8]) (.reg [ zM 30 9, zM 8 30] [0, 1, 6, 7, 8])))))))) (.seq (.reg [ zM 31 7, zM 32 7, zM 33 6, zA 34 (.bin .lss (.t 32) (.t 33)), zM 35 34, zG 35 true 36 (.mv (.t 0)), zG 35 true 37 (.mv (.t 7)), zG 35 true 38 (.iaddr 1 (.t 36) (.t 37)), zG 35 true 39 (.load false 1 (.t 38)), zG 35 true 40 (.mv (.t 1)), zG 35 true 41 (.bin .eql (.t 39) (.t 40)), zG 35 true 42 (.mv (.t 41)), zG 42 false 43 (.mv (.t 0)), zG 42 false 44 (.mv (.t 7)), zG 42 false 45 (.iaddr 1 (.t 43) (.t 44)), zG 42 false 46 (.load false 1 (.t 45)), ⟨(some (42, false)), some 47, .call 138 [.t 46]⟩, zG 42 false 48 (.mv (.t 47)), zG 48 true 49 (.mv (.t 1)), ⟨(some (48, true)), some 50, .call 138 [.t 49]⟩, zG 42 false 51 (.pick (.t 48) (.t 50) (.k (.c (.lit (.bool false))))), zG 35 true 52 (.pick (.t 42) (.k (.c (.lit (.bool true)))) (.t 51)), zA 53 (.pick (.t 35) (.t 52) (.k (.c (.lit (.bool false))))), zM 4 31, zM 5 53] [4, 5]) .ret)))))
theorem K.slices_BinarySearch_string : chkF Go.Proofs.Tryz.prog 94 2 0 C.slices_BinarySearch_string [.tmp 4, .tmp 5] = true := by kernel_rfl
def C.internal_strconv_log10Pow2 : ACode := (.seq (.reg [ zA 2 (.mv (.k (.c (.lit (.int .i64 0)))))] [0]) (.seq (.reg [ zM 3 0, zA 4 (.bin .mul (.t 3) (.k (.c (.lit (.int .i64 78913))))), zA 5 (.shf false (.t 4) (.k (.c (.lit (.int .u64 18))))), zM 2 5] [2]) .ret))
theorem K.internal_strconv_log10Pow2 : chkF Go.Proofs.Tryz.prog 213 1 0 C.internal_strconv_log10Pow2 [.tmp 2] = true := by kernel_rfl
def C.math_bits_Len64 : ACode := (.seq (.reg [ zA 2 (.mv (.k (.c (.lit (.int .i64 0)))))] [0, 2]) (.cut (.seq (.reg [ zM 3 0, zA 4 (.bin .geq (.t 3) (.k (.c (.lit (.int .u64 4294967296)))))] [0, 2, 4]) (.cond (.t 4) (.seq (.reg [ zM 5 0, zA 6 (.shf false (.t 5) (.k (.c (.lit (.int .u64 32))))), zM 0 6] [0]) (.reg [ zA 2 (.mv (.k (.c (.lit (.int .i64 32)))))] [0, 2])) .skip)) (.cut (.seq (.reg [ zM 7 0, zA 8 (.bin .geq (.t 7) (.k (.c (.lit (.int .u64 65536)))))] [0, 2, 8]) (.cond (.t 8) (.seq (.reg [ zM 9 0, zA 10 (.shf false (.t 9) (.k (.c (.lit (.int .u64 16))))), zM 0 10] [0, 2]) (.reg [ zM 11 2, zA 12 (.bin .add (.t 11) (.k (.c (.lit (.int .i64 16))))), zM 2 12] [0, 2])) .skip)) (.seq (.seq (.reg [ zM 13 0, zA 14 (.bin .geq (.t 13) (.k (.c (.lit (.int .u64 256)))))] [0, 2, 14]) (.cond (.t 14) (.seq (.reg [ zM 15 0, zA 16 (.shf false (.t 15) (.k (.c (.lit (.int .u64 8))))), zM 0 16] [0, 2]) (.reg [ zM 17 2, zA 18 (.bin .add (.t 17) (.k (.c (.lit (.int .i64 8))))), zM 2 18] [0, 2])) .skip)) (.seq (.reg [ zM 19 2, zM 20 0, zA 21 (.cint .u8 (.t 20)), zA 22 (.idxs (.k (.c (.str [0, 1, 2, 2, 3, 3, 3, 3, 4, 4, 4, 4, 4, 4, 4, 4, 5, 5, 5, 5, 5, 5, 5, 5, 5, 5, 5, 5, 5, 5, 5, 5, 6, 6, 6, 6, 6, 6, 6, 6, 6, 6, 6, 6, 6, 6, 6, 6, 6, 6, 6, 6, 6, 6, 6, 6, 6, 6, 6, 6, 6, 6, 6, 6, 7, 7, 7, 7, 7, 7, 7, 7, 7, 7, 7, 7, 7, 7, 7, 7, 7, 7, 7, 7, 7, 7, 7, 7, 7, 7, 7, 7, 7, 7, 7, 7, 7, 7, 7, 7, 7, 7, 7, 7, 7, 7, 7, 7, 7, 7, 7, 7, 7, 7, 7, 7, 7, 7, 7, 7, 7, 7, 7, 7, 7, 7, 7, 7, 8, 8, 8, 8, 8, 8, 8, 8, 8, 8, 8, 8, 8, 8, 8, 8, 8, 8, 8, 8, 8, 8, 8, 8, 8, 8, 8, 8, 8, 8, 8, 8, 8, 8, 8, 8, 8, 8, 8, 8, 8, 8, 8, 8, 8, 8, 8, 8, 8, 8, 8, 8, 8, 8, 8, 8, 8, 8, 8, 8, 8, 8, 8, 8, 8, 8, 8, 8, 8, 8, 8, 8, 8, 8, 8, 8, 8, 8, 8, 8, 8, 8, 8, 8, 8, 8, 8, 8, 8, 8, 8, 8, 8, 8, 8, 8, 8, 8, 8, 8, 8, 8, 8, 8, 8, 8, 8, 8, 8, 8, 8, 8, 8, 8, 8, 8, 8, 8, 8, 8, 8, 8, 8, 8, 8, 8, 8, 8]))) (.t 21)), zA 23 (.cint .i64 (.t 22)), zA 24 (.bin .add (.t 19) (.t 23)), zM 2 24] [2]) .ret)))))
theorem K.math_bits_Len64 : chkF Go.Proofs.Tryz.prog 163 1 0 C.math_bits_Len64 [.tmp 2] = true := by kernel_rfl
def C.internal_strconv_numDigits : ACode := (.seq (.reg [ zA 2 (.mv (.k (.c (.lit (.int .i64 0)))))] [0]) (.seq (.reg [ zM 4 0, ⟨none, some 5, .call 163 [.t 4]⟩, ⟨none, some 6, .call 213 [.t 5]⟩, zM 3 6] [0, 3]) (.seq (.reg [ zM 7 3, zM 8 0, zM 9 3, ⟨none, some 10, .op (.iaddrA 1 20 (.k (.c (.lit (.pointer (some ⟨1, 0, none⟩))))) (.t 9))⟩, zA 11 (.load false 1 (.t 10)), zA 12 (.bin .geq (.t 8) (.t 11)), ⟨none, some 13, .call 214 [.t 12]⟩, zA 14 (.bin .add (.t 7) (.t 13)), zM 2 14] [2]) .ret)))
theorem K.internal_strconv_numDigits : chkF Go.Proofs.Tryz.prog 208 1 0 C.internal_strconv_numDigits [.tmp 2] = true := by kernel_rfl
def C.internal_strconv_small : ACode := (.seq (.reg [ zA 2 (.mv (.k (.c (.str []))))] [0]) (.seq (.seq (.reg [ zM 3 0, zA 4 (.bin .lss (.t 3) (.k (.c (.lit (.int .i64 10)))))] [0, 4]) (.cond (.t 4) (.seq (.reg [ zM 5 0, zM 6 0, zA 7 (.bin .add (.t 6) (.k (.c (.lit (.int .i64 1))))), zA 8 (.slstr (.k (.c (.str [48, 49, 50, 51, 52, 53, 54, 55, 56, 57, 97, 98, 99, 100, 101, 102, 103, 104, 105, 106, 107, 108, 109, 110, 111, 112, 113, 114, 115, 116, 117, 118, 119, 120, 121, 122]))) (some (.t 5)) (some (.t 7))), zM 2 8] [2]) .ret) .skip)) (.seq (.reg [ zM 9 0, zA 10 (.bin .mul (.t 9) (.k (.c (.lit (.int .i64 2))))), zM 11 0, zA 12 (.bin .mul (.t 11) (.k (.c (.lit (.int .i64 2))))), zA 13 (.bin .add (.t 12) (.k (.c (.lit (.int .i64 2))))), zA 14 (.slstr (.k (.c (.str [48, 48, 48, 49, 48, 50, 48, 51, 48, 52, 48, 53, 48, 54, 48, 55, 48, 56, 48, 57, 49, 48, 49, 49, 49, 50, 49, 51, 49, 52, 49, 53, 49, 54, 49, 55, 49, 56, 49, 57, 50, 48, 50, 49, 50, 50, 50, 51, 50, 52, 50, 53, 50, 54, 50, 55, 50, 56, 50, 57, 51, 48, 51, 49, 51, 50, 51, 51, 51, 52, 51, 53, 51, 54, 51, 55, 51, 56, 51, 57, 52, 48, 52, 49, 52, 50, 52, 51, 52, 52, 52, 53, 52, 54, 52, 55, 52, 56, 52, 57, 53, 48, 53, 49, 53, 50, 53, 51, 53, 52, 53, 53, 53, 54, 53, 55, 53, 56, 53, 57, 54, 48, 54, 49, 54, 50, 54, 51, 54, 52, 54, 53, 54, 54, 54, 55, 54, 56, 54, 57, 55, 48, 55, 49, 55, 50, 55, 51, 55, 52, 55, 53, 55, 54, 55, 55, 55, 56, 55, 57, 56, 48, 56, 49, 56, 50, 56, 51, 56, 52, 56, 53, 56, 54, 56, 55, 56, 56, 56, 57, 57, 48, 57, 49, 57, 50, 57, 51, 57, 52, 57, 53, 57, 54, 57, 55, 57, 56, 57, 57]))) (some (.t 10)) (some (.t 13))), zM 2 14] [2]) .ret)))
theorem K.internal_strconv_small : chkF Go.Proofs.Tryz.prog 207 1 0 C.internal_strconv_small [.tmp 2] = true := by kernel_rfl
def C.internal_strconv_FormatInt : ACode := (.seq (.reg [ zA 4 (.mv (.k (.c (.str []))))] [0, 1]) (.seq (.seq (.reg [ zM 10 1, zA 11 (.bin .eql (.t 10) (.k (.c (.lit (.int .i64 10)))))] [0, 1, 11]) (.cond (.t 11) (.seq (.seq (.reg [ zM 12 0, zA 13 (.bin .leq (.k (.c (.lit (.int .i64 0)))) (.t 12)), zM 14 13, zG 14 true 15 (.mv (.t 0)), zG 14 true 16 (.bin .lss (.t 15) (.k (.c (.lit (.int .i64 100))))), zA 17 (.pick (.t 14) (.t 16) (.k (.c (.lit (.bool false)))))] [0, 17]) (.cond (.t 17) (.seq (.reg [ zM 18 0, ⟨none, some 19, .call 207 [.t 18]⟩, zM 4 19] [4]) .ret) .skip)) (.seq (.reg [ zA 5 (.allocA 10 1 24 [.lit (.int .u8 0)])] [0, 5]) (.seq (.reg [ zM 20 0, zA 21 (.cint .u64 (.t 20)), zM 6 21] [0, 5, 6]) (.cut (.seq (.reg [ zM 22 0, zA 23 (.bin .lss (.t 22) (.k (.c (.lit (.int .i64 0)))))] [0, 5, 6, 23]) (.cond (.t 23) (.reg [ zM 24 6, zA 25 (.neg (.t 24)), zM 6 25] [0, 5, 6]) .skip)) (.seq (.reg [ zM 26 6, ⟨none, some 27, .call 208 [.t 26]⟩, zM 7 27] [0, 5, 6, 7]) (.seq (.reg [ zM 28 7, zA 29 (.bin .add (.k (.c (.lit (.int .i64 1)))) (.t 28)), ⟨none, some 30, .op .stop⟩, zM 31 6, ⟨none, some 32, .call 209 [.t 30, .t 31]⟩] [0, 5, 7]) (.seq (.seq (.reg [ zM 33 0, zA 34 (.bin .lss (.t 33) (.k (.c (.lit (.int .i64 0)))))] [5, 7, 34]) (.cond (.t 34) (.seq (.reg [ zA 35 (.iaddrA 1 24 (.t 5) (.k (.c (.lit (.int .i64 0))))), zS (.store false 1 (.t 35) (.k (.c (.lit (.int .u8 45)))))] [5, 7]) (.seq (.reg [ zM 36 7, zA 37 (.bin .add (.k (.c (.lit (.int .i64 1)))) (.t 36)), ⟨none, some 38, .op .stop⟩, zA 39 (.cstr (.t 38)), zM 4 39] [4]) .ret)) .skip)) (.seq (.reg [ zM 40 7, zA 41 (.bin .add (.k (.c (.lit (.int .i64 1)))) (.t 40)), ⟨none, some 42, .op .stop⟩, zA 43 (.cstr (.t 42)), zM 4 43] [4]) .ret)))))))) .skip)) (.seq (.reg [ zM 45 0, zA 46 (.cint .u64 (.t 45)), zM 47 1, zM 48 0, zA 49 (.bin .lss (.t 48) (.k (.c (.lit (.int .i64 0))))), ⟨none, some 50, .call 210 [.k (.nsl 1), .t 46, .t 47, .t 49, .k (.c (.lit (.bool false)))]⟩, zM 44 50, zA 51 (.extract (.t 44) 0), zA 52 (.extract (.t 44) 1), zM 8 51, zM 9 52] [9]) (.seq (.reg [ zM 53 9, zM 4 53] [4]) .ret))))
theorem K.internal_strconv_FormatInt : chkF Go.Proofs.Tryz.prog 201 2 0 C.internal_strconv_FormatInt [.tmp 4] = true := by kernel_rfl
def C.internal_strconv_Itoa : ACode := (.seq (.reg [ zA 2 (.mv (.k (.c (.str []))))] [0]) (.seq (.reg [ zM 3 0, ⟨none, some 4, .call 201 [.t 3, .k (.c (.lit (.int .i64 10)))]⟩, zM 2 4] [2]) .ret))
theorem K.internal_strconv_Itoa : chkF Go.Proofs.Tryz.prog 177 1 0 C.internal_strconv_Itoa [.tmp 2] = true := by kernel_rfl
def C.strconv_Itoa : ACode := (.seq (.reg [ zA 2 (.mv (.k (.c (.str []))))] [0]) (.seq (.reg [ zM 3 0, ⟨none, some 4, .call 177 [.t 3]⟩, zM 2 4] [2]) .ret))
theorem K.strconv_Itoa : chkF Go.Proofs.Tryz.prog 130 1 0 C.strconv_Itoa [.tmp 2] = true := by kernel_rfl
def C.impl_kidIndex : ACode := (.seq (.reg [ zA 2 (.box 10 (.t 0)), zA 4 (.mv (.k (.c (.lit (.int .i64 0))))), zA 5 (.mv (.k (.c (.lit (.bool false)))))] [1, 2]) (.seq (.seq (.reg [ zA 7 (.faddr 0 (.t 2)), zA 8 (.load false 1 (.t 7))] [1, 2, 8]) (.block 0 (.seq (.reg [ zA 10 (.bin .eql (.t 8) (.k (.c (.lit (.int .i64 4))))), zM 9 10] [1, 2, 8, 9]) (.cond (.t 9) (.seq (.reg [ zA 11 (.faddr 3 (.t 2)), zA 12 (.load false 1 (.t 11)), zM 13 1, ⟨none, some 14, .call 94 [.t 12, .t 13]⟩, zA 15 (.extract (.t 14) 0), zA 16 (.extract (.t 14) 1), zM 4 15, zM 5 16] [4, 5]) .ret) (.seq (.reg [ zA 18 (.bin .eql (.t 8) (.k (.c (.lit (.int .i64 3))))), zM 17 18] [1, 2, 17]) (.cond (.t 17) (.seq (.reg [ zA 19 (.faddr 4 (.t 2)), zA 20 (.load false 1 (.t 19)), zA 21 (.len (.t 20)), zA 22 (.mv (.k (.c (.lit (.int .i64 0)))))] [1, 21, 22]) (.block 1 (.loop (.seq (.reg [ zA 23 (.bin .lss (.t 22) (.t 21))] [1, 21, 22, 23]) (.seq (.cond (.t 23) .skip (.exit 1)) (.seq (.block 2 (.seq (.reg [ zM 24 22, zM 6 24] [1, 6, 21, 22]) (.seq (.reg [ zM 25 6, ⟨none, some 26, .call 130 [.t 25]⟩, zM 27 1, zA 28 (.bin .eql (.t 26) (.t 27))] [1, 6, 21, 22, 28]) (.cond (.t 28) (.seq (.reg [ zM 29 6, zM 4 29, zA 5 (.mv (.k (.c (.lit (.bool true)))))] [4, 5]) .ret) .skip)))) (.reg [ zA 30 (.bin .add (.t 22) (.k (.c (.lit (.int .i64 1))))), zM 22 30] [1, 21, 22]))))))) .skip)))))) (.seq (.reg [ zA 4 (.mv (.k (.c (.lit (.int .i64 0))))), zA 5 (.mv (.k (.c (.lit (.bool false)))))] [4, 5]) .ret)))
theorem K.impl_kidIndex : chkF Go.Proofs.Tryz.prog 107 2 0 C.impl_kidIndex [.tmp 4, .tmp 5] = true := by kernel_rfl
def C.slices_Insert_impl_Node : ACode := (.seq (.reg [ zA 6 (.mv (.k (.nsl 5)))] [0, 1, 2]) (.seq (.reg [ zM 10 0, zM 11 1, zA 12 (.sslice 5 (.t 10) (some (.t 11)) none)] [0, 1, 2]) (.seq (.reg [ zM 13 2, zA 14 (.len (.t 13)), zM 7 14] [0, 1, 2, 7]) (.seq (.seq (.reg [ zM 15 7, zA 16 (.bin .eql (.t 15) (.k (.c (.lit (.int .i64 0)))))] [0, 1, 2, 7, 16]) (.cond (.t 16) (.seq (.reg [ zM 17 0, zM 6 17] [6]) .ret) .skip)) (.seq (.reg [ zM 18 0, zA 19 (.len (.t 18)), zM 8 19] [0, 1, 2, 7, 8]) (.seq (.seq (.reg [ zM 20 1, zM 21 8, zA 22 (.bin .eql (.t 20) (.t 21))] [0, 1, 2, 7, 8, 22]) (.cond (.t 22) (.seq (.reg [ zM 23 0, zM 24 2, zA 25 (.sapp 10 5 80 (.t 23) (.t 24)), zM 6 25] [6]) .ret) .skip)) (.seq (.seq (.reg [ zM 26 8, zM 27 7, zA 28 (.bin .add (.t 26) (.t 27)), zM 29 0, zA 30 (.capo (.t 29)), zA 31 (.bin .gtr (.t 28) (.t 30))] [0, 1, 2, 7, 8, 31]) (.cond (.t 31) (.seq (.reg [ zM 32 0, zM 33 1, zA 34 (.sslice 5 (.t 32) none (some (.t 33))), zM 35 8, zM 36 7, zA 37 (.bin .add (.t 35) (.t 36)), zM 38 1, zA 39 (.bin .sub (.t 37) (.t 38)), zA 40 (.appz 11 5 80 [.lit (.int .i64 0), .lit (.int .i64 0), .str [], .sl 1 [], .sl 5 []] (.t 34) (.t 39)), zM 9 40] [0, 1, 2, 7, 9]) (.seq (.reg [ zM 41 9, zM 42 1, zA 43 (.sslice 5 (.t 41) (some (.t 42)) none), zM 44 2, zA 45 (.scpy 5 (.t 43) (.t 44))] [0, 1, 7, 9]) (.seq (.regD [ (zM 46 9, []), (zM 47 1, []), (zM 48 7, []), (zA 49 (.bin .add (.t 47) (.t 48)), [1, 2]), (zA 50 (.sslice 5 (.t 46) (some (.t 49)) none), [0, 1, 2, 3]), (zM 51 0, []), (zM 52 1, []), (zA 53 (.sslice 5 (.t 51) (some (.t 52)) none), [5, 6]), (zA 54 (.scpy 5 (.t 50) (.t 53)), [0, 1, 2, 3, 4, 5, 6, 7])] [9]) (.seq (.reg [ zM 55 9, zM 6 55] [6]) .ret)))) .skip)) (.seq (.reg [ zM 56 0, zM 57 8, zM 58 7, zA 59 (.bin .add (.t 57) (.t 58)), zA 60 (.sslice 5 (.t 56) none (some (.t 59))), zM 0 60] [0, 1, 2, 7, 8]) (.seq (.seq (.reg [ zM 61 2, zM 62 0, zM 63 1, zM 64 7, zA 65 (.bin .add (.t 63) (.t 64)), zA 66 (.sslice 5 (.t 62) (some (.t 65)) none), zA 67 (.ovl (.t 61) (.t 66)), zA 68 (.not (.t 67))] [0, 1, 2, 7, 8, 68]) (.cond (.t 68) (.seq (.regD [ (zM 69 0, []), (zM 70 1, []), (zM 71 7, []), (zA 72 (.bin .add (.t 70) (.t 71)), [1, 2]), (zA 73 (.sslice 5 (.t 69) (some (.t 72)) none), [0, 1, 2, 3]), (zM 74 0, []), (zM 75 1, []), (zA 76 (.sslice 5 (.t 74) (some (.t 75)) none), [5, 6]), (zA 77 (.scpy 5 (.t 73) (.t 76)), [0, 1, 2, 3, 4, 5, 6, 7])] [0, 1, 2]) (.seq (.reg [ zM 78 0, zM 79 1, zA 80 (.sslice 5 (.t 78) (some (.t 79)) none), zM 81 2, zA 82 (.scpy 5 (.t 80) (.t 81))] [0]) (.seq (.reg [ zM 83 0, zM 6 83] [6]) .ret))) .skip)) (.seq (.reg [ zM 84 0, zM 85 8, zA 86 (.sslice 5 (.t 84) (some (.t 85)) none), zM 87 2, zA 88 (.scpy 5 (.t 86) (.t 87))] [0, 1, 7]) (.seq (.reg [ zM 89 0, zM 90 1, zA 91 (.sslice 5 (.t 89) (some (.t 90)) none), zM 92 7, ⟨none, some 93, .call 182 [.t 91, .t 92]⟩] [0]) (.seq (.reg [ zM 94 0, zM 6 94] [6]) .ret))))))))))))
theorem K.slices_Insert_impl_Node : chkF Go.Proofs.Tryz.prog 140 3 2 C.slices_Insert_impl_Node [.tmp 6] = true := by kernel_rfl
def C.slices_Insert_string : ACode := (.seq (.reg [ zA 6 (.mv (.k (.nsl 1)))] [0, 1, 2]) (.seq (.reg [ zM 10 0, zM 11 1, zA 12 (.sslice 1 (.t 10) (some (.t 11)) none)] [0, 1, 2]) (.seq (.reg [ zM 13 2, zA 14 (.len (.t 13)), zM 7 14] [0, 1, 2, 7]) (.seq (.seq (.reg [ zM 15 7, zA 16 (.bin .eql (.t 15) (.k (.c (.lit (.int .i64 0)))))] [0, 1, 2, 7, 16]) (.cond (.t 16) (.seq (.reg [ zM 17 0, zM 6 17] [6]) .ret) .skip)) (.seq (.reg [ zM 18 0, zA 19 (.len (.t 18)), zM 8 19] [0, 1, 2, 7, 8]) (.seq (.seq (.reg [ zM 20 1, zM 21 8, zA 22 (.bin .eql (.t 20) (.t 21))] [0, 1, 2, 7, 8, 22]) (.cond (.t 22) (.seq (.reg [ zM 23 0, zM 24 2, zA 25 (.sapp 10 1 16 (.t 23) (.t 24)), zM 6 25] [6]) .ret) .skip)) (.seq (.seq (.reg [ zM 26 8, zM 27 7, zA 28 (.bin .add (.t 26) (.t 27)), zM 29 0, zA 30 (.capo (.t 29)), zA 31 (.bin .gtr (.t 28) (.t 30))] [0, 1, 2, 7, 8, 31]) (.cond (.t 31) (.seq (.reg [ zM 32 0, zM 33 1, zA 34 (.sslice 1 (.t 32) none (some (.t 33))), zM 35 8, zM 36 7, zA 37 (.bin .add (.t 35) (.t 36)), zM 38 1, zA 39 (.bin .sub (.t 37) (.t 38)), zA 40 (.appz 11 1 16 [.str []] (.t 34) (.t 39)), zM 9 40] [0, 1, 2, 7, 9]) (.seq (.reg [ zM 41 9, zM 42 1, zA 43 (.sslice 1 (.t 41) (some (.t 42)) none), zM 44 2, zA 45 (.scpy 1 (.t 43) (.t 44))] [0, 1, 7, 9]) (.seq (.regD [ (zM 46 9, []), (zM 47 1, []), (zM 48 7, []), (zA 49 (.bin .add (.t 47) (.t 48)), [1, 2]), (zA 50 (.sslice 1 (.t 46) (some (.t 49)) none), [0, 1, 2, 3]), (zM 51 0, []), (zM 52 1, []), (zA 53 (.sslice 1 (.t 51) (some (.t 52)) none), [5, 6]), (zA 54 (.scpy 1 (.t 50) (.t 53)), [0, 1, 2, 3, 4, 5, 6, 7])] [9]) (.seq (.reg [ zM 55 9, zM 6 55] [6]) .ret)))) .skip)) (.seq (.reg [ zM 56 0, zM 57 8, zM 58 7, zA 59 (.bin .add (.t 57) (.t 58)), zA 60 (.sslice 1 (.t 56) none (some (.t 59))), zM 0 60] [0, 1, 2, 7, 8]) (.seq (.seq (.reg [ zM 61 2, zM 62 0, zM 63 1, zM 64 7, zA 65 (.bin .add (.t 63) (.t 64)), zA 66 (.sslice 1 (.t 62) (some (.t 65)) none), zA 67 (.ovl (.t 61) (.t 66)), zA 68 (.not (.t 67))] [0, 1, 2, 7, 8, 68]) (.cond (.t 68) (.seq (.regD [ (zM 69 0, []), (zM 70 1, []), (zM 71 7, []), (zA 72 (.bin .add (.t 70) (.t 71)), [1, 2]), (zA 73 (.sslice 1 (.t 69) (some (.t 72)) none), [0, 1, 2, 3]), (zM 74 0, []), (zM 75 1, []), (zA 76 (.sslice 1 (.t 74) (some (.t 75)) none), [5, 6]), (zA 77 (.scpy 1 (.t 73) (.t 76)), [0, 1, 2, 3, 4, 5, 6, 7])] [0, 1, 2]) (.seq (.reg [ zM 78 0, zM 79 1, zA 80 (.sslice 1 (.t 78) (some (.t 79)) none), zM 81 2, zA 82 (.scpy 1 (.t 80) (.t 81))] [0]) (.seq (.reg [ zM 83 0, zM 6 83] [6]) .ret))) .skip)) (.seq (.reg [ zM 84 0, zM 85 8, zA 86 (.sslice 1 (.t 84) (some (.t 85)) none), zM 87 2, zA 88 (.scpy 1 (.t 86) (.t 87))] [0, 1, 7]) (.seq (.reg [ zM 89 0, zM 90 1, zA 91 (.sslice 1 (.t 89) (some (.t 90)) none), zM 92 7, ⟨none, some 93, .call 180 [.t 91, .t 92]⟩] [0]) (.seq (.reg [ zM 94 0, zM 6 94] [6]) .ret))))))))))))
theorem K.slices_Insert_string : chkF Go.Proofs.Tryz.prog 139 3 2 C.slices_Insert_string [.tmp 6] = true := by kernel_rfl
def C.impl_putName : ACode := (.seq (.reg [ zA 5 (.box 10 (.t 2))] [0, 1, 5]) (.seq (.reg [ zM 9 0, zA 10 (.nilck (.t 9)), zA 11 (.faddr 3 (.t 10)), zA 12 (.load false 1 (.t 11)), zM 13 1, ⟨none, some 14, .call 94 [.t 12, .t 13]⟩, zM 8 14, zA 15 (.extract (.t 8) 0), zA 16 (.extract (.t 8) 1), zM 6 15, zM 7 16] [0, 1, 5, 6, 7]) (.seq (.seq (.reg [ zM 17 7] [0, 1, 5, 6, 17]) (.cond (.t 17) (.seq (.regD [ (zM 18 0, []), (zA 19 (.nilck (.t 18)), [0]), (zA 20 (.faddr 4 (.t 19)), [0, 1]), (zA 21 (.load false 1 (.t 20)), [0, 1, 2]), (zM 22 6, []), (zA 23 (.load true 5 (.t 5)), []), (zA 24 (.iaddr 5 (.t 21) (.t 22)), [0, 1, 2, 3, 4, 5]), (zS (.store true 5 (.t 24) (.t 23)), [0, 1, 2, 3, 4, 5, 6])] []) .ret) .skip)) (.seq (.reg [ zM 25 0, zM 26 0, zA 27 (.nilck (.t 26)), zA 28 (.faddr 3 (.t 27)), zA 29 (.load false 1 (.t 28)), zM 30 6, zM 31 1, zA 32 (.bslice 11 1 1 [.str []] [(0, .t 31)]), ⟨none, some 33, .call 139 [.t 29, .t 30, .t 32]⟩, zA 34 (.nilck (.t 25)), zA 35 (.faddr 3 (.t 34)), zS (.store false 1 (.t 35) (.t 33))] [0, 5, 6]) (.regD [ (zM 36 0, []), (zM 37 0, []), (zA 38 (.nilck (.t 37)), [1]), (zA 39 (.faddr 4 (.t 38)), [1, 2]), (zA 40 (.load false 1 (.t 39)), [1, 2, 3]), (zM 41 6, []), (zA 42 (.load true 5 (.t 5)), []), (zA 43 (.bslice 12 5 1 [.lit (.int .i64 0), .lit (.int .i64 0), .str [], .sl 1 [], .sl 5 []] [(0, .t 42)]), [6]), (⟨none, some 44, .call 140 [.t 40, .t 41, .t 43]⟩, [1, 2, 3, 4, 5, 6, 7]), (zA 45 (.nilck (.t 36)), [0, 1, 2, 3, 4, 5, 6, 7, 8]), (zA 46 (.faddr 4 (.t 45)), [0, 1, 2, 3, 4, 5, 6, 7, 8, 9]), (zS (.store false 1 (.t 46) (.t 44)), [0, 1, 2, 3, 4, 5, 6, 7, 8, 9, 10])] [])))))
theorem K.impl_putName : chkF Go.Proofs.Tryz.prog 95 3 3 C.impl_putName [] = true := by kernel_rfl
def C.impl_addKid : ACode := (.seq (.reg [ zA 3 (.box 10 (.t 0)), zA 5 (.box 11 (.t 2)), zA 6 (.alloc 12 [.c (.lit (.int .i64 0)), .c (.lit (.int .i64 0)), .c (.str []), .nsl 1, .nsl 5]), zA 7 (.mv (.k (.c (.lit (.bool false)))))] [1, 3, 5, 6]) (.seq (.reg [ zA 11 (.load true 5 (.t 3)), ⟨none, some 12, .call 61 [.t 11]⟩, zA 8 (.alloc 13 [.c (.lit (.int .i64 0)), .c (.lit (.int .i64 0)), .c (.str []), .nsl 1, .nsl 5]), zS (.store true 5 (.t 8) (.t 12))] [1, 3, 5, 6, 8]) (.seq (.seq (.reg [ zA 13 (.faddr 0 (.t 3)), zA 14 (.load false 1 (.t 13))] [1, 3, 5, 6, 8, 14]) (.block 0 (.seq (.reg [ zA 16 (.bin .eql (.t 14) (.k (.c (.lit (.int .i64 4))))), zM 15 16] [1, 3, 5, 6, 8, 14, 15]) (.cond (.t 15) (.seq (.reg [ zM 17 1, zA 18 (.load true 5 (.t 5)), ⟨none, some 19, .call 61 [.t 18]⟩, ⟨none, some 20, .call 95 [.t 8, .t 17, .t 19]⟩] [6, 8]) (.seq (.reg [ zA 21 (.load true 5 (.t 8)), zS (.store true 5 (.t 6) (.t 21)), zA 7 (.mv (.k (.c (.lit (.bool true)))))] [6, 7]) .ret)) (.seq (.reg [ zA 23 (.bin .eql (.t 14) (.k (.c (.lit (.int .i64 3))))), zM 22 23] [1, 3, 5, 6, 8, 22]) (.cond (.t 22) (.seq (.reg [ zA 25 (.load true 5 (.t 3)), zM 26 1, ⟨none, some 27, .call 107 [.t 25, .t 26]⟩, zM 24 27, zA 28 (.extract (.t 24) 0), zA 29 (.extract (.t 24) 1), zM 9 28, zM 10 29] [1, 3, 5, 6, 8, 9, 10]) (.cut (.seq (.reg [ zM 30 10, zA 31 (.not (.t 30)), zM 32 31, zG 32 true 33 (.mv (.t 1)), zG 32 true 34 (.bin .eql (.t 33) (.k (.c (.str [45])))), zG 32 true 35 (.mv (.t 34)), zG 35 false 36 (.mv (.t 1)), zG 35 false 37 (.faddr 4 (.t 3)), zG 35 false 38 (.load false 1 (.t 37)), zG 35 false 39 (.len (.t 38)), ⟨(some (35, false)), some 40, .call 130 [.t 39]⟩, zG 35 false 41 (.bin .eql (.t 36) (.t 40)), zG 32 true 42 (.pick (.t 35) (.k (.c (.lit (.bool true)))) (.t 41)), zA 43 (.pick (.t 32) (.t 42) (.k (.c (.lit (.bool false)))))] [3, 5, 6, 8, 9, 10, 43]) (.cond (.t 43) (.reg [ zA 44 (.faddr 4 (.t 3)), zA 45 (.load false 1 (.t 44)), zA 46 (.len (.t 45)), zM 9 46, zA 10 (.mv (.k (.c (.lit (.bool true)))))] [5, 6, 8, 9, 10]) .skip)) (.seq (.seq (.reg [ zM 47 10, zA 48 (.not (.t 47))] [5, 6, 8, 9, 48]) (.cond (.t 48) (.seq (.reg [ zA 49 (.build [.c (.lit (.int .i64 0)), .c (.lit (.int .i64 0)), .c (.str []), .nsl 1, .nsl 5] []), zS (.store true 5 (.t 6) (.t 49)), zA 7 (.mv (.k (.c (.lit (.bool false)))))] [6, 7]) .ret) .skip)) (.seq (.regD [ (zA 50 (.faddr 4 (.t 8)), []), (zA 51 (.load false 1 (.t 50)), [0]), (zM 52 9, []), (zA 53 (.load true 5 (.t 5)), []), (⟨none, some 54, .call 61 [.t 53]⟩, [3]), (zA 55 (.bslice 14 5 1 [.lit (.int .i64 0), .lit (.int .i64 0), .str [], .sl 1 [], .sl 5 []] [(0, .t 54)]), [3, 4]), (⟨none, some 56, .call 140 [.t 51, .t 52, .t 55]⟩, [0, 1, 2, 3, 4, 5]), (zA 57 (.faddr 4 (.t 8)), [0, 1, 2, 3, 4, 5, 6]), (zS (.store false 1 (.t 57) (.t 56)), [0, 1, 2, 3, 4, 5, 6, 7])] [6, 8]) (.seq (.reg [ zA 58 (.load true 5 (.t 8)), zS (.store true 5 (.t 6) (.t 58)), zA 7 (.mv (.k (.c (.lit (.bool true)))))] [6, 7]) .ret))))) .skip)))))) (.seq (.reg [ zA 59 (.build [.c (.lit (.int .i64 0)), .c (.lit (.int .i64 0)), .c (.str []), .nsl 1, .nsl 5] []), zS (.store true 5 (.t 6) (.t 59)), zA 7 (.mv (.k (.c (.lit (.bool false)))))] [6, 7]) .ret))))
theorem K.impl_addKid : chkF Go.Proofs.Tryz.prog 185 3 0 C.impl_addKid [.cell 6 true 5, .tmp 7] = true := by kernel_rfl
def C.impl_AddNode_1 : ACode := (.seq (.reg [ zA 4 (.box 10 (.t 0)), zA 5 (.alloc 11 [.c (.lit (.int .i64 0)), .c (.lit (.int .i64 0)), .c (.str []), .nsl 1, .nsl 5]), zA 6 (.mv (.k (.c (.lit (.bool false)))))] [1, 2, 3, 4, 5]) (.seq (.regD [ (zA 7 (.load true 5 (.t 4)), []), (zA 8 (.load false 1 (.t 1)), []), (zA 9 (.load false 1 (.t 2)), []), (zA 10 (.iaddr 1 (.t 8) (.t 9)), [1, 2]), (zA 11 (.load false 1 (.t 10)), [1, 2, 3]), (zA 12 (.load true 5 (.t 3)), []), (⟨none, some 13, .call 185 [.t 7, .t 11, .t 12]⟩, [0, 1, 2, 3, 4, 5]), (zA 14 (.extract (.t 13) 0), [0, 1, 2, 3, 4, 5, 6]), (zA 15 (.extract (.t 13) 1), [0, 1, 2, 3, 4, 5, 6]), (zS (.store true 5 (.t 5) (.t 14)), [0, 1, 2, 3, 4, 5, 6, 7, 8]), (zM 6 15, [0, 1, 2, 3, 4, 5, 6, 7, 8, 9])] [5, 6]) .ret))
theorem K.impl_AddNode_1 : chkF Go.Proofs.Tryz.prog 184 4 3 C.impl_AddNode_1 [.cell 5 true 5, .tmp 6] = true := by kernel_rfl
def C.impl_isPlainText : ACode := (.seq (.reg [ zA 2 (.mv (.k (.c (.lit (.bool false)))))] [0]) (.seq (.seq (.reg [ zM 4 0, zA 5 (.lens (.t 4)), zA 6 (.bin .gtr (.t 5) (.k (.c (.lit (.int .i64 12)))))] [0, 6]) (.cond (.t 6) (.seq (.reg [ zA 2 (.mv (.k (.c (.lit (.bool false)))))] [2]) .ret) .skip)) (.seq (.seq (.reg [ zA 3 (.mv (.k (.c (.lit (.int .i64 0)))))] [0, 3]) (.block 0 (.loop (.seq (.seq (.reg [ zM 7 3, zM 8 0, zA 9 (.lens (.t 8)), zA 10 (.bin .lss (.t 7) (.t 9))] [0, 3, 10]) (.cond (.t 10) .skip (.exit 0))) (.seq (.block 1 (.seq (.reg [ zM 13 0, zM 14 3, zA 15 (.idxs (.t 13) (.t 14)), zA 16 (.bin .lss (.t 15) (.k (.c (.lit (.int .u8 32))))), zM 17 16, zG 17 false 18 (.mv (.t 0)), zG 17 false 19 (.mv (.t 3)), zG 17 false 20 (.idxs (.t 18) (.t 19)), zG 17 false 21 (.bin .gtr (.t 20) (.k (.c (.lit (.int .u8 126))))), zA 22 (.pick (.t 17) (.k (.c (.lit (.bool true)))) (.t 21))] [0, 3, 22]) (.cond (.t 22) (.seq (.reg [ zA 2 (.mv (.k (.c (.lit (.bool false)))))] [2]) .ret) .skip))) (.reg [ zM 11 3, zA 12 (.bin .add (.t 11) (.k (.c (.lit (.int .i64 1))))), zM 3 12] [0, 3])))))) (.seq (.reg [ zA 2 (.mv (.k (.c (.lit (.bool true)))))] [2]) .ret))))
theorem K.impl_isPlainText : chkF Go.Proofs.Tryz.prog 106 1 0 C.impl_isPlainText [.tmp 2] = true := by kernel_rfl
def C.impl_areNames : ACode := (.seq (.reg [ zA 2 (.mv (.k (.c (.lit (.bool false)))))] [0]) (.seq (.seq (.reg [ zM 5 0, zA 6 (.len (.t 5)), zA 7 (.bin .gtr (.t 6) (.k (.c (.lit (.int .i64 6)))))] [0, 7]) (.cond (.t 7) (.seq (.reg [ zA 2 (.mv (.k (.c (.lit (.bool false)))))] [2]) .ret) .skip)) (.seq (.seq (.reg [ zM 8 0, zA 9 (.len (.t 8)), zA 10 (.mv (.k (.c (.lit (.int .i64 0)))))] [0, 8, 9, 10]) (.block 0 (.loop (.seq (.reg [ zA 11 (.bin .lss (.t 10) (.t 9))] [0, 8, 9, 10, 11]) (.seq (.cond (.t 11) .skip (.exit 0)) (.seq (.block 1 (.seq (.reg [ zM 12 10, zA 13 (.iaddr 1 (.t 8) (.t 10)), zA 14 (.load false 1 (.t 13)), zM 3 12, zM 4 14] [0, 3, 4, 8, 9, 10]) (.seq (.reg [ zM 15 4, ⟨none, some 16, .call 106 [.t 15]⟩, zA 17 (.not (.t 16)), zM 18 17, zG 18 false 19 (.mv (.t 3)), zG 18 false 20 (.bin .gtr (.t 19) (.k (.c (.lit (.int .i64 0))))), zG 18 false 21 (.mv (.t 20)), zG 21 true 22 (.mv (.t 0)), zG 21 true 23 (.mv (.t 3)), zG 21 true 24 (.bin .sub (.t 23) (.k (.c (.lit (.int .i64 1))))), zG 21 true 25 (.iaddr 1 (.t 22) (.t 24)), zG 21 true 26 (.load false 1 (.t 25)), zG 21 true 27 (.mv (.t 4)), zG 21 true 28 (.bin .geq (.t 26) (.t 27)), zG 18 false 29 (.pick (.t 21) (.t 28) (.k (.c (.lit (.bool false))))), zA 30 (.pick (.t 18) (.k (.c (.lit (.bool true)))) (.t 29))] [0, 8, 9, 10, 30]) (.cond (.t 30) (.seq (.reg [ zA 2 (.mv (.k (.c (.lit (.bool false)))))] [2]) .ret) .skip)))) (.reg [ zA 31 (.bin .add (.t 10) (.k (.c (.lit (.int .i64 1))))), zM 10 31] [0, 8, 9, 10]))))))) (.seq (.reg [ zA 2 (.mv (.k (.c (.lit (.bool true)))))] [2]) .ret))))
theorem K.impl_areNames : chkF Go.Proofs.Tryz.prog 176 1 0 C.impl_areNames [.tmp 2] = true := by kernel_rfl
def C.impl_hasValidParts : ACode := (.seq (.reg [ zA 1 (.box 10 (.t 0)), zA 2 (.mv (.k (.c (.lit (.bool false)))))] [1]) (.cut (.seq (.reg [ zA 3 (.faddr 0 (.t 1)), zA 4 (.load false 1 (.t 3)), zA 5 (.bin .neq (.t 4) (.k (.c (.lit (.int .i64 1))))), zM 6 5, zG 6 true 7 (.faddr 1 (.t 1)), zG 6 true 8 (.load false 1 (.t 7)), zG 6 true 9 (.bin .neq (.t 8) (.k (.c (.lit (.int .i64 0))))), zA 10 (.pick (.t 6) (.t 9) (.k (.c (.lit (.bool false))))), zM 11 10, zG 11 false 12 (.faddr 0 (.t 1)), zG 11 false 13 (.load false 1 (.t 12)), zG 11 false 14 (.bin .neq (.t 13) (.k (.c (.lit (.int .i64 2))))), zG 11 false 15 (.mv (.t 14)), zG 15 true 16 (.faddr 2 (.t 1)), zG 15 true 17 (.load false 1 (.t 16)), zG 15 true 18 (.bin .neq (.t 17) (.k (.c (.str [])))), zG 11 false 19 (.pick (.t 15) (.t 18) (.k (.c (.lit (.bool false))))), zA 20 (.pick (.t 11) (.k (.c (.lit (.bool true)))) (.t 19))] [1, 20]) (.cond (.t 20) (.seq (.reg [ zA 2 (.mv (.k (.c (.lit (.bool false)))))] [2]) .ret) .skip)) (.seq (.seq (.reg [ zA 21 (.faddr 0 (.t 1)), zA 22 (.load false 1 (.t 21)), zA 23 (.bin .neq (.t 22) (.k (.c (.lit (.int .i64 4))))), zM 24 23, zG 24 true 25 (.faddr 3 (.t 1)), zG 24 true 26 (.load false 1 (.t 25)), zG 24 true 27 (.len (.t 26)), zG 24 true 28 (.bin .gtr (.t 27) (.k (.c (.lit (.int .i64 0))))), zA 29 (.pick (.t 24) (.t 28) (.k (.c (.lit (.bool false)))))] [1, 29]) (.cond (.t 29) (.seq (.reg [ zA 2 (.mv (.k (.c (.lit (.bool false)))))] [2]) .ret) .skip)) (.seq (.seq (.reg [ zA 30 (.faddr 0 (.t 1)), zA 31 (.load false 1 (.t 30))] [1, 31]) (.block 0 (.seq (.reg [ zA 33 (.bin .eql (.t 31) (.k (.c (.lit (.int .i64 0))))), zM 32 33] [1, 31, 32]) (.cond (.t 32) (.seq (.reg [ zA 34 (.faddr 4 (.t 1)), zA 35 (.load false 1 (.t 34)), zA 36 (.len (.t 35)), zA 37 (.bin .eql (.t 36) (.k (.c (.lit (.int .i64 0))))), zM 2 37] [2]) .ret) (.seq (.reg [ zA 39 (.bin .eql (.t 31) (.k (.c (.lit (.int .i64 1))))), zM 38 39] [1, 31, 38]) (.cond (.t 38) (.seq (.reg [ zA 40 (.faddr 1 (.t 1)), zA 41 (.load false 1 (.t 40)), zA 42 (.bin .geq (.t 41) (.k (.c (.lit (.int .i64 (-999999)))))), zM 43 42, zG 43 true 44 (.faddr 1 (.t 1)), zG 43 true 45 (.load false 1 (.t 44)), zG 43 true 46 (.bin .leq (.t 45) (.k (.c (.lit (.int .i64 999999))))), zA 47 (.pick (.t 43) (.t 46) (.k (.c (.lit (.bool false))))), zM 48 47, zG 48 true 49 (.faddr 4 (.t 1)), zG 48 true 50 (.load false 1 (.t 49)), zG 48 true 51 (.len (.t 50)), zG 48 true 52 (.bin .eql (.t 51) (.k (.c (.lit (.int .i64 0))))), zA 53 (.pick (.t 48) (.t 52) (.k (.c (.lit (.bool false))))), zM 2 53] [2]) .ret) (.seq (.reg [ zA 55 (.bin .eql (.t 31) (.k (.c (.lit (.int .i64 2))))), zM 54 55] [1, 31, 54]) (.cond (.t 54) (.seq (.reg [ zA 56 (.faddr 2 (.t 1)), zA 57 (.load false 1 (.t 56)), ⟨none, some 58, .call 106 [.t 57]⟩, zM 59 58, zG 59 true 60 (.faddr 4 (.t 1)), zG 59 true 61 (.load false 1 (.t 60)), zG 59 true 62 (.len (.t 61)), zG 59 true 63 (.bin .eql (.t 62) (.k (.c (.lit (.int .i64 0))))), zA 64 (.pick (.t 59) (.t 63) (.k (.c (.lit (.bool false))))), zM 2 64] [2]) .ret) (.seq (.reg [ zA 66 (.bin .eql (.t 31) (.k (.c (.lit (.int .i64 3))))), zM 65 66] [1, 31, 65]) (.cond (.t 65) (.seq (.reg [ zA 67 (.faddr 4 (.t 1)), zA 68 (.load false 1 (.t 67)), zA 69 (.len (.t 68)), zA 70 (.bin .leq (.t 69) (.k (.c (.lit (.int .i64 6))))), zM 2 70] [2]) .ret) (.seq (.reg [ zA 72 (.bin .eql (.t 31) (.k (.c (.lit (.int .i64 4))))), zM 71 72] [1, 71]) (.cond (.t 71) (.seq (.reg [ zA 73 (.faddr 3 (.t 1)), zA 74 (.load false 1 (.t 73)), ⟨none, some 75, .call 176 [.t 74]⟩, zM 76 75, zG 76 true 77 (.faddr 4 (.t 1)), zG 76 true 78 (.load false 1 (.t 77)), zG 76 true 79 (.len (.t 78)), zG 76 true 80 (.faddr 3 (.t 1)), zG 76 true 81 (.load false 1 (.t 80)), zG 76 true 82 (.len (.t 81)), zG 76 true 83 (.bin .eql (.t 79) (.t 82)), zA 84 (.pick (.t 76) (.t 83) (.k (.c (.lit (.bool false))))), zM 2 84] [2]) .ret) .skip)))))))))))) (.seq (.reg [ zA 2 (.mv (.k (.c (.lit (.bool false)))))] [2]) .ret)))))
theorem K.impl_hasValidParts : chkF Go.Proofs.Tryz.prog 128 1 0 C.impl_hasValidParts [.tmp 2] = true := by kernel_rfl
def C.impl_measureNode : ACode := (.seq (.reg [ zA 2 (.box 10 (.t 0)), zA 4 (.mv (.k (.c (.lit (.int .i64 0))))), zA 5 (.mv (.k (.c (.lit (.int .i64 0))))), zA 6 (.mv (.k (.c (.lit (.bool false)))))] [1, 2]) (.seq (.seq (.reg [ zM 12 1, zA 13 (.bin .gtr (.t 12) (.k (.c (.lit (.int .i64 5))))), zM 14 13, zG 14 false 15 (.load true 5 (.t 2)), ⟨(some (14, false)), some 16, .call 128 [.t 15]⟩, zG 14 false 17 (.not (.t 16)), zA 18 (.pick (.t 14) (.k (.c (.lit (.bool true)))) (.t 17))] [1, 2, 18]) (.cond (.t 18) (.seq (.reg [ zA 4 (.mv (.k (.c (.lit (.int .i64 0))))), zA 5 (.mv (.k (.c (.lit (.int .i64 0))))), zA 6 (.mv (.k (.c (.lit (.bool false)))))] [4, 5, 6]) .ret) .skip)) (.seq (.reg [ zA 4 (.mv (.k (.c (.lit (.int .i64 1))))), zA 5 (.mv (.k (.c (.lit (.int .i64 1)))))] [1, 2, 4, 5]) (.seq (.seq (.reg [ zA 19 (.faddr 4 (.t 2)), zA 20 (.load false 1 (.t 19)), zA 21 (.len (.t 20)), zA 22 (.mv (.k (.c (.lit (.int .i64 0)))))] [1, 4, 5, 20, 21, 22]) (.block 0 (.loop (.seq (.reg [ zA 23 (.bin .lss (.t 22) (.t 21))] [1, 4, 5, 20, 21, 22, 23]) (.seq (.cond (.t 23) .skip (.exit 0)) (.seq (.block 1 (.seq (.reg [ zA 24 (.iaddr 5 (.t 20) (.t 22)), zA 25 (.load true 5 (.t 24)), zA 8 (.alloc 11 [.c (.lit (.int .i64 0)), .c (.lit (.int .i64 0)), .c (.str []), .nsl 1, .nsl 5]), zS (.store true 5 (.t 8) (.t 25))] [1, 4, 5, 8, 20, 21, 22]) (.seq (.reg [ zA 27 (.load true 5 (.t 8)), zM 28 1, zA 29 (.bin .add (.t 28) (.k (.c (.lit (.int .i64 1))))), ⟨none, some 30, .call 77 [.t 27, .t 29]⟩, zM 26 30, zA 31 (.extract (.t 26) 0), zA 32 (.extract (.t 26) 1), zA 33 (.extract (.t 26) 2), zM 9 31, zM 10 32, zM 11 33] [1, 4, 5, 9, 10, 11, 20, 21, 22]) (.seq (.seq (.reg [ zM 34 11, zA 35 (.not (.t 34))] [1, 4, 5, 9, 10, 20, 21, 22, 35]) (.cond (.t 35) (.seq (.reg [ zA 4 (.mv (.k (.c (.lit (.int .i64 0))))), zA 5 (.mv (.k (.c (.lit (.int .i64 0))))), zA 6 (.mv (.k (.c (.lit (.bool false)))))] [4, 5, 6]) .ret) .skip)) (.seq (.reg [ zM 36 4, zM 37 9, zA 38 (.bin .add (.t 36) (.t 37)), zM 4 38] [1, 4, 5, 10, 20, 21, 22]) (.reg [ zM 39 5, zM 40 10, zA 41 (.bin .add (.t 40) (.k (.c (.lit (.int .i64 1))))), zA 42 (.max (.t 39) (.t 41)), zM 5 42] [1, 4, 5, 20, 21, 22])))))) (.reg [ zA 43 (.bin .add (.t 22) (.k (.c (.lit (.int .i64 1))))), zM 22 43] [1, 4, 5, 20, 21, 22]))))))) (.seq (.reg [ zM 44 4, zM 45 5, zM 4 44, zM 5 45, zA 6 (.mv (.k (.c (.lit (.bool true)))))] [4, 5, 6]) .ret)))))
theorem K.impl_measureNode : chkF Go.Proofs.Tryz.prog 77 2 0 C.impl_measureNode [.tmp 4, .tmp 5, .tmp 6] = true := by kernel_rfl
def C.impl_ValidNode : ACode := (.seq (.reg [ zA 1 (.box 10 (.t 0)), zA 2 (.mv (.k (.c (.lit (.bool false)))))] [1]) (.seq (.reg [ zA 7 (.load true 5 (.t 1)), ⟨none, some 8, .call 77 [.t 7, .k (.c (.lit (.int .i64 1)))]⟩, zM 6 8, zA 9 (.extract (.t 6) 0), zA 10 (.extract (.t 6) 1), zA 11 (.extract (.t 6) 2), zM 3 9, zM 4 10, zM 5 11] [3, 5]) (.seq (.reg [ zM 12 5, zM 13 12, zG 13 true 14 (.mv (.t 3)), zG 13 true 15 (.bin .leq (.t 14) (.k (.c (.lit (.int .i64 40))))), zA 16 (.pick (.t 13) (.t 15) (.k (.c (.lit (.bool false))))), zM 2 16] [2]) .ret)))
theorem K.impl_ValidNode : chkF Go.Proofs.Tryz.prog 38 1 0 C.impl_ValidNode [.tmp 2] = true := by kernel_rfl
def C.impl_changeAt : ACode := (.seq (.reg [ zA 3 (.box 10 (.t 0)), zA 6 (.alloc 11 [.c (.lit (.int .i64 0)), .c (.lit (.int .i64 0)), .c (.str []), .nsl 1, .nsl 5]), zA 7 (.mv (.k (.c (.lit (.bool false)))))] [1, 2, 3, 6]) (.seq (.seq (.reg [ zM 12 1, zA 13 (.len (.t 12)), zA 14 (.bin .eql (.t 13) (.k (.c (.lit (.int .i64 0)))))] [1, 2, 3, 6, 14]) (.cond (.t 14) (.seq (.reg [ zM 15 2, zA 16 (.load true 5 (.t 3)), ⟨none, some 17, .callv (.t 15) [.t 16]⟩, zA 18 (.extract (.t 17) 0), zA 19 (.extract (.t 17) 1), zS (.store true 5 (.t 6) (.t 18)), zM 7 19] [6, 7]) .ret) .skip)) (.seq (.regD [ (zA 21 (.load true 5 (.t 3)), []), (zM 22 1, []), (zA 23 (.iaddr 1 (.t 22) (.k (.c (.lit (.int .i64 0))))), [1]), (zA 24 (.load false 1 (.t 23)), [1, 2]), (⟨none, some 25, .call 107 [.t 21, .t 24]⟩, [0, 1, 2, 3]), (zM 20 25, [0, 1, 2, 3, 4]), (zA 26 (.extract (.t 20) 0), [0, 1, 2, 3, 4, 5]), (zA 27 (.extract (.t 20) 1), [0, 1, 2, 3, 4, 5]), (zM 8 26, [0, 1, 2, 3, 4, 5, 6]), (zM 9 27, [0, 1, 2, 3, 4, 5, 6, 7, 8])] [1, 2, 3, 6, 8, 9]) (.seq (.seq (.reg [ zM 28 9, zA 29 (.not (.t 28))] [1, 2, 3, 6, 8, 29]) (.cond (.t 29) (.seq (.reg [ zA 30 (.build [.c (.lit (.int .i64 0)), .c (.lit (.int .i64 0)), .c (.str []), .nsl 1, .nsl 5] []), zS (.store true 5 (.t 6) (.t 30)), zA 7 (.mv (.k (.c (.lit (.bool false)))))] [6, 7]) .ret) .skip)) (.seq (.regD [ (zA 32 (.faddr 4 (.t 3)), []), (zA 33 (.load false 1 (.t 32)), [0]), (zM 34 8, []), (zA 35 (.iaddr 5 (.t 33) (.t 34)), [0, 1, 2]), (zA 36 (.load true 5 (.t 35)), [0, 1, 2, 3]), (zM 37 1, []), (zA 38 (.slsl 1 (.t 37) (some (.k (.c (.lit (.int .i64 1))))) none), [5]), (zM 39 2, []), (⟨none, some 40, .call 183 [.t 36, .t 38, .t 39]⟩, [0, 1, 2, 3, 4, 5, 6, 7]), (zM 31 40, [0, 1, 2, 3, 4, 5, 6, 7, 8]), (zA 41 (.extract (.t 31) 0), [0, 1, 2, 3, 4, 5, 6, 7, 8, 9]), (zA 42 (.extract (.t 31) 1), [0, 1, 2, 3, 4, 5, 6, 7, 8, 9]), (zA 10 (.alloc 12 [.c (.lit (.int .i64 0)), .c (.lit (.int .i64 0)), .c (.str []), .nsl 1, .nsl 5]), []), (zS (.store true 5 (.t 10) (.t 41)), [0, 1, 2, 3, 4, 5, 6, 7, 8, 9, 10, 12]), (zM 9 42, [0, 1, 2, 3, 4, 5, 6, 7, 8, 9, 10, 11, 12, 13])] [3, 6, 8, 9, 10]) (.seq (.seq (.reg [ zM 43 9, zA 44 (.not (.t 43))] [3, 6, 8, 10, 44]) (.cond (.t 44) (.seq (.reg [ zA 45 (.build [.c (.lit (.int .i64 0)), .c (.lit (.int .i64 0)), .c (.str []), .nsl 1, .nsl 5] []), zS (.store true 5 (.t 6) (.t 45)), zA 7 (.mv (.k (.c (.lit (.bool false)))))] [6, 7]) .ret) .skip)) (.seq (.reg [ zA 46 (.load true 5 (.t 3)), ⟨none, some 47, .call 61 [.t 46]⟩, zA 11 (.alloc 13 [.c (.lit (.int .i64 0)), .c (.lit (.int .i64 0)), .c (.str []), .nsl 1, .nsl 5]), zS (.store true 5 (.t 11) (.t 47))] [6, 8, 10, 11]) (.seq (.reg [ zA 48 (.faddr 4 (.t 11)), zA 49 (.load false 1 (.t 48)), zM 50 8, zA 51 (.load true 5 (.t 10)), zA 52 (.iaddr 5 (.t 49) (.t 50)), zS (.store true 5 (.t 52) (.t 51))] [6, 11]) (.seq (.reg [ zA 53 (.load true 5 (.t 11)), zS (.store true 5 (.t 6) (.t 53)), zA 7 (.mv (.k (.c (.lit (.bool true)))))] [6, 7]) .ret)))))))))
theorem K.impl_changeAt__impl_AddNode_1 : chkF Go.Proofs.Tryz.prog 183 3 3 C.impl_changeAt [.cell 6 true 5, .tmp 7] = true := by kernel_rfl
def C.impl_checked : ACode := (.seq (.reg [ zA 2 (.box 10 (.t 0)), zA 4 (.alloc 11 [.c (.lit (.int .i64 0)), .c (.lit (.int .i64 0)), .c (.str []), .nsl 1, .nsl 5]), zA 5 (.mv (.k (.c (.lit (.bool false)))))] [1, 2, 4]) (.seq (.seq (.reg [ zM 6 1, zA 7 (.not (.t 6)), zM 8 7, zG 8 false 9 (.load true 5 (.t 2)), ⟨(some (8, false)), some 10, .call 38 [.t 9]⟩, zG 8 false 11 (.not (.t 10)), zA 12 (.pick (.t 8) (.k (.c (.lit (.bool true)))) (.t 11))] [2, 4, 12]) (.cond (.t 12) (.seq (.reg [ zA 13 (.build [.c (.lit (.int .i64 0)), .c (.lit (.int .i64 0)), .c (.str []), .nsl 1, .nsl 5] []), zS (.store true 5 (.t 4) (.t 13)), zA 5 (.mv (.k (.c (.lit (.bool false)))))] [4, 5]) .ret) .skip)) (.seq (.reg [ zA 14 (.load true 5 (.t 2)), zS (.store true 5 (.t 4) (.t 14)), zA 5 (.mv (.k (.c (.lit (.bool true)))))] [4, 5]) .ret)))
theorem K.impl_checked : chkF Go.Proofs.Tryz.prog 46 2 0 C.impl_checked [.cell 4 true 5, .tmp 5] = true := by kernel_rfl
def C.impl_isPath : ACode := (.seq (.reg [ zA 2 (.mv (.k (.c (.lit (.bool false)))))] [0]) (.seq (.seq (.reg [ zM 5 0, zA 6 (.len (.t 5)), zA 7 (.bin .gtr (.t 6) (.k (.c (.lit (.int .i64 5)))))] [0, 7]) (.cond (.t 7) (.seq (.reg [ zA 2 (.mv (.k (.c (.lit (.bool false)))))] [2]) .ret) .skip)) (.seq (.seq (.reg [ zM 8 0, zA 9 (.len (.t 8)), zA 10 (.mv (.k (.c (.lit (.int .i64 0)))))] [8, 9, 10]) (.block 0 (.loop (.seq (.reg [ zA 11 (.bin .lss (.t 10) (.t 9))] [8, 9, 10, 11]) (.seq (.cond (.t 11) .skip (.exit 0)) (.seq (.block 1 (.seq (.reg [ zA 12 (.iaddr 1 (.t 8) (.t 10)), zA 13 (.load false 1 (.t 12)), zM 4 13] [4, 8, 9, 10]) (.seq (.reg [ zM 14 4, ⟨none, some 15, .call 106 [.t 14]⟩, zA 16 (.not (.t 15))] [8, 9, 10, 16]) (.cond (.t 16) (.seq (.reg [ zA 2 (.mv (.k (.c (.lit (.bool false)))))] [2]) .ret) .skip)))) (.reg [ zA 17 (.bin .add (.t 10) (.k (.c (.lit (.int .i64 1))))), zM 10 17] [8, 9, 10]))))))) (.seq (.reg [ zA 2 (.mv (.k (.c (.lit (.bool true)))))] [2]) .ret))))
theorem K.impl_isPath : chkF Go.Proofs.Tryz.prog 59 1 0 C.impl_isPath [.tmp 2] = true := by kernel_rfl
def C.impl_AddNode : ACode := (.seq (.reg [ zA 3 (.box 10 (.t 0)), zA 4 (.box 11 (.t 1)), zA 5 (.box 12 (.t 2)), zA 6 (.alloc 13 [.c (.lit (.int .i64 0)), .c (.lit (.int .i64 0)), .c (.str []), .nsl 1, .nsl 5]), zA 7 (.mv (.k (.c (.lit (.bool false)))))] [3, 4, 5, 6]) (.seq (.seq (.reg [ zA 9 (.load true 5 (.t 3)), ⟨none, some 10, .call 38 [.t 9]⟩, zA 11 (.not (.t 10)), zM 12 11, zG 12 false 13 (.load false 1 (.t 4)), ⟨(some (12, false)), some 14, .call 59 [.t 13]⟩, zG 12 false 15 (.not (.t 14)), zA 16 (.pick (.t 12) (.k (.c (.lit (.bool true)))) (.t 15)), zM 17 16, zG 17 false 18 (.load true 5 (.t 5)), ⟨(some (17, false)), some 19, .call 38 [.t 18]⟩, zG 17 false 20 (.not (.t 19)), zA 21 (.pick (.t 17) (.k (.c (.lit (.bool true)))) (.t 20))] [3, 4, 5, 6, 21]) (.cond (.t 21) (.seq (.reg [ zA 22 (.build [.c (.lit (.int .i64 0)), .c (.lit (.int .i64 0)), .c (.str []), .nsl 1, .nsl 5] []), zS (.store true 5 (.t 6) (.t 22)), zA 7 (.mv (.k (.c (.lit (.bool false)))))] [6, 7]) .ret) .skip)) (.seq (.seq (.reg [ zA 23 (.load false 1 (.t 4)), zA 24 (.len (.t 23)), zA 25 (.bin .eql (.t 24) (.k (.c (.lit (.int .i64 0)))))] [3, 4, 5, 6, 25]) (.cond (.t 25) (.seq (.reg [ zA 26 (.load true 5 (.t 5)), ⟨none, some 27, .call 61 [.t 26]⟩, zS (.store true 5 (.t 6) (.t 27)), zA 7 (.mv (.k (.c (.lit (.bool true)))))] [6, 7]) .ret) .skip)) (.seq (.reg [ zA 28 (.load false 1 (.t 4)), zA 29 (.len (.t 28)), zA 30 (.bin .sub (.t 29) (.k (.c (.lit (.int .i64 1))))), zA 8 (.alloc 14 [.c (.lit (.int .i64 0))]), zS (.store false 1 (.t 8) (.t 30))] [3, 4, 5, 6, 8]) (.seq (.regD [ (zA 31 (.load true 5 (.t 3)), []), (zA 32 (.load false 1 (.t 4)), []), (zA 33 (.load false 1 (.t 8)), []), (zA 34 (.slsl 1 (.t 32) none (some (.t 33))), [1, 2]), (zA 35 (.mkfn 184 [.t 4, .t 8, .t 5]), []), (⟨none, some 36, .call 183 [.t 31, .t 34, .t 35]⟩, [0, 1, 2, 3, 4]), (zA 37 (.extract (.t 36) 0), [0, 1, 2, 3, 4, 5]), (zA 38 (.extract (.t 36) 1), [0, 1, 2, 3, 4, 5]), (⟨none, some 39, .call 46 [.t 37, .t 38]⟩, [0, 1, 2, 3, 4, 5, 6, 7]), (zA 40 (.extract (.t 39) 0), [0, 1, 2, 3, 4, 5, 6, 7, 8]), (zA 41 (.extract (.t 39) 1), [0, 1, 2, 3, 4, 5, 6, 7, 8]), (zS (.store true 5 (.t 6) (.t 40)), [0, 1, 2, 3, 4, 5, 6, 7, 8, 9, 10]), (zM 7 41, [0, 1, 2, 3, 4, 5, 6, 7, 8, 9, 10, 11])] [6, 7]) .ret)))))
theorem K.impl_AddNode : chkF Go.Proofs.Tryz.prog 143 3 0 C.impl_AddNode [.cell 6 true 5, .tmp 7] = true := by kernel_rfl
def C.impl_findNode : ACode := (.seq (.reg [ zA 2 (.box 10 (.t 0)), zA 4 (.alloc 11 [.c (.lit (.int .i64 0)), .c (.lit (.int .i64 0)), .c (.str []), .nsl 1, .nsl 5]), zA 5 (.mv (.k (.c (.lit (.bool false)))))] [1, 2, 4]) (.seq (.seq (.reg [ zM 10 1, zA 11 (.len (.t 10)), zA 12 (.mv (.k (.c (.lit (.int .i64 0)))))] [2, 4, 10, 11, 12]) (.block 0 (.loop (.seq (.reg [ zA 13 (.bin .lss (.t 12) (.t 11))] [2, 4, 10, 11, 12, 13]) (.seq (.cond (.t 13) .skip (.exit 0)) (.seq (.block 1 (.seq (.reg [ zA 14 (.iaddr 1 (.t 10) (.t 12)), zA 15 (.load false 1 (.t 14)), zM 7 15] [2, 4, 7, 10, 11, 12]) (.seq (.reg [ zA 17 (.load true 5 (.t 2)), zM 18 7, ⟨none, some 19, .call 107 [.t 17, .t 18]⟩, zM 16 19, zA 20 (.extract (.t 16) 0), zA 21 (.extract (.t 16) 1), zM 8 20, zM 9 21] [2, 4, 8, 9, 10, 11, 12]) (.seq (.seq (.reg [ zM 22 9, zA 23 (.not (.t 22))] [2, 4, 8, 10, 11, 12, 23]) (.cond (.t 23) (.seq (.reg [ zA 24 (.build [.c (.lit (.int .i64 0)), .c (.lit (.int .i64 0)), .c (.str []), .nsl 1, .nsl 5] []), zS (.store true 5 (.t 4) (.t 24)), zA 5 (.mv (.k (.c (.lit (.bool false)))))] [4, 5]) .ret) .skip)) (.reg [ zA 25 (.faddr 4 (.t 2)), zA 26 (.load false 1 (.t 25)), zM 27 8, zA 28 (.iaddr 5 (.t 26) (.t 27)), zA 29 (.load true 5 (.t 28)), zS (.store true 5 (.t 2) (.t 29))] [2, 4, 10, 11, 12]))))) (.reg [ zA 30 (.bin .add (.t 12) (.k (.c (.lit (.int .i64 1))))), zM 12 30] [2, 4, 10, 11, 12]))))))) (.seq (.reg [ zA 31 (.load true 5 (.t 2)), zS (.store true 5 (.t 4) (.t 31)), zA 5 (.mv (.k (.c (.lit (.bool true)))))] [4, 5]) .ret)))
theorem K.impl_findNode : chkF Go.Proofs.Tryz.prog 60 2 0 C.impl_findNode [.cell 4 true 5, .tmp 5] = true := by kernel_rfl
def C.impl_NodeAt : ACode := (.seq (.reg [ zA 2 (.box 10 (.t 0)), zA 4 (.alloc 11 [.c (.lit (.int .i64 0)), .c (.lit (.int .i64 0)), .c (.str []), .nsl 1, .nsl 5]), zA 5 (.mv (.k (.c (.lit (.bool false)))))] [1, 2, 4]) (.seq (.seq (.reg [ zA 8 (.load true 5 (.t 2)), ⟨none, some 9, .call 38 [.t 8]⟩, zA 10 (.not (.t 9)), zM 11 10, zG 11 false 12 (.mv (.t 1)), ⟨(some (11, false)), some 13, .call 59 [.t 12]⟩, zG 11 false 14 (.not (.t 13)), zA 15 (.pick (.t 11) (.k (.c (.lit (.bool true)))) (.t 14))] [1, 2, 4, 15]) (.cond (.t 15) (.seq (.reg [ zA 16 (.build [.c (.lit (.int .i64 0)), .c (.lit (.int .i64 0)), .c (.str []), .nsl 1, .nsl 5] []), zS (.store true 5 (.t 4) (.t 16)), zA 5 (.mv (.k (.c (.lit (.bool false)))))] [4, 5]) .ret) .skip)) (.seq (.reg [ zA 18 (.load true 5 (.t 2)), zM 19 1, ⟨none, some 20, .call 60 [.t 18, .t 19]⟩, zM 17 20, zA 21 (.extract (.t 17) 0), zA 22 (.extract (.t 17) 1), zA 6 (.alloc 12 [.c (.lit (.int .i64 0)), .c (.lit (.int .i64 0)), .c (.str []), .nsl 1, .nsl 5]), zS (.store true 5 (.t 6) (.t 21)), zM 7 22] [4, 6, 7]) (.seq (.seq (.reg [ zM 23 7, zA 24 (.not (.t 23))] [4, 6, 24]) (.cond (.t 24) (.seq (.reg [ zA 25 (.build [.c (.lit (.int .i64 0)), .c (.lit (.int .i64 0)), .c (.str []), .nsl 1, .nsl 5] []), zS (.store true 5 (.t 4) (.t 25)), zA 5 (.mv (.k (.c (.lit (.bool false)))))] [4, 5]) .ret) .skip)) (.seq (.reg [ zA 26 (.load true 5 (.t 6)), ⟨none, some 27, .call 61 [.t 26]⟩, zS (.store true 5 (.t 4) (.t 27)), zA 5 (.mv (.k (.c (.lit (.bool true)))))] [4, 5]) .ret)))))
theorem K.impl_NodeAt : chkF Go.Proofs.Tryz.prog 30 2 0 C.impl_NodeAt [.cell 4 true 5, .tmp 5] = true := by kernel_rfl
def C.slices_Delete_impl_Node : ACode := (.seq (.reg [ zA 6 (.mv (.k (.nsl 5)))] [0, 1, 2]) (.seq (.reg [ zM 8 0, zM 9 1, zM 10 2, zM 11 0, zA 12 (.len (.t 11)), zA 13 (.sl3 5 (.t 8) (.t 9) (.t 10) (.t 12))] [0, 1, 2]) (.seq (.seq (.reg [ zM 14 1, zM 15 2, zA 16 (.bin .eql (.t 14) (.t 15))] [0, 1, 2, 16]) (.cond (.t 16) (.seq (.reg [ zM 17 0, zM 6 17] [6]) .ret) .skip)) (.seq (.reg [ zM 18 0, zA 19 (.len (.t 18)), zM 7 19] [0, 1, 2, 7]) (.seq (.regD [ (zM 20 0, []), (zM 21 1, []), (zA 22 (.sslice 5 (.t 20) none (some (.t 21))), [0, 1]), (zM 23 0, []), (zM 24 2, []), (zA 25 (.sslice 5 (.t 23) (some (.t 24)) none), [3, 4]), (zA 26 (.sapp 10 5 80 (.t 22) (.t 25)), [0, 1, 2, 3, 4, 5]), (zM 0 26, [0, 1, 2, 3, 4, 5, 6])] [0, 7]) (.seq (.reg [ zM 27 0, zM 28 0, zA 29 (.len (.t 28)), zM 30 7, zA 31 (.sslice 5 (.t 27) (some (.t 29)) (some (.t 30))), zS (.sclr 5 [.lit (.int .i64 0), .lit (.int .i64 0), .str [], .sl 1 [], .sl 5 []] (.t 31))] [0]) (.seq (.reg [ zM 32 0, zM 6 32] [6]) .ret)))))))
theorem K.slices_Delete_impl_Node : chkF Go.Proofs.Tryz.prog 142 3 1 C.slices_Delete_impl_Node [.tmp 6] = true := by kernel_rfl
def C.slices_Delete_string : ACode := (.seq (.reg [ zA 6 (.mv (.k (.nsl 1)))] [0, 1, 2]) (.seq (.reg [ zM 8 0, zM 9 1, zM 10 2, zM 11 0, zA 12 (.len (.t 11)), zA 13 (.sl3 1 (.t 8) (.t 9) (.t 10) (.t 12))] [0, 1, 2]) (.seq (.seq (.reg [ zM 14 1, zM 15 2, zA 16 (.bin .eql (.t 14) (.t 15))] [0, 1, 2, 16]) (.cond (.t 16) (.seq (.reg [ zM 17 0, zM 6 17] [6]) .ret) .skip)) (.seq (.reg [ zM 18 0, zA 19 (.len (.t 18)), zM 7 19] [0, 1, 2, 7]) (.seq (.regD [ (zM 20 0, []), (zM 21 1, []), (zA 22 (.sslice 1 (.t 20) none (some (.t 21))), [0, 1]), (zM 23 0, []), (zM 24 2, []), (zA 25 (.sslice 1 (.t 23) (some (.t 24)) none), [3, 4]), (zA 26 (.sapp 10 1 16 (.t 22) (.t 25)), [0, 1, 2, 3, 4, 5]), (zM 0 26, [0, 1, 2, 3, 4, 5, 6])] [0, 7]) (.seq (.reg [ zM 27 0, zM 28 0, zA 29 (.len (.t 28)), zM 30 7, zA 31 (.sslice 1 (.t 27) (some (.t 29)) (some (.t 30))), zS (.sclr 1 [.str []] (.t 31))] [0]) (.seq (.reg [ zM 32 0, zM 6 32] [6]) .ret)))))))
theorem K.slices_Delete_string : chkF Go.Proofs.Tryz.prog 141 3 1 C.slices_Delete_string [.tmp 6] = true := by kernel_rfl
def C.impl_RemoveNode_1 : ACode := (.seq (.reg [ zA 3 (.box 10 (.t 0)), zA 4 (.alloc 11 [.c (.lit (.int .i64 0)), .c (.lit (.int .i64 0)), .c (.str []), .nsl 1, .nsl 5]), zA 5 (.mv (.k (.c (.lit (.bool false)))))] [1, 2, 3, 4]) (.seq (.regD [ (zA 10 (.load true 5 (.t 3)), []), (zA 11 (.load false 1 (.t 1)), []), (zA 12 (.load false 1 (.t 2)), []), (zA 13 (.iaddr 1 (.t 11) (.t 12)), [1, 2]), (zA 14 (.load false 1 (.t 13)), [1, 2, 3]), (⟨none, some 15, .call 107 [.t 10, .t 14]⟩, [0, 1, 2, 3, 4]), (zM 9 15, [0, 1, 2, 3, 4, 5]), (zA 16 (.extract (.t 9) 0), [0, 1, 2, 3, 4, 5, 6]), (zA 17 (.extract (.t 9) 1), [0, 1, 2, 3, 4, 5, 6]), (zM 6 16, [0, 1, 2, 3, 4, 5, 6, 7]), (zM 7 17, [0, 1, 2, 3, 4, 5, 6, 7, 8, 9])] [3, 4, 6, 7]) (.seq (.seq (.reg [ zM 18 7, zA 19 (.not (.t 18))] [3, 4, 6, 19]) (.cond (.t 19) (.seq (.reg [ zA 20 (.build [.c (.lit (.int .i64 0)), .c (.lit (.int .i64 0)), .c (.str []), .nsl 1, .nsl 5] []), zS (.store true 5 (.t 4) (.t 20)), zA 5 (.mv (.k (.c (.lit (.bool false)))))] [4, 5]) .ret) .skip)) (.seq (.reg [ zA 21 (.load true 5 (.t 3)), ⟨none, some 22, .call 61 [.t 21]⟩, zA 8 (.alloc 12 [.c (.lit (.int .i64 0)), .c (.lit (.int .i64 0)), .c (.str []), .nsl 1, .nsl 5]), zS (.store true 5 (.t 8) (.t 22))] [3, 4, 6, 8]) (.cut (.seq (.reg [ zA 23 (.faddr 0 (.t 3)), zA 24 (.load false 1 (.t 23)), zA 25 (.bin .eql (.t 24) (.k (.c (.lit (.int .i64 4)))))] [4, 6, 8, 25]) (.cond (.t 25) (.reg [ zA 26 (.faddr 3 (.t 8)), zA 27 (.load false 1 (.t 26)), zM 28 6, zM 29 6, zA 30 (.bin .add (.t 29) (.k (.c (.lit (.int .i64 1))))), ⟨none, some 31, .call 141 [.t 27, .t 28, .t 30]⟩, zA 32 (.faddr 3 (.t 8)), zS (.store false 1 (.t 32) (.t 31))] [4, 6, 8]) .skip)) (.seq (.reg [ zA 33 (.faddr 4 (.t 8)), zA 34 (.load false 1 (.t 33)), zM 35 6, zM 36 6, zA 37 (.bin .add (.t 36) (.k (.c (.lit (.int .i64 1))))), ⟨none, some 38, .call 142 [.t 34, .t 35, .t 37]⟩, zA 39 (.faddr 4 (.t 8)), zS (.store false 1 (.t 39) (.t 38))] [4, 8]) (.seq (.reg [ zA 40 (.load true 5 (.t 8)), zS (.store true 5 (.t 4) (.t 40)), zA 5 (.mv (.k (.c (.lit (.bool true)))))] [4, 5]) .ret)))))))
theorem K.impl_RemoveNode_1 : chkF Go.Proofs.Tryz.prog 186 3 2 C.impl_RemoveNode_1 [.cell 4 true 5, .tmp 5] = true := by kernel_rfl
theorem K.impl_changeAt__impl_RemoveNode_1 : chkF Go.Proofs.Tryz.prog 183 3 2 C.impl_changeAt [.cell 6 true 5, .tmp 7] = true := by kernel_rfl
def C.impl_RemoveNode : ACode := (.seq (.reg [ zA 2 (.box 10 (.t 0)), zA 3 (.box 11 (.t 1)), zA 4 (.alloc 12 [.c (.lit (.int .i64 0)), .c (.lit (.int .i64 0)), .c (.str []), .nsl 1, .nsl 5]), zA 5 (.mv (.k (.c (.lit (.bool false)))))] [2, 3, 4]) (.seq (.seq (.reg [ zA 7 (.load true 5 (.t 2)), ⟨none, some 8, .call 38 [.t 7]⟩, zA 9 (.not (.t 8)), zM 10 9, zG 10 false 11 (.load false 1 (.t 3)), ⟨(some (10, false)), some 12, .call 59 [.t 11]⟩, zG 10 false 13 (.not (.t 12)), zA 14 (.pick (.t 10) (.k (.c (.lit (.bool true)))) (.t 13)), zM 15 14, zG 15 false 16 (.load false 1 (.t 3)), zG 15 false 17 (.len (.t 16)), zG 15 false 18 (.bin .eql (.t 17) (.k (.c (.lit (.int .i64 0))))), zA 19 (.pick (.t 15) (.k (.c (.lit (.bool true)))) (.t 18))] [2, 3, 4, 19]) (.cond (.t 19) (.seq (.reg [ zA 20 (.build [.c (.lit (.int .i64 0)), .c (.lit (.int .i64 0)), .c (.str []), .nsl 1, .nsl 5] []), zS (.store true 5 (.t 4) (.t 20)), zA 5 (.mv (.k (.c (.lit (.bool false)))))] [4, 5]) .ret) .skip)) (.seq (.reg [ zA 21 (.load false 1 (.t 3)), zA 22 (.len (.t 21)), zA 23 (.bin .sub (.t 22) (.k (.c (.lit (.int .i64 1))))), zA 6 (.alloc 13 [.c (.lit (.int .i64 0))]), zS (.store false 1 (.t 6) (.t 23))] [2, 3, 4, 6]) (.seq (.regD [ (zA 24 (.load true 5 (.t 2)), []), (zA 25 (.load false 1 (.t 3)), []), (zA 26 (.load false 1 (.t 6)), []), (zA 27 (.slsl 1 (.t 25) none (some (.t 26))), [1, 2]), (zA 28 (.mkfn 186 [.t 3, .t 6]), []), (⟨none, some 29, .call 183 [.t 24, .t 27, .t 28]⟩, [0, 1, 2, 3, 4]), (zA 30 (.extract (.t 29) 0), [0, 1, 2, 3, 4, 5]), (zA 31 (.extract (.t 29) 1), [0, 1, 2, 3, 4, 5]), (zS (.store true 5 (.t 4) (.t 30)), [0, 1, 2, 3, 4, 5, 6, 7]), (zM 5 31, [0, 1, 2, 3, 4, 5, 6, 7, 8])] [4, 5]) .ret))))
theorem K.impl_RemoveNode : chkF Go.Proofs.Tryz.prog 144 2 0 C.impl_RemoveNode [.cell 4 true 5, .tmp 5] = true := by kernel_rfl
def C.impl_SetNode_1 : ACode := (.seq (.reg [ zA 2 (.box 10 (.t 0)), zA 3 (.alloc 11 [.c (.lit (.int .i64 0)), .c (.lit (.int .i64 0)), .c (.str []), .nsl 1, .nsl 5]), zA 4 (.mv (.k (.c (.lit (.bool false)))))] [1, 3]) (.seq (.reg [ zA 5 (.load true 5 (.t 1)), ⟨none, some 6, .call 61 [.t 5]⟩, zS (.store true 5 (.t 3) (.t 6)), zA 4 (.mv (.k (.c (.lit (.bool true)))))] [3, 4]) .ret))
theorem K.impl_SetNode_1 : chkF Go.Proofs.Tryz.prog 187 2 1 C.impl_SetNode_1 [.cell 3 true 5, .tmp 4] = true := by kernel_rfl
theorem K.impl_changeAt__impl_SetNode_1 : chkF Go.Proofs.Tryz.prog 183 3 1 C.impl_changeAt [.cell 6 true 5, .tmp 7] = true := by kernel_rfl
def C.impl_SetNode : ACode := (.seq (.reg [ zA 3 (.box 10 (.t 0)), zA 5 (.box 11 (.t 2)), zA 6 (.alloc 12 [.c (.lit (.int .i64 0)), .c (.lit (.int .i64 0)), .c (.str []), .nsl 1, .nsl 5]), zA 7 (.mv (.k (.c (.lit (.bool false)))))] [1, 3, 5, 6]) (.seq (.seq (.reg [ zA 8 (.load true 5 (.t 3)), ⟨none, some 9, .call 38 [.t 8]⟩, zA 10 (.not (.t 9)), zM 11 10, zG 11 false 12 (.mv (.t 1)), ⟨(some (11, false)), some 13, .call 59 [.t 12]⟩, zG 11 false 14 (.not (.t 13)), zA 15 (.pick (.t 11) (.k (.c (.lit (.bool true)))) (.t 14)), zM 16 15, zG 16 false 17 (.load true 5 (.t 5)), ⟨(some (16, false)), some 18, .call 38 [.t 17]⟩, zG 16 false 19 (.not (.t 18)), zA 20 (.pick (.t 16) (.k (.c (.lit (.bool true)))) (.t 19))] [1, 3, 5, 6, 20]) (.cond (.t 20) (.seq (.reg [ zA 21 (.build [.c (.lit (.int .i64 0)), .c (.lit (.int .i64 0)), .c (.str []), .nsl 1, .nsl 5] []), zS (.store true 5 (.t 6) (.t 21)), zA 7 (.mv (.k (.c (.lit (.bool false)))))] [6, 7]) .ret) .skip)) (.seq (.reg [ zA 22 (.load true 5 (.t 3)), zM 23 1, zA 24 (.mkfn 187 [.t 5]), ⟨none, some 25, .call 183 [.t 22, .t 23, .t 24]⟩, zA 26 (.extract (.t 25) 0), zA 27 (.extract (.t 25) 1), ⟨none, some 28, .call 46 [.t 26, .t 27]⟩, zA 29 (.extract (.t 28) 0), zA 30 (.extract (.t 28) 1), zS (.store true 5 (.t 6) (.t 29)), zM 7 30] [6, 7]) .ret)))
theorem K.impl_SetNode : chkF Go.Proofs.Tryz.prog 145 3 0 C.impl_SetNode [.cell 6 true 5, .tmp 7] = true := by kernel_rfl
def C.impl_isOp : ACode := (.seq (.reg [ zA 1 (.box 10 (.t 0)), zA 2 (.mv (.k (.c (.lit (.bool false)))))] [1]) (.seq (.reg [ zA 3 (.faddr 0 (.t 1)), zA 4 (.load false 1 (.t 3)), zA 5 (.bin .geq (.t 4) (.k (.c (.lit (.int .i64 1))))), zM 6 5, zG 6 true 7 (.faddr 0 (.t 1)), zG 6 true 8 (.load false 1 (.t 7)), zG 6 true 9 (.bin .leq (.t 8) (.k (.c (.lit (.int .i64 6))))), zA 10 (.pick (.t 6) (.t 9) (.k (.c (.lit (.bool false))))), zM 11 10, zG 11 true 12 (.faddr 1 (.t 1)), zG 11 true 13 (.load false 1 (.t 12)), ⟨(some (11, true)), some 14, .call 59 [.t 13]⟩, zA 15 (.pick (.t 11) (.t 14) (.k (.c (.lit (.bool false))))), zM 16 15, zG 16 true 17 (.faddr 2 (.t 1)), zG 16 true 18 (.load false 1 (.t 17)), ⟨(some (16, true)), some 19, .call 59 [.t 18]⟩, zA 20 (.pick (.t 16) (.t 19) (.k (.c (.lit (.bool false))))), zM 21 20, zG 21 true 22 (.faddr 3 (.t 1)), zG 21 true 23 (.load true 5 (.t 22)), ⟨(some (21, true)), some 24, .call 38 [.t 23]⟩, zA 25 (.pick (.t 21) (.t 24) (.k (.c (.lit (.bool false))))), zM 2 25] [2]) .ret))
theorem K.impl_isOp : chkF Go.Proofs.Tryz.prog 97 1 0 C.impl_isOp [.tmp 2] = true := by kernel_rfl
def C.slices_Equal_string : ACode := (.seq (.reg [ zA 4 (.mv (.k (.c (.lit (.bool false)))))] [0, 1]) (.seq (.seq (.reg [ zM 6 0, zA 7 (.len (.t 6)), zM 8 1, zA 9 (.len (.t 8)), zA 10 (.bin .neq (.t 7) (.t 9))] [0, 1, 10]) (.cond (.t 10) (.seq (.reg [ zA 4 (.mv (.k (.c (.lit (.bool false)))))] [4]) .ret) .skip)) (.seq (.seq (.reg [ zM 11 0, zA 12 (.len (.t 11)), zA 13 (.mv (.k (.c (.lit (.int .i64 0)))))] [0, 1, 12, 13]) (.block 0 (.loop (.seq (.reg [ zA 14 (.bin .lss (.t 13) (.t 12))] [0, 1, 12, 13, 14]) (.seq (.cond (.t 14) .skip (.exit 0)) (.seq (.block 1 (.seq (.reg [ zM 15 13, zM 5 15] [0, 1, 5, 12, 13]) (.seq (.regD [ (zM 16 0, []), (zM 17 5, []), (zA 18 (.iaddr 1 (.t 16) (.t 17)), [0, 1]), (zA 19 (.load false 1 (.t 18)), [0, 1, 2]), (zM 20 1, []), (zM 21 5, []), (zA 22 (.iaddr 1 (.t 20) (.t 21)), [4, 5]), (zA 23 (.load false 1 (.t 22)), [4, 5, 6]), (zA 24 (.bin .neq (.t 19) (.t 23)), [0, 1, 2, 3, 4, 5, 6, 7])] [0, 1, 12, 13, 24]) (.cond (.t 24) (.seq (.reg [ zA 4 (.mv (.k (.c (.lit (.bool false)))))] [4]) .ret) .skip)))) (.reg [ zA 25 (.bin .add (.t 13) (.k (.c (.lit (.int .i64 1))))), zM 13 25] [0, 1, 12, 13]))))))) (.seq (.reg [ zA 4 (.mv (.k (.c (.lit (.bool true)))))] [4]) .ret))))
theorem K.slices_Equal_string : chkF Go.Proofs.Tryz.prog 188 2 0 C.slices_Equal_string [.tmp 4] = true := by kernel_rfl
def C.impl_moveNode : ACode := (.seq (.reg [ zA 3 (.box 10 (.t 0)), zA 6 (.alloc 11 [.c (.lit (.int .i64 0)), .c (.lit (.int .i64 0)), .c (.str []), .nsl 1, .nsl 5]), zA 7 (.mv (.k (.c (.lit (.bool false)))))] [1, 2, 3, 6]) (.seq (.reg [ zA 12 (.load true 5 (.t 3)), zM 13 1, ⟨none, some 14, .call 30 [.t 12, .t 13]⟩, zM 11 14, zA 15 (.extract (.t 11) 0), zA 16 (.extract (.t 11) 1), zA 8 (.alloc 12 [.c (.lit (.int .i64 0)), .c (.lit (.int .i64 0)), .c (.str []), .nsl 1, .nsl 5]), zS (.store true 5 (.t 8) (.t 15)), zM 9 16] [1, 2, 3, 6, 8, 9]) (.seq (.seq (.reg [ zM 17 9, zA 18 (.not (.t 17))] [1, 2, 3, 6, 8, 18]) (.cond (.t 18) (.seq (.reg [ zA 19 (.build [.c (.lit (.int .i64 0)), .c (.lit (.int .i64 0)), .c (.str []), .nsl 1, .nsl 5] []), zS (.store true 5 (.t 6) (.t 19)), zA 7 (.mv (.k (.c (.lit (.bool false)))))] [6, 7]) .ret) .skip)) (.seq (.seq (.reg [ zM 20 2, zM 21 1, ⟨none, some 22, .call 188 [.t 20, .t 21]⟩] [1, 2, 3, 6, 8, 22]) (.cond (.t 22) (.seq (.reg [ zA 23 (.load true 5 (.t 3)), ⟨none, some 24, .call 61 [.t 23]⟩, zS (.store true 5 (.t 6) (.t 24)), zA 7 (.mv (.k (.c (.lit (.bool true)))))] [6, 7]) .ret) .skip)) (.seq (.seq (.reg [ zM 25 2, zA 26 (.len (.t 25)), zM 27 1, zA 28 (.len (.t 27)), zA 29 (.bin .gtr (.t 26) (.t 28)), zM 30 29, zG 30 true 31 (.mv (.t 2)), zG 30 true 32 (.mv (.t 1)), zG 30 true 33 (.len (.t 32)), zG 30 true 34 (.slsl 1 (.t 31) none (some (.t 33))), zG 30 true 35 (.mv (.t 1)), ⟨(some (30, true)), some 36, .call 188 [.t 34, .t 35]⟩, zA 37 (.pick (.t 30) (.t 36) (.k (.c (.lit (.bool false)))))] [1, 2, 3, 6, 8, 37]) (.cond (.t 37) (.seq (.reg [ zA 38 (.build [.c (.lit (.int .i64 0)), .c (.lit (.int .i64 0)), .c (.str []), .nsl 1, .nsl 5] []), zS (.store true 5 (.t 6) (.t 38)), zA 7 (.mv (.k (.c (.lit (.bool false)))))] [6, 7]) .ret) .skip)) (.seq (.reg [ zA 40 (.load true 5 (.t 3)), zM 41 1, ⟨none, some 42, .call 144 [.t 40, .t 41]⟩, zM 39 42, zA 43 (.extract (.t 39) 0), zA 44 (.extract (.t 39) 1), zA 10 (.alloc 13 [.c (.lit (.int .i64 0)), .c (.lit (.int .i64 0)), .c (.str []), .nsl 1, .nsl 5]), zS (.store true 5 (.t 10) (.t 43)), zM 9 44] [2, 6, 8, 9, 10]) (.seq (.seq (.reg [ zM 45 9, zA 46 (.not (.t 45))] [2, 6, 8, 10, 46]) (.cond (.t 46) (.seq (.reg [ zA 47 (.build [.c (.lit (.int .i64 0)), .c (.lit (.int .i64 0)), .c (.str []), .nsl 1, .nsl 5] []), zS (.store true 5 (.t 6) (.t 47)), zA 7 (.mv (.k (.c (.lit (.bool false)))))] [6, 7]) .ret) .skip)) (.seq (.reg [ zA 48 (.load true 5 (.t 10)), zM 49 2, zA 50 (.load true 5 (.t 8)), ⟨none, some 51, .call 143 [.t 48, .t 49, .t 50]⟩, zA 52 (.extract (.t 51) 0), zA 53 (.extract (.t 51) 1), zS (.store true 5 (.t 6) (.t 52)), zM 7 53] [6, 7]) .ret))))))))
theorem K.impl_moveNode : chkF Go.Proofs.Tryz.prog 146 3 0 C.impl_moveNode [.cell 6 true 5, .tmp 7] = true := by kernel_rfl
def C.internal_bytealg_CompareString : ACode := (.seq (.reg [ zA 4 (.mv (.k (.c (.lit (.int .i64 0)))))] [0, 1]) (.seq (.reg [ zM 5 0, zM 6 1, zA 7 (.cmps (.t 5) (.t 6)), zM 4 7] [4]) .ret))
theorem K.internal_bytealg_CompareString : chkF Go.Proofs.Tryz.prog 111 2 0 C.internal_bytealg_CompareString [.tmp 4] = true := by kernel_rfl
def C.strings_Compare : ACode := (.seq (.reg [ zA 4 (.mv (.k (.c (.lit (.int .i64 0)))))] [0, 1]) (.seq (.reg [ zM 5 0, zM 6 1, ⟨none, some 7, .call 111 [.t 5, .t 6]⟩, zM 4 7] [4]) .ret))
theorem K.strings_Compare : chkF Go.Proofs.Tryz.prog 66 2 0 C.strings_Compare [.tmp 4] = true := by kernel_rfl
def C.impl_compareValid : ACode := (.seq (.reg [ zA 2 (.box 10 (.t 0)), zA 3 (.box 11 (.t 1)), zA 4 (.mv (.k (.c (.lit (.int .i64 0)))))] [2, 3]) (.seq (.seq (.reg [ zA 11 (.faddr 0 (.t 2)), zA 12 (.load false 1 (.t 11)), zA 13 (.faddr 0 (.t 3)), zA 14 (.load false 1 (.t 13)), ⟨none, some 15, .call 110 [.t 12, .t 14]⟩, zM 5 15] [2, 3, 5]) (.seq (.reg [ zM 16 5, zA 17 (.bin .neq (.t 16) (.k (.c (.lit (.int .i64 0)))))] [2, 3, 5, 17]) (.cond (.t 17) (.seq (.reg [ zM 18 5, zM 4 18] [4]) .ret) .skip))) (.seq (.seq (.reg [ zA 19 (.faddr 1 (.t 2)), zA 20 (.load false 1 (.t 19)), zA 21 (.faddr 1 (.t 3)), zA 22 (.load false 1 (.t 21)), ⟨none, some 23, .call 110 [.t 20, .t 22]⟩, zM 6 23] [2, 3, 6]) (.seq (.reg [ zM 24 6, zA 25 (.bin .neq (.t 24) (.k (.c (.lit (.int .i64 0)))))] [2, 3, 6, 25]) (.cond (.t 25) (.seq (.reg [ zM 26 6, zM 4 26] [4]) .ret) .skip))) (.seq (.seq (.reg [ zA 27 (.faddr 2 (.t 2)), zA 28 (.load false 1 (.t 27)), zA 29 (.faddr 2 (.t 3)), zA 30 (.load false 1 (.t 29)), ⟨none, some 31, .call 66 [.t 28, .t 30]⟩, zM 7 31] [2, 3, 7]) (.seq (.reg [ zM 32 7, zA 33 (.bin .neq (.t 32) (.k (.c (.lit (.int .i64 0)))))] [2, 3, 7, 33]) (.cond (.t 33) (.seq (.reg [ zM 34 7, zM 4 34] [4]) .ret) .skip))) (.seq (.seq (.reg [ zA 8 (.mv (.k (.c (.lit (.int .i64 0)))))] [2, 3, 8]) (.block 0 (.loop (.seq (.seq (.reg [ zM 35 8, zA 36 (.faddr 4 (.t 2)), zA 37 (.load false 1 (.t 36)), zA 38 (.len (.t 37)), zA 39 (.bin .lss (.t 35) (.t 38)), zM 40 39, zG 40 true 41 (.mv (.t 8)), zG 40 true 42 (.faddr 4 (.t 3)), zG 40 true 43 (.load false 1 (.t 42)), zG 40 true 44 (.len (.t 43)), zG 40 true 45 (.bin .lss (.t 41) (.t 44)), zA 46 (.pick (.t 40) (.t 45) (.k (.c (.lit (.bool false)))))] [2, 3, 8, 46]) (.cond (.t 46) .skip (.exit 0))) (.seq (.block 1 (.cut (.seq (.reg [ zA 49 (.faddr 0 (.t 2)), zA 50 (.load false 1 (.t 49)), zA 51 (.bin .eql (.t 50) (.k (.c (.lit (.int .i64 4)))))] [2, 3, 8, 51]) (.cond (.t 51) (.seq (.regD [ (zA 52 (.faddr 3 (.t 2)), []), (zA 53 (.load false 1 (.t 52)), [0]), (zM 54 8, []), (zA 55 (.iaddr 1 (.t 53) (.t 54)), [0, 1, 2]), (zA 56 (.load false 1 (.t 55)), [0, 1, 2, 3]), (zA 57 (.faddr 3 (.t 3)), []), (zA 58 (.load false 1 (.t 57)), [5]), (zM 59 8, []), (zA 60 (.iaddr 1 (.t 58) (.t 59)), [5, 6, 7]), (zA 61 (.load false 1 (.t 60)), [5, 6, 7, 8]), (⟨none, some 62, .call 66 [.t 56, .t 61]⟩, [0, 1, 2, 3, 4, 5, 6, 7, 8, 9]), (zM 9 62, [0, 1, 2, 3, 4, 5, 6, 7, 8, 9, 10])] [2, 3, 8, 9]) (.seq (.reg [ zM 63 9, zA 64 (.bin .neq (.t 63) (.k (.c (.lit (.int .i64 0)))))] [2, 3, 8, 9, 64]) (.cond (.t 64) (.seq (.reg [ zM 65 9, zM 4 65] [4]) .ret) .skip))) .skip)) (.seq (.regD [ (zA 66 (.faddr 4 (.t 2)), []), (zA 67 (.load false 1 (.t 66)), [0]), (zM 68 8, []), (zA 69 (.iaddr 5 (.t 67) (.t 68)), [0, 1, 2]), (zA 70 (.load true 5 (.t 69)), [0, 1, 2, 3]), (zA 71 (.faddr 4 (.t 3)), []), (zA 72 (.load false 1 (.t 71)), [5]), (zM 73 8, []), (zA 74 (.iaddr 5 (.t 72) (.t 73)), [5, 6, 7]), (zA 75 (.load true 5 (.t 74)), [5, 6, 7, 8]), (⟨none, some 76, .call 65 [.t 70, .t 75]⟩, [0, 1, 2, 3, 4, 5, 6, 7, 8, 9]), (zM 10 76, [0, 1, 2, 3, 4, 5, 6, 7, 8, 9, 10])] [2, 3, 8, 10]) (.seq (.reg [ zM 77 10, zA 78 (.bin .neq (.t 77) (.k (.c (.lit (.int .i64 0)))))] [2, 3, 8, 10, 78]) (.cond (.t 78) (.seq (.reg [ zM 79 10, zM 4 79] [4]) .ret) .skip))))) (.reg [ zM 47 8, zA 48 (.bin .add (.t 47) (.k (.c (.lit (.int .i64 1))))), zM 8 48] [2, 3, 8])))))) (.seq (.reg [ zA 80 (.faddr 4 (.t 2)), zA 81 (.load false 1 (.t 80)), zA 82 (.len (.t 81)), zA 83 (.faddr 4 (.t 3)), zA 84 (.load false 1 (.t 83)), zA 85 (.len (.t 84)), ⟨none, some 86, .call 110 [.t 82, .t 85]⟩, zM 4 86] [4]) .ret))))))
theorem K.impl_compareValid : chkF Go.Proofs.Tryz.prog 65 2 0 C.impl_compareValid [.tmp 4] = true := by kernel_rfl
def C.impl_sameNode : ACode := (.seq (.reg [ zA 2 (.box 10 (.t 0)), zA 3 (.box 11 (.t 1)), zA 4 (.mv (.k (.c (.lit (.bool false)))))] [2, 3]) (.seq (.reg [ zA 5 (.load true 5 (.t 2)), zA 6 (.load true 5 (.t 3)), ⟨none, some 7, .call 65 [.t 5, .t 6]⟩, zA 8 (.bin .eql (.t 7) (.k (.c (.lit (.int .i64 0))))), zM 4 8] [4]) .ret))
theorem K.impl_sameNode : chkF Go.Proofs.Tryz.prog 78 2 0 C.impl_sameNode [.tmp 4] = true := by kernel_rfl
def C.impl_testNode : ACode := (.seq (.reg [ zA 3 (.box 10 (.t 0)), zA 5 (.box 11 (.t 2)), zA 6 (.alloc 12 [.c (.lit (.int .i64 0)), .c (.lit (.int .i64 0)), .c (.str []), .nsl 1, .nsl 5]), zA 7 (.mv (.k (.c (.lit (.bool false)))))] [1, 3, 5, 6]) (.seq (.reg [ zA 11 (.load true 5 (.t 3)), zM 12 1, ⟨none, some 13, .call 60 [.t 11, .t 12]⟩, zM 10 13, zA 14 (.extract (.t 10) 0), zA 15 (.extract (.t 10) 1), zA 8 (.alloc 13 [.c (.lit (.int .i64 0)), .c (.lit (.int .i64 0)), .c (.str []), .nsl 1, .nsl 5]), zS (.store true 5 (.t 8) (.t 14)), zM 9 15] [3, 5, 6, 8, 9]) (.seq (.seq (.reg [ zM 16 9, zA 17 (.not (.t 16)), zM 18 17, zG 18 false 19 (.load true 5 (.t 8)), zG 18 false 20 (.load true 5 (.t 5)), ⟨(some (18, false)), some 21, .call 78 [.t 19, .t 20]⟩, zG 18 false 22 (.not (.t 21)), zA 23 (.pick (.t 18) (.k (.c (.lit (.bool true)))) (.t 22))] [3, 6, 23]) (.cond (.t 23) (.seq (.reg [ zA 24 (.build [.c (.lit (.int .i64 0)), .c (.lit (.int .i64 0)), .c (.str []), .nsl 1, .nsl 5] []), zS (.store true 5 (.t 6) (.t 24)), zA 7 (.mv (.k (.c (.lit (.bool false)))))] [6, 7]) .ret) .skip)) (.seq (.reg [ zA 25 (.load true 5 (.t 3)), ⟨none, some 26, .call 61 [.t 25]⟩, zS (.store true 5 (.t 6) (.t 26)), zA 7 (.mv (.k (.c (.lit (.bool true)))))] [6, 7]) .ret))))
theorem K.impl_testNode : chkF Go.Proofs.Tryz.prog 147 3 0 C.impl_testNode [.cell 6 true 5, .tmp 7] = true := by kernel_rfl
def C.impl_ApplyOp : ACode := (.seq (.reg [ zA 2 (.box 10 (.t 0)), zA 3 (.box 11 (.t 1)), zA 4 (.alloc 12 [.c (.lit (.int .i64 0)), .c (.lit (.int .i64 0)), .c (.str []), .nsl 1, .nsl 5]), zA 5 (.mv (.k (.c (.lit (.bool false)))))] [2, 3, 4]) (.seq (.seq (.reg [ zA 8 (.load true 5 (.t 2)), ⟨none, some 9, .call 38 [.t 8]⟩, zA 10 (.not (.t 9)), zM 11 10, zG 11 false 12 (.load true 8 (.t 3)), ⟨(some (11, false)), some 13, .call 97 [.t 12]⟩, zG 11 false 14 (.not (.t 13)), zA 15 (.pick (.t 11) (.k (.c (.lit (.bool true)))) (.t 14))] [2, 3, 4, 15]) (.cond (.t 15) (.seq (.reg [ zA 16 (.build [.c (.lit (.int .i64 0)), .c (.lit (.int .i64 0)), .c (.str []), .nsl 1, .nsl 5] []), zS (.store true 5 (.t 4) (.t 16)), zA 5 (.mv (.k (.c (.lit (.bool false)))))] [4, 5]) .ret) .skip)) (.seq (.seq (.reg [ zA 17 (.faddr 0 (.t 3)), zA 18 (.load false 1 (.t 17))] [2, 3, 4, 18]) (.block 0 (.seq (.reg [ zA 20 (.bin .eql (.t 18) (.k (.c (.lit (.int .i64 1))))), zM 19 20] [2, 3, 4, 18, 19]) (.cond (.t 19) (.seq (.reg [ zA 21 (.load true 5 (.t 2)), zA 22 (.faddr 1 (.t 3)), zA 23 (.load false 1 (.t 22)), zA 24 (.faddr 3 (.t 3)), zA 25 (.load true 5 (.t 24)), ⟨none, some 26, .call 143 [.t 21, .t 23, .t 25]⟩, zA 27 (.extract (.t 26) 0), zA 28 (.extract (.t 26) 1), zS (.store true 5 (.t 4) (.t 27)), zM 5 28] [4, 5]) .ret) (.seq (.reg [ zA 30 (.bin .eql (.t 18) (.k (.c (.lit (.int .i64 2))))), zM 29 30] [2, 3, 4, 18, 29]) (.cond (.t 29) (.seq (.reg [ zA 31 (.load true 5 (.t 2)), zA 32 (.faddr 1 (.t 3)), zA 33 (.load false 1 (.t 32)), ⟨none, some 34, .call 144 [.t 31, .t 33]⟩, zA 35 (.extract (.t 34) 0), zA 36 (.extract (.t 34) 1), zS (.store true 5 (.t 4) (.t 35)), zM 5 36] [4, 5]) .ret) (.seq (.reg [ zA 38 (.bin .eql (.t 18) (.k (.c (.lit (.int .i64 3))))), zM 37 38] [2, 3, 4, 18, 37]) (.cond (.t 37) (.seq (.reg [ zA 39 (.load true 5 (.t 2)), zA 40 (.faddr 1 (.t 3)), zA 41 (.load false 1 (.t 40)), zA 42 (.faddr 3 (.t 3)), zA 43 (.load true 5 (.t 42)), ⟨none, some 44, .call 145 [.t 39, .t 41, .t 43]⟩, zA 45 (.extract (.t 44) 0), zA 46 (.extract (.t 44) 1), zS (.store true 5 (.t 4) (.t 45)), zM 5 46] [4, 5]) .ret) (.seq (.reg [ zA 48 (.bin .eql (.t 18) (.k (.c (.lit (.int .i64 4))))), zM 47 48] [2, 3, 4, 18, 47]) (.cond (.t 47) (.seq (.reg [ zA 49 (.load true 5 (.t 2)), zA 50 (.faddr 2 (.t 3)), zA 51 (.load false 1 (.t 50)), zA 52 (.faddr 1 (.t 3)), zA 53 (.load false 1 (.t 52)), ⟨none, some 54, .call 146 [.t 49, .t 51, .t 53]⟩, zA 55 (.extract (.t 54) 0), zA 56 (.extract (.t 54) 1), zS (.store true 5 (.t 4) (.t 55)), zM 5 56] [4, 5]) .ret) (.seq (.reg [ zA 58 (.bin .eql (.t 18) (.k (.c (.lit (.int .i64 5))))), zM 57 58] [2, 3, 4, 57]) (.cond (.t 57) (.seq (.reg [ zA 60 (.load true 5 (.t 2)), zA 61 (.faddr 2 (.t 3)), zA 62 (.load false 1 (.t 61)), ⟨none, some 63, .call 30 [.t 60, .t 62]⟩, zM 59 63, zA 64 (.extract (.t 59) 0), zA 65 (.extract (.t 59) 1), zA 6 (.alloc 13 [.c (.lit (.int .i64 0)), .c (.lit (.int .i64 0)), .c (.str []), .nsl 1, .nsl 5]), zS (.store true 5 (.t 6) (.t 64)), zM 7 65] [2, 3, 4, 6, 7]) (.seq (.seq (.reg [ zM 66 7, zA 67 (.not (.t 66))] [2, 3, 4, 6, 67]) (.cond (.t 67) (.seq (.reg [ zA 68 (.build [.c (.lit (.int .i64 0)), .c (.lit (.int .i64 0)), .c (.str []), .nsl 1, .nsl 5] []), zS (.store true 5 (.t 4) (.t 68)), zA 5 (.mv (.k (.c (.lit (.bool false)))))] [4, 5]) .ret) .skip)) (.seq (.reg [ zA 69 (.load true 5 (.t 2)), zA 70 (.faddr 1 (.t 3)), zA 71 (.load false 1 (.t 70)), zA 72 (.load true 5 (.t 6)), ⟨none, some 73, .call 143 [.t 69, .t 71, .t 72]⟩, zA 74 (.extract (.t 73) 0), zA 75 (.extract (.t 73) 1), zS (.store true 5 (.t 4) (.t 74)), zM 5 75] [4, 5]) .ret))) .skip)))))))))))) (.seq (.reg [ zA 76 (.load true 5 (.t 2)), zA 77 (.faddr 1 (.t 3)), zA 78 (.load false 1 (.t 77)), zA 79 (.faddr 3 (.t 3)), zA 80 (.load true 5 (.t 79)), ⟨none, some 81, .call 147 [.t 76, .t 78, .t 80]⟩, zA 82 (.extract (.t 81) 0), zA 83 (.extract (.t 81) 1), zS (.store true 5 (.t 4) (.t 82)), zM 5 83] [4, 5]) .ret))))
theorem K.impl_ApplyOp : chkF Go.Proofs.Tryz.prog 98 2 0 C.impl_ApplyOp [.cell 4 true 5, .tmp 5] = true := by kernel_rfl
def C.impl_arePatchOps : ACode := (.seq (.reg [ zA 2 (.mv (.k (.c (.lit (.bool false)))))] [0]) (.seq (.seq (.reg [ zM 5 0, zA 6 (.len (.t 5)), zA 7 (.bin .gtr (.t 6) (.k (.c (.lit (.int .i64 12)))))] [0, 7]) (.cond (.t 7) (.seq (.reg [ zA 2 (.mv (.k (.c (.lit (.bool false)))))] [2]) .ret) .skip)) (.seq (.seq (.reg [ zM 8 0, zA 9 (.len (.t 8)), zA 10 (.mv (.k (.c (.lit (.int .i64 0)))))] [8, 9, 10]) (.block 0 (.loop (.seq (.reg [ zA 11 (.bin .lss (.t 10) (.t 9))] [8, 9, 10, 11]) (.seq (.cond (.t 11) .skip (.exit 0)) (.seq (.block 1 (.seq (.reg [ zA 12 (.iaddr 8 (.t 8) (.t 10)), zA 13 (.load true 8 (.t 12)), zA 4 (.alloc 10 [.c (.lit (.int .i64 0)), .nsl 1, .nsl 1, .c (.lit (.int .i64 0)), .c (.lit (.int .i64 0)), .c (.str []), .nsl 1, .nsl 5]), zS (.store true 8 (.t 4) (.t 13))] [4, 8, 9, 10]) (.seq (.reg [ zA 14 (.load true 8 (.t 4)), ⟨none, some 15, .call 97 [.t 14]⟩, zA 16 (.not (.t 15))] [8, 9, 10, 16]) (.cond (.t 16) (.seq (.reg [ zA 2 (.mv (.k (.c (.lit (.bool false)))))] [2]) .ret) .skip)))) (.reg [ zA 17 (.bin .add (.t 10) (.k (.c (.lit (.int .i64 1))))), zM 10 17] [8, 9, 10]))))))) (.seq (.reg [ zA 2 (.mv (.k (.c (.lit (.bool true)))))] [2]) .ret))))
theorem K.impl_arePatchOps : chkF Go.Proofs.Tryz.prog 52 1 0 C.impl_arePatchOps [.tmp 2] = true := by kernel_rfl
def C.impl_runPatch : ACode := (.seq (.reg [ zA 2 (.box 10 (.t 0)), zA 4 (.alloc 11 [.c (.lit (.int .i64 0)), .c (.lit (.int .i64 0)), .c (.str []), .nsl 1, .nsl 5]), zA 5 (.mv (.k (.c (.lit (.int .i64 0)))))] [1, 2, 4]) (.seq (.reg [ zA 11 (.load true 5 (.t 2)), ⟨none, some 12, .call 61 [.t 11]⟩, zA 6 (.alloc 12 [.c (.lit (.int .i64 0)), .c (.lit (.int .i64 0)), .c (.str []), .nsl 1, .nsl 5]), zS (.store true 5 (.t 6) (.t 12))] [1, 4, 6]) (.seq (.seq (.reg [ zM 13 1, zA 14 (.len (.t 13)), zA 15 (.mv (.k (.c (.lit (.int .i64 0)))))] [1, 4, 6, 13, 14, 15]) (.block 0 (.loop (.seq (.reg [ zA 16 (.bin .lss (.t 15) (.t 14))] [1, 4, 6, 13, 14, 15, 16]) (.seq (.cond (.t 16) .skip (.exit 0)) (.seq (.block 1 (.seq (.reg [ zM 17 15, zA 18 (.iaddr 8 (.t 13) (.t 15)), zA 19 (.load true 8 (.t 18)), zA 8 (.alloc 13 [.c (.lit (.int .i64 0)), .nsl 1, .nsl 1, .c (.lit (.int .i64 0)), .c (.lit (.int .i64 0)), .c (.str []), .nsl 1, .nsl 5]), zM 7 17, zS (.store true 8 (.t 8) (.t 19))] [1, 4, 6, 7, 8, 13, 14, 15]) (.seq (.reg [ zA 21 (.load true 5 (.t 6)), zA 22 (.load true 8 (.t 8)), ⟨none, some 23, .call 98 [.t 21, .t 22]⟩, zM 20 23, zA 24 (.extract (.t 20) 0), zA 25 (.extract (.t 20) 1), zA 9 (.alloc 14 [.c (.lit (.int .i64 0)), .c (.lit (.int .i64 0)), .c (.str []), .nsl 1, .nsl 5]), zS (.store true 5 (.t 9) (.t 24)), zM 10 25] [1, 4, 6, 7, 9, 10, 13, 14, 15]) (.seq (.seq (.reg [ zM 26 10, zA 27 (.not (.t 26))] [1, 4, 6, 7, 9, 13, 14, 15, 27]) (.cond (.t 27) (.seq (.reg [ zA 28 (.build [.c (.lit (.int .i64 0)), .c (.lit (.int .i64 0)), .c (.str []), .nsl 1, .nsl 5] []), zM 29 7, zS (.store true 5 (.t 4) (.t 28)), zM 5 29] [4, 5]) .ret) .skip)) (.reg [ zA 30 (.load true 5 (.t 9)), zS (.store true 5 (.t 6) (.t 30))] [1, 4, 6, 13, 14, 15]))))) (.reg [ zA 31 (.bin .add (.t 15) (.k (.c (.lit (.int .i64 1))))), zM 15 31] [1, 4, 6, 13, 14, 15]))))))) (.seq (.reg [ zA 32 (.load true 5 (.t 6)), zM 33 1, zA 34 (.len (.t 33)), zS (.store true 5 (.t 4) (.t 32)), zM 5 34] [4, 5]) .ret))))
theorem K.impl_runPatch : chkF Go.Proofs.Tryz.prog 53 2 0 C.impl_runPatch [.cell 4 true 5, .tmp 5] = true := by kernel_rfl
def C.impl_ApplyPatch : ACode := (.seq (.reg [ zA 2 (.box 10 (.t 0)), zA 4 (.alloc 11 [.c (.lit (.int .i64 0)), .c (.lit (.int .i64 0)), .c (.str []), .nsl 1, .nsl 5]), zA 5 (.mv (.k (.c (.lit (.bool false)))))] [1, 2, 4]) (.seq (.seq (.reg [ zA 8 (.load true 5 (.t 2)), ⟨none, some 9, .call 38 [.t 8]⟩, zA 10 (.not (.t 9)), zM 11 10, zG 11 false 12 (.mv (.t 1)), ⟨(some (11, false)), some 13, .call 52 [.t 12]⟩, zG 11 false 14 (.not (.t 13)), zA 15 (.pick (.t 11) (.k (.c (.lit (.bool true)))) (.t 14))] [1, 2, 4, 15]) (.cond (.t 15) (.seq (.reg [ zA 16 (.build [.c (.lit (.int .i64 0)), .c (.lit (.int .i64 0)), .c (.str []), .nsl 1, .nsl 5] []), zS (.store true 5 (.t 4) (.t 16)), zA 5 (.mv (.k (.c (.lit (.bool false)))))] [4, 5]) .ret) .skip)) (.seq (.reg [ zA 18 (.load true 5 (.t 2)), zM 19 1, ⟨none, some 20, .call 53 [.t 18, .t 19]⟩, zM 17 20, zA 21 (.extract (.t 17) 0), zA 22 (.extract (.t 17) 1), zA 6 (.alloc 12 [.c (.lit (.int .i64 0)), .c (.lit (.int .i64 0)), .c (.str []), .nsl 1, .nsl 5]), zS (.store true 5 (.t 6) (.t 21)), zM 7 22] [1, 4, 6, 7]) (.seq (.reg [ zA 23 (.load true 5 (.t 6)), zM 24 7, zM 25 1, zA 26 (.len (.t 25)), zA 27 (.bin .eql (.t 24) (.t 26)), zS (.store true 5 (.t 4) (.t 23)), zM 5 27] [4, 5]) .ret))))
theorem K.impl_ApplyPatch : chkF Go.Proofs.Tryz.prog 21 2 0 C.impl_ApplyPatch [.cell 4 true 5, .tmp 5] = true := by kernel_rfl
def C.impl_copyTexts : ACode := (.seq (.reg [ zA 2 (.mv (.k (.nsl 1)))] [0]) (.seq (.seq (.reg [ zM 4 0, zA 5 (.len (.t 4)), zA 6 (.bin .eql (.t 5) (.k (.c (.lit (.int .i64 0)))))] [0, 6]) (.cond (.t 6) (.seq (.reg [ zA 2 (.mv (.k (.nsl 1)))] [2]) .ret) .skip)) (.seq (.reg [ zM 7 0, zA 8 (.len (.t 7)), zA 9 (.makes 10 1 16 [.str []] (.t 8) (.t 8)), zM 3 9] [0, 3]) (.seq (.reg [ zM 10 3, zM 11 0, zA 12 (.copy 1 (.t 10) (.t 11))] [3]) (.seq (.reg [ zM 13 3, zM 2 13] [2]) .ret)))))
theorem K.impl_copyTexts : chkF Go.Proofs.Tryz.prog 131 1 0 C.impl_copyTexts [.tmp 2] = true := by kernel_rfl
def C.impl_differences_put : ACode := (.seq (.reg [ zA 7 (.box 10 (.t 3))] [0, 1, 2, 7]) (.regD [ (zM 8 0, []), (zM 9 0, []), (zA 10 (.nilck (.t 9)), [1]), (zA 11 (.faddr 0 (.t 10)), [1, 2]), (zA 12 (.load false 1 (.t 11)), [1, 2, 3]), (zM 13 1, []), (zM 14 2, []), (⟨none, some 15, .call 131 [.t 14]⟩, [6]), (zA 16 (.load true 5 (.t 7)), []), (⟨none, some 17, .call 61 [.t 16]⟩, [6, 7, 8]), (zA 18 (.build [.c (.lit (.int .i64 0)), .nsl 1, .nsl 1, .c (.lit (.int .i64 0)), .c (.lit (.int .i64 0)), .c (.str []), .nsl 1, .nsl 5] [(0, 1, .t 13), (1, 1, .t 15), (3, 5, .t 17)]), [5, 6, 7, 8, 9]), (zA 19 (.bslice 11 8 1 [.lit (.int .i64 0), .sl 1 [], .sl 1 [], .lit (.int .i64 0), .lit (.int .i64 0), .str [], .sl 1 [], .sl 5 []] [(0, .t 18)]), [5, 6, 7, 8, 9, 10]), (zA 20 (.append 12 8 136 (.t 12) (.t 19)), [1, 2, 3, 4, 5, 6, 7, 8, 9, 10, 11]), (zA 21 (.nilck (.t 8)), [0, 1, 2, 3, 4, 5, 6, 7, 8, 9, 10, 11, 12]), (zA 22 (.faddr 0 (.t 21)), [0, 1, 2, 3, 4, 5, 6, 7, 8, 9, 10, 11, 12, 13]), (zS (.store false 1 (.t 22) (.t 20)), [0, 1, 2, 3, 4, 5, 6, 7, 8, 9, 10, 11, 12, 13, 14])] []))
theorem K.impl_differences_put : chkF Go.Proofs.Tryz.prog 81 4 2 C.impl_differences_put [] = true := by kernel_rfl
def C.impl_stepBehind : ACode := (.seq (.reg [ zA 4 (.mv (.k (.nsl 1)))] [0, 1]) (.seq (.reg [ zM 6 0, zA 7 (.len (.t 6)), zA 8 (.bin .add (.t 7) (.k (.c (.lit (.int .i64 1))))), zA 9 (.makes 10 1 16 [.str []] (.k (.c (.lit (.int .i64 0)))) (.t 8)), zM 5 9] [0, 1, 5]) (.seq (.reg [ zM 10 5, zM 11 0, zA 12 (.append 11 1 16 (.t 10) (.t 11)), zM 5 12] [1, 5]) (.seq (.reg [ zM 13 5, zM 14 1, zA 15 (.bslice 12 1 1 [.str []] [(0, .t 14)]), zA 16 (.append 13 1 16 (.t 13) (.t 15)), zM 4 16] [4]) .ret))))
theorem K.impl_stepBehind : chkF Go.Proofs.Tryz.prog 129 2 0 C.impl_stepBehind [.tmp 4] = true := by kernel_rfl
def C.impl_differences_visit : ACode := (.seq (.reg [ zA 5 (.box 10 (.t 1)), zA 6 (.box 11 (.t 2))] [0, 3, 5, 6]) (.block 0 (.seq (.reg [ zA 13 (.load true 5 (.t 5)), zA 14 (.load true 5 (.t 6)), ⟨none, some 15, .call 78 [.t 13, .t 14]⟩, zM 12 15] [0, 3, 5, 6, 12]) (.cond (.t 12) .skip (.seq (.reg [ zA 17 (.faddr 0 (.t 5)), zA 18 (.load false 1 (.t 17)), zA 19 (.bin .eql (.t 18) (.k (.c (.lit (.int .i64 4))))), zM 20 19, zG 20 true 21 (.faddr 0 (.t 6)), zG 20 true 22 (.load false 1 (.t 21)), zG 20 true 23 (.bin .eql (.t 22) (.k (.c (.lit (.int .i64 4))))), zA 24 (.pick (.t 20) (.t 23) (.k (.c (.lit (.bool false))))), zM 16 24] [0, 3, 5, 6, 16]) (.cond (.t 16) (.reg [ zM 25 0, zA 26 (.load true 5 (.t 5)), zA 27 (.load true 5 (.t 6)), zM 28 3, ⟨none, some 29, .call 79 [.t 25, .t 26, .t 27, .t 28]⟩] []) (.seq (.reg [ zA 31 (.faddr 0 (.t 5)), zA 32 (.load false 1 (.t 31)), zA 33 (.bin .eql (.t 32) (.k (.c (.lit (.int .i64 3))))), zM 34 33, zG 34 true 35 (.faddr 0 (.t 6)), zG 34 true 36 (.load false 1 (.t 35)), zG 34 true 37 (.bin .eql (.t 36) (.k (.c (.lit (.int .i64 3))))), zA 38 (.pick (.t 34) (.t 37) (.k (.c (.lit (.bool false))))), zM 30 38] [0, 3, 5, 6, 30]) (.cond (.t 30) (.reg [ zM 39 0, zA 40 (.load true 5 (.t 5)), zA 41 (.load true 5 (.t 6)), zM 42 3, ⟨none, some 43, .call 80 [.t 39, .t 40, .t 41, .t 42]⟩] []) (.reg [ zM 8 0, zM 9 3, zA 10 (.load true 5 (.t 6)), ⟨none, some 11, .call 81 [.t 8, .k (.c (.lit (.int .i64 3))), .t 9, .t 10]⟩] [])))))))))
theorem K.impl_differences_visit : chkF Go.Proofs.Tryz.prog 39 4 2 C.impl_differences_visit [] = true := by kernel_rfl
def C.impl_differences_visitLists : ACode := (.seq (.reg [ zA 5 (.box 10 (.t 1)), zA 6 (.box 11 (.t 2))] [0, 3, 5, 6]) (.seq (.reg [ zA 12 (.faddr 4 (.t 5)), zA 13 (.load false 1 (.t 12)), zA 14 (.len (.t 13)), zA 15 (.faddr 4 (.t 6)), zA 16 (.load false 1 (.t 15)), zA 17 (.len (.t 16)), zA 18 (.min (.t 14) (.t 17)), zM 8 18] [0, 3, 5, 6, 8]) (.seq (.seq (.reg [ zM 19 8, zA 20 (.mv (.k (.c (.lit (.int .i64 0)))))] [0, 3, 5, 6, 8, 19, 20]) (.block 0 (.loop (.seq (.reg [ zA 21 (.bin .lss (.t 20) (.t 19))] [0, 3, 5, 6, 8, 19, 20, 21]) (.seq (.cond (.t 21) .skip (.exit 0)) (.seq (.block 1 (.seq (.reg [ zM 22 20, zM 9 22] [0, 3, 5, 6, 8, 9, 19, 20]) (.regD [ (zM 23 0, []), (zA 24 (.faddr 4 (.t 5)), []), (zA 25 (.load false 1 (.t 24)), [1]), (zM 26 9, []), (zA 27 (.iaddr 5 (.t 25) (.t 26)), [1, 2, 3]), (zA 28 (.load true 5 (.t 27)), [1, 2, 3, 4]), (zA 29 (.faddr 4 (.t 6)), []), (zA 30 (.load false 1 (.t 29)), [6]), (zM 31 9, []), (zA 32 (.iaddr 5 (.t 30) (.t 31)), [6, 7, 8]), (zA 33 (.load true 5 (.t 32)), [6, 7, 8, 9]), (zM 34 3, []), (zM 35 9, []), (⟨none, some 36, .call 130 [.t 35]⟩, [12]), (⟨none, some 37, .call 129 [.t 34, .t 36]⟩, [11, 12, 13]), (⟨none, some 38, .call 39 [.t 23, .t 28, .t 33, .t 37]⟩, [0, 1, 2, 3, 4, 5, 6, 7, 8, 9, 10, 11, 12, 13, 14])] [0, 3, 5, 6, 8, 19, 20]))) (.reg [ zA 39 (.bin .add (.t 20) (.k (.c (.lit (.int .i64 1))))), zM 20 39] [0, 3, 5, 6, 8, 19, 20]))))))) (.seq (.seq (.reg [ zA 40 (.faddr 4 (.t 5)), zA 41 (.load false 1 (.t 40)), zA 42 (.len (.t 41)), zA 43 (.bin .sub (.t 42) (.k (.c (.lit (.int .i64 1))))), zM 10 43] [0, 3, 6, 8, 10]) (.block 2 (.loop (.seq (.seq (.reg [ zM 44 10, zM 45 8, zA 46 (.bin .geq (.t 44) (.t 45))] [0, 3, 6, 8, 10, 46]) (.cond (.t 46) .skip (.exit 2))) (.seq (.block 3 (.reg [ zM 49 0, zM 50 3, zM 51 10, ⟨none, some 52, .call 130 [.t 51]⟩, ⟨none, some 53, .call 129 [.t 50, .t 52]⟩, zA 54 (.build [.c (.lit (.int .i64 0)), .c (.lit (.int .i64 0)), .c (.str []), .nsl 1, .nsl 5] []), ⟨none, some 55, .call 81 [.t 49, .k (.c (.lit (.int .i64 2))), .t 53, .t 54]⟩] [0, 3, 6, 8, 10])) (.reg [ zM 47 10, zA 48 (.bin .sub (.t 47) (.k (.c (.lit (.int .i64 1))))), zM 10 48] [0, 3, 6, 8, 10])))))) (.seq (.reg [ zM 56 8, zM 11 56] [0, 3, 6, 11]) (.block 4 (.loop (.seq (.seq (.reg [ zM 57 11, zA 58 (.faddr 4 (.t 6)), zA 59 (.load false 1 (.t 58)), zA 60 (.len (.t 59)), zA 61 (.bin .lss (.t 57) (.t 60))] [0, 3, 6, 11, 61]) (.cond (.t 61) .skip (.exit 4))) (.seq (.block 5 (.regD [ (zM 64 0, []), (zM 65 3, []), (zM 66 11, []), (⟨none, some 67, .call 130 [.t 66]⟩, [2]), (⟨none, some 68, .call 129 [.t 65, .t 67]⟩, [1, 2, 3]), (zA 69 (.faddr 4 (.t 6)), []), (zA 70 (.load false 1 (.t 69)), [5]), (zM 71 11, []), (zA 72 (.iaddr 5 (.t 70) (.t 71)), [5, 6, 7]), (zA 73 (.load true 5 (.t 72)), [5, 6, 7, 8]), (⟨none, some 74, .call 81 [.t 64, .k (.c (.lit (.int .i64 1))), .t 68, .t 73]⟩, [0, 1, 2, 3, 4, 5, 6, 7, 8, 9])] [0, 3, 6, 11])) (.reg [ zM 62 11, zA 63 (.bin .add (.t 62) (.k (.c (.lit (.int .i64 1))))), zM 11 63] [0, 3, 6, 11]))))))))))
theorem K.impl_differences_visitLists : chkF Go.Proofs.Tryz.prog 80 4 2 C.impl_differences_visitLists [] = true := by kernel_rfl
def C.impl_differences_visitMaps : ACode := (.seq (.reg [ zA 5 (.box 10 (.t 1)), zA 6 (.box 11 (.t 2))] [0, 3, 5, 6]) (.seq (.seq (.reg [ zA 16 (.faddr 3 (.t 5)), zA 17 (.load false 1 (.t 16)), zA 18 (.len (.t 17)), zA 19 (.mv (.k (.c (.lit (.int .i64 0)))))] [0, 3, 5, 6, 17, 18, 19]) (.block 0 (.loop (.seq (.reg [ zA 20 (.bin .lss (.t 19) (.t 18))] [0, 3, 5, 6, 17, 18, 19, 20]) (.seq (.cond (.t 20) .skip (.exit 0)) (.seq (.block 1 (.seq (.reg [ zM 21 19, zA 22 (.iaddr 1 (.t 17) (.t 19)), zA 23 (.load false 1 (.t 22)), zM 8 21, zM 9 23] [0, 3, 5, 6, 8, 9, 17, 18, 19]) (.seq (.reg [ zA 25 (.faddr 3 (.t 6)), zA 26 (.load false 1 (.t 25)), zM 27 9, ⟨none, some 28, .call 94 [.t 26, .t 27]⟩, zM 24 28, zA 29 (.extract (.t 24) 0), zA 30 (.extract (.t 24) 1), zM 10 29, zM 11 30] [0, 3, 5, 6, 8, 9, 10, 11, 17, 18, 19]) (.seq (.reg [ zM 31 11] [0, 3, 5, 6, 8, 9, 10, 17, 18, 19, 31]) (.cond (.t 31) (.regD [ (zM 32 0, []), (zA 33 (.faddr 4 (.t 5)), []), (zA 34 (.load false 1 (.t 33)), [1]), (zM 35 8, []), (zA 36 (.iaddr 5 (.t 34) (.t 35)), [1, 2, 3]), (zA 37 (.load true 5 (.t 36)), [1, 2, 3, 4]), (zA 38 (.faddr 4 (.t 6)), []), (zA 39 (.load false 1 (.t 38)), [6]), (zM 40 10, []), (zA 41 (.iaddr 5 (.t 39) (.t 40)), [6, 7, 8]), (zA 42 (.load true 5 (.t 41)), [6, 7, 8, 9]), (zM 43 3, []), (zM 44 9, []), (⟨none, some 45, .call 129 [.t 43, .t 44]⟩, [11, 12]), (⟨none, some 46, .call 39 [.t 32, .t 37, .t 42, .t 45]⟩, [0, 1, 2, 3, 4, 5, 6, 7, 8, 9, 10, 11, 12, 13])] [0, 3, 5, 6, 17, 18, 19]) (.reg [ zM 47 0, zM 48 3, zM 49 9, ⟨none, some 50, .call 129 [.t 48, .t 49]⟩, zA 51 (.build [.c (.lit (.int .i64 0)), .c (.lit (.int .i64 0)), .c (.str []), .nsl 1, .nsl 5] []), ⟨none, some 52, .call 81 [.t 47, .k (.c (.lit (.int .i64 2))), .t 50, .t 51]⟩] [0, 3, 5, 6, 17, 18, 19])))))) (.reg [ zA 53 (.bin .add (.t 19) (.k (.c (.lit (.int .i64 1))))), zM 19 53] [0, 3, 5, 6, 17, 18, 19]))))))) (.seq (.reg [ zA 54 (.faddr 3 (.t 6)), zA 55 (.load false 1 (.t 54)), zA 56 (.len (.t 55)), zA 57 (.mv (.k (.c (.lit (.int .i64 0)))))] [0, 3, 5, 6, 55, 56, 57]) (.block 2 (.loop (.seq (.reg [ zA 58 (.bin .lss (.t 57) (.t 56))] [0, 3, 5, 6, 55, 56, 57, 58]) (.seq (.cond (.t 58) .skip (.exit 2)) (.seq (.block 3 (.seq (.reg [ zM 59 57, zA 60 (.iaddr 1 (.t 55) (.t 57)), zA 61 (.load false 1 (.t 60)), zM 12 59, zM 13 61] [0, 3, 5, 6, 12, 13, 55, 56, 57]) (.seq (.reg [ zA 63 (.faddr 3 (.t 5)), zA 64 (.load false 1 (.t 63)), zM 65 13, ⟨none, some 66, .call 94 [.t 64, .t 65]⟩, zM 62 66, zA 67 (.extract (.t 62) 0), zA 68 (.extract (.t 62) 1), zM 14 67, zM 15 68] [0, 3, 5, 6, 12, 13, 15, 55, 56, 57]) (.seq (.reg [ zM 69 15, zA 70 (.not (.t 69))] [0, 3, 5, 6, 12, 13, 55, 56, 57, 70]) (.cond (.t 70) (.regD [ (zM 71 0, []), (zM 72 3, []), (zM 73 13, []), (⟨none, some 74, .call 129 [.t 72, .t 73]⟩, [1, 2]), (zA 75 (.faddr 4 (.t 6)), []), (zA 76 (.load false 1 (.t 75)), [4]), (zM 77 12, []), (zA 78 (.iaddr 5 (.t 76) (.t 77)), [4, 5, 6]), (zA 79 (.load true 5 (.t 78)), [4, 5, 6, 7]), (⟨none, some 80, .call 81 [.t 71, .k (.c (.lit (.int .i64 1))), .t 74, .t 79]⟩, [0, 1, 2, 3, 4, 5, 6, 7, 8])] [0, 3, 5, 6, 55, 56, 57]) .skip))))) (.reg [ zA 81 (.bin .add (.t 57) (.k (.c (.lit (.int .i64 1))))), zM 57 81] [0, 3, 5, 6, 55, 56, 57])))))))))
theorem K.impl_differences_visitMaps : chkF Go.Proofs.Tryz.prog 79 4 2 C.impl_differences_visitMaps [] = true := by kernel_rfl
def C.impl_DiffNodes : ACode := (.seq (.reg [ zA 2 (.box 10 (.t 0)), zA 3 (.box 11 (.t 1)), zA 4 (.mv (.k (.nsl 8))), zA 5 (.mv (.k (.c (.lit (.bool false)))))] [2, 3]) (.seq (.seq (.reg [ zA 9 (.load true 5 (.t 2)), ⟨none, some 10, .call 38 [.t 9]⟩, zA 11 (.not (.t 10)), zM 12 11, zG 12 false 13 (.load true 5 (.t 3)), ⟨(some (12, false)), some 14, .call 38 [.t 13]⟩, zG 12 false 15 (.not (.t 14)), zA 16 (.pick (.t 12) (.k (.c (.lit (.bool true)))) (.t 15))] [2, 3, 16]) (.cond (.t 16) (.seq (.reg [ zA 4 (.mv (.k (.nsl 8))), zA 5 (.mv (.k (.c (.lit (.bool false)))))] [4, 5]) .ret) .skip)) (.cut (.reg [ zA 6 (.alloc 12 [.nsl 8])] [2, 3, 6]) (.seq (.reg [ zA 17 (.load true 5 (.t 2)), zA 18 (.load true 5 (.t 3)), ⟨none, some 19, .call 39 [.t 6, .t 17, .t 18, .k (.nsl 1)]⟩] [2, 6]) (.seq (.seq (.reg [ zA 21 (.load true 5 (.t 2)), zA 22 (.faddr 0 (.t 6)), zA 23 (.load false 1 (.t 22)), ⟨none, some 24, .call 21 [.t 21, .t 23]⟩, zM 20 24, zA 25 (.extract (.t 20) 0), zA 26 (.extract (.t 20) 1), zA 7 (.alloc 13 [.c (.lit (.int .i64 0)), .c (.lit (.int .i64 0)), .c (.str []), .nsl 1, .nsl 5]), zS (.store true 5 (.t 7) (.t 25)), zM 8 26] [6, 8]) (.seq (.reg [ zM 27 8, zA 28 (.not (.t 27))] [6, 28]) (.cond (.t 28) (.seq (.reg [ zA 4 (.mv (.k (.nsl 8))), zA 5 (.mv (.k (.c (.lit (.bool false)))))] [4, 5]) .ret) .skip))) (.seq (.reg [ zA 29 (.faddr 0 (.t 6)), zA 30 (.load false 1 (.t 29)), zM 4 30, zA 5 (.mv (.k (.c (.lit (.bool true)))))] [4, 5]) .ret))))))
theorem K.impl_DiffNodes : chkF Go.Proofs.Tryz.prog 15 2 0 C.impl_DiffNodes [.tmp 4, .tmp 5] = true := by kernel_rfl
def C.impl_DiffSize : ACode := (.seq (.reg [ zA 2 (.box 10 (.t 0)), zA 3 (.box 11 (.t 1)), zA 4 (.mv (.k (.c (.lit (.int .i64 0)))))] [2, 3]) (.seq (.seq (.reg [ zA 6 (.load true 5 (.t 2)), ⟨none, some 7, .call 38 [.t 6]⟩, zA 8 (.not (.t 7)), zM 9 8, zG 9 false 10 (.load true 5 (.t 3)), ⟨(some (9, false)), some 11, .call 38 [.t 10]⟩, zG 9 false 12 (.not (.t 11)), zA 13 (.pick (.t 9) (.k (.c (.lit (.bool true)))) (.t 12))] [2, 3, 13]) (.cond (.t 13) (.seq (.reg [ zA 4 (.mv (.k (.c (.lit (.int .i64 (-1))))))] [4]) .ret) .skip)) (.cut (.reg [ zA 5 (.alloc 12 [.nsl 8])] [2, 3, 5]) (.seq (.reg [ zA 14 (.load true 5 (.t 2)), zA 15 (.load true 5 (.t 3)), ⟨none, some 16, .call 39 [.t 5, .t 14, .t 15, .k (.nsl 1)]⟩] [5]) (.seq (.reg [ zA 17 (.faddr 0 (.t 5)), zA 18 (.load false 1 (.t 17)), zA 19 (.len (.t 18)), zM 4 19] [4]) .ret)))))
theorem K.impl_DiffSize : chkF Go.Proofs.Tryz.prog 13 2 0 C.impl_DiffSize [.tmp 4] = true := by kernel_rfl
def C.laws_equalTexts : ACode := (.seq (.reg [ zA 4 (.mv (.k (.c (.lit (.bool false)))))] [0, 1]) (.seq (.seq (.reg [ zM 6 0, zA 7 (.len (.t 6)), zM 8 1, zA 9 (.len (.t 8)), zA 10 (.bin .neq (.t 7) (.t 9))] [0, 1, 10]) (.cond (.t 10) (.seq (.reg [ zA 4 (.mv (.k (.c (.lit (.bool false)))))] [4]) .ret) .skip)) (.seq (.seq (.reg [ zA 5 (.mv (.k (.c (.lit (.int .i64 0)))))] [0, 1, 5]) (.block 0 (.loop (.seq (.seq (.reg [ zM 11 5, zM 12 0, zA 13 (.len (.t 12)), zA 14 (.bin .lss (.t 11) (.t 13))] [0, 1, 5, 14]) (.cond (.t 14) .skip (.exit 0))) (.seq (.block 1 (.seq (.regD [ (zM 17 0, []), (zM 18 5, []), (zA 19 (.iaddr 1 (.t 17) (.t 18)), [0, 1]), (zA 20 (.load false 1 (.t 19)), [0, 1, 2]), (zM 21 1, []), (zM 22 5, []), (zA 23 (.iaddr 1 (.t 21) (.t 22)), [4, 5]), (zA 24 (.load false 1 (.t 23)), [4, 5, 6]), (zA 25 (.bin .neq (.t 20) (.t 24)), [0, 1, 2, 3, 4, 5, 6, 7])] [0, 1, 5, 25]) (.cond (.t 25) (.seq (.reg [ zA 4 (.mv (.k (.c (.lit (.bool false)))))] [4]) .ret) .skip))) (.reg [ zM 15 5, zA 16 (.bin .add (.t 15) (.k (.c (.lit (.int .i64 1))))), zM 5 16] [0, 1, 5])))))) (.seq (.reg [ zA 4 (.mv (.k (.c (.lit (.bool true)))))] [4]) .ret))))
theorem K.laws_equalTexts : chkF Go.Proofs.Tryz.prog 31 2 0 C.laws_equalTexts [.tmp 4] = true := by kernel_rfl
def C.laws_equalNode : ACode := (.seq (.reg [ zA 2 (.box 10 (.t 0)), zA 3 (.box 11 (.t 1)), zA 4 (.mv (.k (.c (.lit (.bool false)))))] [2, 3]) (.seq (.reg [ zA 5 (.faddr 0 (.t 2)), zA 6 (.load false 1 (.t 5)), zA 7 (.faddr 0 (.t 3)), zA 8 (.load false 1 (.t 7)), zA 9 (.bin .eql (.t 6) (.t 8)), zM 10 9, zG 10 true 11 (.faddr 1 (.t 2)), zG 10 true 12 (.load false 1 (.t 11)), zG 10 true 13 (.faddr 1 (.t 3)), zG 10 true 14 (.load false 1 (.t 13)), zG 10 true 15 (.bin .eql (.t 12) (.t 14)), zA 16 (.pick (.t 10) (.t 15) (.k (.c (.lit (.bool false))))), zM 17 16, zG 17 true 18 (.faddr 2 (.t 2)), zG 17 true 19 (.load false 1 (.t 18)), zG 17 true 20 (.faddr 2 (.t 3)), zG 17 true 21 (.load false 1 (.t 20)), zG 17 true 22 (.bin .eql (.t 19) (.t 21)), zA 23 (.pick (.t 17) (.t 22) (.k (.c (.lit (.bool false))))), zM 24 23, zG 24 true 25 (.faddr 3 (.t 2)), zG 24 true 26 (.load false 1 (.t 25)), zG 24 true 27 (.faddr 3 (.t 3)), zG 24 true 28 (.load false 1 (.t 27)), ⟨(some (24, true)), some 29, .call 31 [.t 26, .t 28]⟩, zA 30 (.pick (.t 24) (.t 29) (.k (.c (.lit (.bool false))))), zM 31 30, zG 31 true 32 (.faddr 4 (.t 2)), zG 31 true 33 (.load false 1 (.t 32)), zG 31 true 34 (.faddr 4 (.t 3)), zG 31 true 35 (.load false 1 (.t 34)), ⟨(some (31, true)), some 36, .call 42 [.t 33, .t 35]⟩, zA 37 (.pick (.t 31) (.t 36) (.k (.c (.lit (.bool false))))), zM 4 37] [4]) .ret))
theorem K.laws_equalNode : chkF Go.Proofs.Tryz.prog 16 2 0 C.laws_equalNode [.tmp 4] = true := by kernel_rfl
def C.laws_equalNodes : ACode := (.seq (.reg [ zA 4 (.mv (.k (.c (.lit (.bool false)))))] [0, 1]) (.seq (.seq (.reg [ zM 6 0, zA 7 (.len (.t 6)), zM 8 1, zA 9 (.len (.t 8)), zA 10 (.bin .neq (.t 7) (.t 9))] [0, 1, 10]) (.cond (.t 10) (.seq (.reg [ zA 4 (.mv (.k (.c (.lit (.bool false)))))] [4]) .ret) .skip)) (.seq (.seq (.reg [ zA 5 (.mv (.k (.c (.lit (.int .i64 0)))))] [0, 1, 5]) (.block 0 (.loop (.seq (.seq (.reg [ zM 11 5, zM 12 0, zA 13 (.len (.t 12)), zA 14 (.bin .lss (.t 11) (.t 13))] [0, 1, 5, 14]) (.cond (.t 14) .skip (.exit 0))) (.seq (.block 1 (.seq (.regD [ (zM 17 0, []), (zM 18 5, []), (zA 19 (.iaddr 5 (.t 17) (.t 18)), [0, 1]), (zA 20 (.load true 5 (.t 19)), [0, 1, 2]), (zM 21 1, []), (zM 22 5, []), (zA 23 (.iaddr 5 (.t 21) (.t 22)), [4, 5]), (zA 24 (.load true 5 (.t 23)), [4, 5, 6]), (⟨none, some 25, .call 16 [.t 20, .t 24]⟩, [0, 1, 2, 3, 4, 5, 6, 7]), (zA 26 (.not (.t 25)), [0, 1, 2, 3, 4, 5, 6, 7, 8])] [0, 1, 5, 26]) (.cond (.t 26) (.seq (.reg [ zA 4 (.mv (.k (.c (.lit (.bool false)))))] [4]) .ret) .skip))) (.reg [ zM 15 5, zA 16 (.bin .add (.t 15) (.k (.c (.lit (.int .i64 1))))), zM 5 16] [0, 1, 5])))))) (.seq (.reg [ zA 4 (.mv (.k (.c (.lit (.bool true)))))] [4]) .ret))))
theorem K.laws_equalNodes : chkF Go.Proofs.Tryz.prog 42 2 0 C.laws_equalNodes [.tmp 4] = true := by kernel_rfl
def C.spec_decimal : ACode := (.seq (.reg [ zA 2 (.mv (.k (.c (.str []))))] [0]) (.seq (.seq (.reg [ zM 3 0, zA 4 (.bin .lss (.t 3) (.k (.c (.lit (.int .i64 0))))), zM 5 4, zG 5 true 6 (.mv (.t 0)), zG 5 true 7 (.mv (.t 0)), zG 5 true 8 (.neg (.t 7)), zG 5 true 9 (.bin .eql (.t 6) (.t 8)), zA 10 (.pick (.t 5) (.t 9) (.k (.c (.lit (.bool false)))))] [0, 10]) (.cond (.t 10) (.seq (.reg [ zA 2 (.mv (.k (.c (.str [45, 57, 50, 50, 51, 51, 55, 50, 48, 51, 54, 56, 53, 52, 55, 55, 53, 56, 48, 56]))))] [2]) .ret) .skip)) (.seq (.seq (.reg [ zM 11 0, zA 12 (.bin .lss (.t 11) (.k (.c (.lit (.int .i64 0)))))] [0, 12]) (.cond (.t 12) (.seq (.reg [ zM 13 0, zA 14 (.neg (.t 13)), ⟨none, some 15, .call 135 [.t 14]⟩, zA 16 (.bin .add (.k (.c (.str [45]))) (.t 15)), zM 2 16] [2]) .ret) .skip)) (.seq (.seq (.reg [ zM 17 0, zA 18 (.bin .lss (.t 17) (.k (.c (.lit (.int .i64 10)))))] [0, 18]) (.cond (.t 18) (.seq (.reg [ zM 19 0, zA 20 (.bin .add (.k (.c (.lit (.int .i64 48)))) (.t 19)), zA 21 (.cint .u8 (.t 20)), zA 22 (.bslice 10 1 1 [.lit (.int .u8 0)] [(0, .t 21)]), zA 23 (.cstr (.t 22)), zM 2 23] [2]) .ret) .skip)) (.seq (.regD [ (zM 24 0, []), (zA 25 (.bin .quo (.t 24) (.k (.c (.lit (.int .i64 10))))), [0]), (⟨none, some 26, .call 135 [.t 25]⟩, [0, 1]), (zM 27 0, []), (zA 28 (.bin .rem (.t 27) (.k (.c (.lit (.int .i64 10))))), [3]), (zA 29 (.bin .add (.k (.c (.lit (.int .i64 48)))) (.t 28)), [3, 4]), (zA 30 (.cint .u8 (.t 29)), [3, 4, 5]), (zA 31 (.bslice 11 1 1 [.lit (.int .u8 0)] [(0, .t 30)]), [3, 4, 5, 6]), (zA 32 (.cstr (.t 31)), [3, 4, 5, 6, 7]), (zA 33 (.bin .add (.t 26) (.t 32)), [0, 1, 2, 3, 4, 5, 6, 7, 8]), (zM 2 33, [0, 1, 2, 3, 4, 5, 6, 7, 8, 9])] [2]) .ret)))))
theorem K.spec_decimal : chkF Go.Proofs.Tryz.prog 135 1 0 C.spec_decimal [.tmp 2] = true := by kernel_rfl
def C.spec_copyNode : ACode := (.seq (.reg [ zA 1 (.box 10 (.t 0)), zA 2 (.alloc 11 [.c (.lit (.int .i64 0)), .c (.lit (.int .i64 0)), .c (.str []), .nsl 1, .nsl 5])] [1, 2]) (.seq (.reg [ zA 5 (.bslice 12 5 0 [.lit (.int .i64 0), .lit (.int .i64 0), .str [], .sl 1 [], .sl 5 []] []), zM 3 5] [1, 2, 3]) (.seq (.seq (.reg [ zA 4 (.mv (.k (.c (.lit (.int .i64 0)))))] [1, 2, 3, 4]) (.block 0 (.loop (.seq (.seq (.reg [ zM 6 4, zA 7 (.faddr 4 (.t 1)), zA 8 (.load false 1 (.t 7)), zA 9 (.len (.t 8)), zA 10 (.bin .lss (.t 6) (.t 9))] [1, 2, 3, 4, 10]) (.cond (.t 10) .skip (.exit 0))) (.seq (.block 1 (.reg [ zM 13 3, zA 14 (.faddr 4 (.t 1)), zA 15 (.load false 1 (.t 14)), zM 16 4, zA 17 (.iaddr 5 (.t 15) (.t 16)), zA 18 (.load true 5 (.t 17)), ⟨none, some 19, .call 88 [.t 18]⟩, zA 20 (.bslice 13 5 1 [.lit (.int .i64 0), .lit (.int .i64 0), .str [], .sl 1 [], .sl 5 []] [(0, .t 19)]), zA 21 (.append 14 5 80 (.t 13) (.t 20)), zM 3 21] [1, 2, 3, 4])) (.reg [ zM 11 4, zA 12 (.bin .add (.t 11) (.k (.c (.lit (.int .i64 1))))), zM 4 12] [1, 2, 3, 4])))))) (.seq (.regD [ (zA 22 (.faddr 0 (.t 1)), []), (zA 23 (.load false 1 (.t 22)), [0]), (zA 24 (.faddr 1 (.t 1)), []), (zA 25 (.load false 1 (.t 24)), [2]), (zA 26 (.faddr 2 (.t 1)), []), (zA 27 (.load false 1 (.t 26)), [4]), (zA 28 (.bslice 15 1 0 [.str []] []), []), (zA 29 (.faddr 3 (.t 1)), []), (zA 30 (.load false 1 (.t 29)), [7]), (zA 31 (.append 16 1 16 (.t 28) (.t 30)), [6, 7, 8]), (zM 32 3, []), (zA 33 (.build [.c (.lit (.int .i64 0)), .c (.lit (.int .i64 0)), .c (.str []), .nsl 1, .nsl 5] [(0, 1, .t 23), (1, 1, .t 25), (2, 1, .t 27), (3, 1, .t 31), (4, 1, .t 32)]), [0, 1, 2, 3, 4, 5, 6, 7, 8, 9, 10]), (zS (.store true 5 (.t 2) (.t 33)), [0, 1, 2, 3, 4, 5, 6, 7, 8, 9, 10, 11])] [2]) .ret))))
theorem K.spec_copyNode : chkF Go.Proofs.Tryz.prog 88 1 0 C.spec_copyNode [.cell 2 true 5] = true := by kernel_rfl
def C.spec_op : ACode := (.seq (.reg [ zA 5 (.box 10 (.t 2)), zA 6 (.alloc 11 [.c (.lit (.int .i64 0)), .nsl 1, .nsl 1, .c (.lit (.int .i64 0)), .c (.lit (.int .i64 0)), .c (.str []), .nsl 1, .nsl 5])] [0, 1, 5, 6]) (.seq (.reg [ zM 7 0, zM 8 1, zA 9 (.bslice 12 1 0 [.str []] []), zA 10 (.load true 5 (.t 5)), ⟨none, some 11, .call 88 [.t 10]⟩, zA 12 (.build [.c (.lit (.int .i64 0)), .nsl 1, .nsl 1, .c (.lit (.int .i64 0)), .c (.lit (.int .i64 0)), .c (.str []), .nsl 1, .nsl 5] [(0, 1, .t 7), (1, 1, .t 8), (2, 1, .t 9), (3, 5, .t 11)]), zS (.store true 8 (.t 6) (.t 12))] [6]) .ret))
theorem K.spec_op : chkF Go.Proofs.Tryz.prog 87 3 0 C.spec_op [.cell 6 true 8] = true := by kernel_rfl
def C.spec_under : ACode := (.seq (.reg [ zA 4 (.mv (.k (.nsl 8)))] [0, 1]) (.seq (.reg [ zA 8 (.bslice 10 8 0 [.lit (.int .i64 0), .sl 1 [], .sl 1 [], .lit (.int .i64 0), .lit (.int .i64 0), .str [], .sl 1 [], .sl 5 []] []), zM 5 8] [0, 1, 5]) (.seq (.seq (.reg [ zA 6 (.mv (.k (.c (.lit (.int .i64 0)))))] [0, 1, 5, 6]) (.block 0 (.loop (.seq (.seq (.reg [ zM 9 6, zM 10 1, zA 11 (.len (.t 10)), zA 12 (.bin .lss (.t 9) (.t 11))] [0, 1, 5, 6, 12]) (.cond (.t 12) .skip (.exit 0))) (.seq (.block 1 (.seq (.reg [ zM 15 0, zA 16 (.bslice 11 1 1 [.str []] [(0, .t 15)]), zM 17 1, zM 18 6, zA 19 (.iaddr 8 (.t 17) (.t 18)), zA 20 (.faddr 1 (.t 19)), zA 21 (.load false 1 (.t 20)), zA 22 (.append 12 1 16 (.t 16) (.t 21)), zM 7 22] [0, 1, 5, 6, 7]) (.regD [ (zM 23 5, []), (zM 24 1, []), (zM 25 6, []), (zA 26 (.iaddr 8 (.t 24) (.t 25)), [1, 2]), (zA 27 (.faddr 0 (.t 26)), [1, 2, 3]), (zA 28 (.load false 1 (.t 27)), [1, 2, 3, 4]), (zM 29 7, []), (zA 30 (.bslice 13 1 0 [.str []] []), []), (zM 31 1, []), (zM 32 6, []), (zA 33 (.iaddr 8 (.t 31) (.t 32)), [8, 9]), (zA 34 (.faddr 3 (.t 33)), [8, 9, 10]), (zA 35 (.load true 5 (.t 34)), [8, 9, 10, 11]), (zA 36 (.build [.c (.lit (.int .i64 0)), .nsl 1, .nsl 1, .c (.lit (.int .i64 0)), .c (.lit (.int .i64 0)), .c (.str []), .nsl 1, .nsl 5] [(0, 1, .t 28), (1, 1, .t 29), (2, 1, .t 30), (3, 5, .t 35)]), [1, 2, 3, 4, 5, 6, 7, 8, 9, 10, 11, 12]), (zA 37 (.bslice 14 8 1 [.lit (.int .i64 0), .sl 1 [], .sl 1 [], .lit (.int .i64 0), .lit (.int .i64 0), .str [], .sl 1 [], .sl 5 []] [(0, .t 36)]), [1, 2, 3, 4, 5, 6, 7, 8, 9, 10, 11, 12, 13]), (zA 38 (.append 15 8 136 (.t 23) (.t 37)), [0, 1, 2, 3, 4, 5, 6, 7, 8, 9, 10, 11, 12, 13, 14]), (zM 5 38, [0, 1, 2, 3, 4, 5, 6, 7, 8, 9, 10, 11, 12, 13, 14, 15])] [0, 1, 5, 6]))) (.reg [ zM 13 6, zA 14 (.bin .add (.t 13) (.k (.c (.lit (.int .i64 1))))), zM 6 14] [0, 1, 5, 6])))))) (.seq (.reg [ zM 39 5, zM 4 39] [4]) .ret))))
theorem K.spec_under : chkF Go.Proofs.Tryz.prog 134 2 0 C.spec_under [.tmp 4] = true := by kernel_rfl
def C.spec_place : ACode := (.seq (.reg [ zA 2 (.box 10 (.t 0)), zA 4 (.mv (.k (.c (.lit (.int .i64 0)))))] [1, 2]) (.seq (.seq (.reg [ zA 5 (.mv (.k (.c (.lit (.int .i64 0)))))] [1, 2, 5]) (.block 0 (.loop (.seq (.seq (.reg [ zM 6 5, zA 7 (.faddr 4 (.t 2)), zA 8 (.load false 1 (.t 7)), zA 9 (.len (.t 8)), zA 10 (.bin .lss (.t 6) (.t 9))] [1, 2, 5, 10]) (.cond (.t 10) .skip (.exit 0))) (.seq (.block 1 (.seq (.reg [ zA 13 (.faddr 0 (.t 2)), zA 14 (.load false 1 (.t 13)), zA 15 (.bin .eql (.t 14) (.k (.c (.lit (.int .i64 4))))), zM 16 15, zG 16 true 17 (.faddr 3 (.t 2)), zG 16 true 18 (.load false 1 (.t 17)), zG 16 true 19 (.mv (.t 5)), zG 16 true 20 (.iaddr 1 (.t 18) (.t 19)), zG 16 true 21 (.load false 1 (.t 20)), zG 16 true 22 (.mv (.t 1)), zG 16 true 23 (.bin .eql (.t 21) (.t 22)), zA 24 (.pick (.t 16) (.t 23) (.k (.c (.lit (.bool false))))), zM 25 24, zG 25 false 26 (.faddr 0 (.t 2)), zG 25 false 27 (.load false 1 (.t 26)), zG 25 false 28 (.bin .eql (.t 27) (.k (.c (.lit (.int .i64 3))))), zG 25 false 29 (.mv (.t 28)), zG 29 true 30 (.mv (.t 5)), ⟨(some (29, true)), some 31, .call 135 [.t 30]⟩, zG 29 true 32 (.mv (.t 1)), zG 29 true 33 (.bin .eql (.t 31) (.t 32)), zG 25 false 34 (.pick (.t 29) (.t 33) (.k (.c (.lit (.bool false))))), zA 35 (.pick (.t 25) (.k (.c (.lit (.bool true)))) (.t 34))] [1, 2, 5, 35]) (.cond (.t 35) (.seq (.reg [ zM 36 5, zM 4 36] [4]) .ret) .skip))) (.reg [ zM 11 5, zA 12 (.bin .add (.t 11) (.k (.c (.lit (.int .i64 1))))), zM 5 12] [1, 2, 5])))))) (.seq (.reg [ zA 4 (.mv (.k (.c (.lit (.int .i64 (-1))))))] [4]) .ret)))
theorem K.spec_place : chkF Go.Proofs.Tryz.prog 89 2 0 C.spec_place [.tmp 4] = true := by kernel_rfl
def C.spec_toInt : ACode := (.seq (.reg [ zA 2 (.mv (.k (.c (.lit (.int .i64 0)))))] [0]) (.seq (.seq (.reg [ zM 3 0] [3]) (.cond (.t 3) (.seq (.reg [ zA 2 (.mv (.k (.c (.lit (.int .i64 1)))))] [2]) .ret) .skip)) (.seq (.reg [ zA 2 (.mv (.k (.c (.lit (.int .i64 0)))))] [2]) .ret)))
theorem K.spec_toInt : chkF Go.Proofs.Tryz.prog 198 1 0 C.spec_toInt [.tmp 2] = true := by kernel_rfl
def C.spec_order : ACode := (.seq (.reg [ zA 4 (.mv (.k (.c (.lit (.int .i64 0)))))] [0, 1]) (.seq (.reg [ zM 5 0, zM 6 1, zA 7 (.bin .gtr (.t 5) (.t 6)), ⟨none, some 8, .call 198 [.t 7]⟩, zM 9 0, zM 10 1, zA 11 (.bin .lss (.t 9) (.t 10)), ⟨none, some 12, .call 198 [.t 11]⟩, zA 13 (.bin .sub (.t 8) (.t 12)), zM 4 13] [4]) .ret))
theorem K.spec_order : chkF Go.Proofs.Tryz.prog 166 2 0 C.spec_order [.tmp 4] = true := by kernel_rfl
def C.spec_orderText : ACode := (.seq (.reg [ zA 4 (.mv (.k (.c (.lit (.int .i64 0)))))] [0, 1]) (.seq (.reg [ zM 5 0, zM 6 1, zA 7 (.bin .gtr (.t 5) (.t 6)), ⟨none, some 8, .call 198 [.t 7]⟩, zM 9 0, zM 10 1, zA 11 (.bin .lss (.t 9) (.t 10)), ⟨none, some 12, .call 198 [.t 11]⟩, zA 13 (.bin .sub (.t 8) (.t 12)), zM 4 13] [4]) .ret))
theorem K.spec_orderText : chkF Go.Proofs.Tryz.prog 167 2 0 C.spec_orderText [.tmp 4] = true := by kernel_rfl
def C.spec_compare : ACode := (.seq (.reg [ zA 2 (.box 10 (.t 0)), zA 3 (.box 11 (.t 1)), zA 4 (.mv (.k (.c (.lit (.int .i64 0)))))] [2, 3]) (.seq (.seq (.reg [ zA 7 (.faddr 0 (.t 2)), zA 8 (.load false 1 (.t 7)), zA 9 (.faddr 0 (.t 3)), zA 10 (.load false 1 (.t 9)), zA 11 (.bin .neq (.t 8) (.t 10))] [2, 3, 11]) (.cond (.t 11) (.seq (.reg [ zA 12 (.faddr 0 (.t 2)), zA 13 (.load false 1 (.t 12)), zA 14 (.faddr 0 (.t 3)), zA 15 (.load false 1 (.t 14)), ⟨none, some 16, .call 166 [.t 13, .t 15]⟩, zM 4 16] [4]) .ret) .skip)) (.seq (.seq (.reg [ zA 17 (.faddr 1 (.t 2)), zA 18 (.load false 1 (.t 17)), zA 19 (.faddr 1 (.t 3)), zA 20 (.load false 1 (.t 19)), zA 21 (.bin .neq (.t 18) (.t 20))] [2, 3, 21]) (.cond (.t 21) (.seq (.reg [ zA 22 (.faddr 1 (.t 2)), zA 23 (.load false 1 (.t 22)), zA 24 (.faddr 1 (.t 3)), zA 25 (.load false 1 (.t 24)), ⟨none, some 26, .call 166 [.t 23, .t 25]⟩, zM 4 26] [4]) .ret) .skip)) (.seq (.seq (.reg [ zA 27 (.faddr 2 (.t 2)), zA 28 (.load false 1 (.t 27)), zA 29 (.faddr 2 (.t 3)), zA 30 (.load false 1 (.t 29)), zA 31 (.bin .neq (.t 28) (.t 30))] [2, 3, 31]) (.cond (.t 31) (.seq (.reg [ zA 32 (.faddr 2 (.t 2)), zA 33 (.load false 1 (.t 32)), zA 34 (.faddr 2 (.t 3)), zA 35 (.load false 1 (.t 34)), ⟨none, some 36, .call 167 [.t 33, .t 35]⟩, zM 4 36] [4]) .ret) .skip)) (.seq (.seq (.reg [ zA 5 (.mv (.k (.c (.lit (.int .i64 0)))))] [2, 3, 5]) (.block 0 (.loop (.seq (.seq (.reg [ zM 37 5, zA 38 (.faddr 4 (.t 2)), zA 39 (.load false 1 (.t 38)), zA 40 (.len (.t 39)), zA 41 (.bin .lss (.t 37) (.t 40)), zM 42 41, zG 42 true 43 (.mv (.t 5)), zG 42 true 44 (.faddr 4 (.t 3)), zG 42 true 45 (.load false 1 (.t 44)), zG 42 true 46 (.len (.t 45)), zG 42 true 47 (.bin .lss (.t 43) (.t 46)), zA 48 (.pick (.t 42) (.t 47) (.k (.c (.lit (.bool false)))))] [2, 3, 5, 48]) (.cond (.t 48) .skip (.exit 0))) (.seq (.block 1 (.seq (.seq (.regD [ (zA 51 (.faddr 0 (.t 2)), []), (zA 52 (.load false 1 (.t 51)), [0]), (zA 53 (.bin .eql (.t 52) (.k (.c (.lit (.int .i64 4))))), [0, 1]), (zM 54 53, [0, 1, 2]), (zG 54 true 55 (.faddr 3 (.t 2)), [0, 1, 2, 3]), (zG 54 true 56 (.load false 1 (.t 55)), [0, 1, 2, 3, 4]), (zG 54 true 57 (.mv (.t 5)), [0, 1, 2, 3]), (zG 54 true 58 (.iaddr 1 (.t 56) (.t 57)), [0, 1, 2, 3, 4, 5, 6]), (zG 54 true 59 (.load false 1 (.t 58)), [0, 1, 2, 3, 4, 5, 6, 7]), (zG 54 true 60 (.faddr 3 (.t 3)), [0, 1, 2, 3]), (zG 54 true 61 (.load false 1 (.t 60)), [0, 1, 2, 3, 9]), (zG 54 true 62 (.mv (.t 5)), [0, 1, 2, 3]), (zG 54 true 63 (.iaddr 1 (.t 61) (.t 62)), [0, 1, 2, 3, 9, 10, 11]), (zG 54 true 64 (.load false 1 (.t 63)), [0, 1, 2, 3, 9, 10, 11, 12]), (zG 54 true 65 (.bin .neq (.t 59) (.t 64)), [0, 1, 2, 3, 4, 5, 6, 7, 8, 9, 10, 11, 12, 13]), (zA 66 (.pick (.t 54) (.t 65) (.k (.c (.lit (.bool false))))), [0, 1, 2, 3, 4, 5, 6, 7, 8, 9, 10, 11, 12, 13, 14])] [2, 3, 5, 66]) (.cond (.t 66) (.seq (.regD [ (zA 67 (.faddr 3 (.t 2)), []), (zA 68 (.load false 1 (.t 67)), [0]), (zM 69 5, []), (zA 70 (.iaddr 1 (.t 68) (.t 69)), [0, 1, 2]), (zA 71 (.load false 1 (.t 70)), [0, 1, 2, 3]), (zA 72 (.faddr 3 (.t 3)), []), (zA 73 (.load false 1 (.t 72)), [5]), (zM 74 5, []), (zA 75 (.iaddr 1 (.t 73) (.t 74)), [5, 6, 7]), (zA 76 (.load false 1 (.t 75)), [5, 6, 7, 8]), (⟨none, some 77, .call 167 [.t 71, .t 76]⟩, [0, 1, 2, 3, 4, 5, 6, 7, 8, 9]), (zM 4 77, [0, 1, 2, 3, 4, 5, 6, 7, 8, 9, 10])] [4]) .ret) .skip)) (.seq (.regD [ (zA 78 (.faddr 4 (.t 2)), []), (zA 79 (.load false 1 (.t 78)), [0]), (zM 80 5, []), (zA 81 (.iaddr 5 (.t 79) (.t 80)), [0, 1, 2]), (zA 82 (.load true 5 (.t 81)), [0, 1, 2, 3]), (zA 83 (.faddr 4 (.t 3)), []), (zA 84 (.load false 1 (.t 83)), [5]), (zM 85 5, []), (zA 86 (.iaddr 5 (.t 84) (.t 85)), [5, 6, 7]), (zA 87 (.load true 5 (.t 86)), [5, 6, 7, 8]), (⟨none, some 88, .call 116 [.t 82, .t 87]⟩, [0, 1, 2, 3, 4, 5, 6, 7, 8, 9]), (zM 6 88, [0, 1, 2, 3, 4, 5, 6, 7, 8, 9, 10])] [2, 3, 5, 6]) (.seq (.reg [ zM 89 6, zA 90 (.bin .neq (.t 89) (.k (.c (.lit (.int .i64 0)))))] [2, 3, 5, 6, 90]) (.cond (.t 90) (.seq (.reg [ zM 91 6, zM 4 91] [4]) .ret) .skip))))) (.reg [ zM 49 5, zA 50 (.bin .add (.t 49) (.k (.c (.lit (.int .i64 1))))), zM 5 50] [2, 3, 5])))))) (.seq (.reg [ zA 92 (.faddr 4 (.t 2)), zA 93 (.load false 1 (.t 92)), zA 94 (.len (.t 93)), zA 95 (.faddr 4 (.t 3)), zA 96 (.load false 1 (.t 95)), zA 97 (.len (.t 96)), ⟨none, some 98, .call 166 [.t 94, .t 97]⟩, zM 4 98] [4]) .ret))))))
theorem K.spec_compare : chkF Go.Proofs.Tryz.prog 116 2 0 C.spec_compare [.tmp 4] = true := by kernel_rfl
def C.spec_same : ACode := (.seq (.reg [ zA 2 (.box 10 (.t 0)), zA 3 (.box 11 (.t 1)), zA 4 (.mv (.k (.c (.lit (.bool false)))))] [2, 3]) (.seq (.reg [ zA 5 (.load true 5 (.t 2)), zA 6 (.load true 5 (.t 3)), ⟨none, some 7, .call 116 [.t 5, .t 6]⟩, zA 8 (.bin .eql (.t 7) (.k (.c (.lit (.int .i64 0))))), zM 4 8] [4]) .ret))
theorem K.spec_same : chkF Go.Proofs.Tryz.prog 84 2 0 C.spec_same [.tmp 4] = true := by kernel_rfl
def C.spec_diff : ACode := (.seq (.reg [ zA 2 (.box 10 (.t 0)), zA 3 (.box 11 (.t 1)), zA 4 (.mv (.k (.nsl 8)))] [2, 3]) (.seq (.seq (.reg [ zA 5 (.load true 5 (.t 2)), zA 6 (.load true 5 (.t 3)), ⟨none, some 7, .call 84 [.t 5, .t 6]⟩] [2, 3, 7]) (.cond (.t 7) (.seq (.reg [ zA 8 (.bslice 12 8 0 [.lit (.int .i64 0), .sl 1 [], .sl 1 [], .lit (.int .i64 0), .lit (.int .i64 0), .str [], .sl 1 [], .sl 5 []] []), zM 4 8] [4]) .ret) .skip)) (.seq (.block 0 (.seq (.reg [ zA 10 (.faddr 0 (.t 2)), zA 11 (.load false 1 (.t 10)), zA 12 (.bin .eql (.t 11) (.k (.c (.lit (.int .i64 4))))), zM 13 12, zG 13 true 14 (.faddr 0 (.t 3)), zG 13 true 15 (.load false 1 (.t 14)), zG 13 true 16 (.bin .eql (.t 15) (.k (.c (.lit (.int .i64 4))))), zA 17 (.pick (.t 13) (.t 16) (.k (.c (.lit (.bool false))))), zM 9 17] [2, 3, 9]) (.cond (.t 9) (.seq (.reg [ zA 18 (.load true 5 (.t 2)), zA 19 (.load true 5 (.t 3)), ⟨none, some 20, .call 85 [.t 18, .t 19]⟩, zM 4 20] [4]) .ret) (.seq (.reg [ zA 22 (.faddr 0 (.t 2)), zA 23 (.load false 1 (.t 22)), zA 24 (.bin .eql (.t 23) (.k (.c (.lit (.int .i64 3))))), zM 25 24, zG 25 true 26 (.faddr 0 (.t 3)), zG 25 true 27 (.load false 1 (.t 26)), zG 25 true 28 (.bin .eql (.t 27) (.k (.c (.lit (.int .i64 3))))), zA 29 (.pick (.t 25) (.t 28) (.k (.c (.lit (.bool false))))), zM 21 29] [2, 3, 21]) (.cond (.t 21) (.seq (.reg [ zA 30 (.load true 5 (.t 2)), zA 31 (.load true 5 (.t 3)), ⟨none, some 32, .call 86 [.t 30, .t 31]⟩, zM 4 32] [4]) .ret) .skip))))) (.seq (.reg [ zA 33 (.bslice 13 1 0 [.str []] []), zA 34 (.load true 5 (.t 3)), ⟨none, some 35, .call 87 [.k (.c (.lit (.int .i64 3))), .t 33, .t 34]⟩, zA 36 (.bslice 14 8 1 [.lit (.int .i64 0), .sl 1 [], .sl 1 [], .lit (.int .i64 0), .lit (.int .i64 0), .str [], .sl 1 [], .sl 5 []] [(0, .t 35)]), zM 4 36] [4]) .ret))))
theorem K.spec_diff : chkF Go.Proofs.Tryz.prog 41 2 0 C.spec_diff [.tmp 4] = true := by kernel_rfl
def C.spec_diffLists : ACode := (.seq (.reg [ zA 2 (.box 10 (.t 0)), zA 3 (.box 11 (.t 1)), zA 4 (.mv (.k (.nsl 8)))] [2, 3]) (.seq (.reg [ zA 10 (.bslice 12 8 0 [.lit (.int .i64 0), .sl 1 [], .sl 1 [], .lit (.int .i64 0), .lit (.int .i64 0), .str [], .sl 1 [], .sl 5 []] []), zM 5 10] [2, 3, 5]) (.seq (.reg [ zA 11 (.faddr 4 (.t 2)), zA 12 (.load false 1 (.t 11)), zA 13 (.len (.t 12)), zA 14 (.faddr 4 (.t 3)), zA 15 (.load false 1 (.t 14)), zA 16 (.len (.t 15)), zA 17 (.min (.t 13) (.t 16)), zM 6 17] [2, 3, 5, 6]) (.seq (.seq (.reg [ zA 7 (.mv (.k (.c (.lit (.int .i64 0)))))] [2, 3, 5, 6, 7]) (.block 0 (.loop (.seq (.seq (.reg [ zM 18 7, zM 19 6, zA 20 (.bin .lss (.t 18) (.t 19))] [2, 3, 5, 6, 7, 20]) (.cond (.t 20) .skip (.exit 0))) (.seq (.block 1 (.regD [ (zM 23 5, []), (zM 24 7, []), (⟨none, some 25, .call 135 [.t 24]⟩, [1]), (zA 26 (.faddr 4 (.t 2)), []), (zA 27 (.load false 1 (.t 26)), [3]), (zM 28 7, []), (zA 29 (.iaddr 5 (.t 27) (.t 28)), [3, 4, 5]), (zA 30 (.load true 5 (.t 29)), [3, 4, 5, 6]), (zA 31 (.faddr 4 (.t 3)), []), (zA 32 (.load false 1 (.t 31)), [8]), (zM 33 7, []), (zA 34 (.iaddr 5 (.t 32) (.t 33)), [8, 9, 10]), (zA 35 (.load true 5 (.t 34)), [8, 9, 10, 11]), (⟨none, some 36, .call 41 [.t 30, .t 35]⟩, [1, 2, 3, 4, 5, 6, 7, 8, 9, 10, 11, 12]), (⟨none, some 37, .call 134 [.t 25, .t 36]⟩, [1, 2, 3, 4, 5, 6, 7, 8, 9, 10, 11, 12, 13]), (zA 38 (.append 13 8 136 (.t 23) (.t 37)), [0, 1, 2, 3, 4, 5, 6, 7, 8, 9, 10, 11, 12, 13, 14]), (zM 5 38, [0, 1, 2, 3, 4, 5, 6, 7, 8, 9, 10, 11, 12, 13, 14, 15])] [2, 3, 5, 6, 7])) (.reg [ zM 21 7, zA 22 (.bin .add (.t 21) (.k (.c (.lit (.int .i64 1))))), zM 7 22] [2, 3, 5, 6, 7])))))) (.seq (.seq (.reg [ zA 39 (.faddr 4 (.t 2)), zA 40 (.load false 1 (.t 39)), zA 41 (.len (.t 40)), zA 42 (.bin .sub (.t 41) (.k (.c (.lit (.int .i64 1))))), zM 8 42] [3, 5, 6, 8]) (.block 2 (.loop (.seq (.seq (.reg [ zM 43 8, zM 44 6, zA 45 (.bin .geq (.t 43) (.t 44))] [3, 5, 6, 8, 45]) (.cond (.t 45) .skip (.exit 2))) (.seq (.block 3 (.reg [ zM 48 5, zM 49 8, ⟨none, some 50, .call 135 [.t 49]⟩, zA 51 (.bslice 14 1 1 [.str []] [(0, .t 50)]), zA 52 (.build [.c (.lit (.int .i64 0)), .c (.lit (.int .i64 0)), .c (.str []), .nsl 1, .nsl 5] []), ⟨none, some 53, .call 87 [.k (.c (.lit (.int .i64 2))), .t 51, .t 52]⟩, zA 54 (.bslice 15 8 1 [.lit (.int .i64 0), .sl 1 [], .sl 1 [], .lit (.int .i64 0), .lit (.int .i64 0), .str [], .sl 1 [], .sl 5 []] [(0, .t 53)]), zA 55 (.append 16 8 136 (.t 48) (.t 54)), zM 5 55] [3, 5, 6, 8])) (.reg [ zM 46 8, zA 47 (.bin .sub (.t 46) (.k (.c (.lit (.int .i64 1))))), zM 8 47] [3, 5, 6, 8])))))) (.seq (.seq (.reg [ zM 56 6, zM 9 56] [3, 5, 9]) (.block 4 (.loop (.seq (.seq (.reg [ zM 57 9, zA 58 (.faddr 4 (.t 3)), zA 59 (.load false 1 (.t 58)), zA 60 (.len (.t 59)), zA 61 (.bin .lss (.t 57) (.t 60))] [3, 5, 9, 61]) (.cond (.t 61) .skip (.exit 4))) (.seq (.block 5 (.regD [ (zM 64 5, []), (zM 65 9, []), (⟨none, some 66, .call 135 [.t 65]⟩, [1]), (zA 67 (.bslice 17 1 1 [.str []] [(0, .t 66)]), [1, 2]), (zA 68 (.faddr 4 (.t 3)), []), (zA 69 (.load false 1 (.t 68)), [4]), (zM 70 9, []), (zA 71 (.iaddr 5 (.t 69) (.t 70)), [4, 5, 6]), (zA 72 (.load true 5 (.t 71)), [4, 5, 6, 7]), (⟨none, some 73, .call 87 [.k (.c (.lit (.int .i64 1))), .t 67, .t 72]⟩, [1, 2, 3, 4, 5, 6, 7, 8]), (zA 74 (.bslice 18 8 1 [.lit (.int .i64 0), .sl 1 [], .sl 1 [], .lit (.int .i64 0), .lit (.int .i64 0), .str [], .sl 1 [], .sl 5 []] [(0, .t 73)]), [1, 2, 3, 4, 5, 6, 7, 8, 9]), (zA 75 (.append 19 8 136 (.t 64) (.t 74)), [0, 1, 2, 3, 4, 5, 6, 7, 8, 9, 10]), (zM 5 75, [0, 1, 2, 3, 4, 5, 6, 7, 8, 9, 10, 11])] [3, 5, 9])) (.reg [ zM 62 9, zA 63 (.bin .add (.t 62) (.k (.c (.lit (.int .i64 1))))), zM 9 63] [3, 5, 9])))))) (.seq (.reg [ zM 76 5, zM 4 76] [4]) .ret)))))))
theorem K.spec_diffLists : chkF Go.Proofs.Tryz.prog 86 2 0 C.spec_diffLists [.tmp 4] = true := by kernel_rfl
def C.spec_diffMaps : ACode := (.seq (.reg [ zA 2 (.box 10 (.t 0)), zA 3 (.box 11 (.t 1)), zA 4 (.mv (.k (.nsl 8)))] [2, 3]) (.seq (.reg [ zA 9 (.bslice 12 8 0 [.lit (.int .i64 0), .sl 1 [], .sl 1 [], .lit (.int .i64 0), .lit (.int .i64 0), .str [], .sl 1 [], .sl 5 []] []), zM 5 9] [2, 3, 5]) (.seq (.seq (.reg [ zA 6 (.mv (.k (.c (.lit (.int .i64 0)))))] [2, 3, 5, 6]) (.block 0 (.loop (.seq (.seq (.reg [ zM 10 6, zA 11 (.faddr 4 (.t 2)), zA 12 (.load false 1 (.t 11)), zA 13 (.len (.t 12)), zA 14 (.bin .lss (.t 10) (.t 13))] [2, 3, 5, 6, 14]) (.cond (.t 14) .skip (.exit 0))) (.seq (.block 1 (.seq (.regD [ (zA 17 (.load true 5 (.t 3)), []), (zA 18 (.faddr 3 (.t 2)), []), (zA 19 (.load false 1 (.t 18)), [1]), (zM 20 6, []), (zA 21 (.iaddr 1 (.t 19) (.t 20)), [1, 2, 3]), (zA 22 (.load false 1 (.t 21)), [1, 2, 3, 4]), (⟨none, some 23, .call 89 [.t 17, .t 22]⟩, [0, 1, 2, 3, 4, 5]), (zM 7 23, [0, 1, 2, 3, 4, 5, 6])] [2, 3, 5, 6, 7]) (.seq (.reg [ zM 24 7, zA 25 (.bin .lss (.t 24) (.k (.c (.lit (.int .i64 0)))))] [2, 3, 5, 6, 7, 25]) (.cond (.t 25) (.reg [ zM 26 5, zA 27 (.faddr 3 (.t 2)), zA 28 (.load false 1 (.t 27)), zM 29 6, zA 30 (.iaddr 1 (.t 28) (.t 29)), zA 31 (.load false 1 (.t 30)), zA 32 (.bslice 13 1 1 [.str []] [(0, .t 31)]), zA 33 (.build [.c (.lit (.int .i64 0)), .c (.lit (.int .i64 0)), .c (.str []), .nsl 1, .nsl 5] []), ⟨none, some 34, .call 87 [.k (.c (.lit (.int .i64 2))), .t 32, .t 33]⟩, zA 35 (.bslice 14 8 1 [.lit (.int .i64 0), .sl 1 [], .sl 1 [], .lit (.int .i64 0), .lit (.int .i64 0), .str [], .sl 1 [], .sl 5 []] [(0, .t 34)]), zA 36 (.append 15 8 136 (.t 26) (.t 35)), zM 5 36] [2, 3, 5, 6]) (.regD [ (zM 37 5, []), (zA 38 (.faddr 3 (.t 2)), []), (zA 39 (.load false 1 (.t 38)), [1]), (zM 40 6, []), (zA 41 (.iaddr 1 (.t 39) (.t 40)), [1, 2, 3]), (zA 42 (.load false 1 (.t 41)), [1, 2, 3, 4]), (zA 43 (.faddr 4 (.t 2)), []), (zA 44 (.load false 1 (.t 43)), [6]), (zM 45 6, []), (zA 46 (.iaddr 5 (.t 44) (.t 45)), [6, 7, 8]), (zA 47 (.load true 5 (.t 46)), [6, 7, 8, 9]), (zA 48 (.faddr 4 (.t 3)), []), (zA 49 (.load false 1 (.t 48)), [11]), (zM 50 7, []), (zA 51 (.iaddr 5 (.t 49) (.t 50)), [11, 12, 13]), (zA 52 (.load true 5 (.t 51)), [11, 12, 13, 14]), (⟨none, some 53, .call 41 [.t 47, .t 52]⟩, [6, 7, 8, 9, 10, 11, 12, 13, 14, 15]), (⟨none, some 54, .call 134 [.t 42, .t 53]⟩, [1, 2, 3, 4, 5, 6, 7, 8, 9, 10, 11, 12, 13, 14, 15, 16]), (zA 55 (.append 16 8 136 (.t 37) (.t 54)), [0, 1, 2, 3, 4, 5, 6, 7, 8, 9, 10, 11, 12, 13, 14, 15, 16, 17]), (zM 5 55, [0, 1, 2, 3, 4, 5, 6, 7, 8, 9, 10, 11, 12, 13, 14, 15, 16, 17, 18])] [2, 3, 5, 6]))))) (.reg [ zM 15 6, zA 16 (.bin .add (.t 15) (.k (.c (.lit (.int .i64 1))))), zM 6 16] [2, 3, 5, 6])))))) (.seq (.seq (.reg [ zA 8 (.mv (.k (.c (.lit (.int .i64 0)))))] [2, 3, 5, 8]) (.block 2 (.loop (.seq (.seq (.reg [ zM 56 8, zA 57 (.faddr 4 (.t 3)), zA 58 (.load false 1 (.t 57)), zA 59 (.len (.t 58)), zA 60 (.bin .lss (.t 56) (.t 59))] [2, 3, 5, 8, 60]) (.cond (.t 60) .skip (.exit 2))) (.seq (.block 3 (.seq (.regD [ (zA 63 (.load true 5 (.t 2)), []), (zA 64 (.faddr 3 (.t 3)), []), (zA 65 (.load false 1 (.t 64)), [1]), (zM 66 8, []), (zA 67 (.iaddr 1 (.t 65) (.t 66)), [1, 2, 3]), (zA 68 (.load false 1 (.t 67)), [1, 2, 3, 4]), (⟨none, some 69, .call 89 [.t 63, .t 68]⟩, [0, 1, 2, 3, 4, 5]), (zA 70 (.bin .lss (.t 69) (.k (.c (.lit (.int .i64 0))))), [0, 1, 2, 3, 4, 5, 6])] [2, 3, 5, 8, 70]) (.cond (.t 70) (.regD [ (zM 71 5, []), (zA 72 (.faddr 3 (.t 3)), []), (zA 73 (.load false 1 (.t 72)), [1]), (zM 74 8, []), (zA 75 (.iaddr 1 (.t 73) (.t 74)), [1, 2, 3]), (zA 76 (.load false 1 (.t 75)), [1, 2, 3, 4]), (zA 77 (.bslice 17 1 1 [.str []] [(0, .t 76)]), [1, 2, 3, 4, 5]), (zA 78 (.faddr 4 (.t 3)), []), (zA 79 (.load false 1 (.t 78)), [7]), (zM 80 8, []), (zA 81 (.iaddr 5 (.t 79) (.t 80)), [7, 8, 9]), (zA 82 (.load true 5 (.t 81)), [7, 8, 9, 10]), (⟨none, some 83, .call 87 [.k (.c (.lit (.int .i64 1))), .t 77, .t 82]⟩, [1, 2, 3, 4, 5, 6, 7, 8, 9, 10, 11]), (zA 84 (.bslice 18 8 1 [.lit (.int .i64 0), .sl 1 [], .sl 1 [], .lit (.int .i64 0), .lit (.int .i64 0), .str [], .sl 1 [], .sl 5 []] [(0, .t 83)]), [1, 2, 3, 4, 5, 6, 7, 8, 9, 10, 11, 12]), (zA 85 (.append 19 8 136 (.t 71) (.t 84)), [0, 1, 2, 3, 4, 5, 6, 7, 8, 9, 10, 11, 12, 13]), (zM 5 85, [0, 1, 2, 3, 4, 5, 6, 7, 8, 9, 10, 11, 12, 13, 14])] [2, 3, 5, 8]) .skip))) (.reg [ zM 61 8, zA 62 (.bin .add (.t 61) (.k (.c (.lit (.int .i64 1))))), zM 8 62] [2, 3, 5, 8])))))) (.seq (.reg [ zM 86 5, zM 4 86] [4]) .ret)))))
theorem K.spec_diffMaps : chkF Go.Proofs.Tryz.prog 85 2 0 C.spec_diffMaps [.tmp 4] = true := by kernel_rfl
def C.spec_count : ACode := (.seq (.reg [ zA 1 (.box 10 (.t 0)), zA 2 (.mv (.k (.c (.lit (.int .i64 0)))))] [1]) (.seq (.reg [ zA 3 (.mv (.k (.c (.lit (.int .i64 1)))))] [1, 3]) (.seq (.seq (.reg [ zA 4 (.mv (.k (.c (.lit (.int .i64 0)))))] [1, 3, 4]) (.block 0 (.loop (.seq (.seq (.reg [ zM 5 4, zA 6 (.faddr 4 (.t 1)), zA 7 (.load false 1 (.t 6)), zA 8 (.len (.t 7)), zA 9 (.bin .lss (.t 5) (.t 8))] [1, 3, 4, 9]) (.cond (.t 9) .skip (.exit 0))) (.seq (.block 1 (.reg [ zM 12 3, zA 13 (.faddr 4 (.t 1)), zA 14 (.load false 1 (.t 13)), zM 15 4, zA 16 (.iaddr 5 (.t 14) (.t 15)), zA 17 (.load true 5 (.t 16)), ⟨none, some 18, .call 83 [.t 17]⟩, zA 19 (.bin .add (.t 12) (.t 18)), zM 3 19] [1, 3, 4])) (.reg [ zM 10 4, zA 11 (.bin .add (.t 10) (.k (.c (.lit (.int .i64 1))))), zM 4 11] [1, 3, 4])))))) (.seq (.reg [ zM 20 3, zM 2 20] [2]) .ret))))
theorem K.spec_count : chkF Go.Proofs.Tryz.prog 83 1 0 C.spec_count [.tmp 2] = true := by kernel_rfl
def C.spec_inRange : ACode := (.seq (.reg [ zA 6 (.mv (.k (.c (.lit (.bool false)))))] [0, 1, 2]) (.seq (.reg [ zM 7 1, zM 8 0, zA 9 (.bin .leq (.t 7) (.t 8)), zM 10 9, zG 10 true 11 (.mv (.t 0)), zG 10 true 12 (.mv (.t 2)), zG 10 true 13 (.bin .leq (.t 11) (.t 12)), zA 14 (.pick (.t 10) (.t 13) (.k (.c (.lit (.bool false))))), zM 6 14] [6]) .ret))
theorem K.spec_inRange : chkF Go.Proofs.Tryz.prog 113 3 0 C.spec_inRange [.tmp 6] = true := by kernel_rfl
def C.spec_validText : ACode := (.seq (.reg [ zA 2 (.mv (.k (.c (.lit (.bool false)))))] [0]) (.seq (.seq (.reg [ zA 3 (.mv (.k (.c (.lit (.int .i64 0)))))] [0, 3]) (.block 0 (.loop (.seq (.seq (.reg [ zM 4 3, zM 5 0, zA 6 (.lens (.t 5)), zA 7 (.bin .lss (.t 4) (.t 6))] [0, 3, 7]) (.cond (.t 7) .skip (.exit 0))) (.seq (.block 1 (.seq (.reg [ zM 10 0, zM 11 3, zA 12 (.idxs (.t 10) (.t 11)), zA 13 (.cint .i64 (.t 12)), ⟨none, some 14, .call 113 [.t 13, .k (.c (.lit (.int .i64 32))), .k (.c (.lit (.int .i64 126)))]⟩, zA 15 (.not (.t 14))] [0, 3, 15]) (.cond (.t 15) (.seq (.reg [ zA 2 (.mv (.k (.c (.lit (.bool false)))))] [2]) .ret) .skip))) (.reg [ zM 8 3, zA 9 (.bin .add (.t 8) (.k (.c (.lit (.int .i64 1))))), zM 3 9] [0, 3])))))) (.seq (.reg [ zM 16 0, zA 17 (.lens (.t 16)), zA 18 (.bin .leq (.t 17) (.k (.c (.lit (.int .i64 12))))), zM 2 18] [2]) .ret)))
theorem K.spec_validText : chkF Go.Proofs.Tryz.prog 114 1 0 C.spec_validText [.tmp 2] = true := by kernel_rfl
def C.spec_names : ACode := (.seq (.reg [ zA 2 (.mv (.k (.c (.lit (.bool false)))))] [0]) (.seq (.seq (.reg [ zA 3 (.mv (.k (.c (.lit (.int .i64 0)))))] [0, 3]) (.block 0 (.loop (.seq (.seq (.reg [ zM 4 3, zM 5 0, zA 6 (.len (.t 5)), zA 7 (.bin .lss (.t 4) (.t 6))] [0, 3, 7]) (.cond (.t 7) .skip (.exit 0))) (.seq (.block 1 (.seq (.regD [ (zM 10 0, []), (zM 11 3, []), (zA 12 (.iaddr 1 (.t 10) (.t 11)), [0, 1]), (zA 13 (.load false 1 (.t 12)), [0, 1, 2]), (⟨none, some 14, .call 114 [.t 13]⟩, [0, 1, 2, 3]), (zA 15 (.not (.t 14)), [0, 1, 2, 3, 4]), (zM 16 15, [0, 1, 2, 3, 4, 5]), (zG 16 false 17 (.mv (.t 3)), [0, 1, 2, 3, 4, 5, 6]), (zG 16 false 18 (.bin .gtr (.t 17) (.k (.c (.lit (.int .i64 0))))), [0, 1, 2, 3, 4, 5, 6, 7]), (zG 16 false 19 (.mv (.t 18)), [0, 1, 2, 3, 4, 5, 6, 7, 8]), (zG 19 true 20 (.mv (.t 0)), [0, 1, 2, 3, 4, 5, 6, 7, 8, 9]), (zG 19 true 21 (.mv (.t 3)), [0, 1, 2, 3, 4, 5, 6, 7, 8, 9]), (zG 19 true 22 (.iaddr 1 (.t 20) (.t 21)), [0, 1, 2, 3, 4, 5, 6, 7, 8, 9, 10, 11]), (zG 19 true 23 (.load false 1 (.t 22)), [0, 1, 2, 3, 4, 5, 6, 7, 8, 9, 10, 11, 12]), (zG 19 true 24 (.mv (.t 0)), [0, 1, 2, 3, 4, 5, 6, 7, 8, 9]), (zG 19 true 25 (.mv (.t 3)), [0, 1, 2, 3, 4, 5, 6, 7, 8, 9]), (zG 19 true 26 (.bin .sub (.t 25) (.k (.c (.lit (.int .i64 1))))), [0, 1, 2, 3, 4, 5, 6, 7, 8, 9, 15]), (zG 19 true 27 (.iaddr 1 (.t 24) (.t 26)), [0, 1, 2, 3, 4, 5, 6, 7, 8, 9, 14, 15, 16]), (zG 19 true 28 (.load false 1 (.t 27)), [0, 1, 2, 3, 4, 5, 6, 7, 8, 9, 14, 15, 16, 17]), (zG 19 true 29 (.bin .leq (.t 23) (.t 28)), [0, 1, 2, 3, 4, 5, 6, 7, 8, 9, 10, 11, 12, 13, 14, 15, 16, 17, 18]), (zG 16 false 30 (.pick (.t 19) (.t 29) (.k (.c (.lit (.bool false))))), [0, 1, 2, 3, 4, 5, 6, 7, 8, 9, 10, 11, 12, 13, 14, 15, 16, 17, 18, 19]), (zA 31 (.pick (.t 16) (.k (.c (.lit (.bool true)))) (.t 30)), [0, 1, 2, 3, 4, 5, 6, 7, 8, 9, 10, 11, 12, 13, 14, 15, 16, 17, 18, 19, 20])] [0, 3, 31]) (.cond (.t 31) (.seq (.reg [ zA 2 (.mv (.k (.c (.lit (.bool false)))))] [2]) .ret) .skip))) (.reg [ zM 8 3, zA 9 (.bin .add (.t 8) (.k (.c (.lit (.int .i64 1))))), zM 3 9] [0, 3])))))) (.seq (.reg [ zA 2 (.mv (.k (.c (.lit (.bool true)))))] [2]) .ret)))
theorem K.spec_names : chkF Go.Proofs.Tryz.prog 133 1 0 C.spec_names [.tmp 2] = true := by kernel_rfl
def C.spec_kids : ACode := (.seq (.reg [ zA 2 (.box 10 (.t 0)), zA 4 (.mv (.k (.c (.lit (.bool false)))))] [1, 2]) (.seq (.seq (.reg [ zA 5 (.mv (.k (.c (.lit (.int .i64 0)))))] [1, 2, 5]) (.block 0 (.loop (.seq (.seq (.reg [ zM 6 5, zA 7 (.faddr 4 (.t 2)), zA 8 (.load false 1 (.t 7)), zA 9 (.len (.t 8)), zA 10 (.bin .lss (.t 6) (.t 9))] [1, 2, 5, 10]) (.cond (.t 10) .skip (.exit 0))) (.seq (.block 1 (.seq (.reg [ zA 13 (.faddr 4 (.t 2)), zA 14 (.load false 1 (.t 13)), zM 15 5, zA 16 (.iaddr 5 (.t 14) (.t 15)), zA 17 (.load true 5 (.t 16)), zM 18 1, zA 19 (.bin .sub (.t 18) (.k (.c (.lit (.int .i64 1))))), ⟨none, some 20, .call 82 [.t 17, .t 19]⟩, zA 21 (.not (.t 20))] [1, 2, 5, 21]) (.cond (.t 21) (.seq (.reg [ zA 4 (.mv (.k (.c (.lit (.bool false)))))] [4]) .ret) .skip))) (.reg [ zM 11 5, zA 12 (.bin .add (.t 11) (.k (.c (.lit (.int .i64 1))))), zM 5 12] [1, 2, 5])))))) (.seq (.reg [ zA 4 (.mv (.k (.c (.lit (.bool true)))))] [4]) .ret)))
theorem K.spec_kids : chkF Go.Proofs.Tryz.prog 132 2 0 C.spec_kids [.tmp 4] = true := by kernel_rfl
def C.spec_shape : ACode := (.seq (.reg [ zA 2 (.box 10 (.t 0)), zA 4 (.mv (.k (.c (.lit (.bool false)))))] [1, 2]) (.cut (.seq (.reg [ zM 5 1, zA 6 (.bin .eql (.t 5) (.k (.c (.lit (.int .i64 0))))), zM 7 6, zG 7 false 8 (.faddr 4 (.t 2)), zG 7 false 9 (.load false 1 (.t 8)), zG 7 false 10 (.len (.t 9)), zG 7 false 11 (.bin .gtr (.t 10) (.k (.c (.lit (.int .i64 6))))), zA 12 (.pick (.t 7) (.k (.c (.lit (.bool true)))) (.t 11)), zM 13 12, zG 13 false 14 (.faddr 0 (.t 2)), zG 13 false 15 (.load false 1 (.t 14)), zG 13 false 16 (.bin .neq (.t 15) (.k (.c (.lit (.int .i64 1))))), zG 13 false 17 (.mv (.t 16)), zG 17 true 18 (.faddr 1 (.t 2)), zG 17 true 19 (.load false 1 (.t 18)), zG 17 true 20 (.bin .neq (.t 19) (.k (.c (.lit (.int .i64 0))))), zG 13 false 21 (.pick (.t 17) (.t 20) (.k (.c (.lit (.bool false))))), zA 22 (.pick (.t 13) (.k (.c (.lit (.bool true)))) (.t 21)), zM 23 22, zG 23 false 24 (.faddr 0 (.t 2)), zG 23 false 25 (.load false 1 (.t 24)), zG 23 false 26 (.bin .neq (.t 25) (.k (.c (.lit (.int .i64 2))))), zG 23 false 27 (.mv (.t 26)), zG 27 true 28 (.faddr 2 (.t 2)), zG 27 true 29 (.load false 1 (.t 28)), zG 27 true 30 (.bin .neq (.t 29) (.k (.c (.str [])))), zG 23 false 31 (.pick (.t 27) (.t 30) (.k (.c (.lit (.bool false))))), zA 32 (.pick (.t 23) (.k (.c (.lit (.bool true)))) (.t 31)), zM 33 32, zG 33 false 34 (.faddr 0 (.t 2)), zG 33 false 35 (.load false 1 (.t 34)), zG 33 false 36 (.bin .neq (.t 35) (.k (.c (.lit (.int .i64 4))))), zG 33 false 37 (.mv (.t 36)), zG 37 true 38 (.faddr 3 (.t 2)), zG 37 true 39 (.load false 1 (.t 38)), zG 37 true 40 (.len (.t 39)), zG 37 true 41 (.bin .gtr (.t 40) (.k (.c (.lit (.int .i64 0))))), zG 33 false 42 (.pick (.t 37) (.t 41) (.k (.c (.lit (.bool false))))), zA 43 (.pick (.t 33) (.k (.c (.lit (.bool true)))) (.t 42)), zM 44 43, zG 44 false 45 (.faddr 0 (.t 2)), zG 44 false 46 (.load false 1 (.t 45)), zG 44 false 47 (.bin .lss (.t 46) (.k (.c (.lit (.int .i64 3))))), zG 44 false 48 (.mv (.t 47)), zG 48 true 49 (.faddr 4 (.t 2)), zG 48 true 50 (.load false 1 (.t 49)), zG 48 true 51 (.len (.t 50)), zG 48 true 52 (.bin .gtr (.t 51) (.k (.c (.lit (.int .i64 0))))), zG 44 false 53 (.pick (.t 48) (.t 52) (.k (.c (.lit (.bool false))))), zA 54 (.pick (.t 44) (.k (.c (.lit (.bool true)))) (.t 53))] [1, 2, 54]) (.cond (.t 54) (.seq (.reg [ zA 4 (.mv (.k (.c (.lit (.bool false)))))] [4]) .ret) .skip)) (.seq (.seq (.reg [ zA 55 (.faddr 0 (.t 2)), zA 56 (.load false 1 (.t 55))] [1, 2, 56]) (.block 0 (.seq (.reg [ zA 58 (.bin .eql (.t 56) (.k (.c (.lit (.int .i64 1))))), zM 57 58] [1, 2, 56, 57]) (.cond (.t 57) (.seq (.reg [ zA 59 (.faddr 1 (.t 2)), zA 60 (.load false 1 (.t 59)), ⟨none, some 61, .call 113 [.t 60, .k (.c (.lit (.int .i64 (-999999)))), .k (.c (.lit (.int .i64 999999)))]⟩, zM 4 61] [4]) .ret) (.seq (.reg [ zA 63 (.bin .eql (.t 56) (.k (.c (.lit (.int .i64 2))))), zM 62 63] [1, 2, 56, 62]) (.cond (.t 62) (.seq (.reg [ zA 64 (.faddr 2 (.t 2)), zA 65 (.load false 1 (.t 64)), ⟨none, some 66, .call 114 [.t 65]⟩, zM 4 66] [4]) .ret) (.seq (.reg [ zA 68 (.bin .eql (.t 56) (.k (.c (.lit (.int .i64 3))))), zM 67 68] [1, 2, 56, 67]) (.cond (.t 67) (.seq (.reg [ zA 69 (.load true 5 (.t 2)), zM 70 1, ⟨none, some 71, .call 132 [.t 69, .t 70]⟩, zM 4 71] [4]) .ret) (.seq (.reg [ zA 73 (.bin .eql (.t 56) (.k (.c (.lit (.int .i64 4))))), zM 72 73] [1, 2, 72]) (.cond (.t 72) (.seq (.reg [ zA 74 (.faddr 3 (.t 2)), zA 75 (.load false 1 (.t 74)), zA 76 (.len (.t 75)), zA 77 (.faddr 4 (.t 2)), zA 78 (.load false 1 (.t 77)), zA 79 (.len (.t 78)), zA 80 (.bin .eql (.t 76) (.t 79)), zM 81 80, zG 81 true 82 (.faddr 3 (.t 2)), zG 81 true 83 (.load false 1 (.t 82)), ⟨(some (81, true)), some 84, .call 133 [.t 83]⟩, zA 85 (.pick (.t 81) (.t 84) (.k (.c (.lit (.bool false))))), zM 86 85, zG 86 true 87 (.load true 5 (.t 2)), zG 86 true 88 (.mv (.t 1)), ⟨(some (86, true)), some 89, .call 132 [.t 87, .t 88]⟩, zA 90 (.pick (.t 86) (.t 89) (.k (.c (.lit (.bool false))))), zM 4 90] [4]) .ret) .skip)))))))))) (.seq (.reg [ zA 91 (.faddr 0 (.t 2)), zA 92 (.load false 1 (.t 91)), zA 93 (.bin .eql (.t 92) (.k (.c (.lit (.int .i64 0))))), zM 4 93] [4]) .ret))))
theorem K.spec_shape : chkF Go.Proofs.Tryz.prog 82 2 0 C.spec_shape [.tmp 4] = true := by kernel_rfl
def C.spec_validNode : ACode := (.seq (.reg [ zA 1 (.box 10 (.t 0)), zA 2 (.mv (.k (.c (.lit (.bool false)))))] [1]) (.seq (.reg [ zA 3 (.load true 5 (.t 1)), ⟨none, some 4, .call 82 [.t 3, .k (.c (.lit (.int .i64 5)))]⟩, zM 5 4, zG 5 true 6 (.load true 5 (.t 1)), ⟨(some (5, true)), some 7, .call 83 [.t 6]⟩, zG 5 true 8 (.bin .leq (.t 7) (.k (.c (.lit (.int .i64 40))))), zA 9 (.pick (.t 5) (.t 8) (.k (.c (.lit (.bool false))))), zM 2 9] [2]) .ret))
theorem K.spec_validNode : chkF Go.Proofs.Tryz.prog 40 1 0 C.spec_validNode [.tmp 2] = true := by kernel_rfl
def C.spec_DiffSize : ACode := (.seq (.reg [ zA 2 (.box 10 (.t 0)), zA 3 (.box 11 (.t 1)), zA 4 (.mv (.k (.c (.lit (.int .i64 0)))))] [2, 3]) (.seq (.seq (.reg [ zA 5 (.load true 5 (.t 2)), ⟨none, some 6, .call 40 [.t 5]⟩, zA 7 (.not (.t 6)), zM 8 7, zG 8 false 9 (.load true 5 (.t 3)), ⟨(some (8, false)), some 10, .call 40 [.t 9]⟩, zG 8 false 11 (.not (.t 10)), zA 12 (.pick (.t 8) (.k (.c (.lit (.bool true)))) (.t 11))] [2, 3, 12]) (.cond (.t 12) (.seq (.reg [ zA 4 (.mv (.k (.c (.lit (.int .i64 (-1))))))] [4]) .ret) .skip)) (.seq (.reg [ zA 13 (.load true 5 (.t 2)), zA 14 (.load true 5 (.t 3)), ⟨none, some 15, .call 41 [.t 13, .t 14]⟩, zA 16 (.len (.t 15)), zM 4 16] [4]) .ret)))
theorem K.spec_DiffSize : chkF Go.Proofs.Tryz.prog 14 2 0 C.spec_DiffSize [.tmp 4] = true := by kernel_rfl
def C.spec_reader_pick : ACode := (.seq (.reg [ zA 4 (.mv (.k (.c (.lit (.int .i64 0)))))] [0, 1]) (.seq (.reg [ zM 7 0, zM 8 0, zA 9 (.nilck (.t 8)), zA 10 (.faddr 1 (.t 9)), zA 11 (.load false 1 (.t 10)), zA 12 (.bin .add (.t 11) (.k (.c (.lit (.int .i64 1))))), zA 13 (.nilck (.t 7)), zA 14 (.faddr 1 (.t 13)), zS (.store false 1 (.t 14) (.t 12))] [0, 1]) (.seq (.seq (.reg [ zM 15 1, zA 16 (.bin .lss (.t 15) (.k (.c (.lit (.int .i64 1))))), zM 17 16, zG 17 false 18 (.mv (.t 0)), zG 17 false 19 (.nilck (.t 18)), zG 17 false 20 (.faddr 0 (.t 19)), zG 17 false 21 (.load false 1 (.t 20)), zG 17 false 22 (.len (.t 21)), zG 17 false 23 (.bin .eql (.t 22) (.k (.c (.lit (.int .i64 0))))), zA 24 (.pick (.t 17) (.k (.c (.lit (.bool true)))) (.t 23))] [0, 1, 24]) (.cond (.t 24) (.seq (.reg [ zA 4 (.mv (.k (.c (.lit (.int .i64 0)))))] [4]) .ret) .skip)) (.seq (.reg [ zM 25 0, zA 26 (.nilck (.t 25)), zA 27 (.faddr 1 (.t 26)), zA 28 (.load false 1 (.t 27)), zA 29 (.bin .sub (.t 28) (.k (.c (.lit (.int .i64 1))))), zM 5 29] [0, 1, 5]) (.seq (.seq (.reg [ zM 30 5, zM 31 0, zA 32 (.nilck (.t 31)), zA 33 (.faddr 0 (.t 32)), zA 34 (.load false 1 (.t 33)), zA 35 (.len (.t 34)), zA 36 (.bin .lss (.t 30) (.t 35))] [0, 1, 5, 36]) (.cond (.t 36) (.seq (.reg [ zM 37 0, zA 38 (.nilck (.t 37)), zA 39 (.faddr 0 (.t 38)), zA 40 (.load false 1 (.t 39)), zM 41 5, zA 42 (.iaddr 1 (.t 40) (.t 41)), zA 43 (.load false 1 (.t 42)), zA 44 (.cint .i64 (.t 43)), zM 45 1, zA 46 (.bin .rem (.t 44) (.t 45)), zM 4 46] [4]) .ret) .skip)) (.seq (.regD [ (zM 47 0, []), (zA 48 (.nilck (.t 47)), [0]), (zA 49 (.faddr 0 (.t 48)), [0, 1]), (zA 50 (.load false 1 (.t 49)), [0, 1, 2]), (zM 51 5, []), (zM 52 0, []), (zA 53 (.nilck (.t 52)), [5]), (zA 54 (.faddr 0 (.t 53)), [5, 6]), (zA 55 (.load false 1 (.t 54)), [5, 6, 7]), (zA 56 (.len (.t 55)), [5, 6, 7, 8]), (zA 57 (.bin .rem (.t 51) (.t 56)), [4, 5, 6, 7, 8, 9]), (zA 58 (.iaddr 1 (.t 50) (.t 57)), [0, 1, 2, 3, 4, 5, 6, 7, 8, 9, 10]), (zA 59 (.load false 1 (.t 58)), [0, 1, 2, 3, 4, 5, 6, 7, 8, 9, 10, 11]), (zA 60 (.cint .i64 (.t 59)), [0, 1, 2, 3, 4, 5, 6, 7, 8, 9, 10, 11, 12]), (zA 61 (.bin .mul (.t 60) (.k (.c (.lit (.int .i64 131))))), [0, 1, 2, 3, 4, 5, 6, 7, 8, 9, 10, 11, 12, 13]), (zM 62 0, []), (zA 63 (.nilck (.t 62)), [15]), (zA 64 (.faddr 0 (.t 63)), [15, 16]), (zA 65 (.load false 1 (.t 64)), [15, 16, 17]), (zM 66 5, []), (zA 67 (.bin .mul (.t 66) (.k (.c (.lit (.int .i64 7))))), [19]), (zA 68 (.bin .add (.t 67) (.k (.c (.lit (.int .i64 3))))), [19, 20]), (zM 69 0, []), (zA 70 (.nilck (.t 69)), [22]), (zA 71 (.faddr 0 (.t 70)), [22, 23]), (zA 72 (.load false 1 (.t 71)), [22, 23, 24]), (zA 73 (.len (.t 72)), [22, 23, 24, 25]), (zA 74 (.bin .rem (.t 68) (.t 73)), [19, 20, 21, 22, 23, 24, 25, 26]), (zA 75 (.iaddr 1 (.t 65) (.t 74)), [15, 16, 17, 18, 19, 20, 21, 22, 23, 24, 25, 26, 27]), (zA 76 (.load false 1 (.t 75)), [15, 16, 17, 18, 19, 20, 21, 22, 23, 24, 25, 26, 27, 28]), (zA 77 (.cint .i64 (.t 76)), [15, 16, 17, 18, 19, 20, 21, 22, 23, 24, 25, 26, 27, 28, 29]), (zA 78 (.bin .mul (.t 77) (.k (.c (.lit (.int .i64 1117))))), [15, 16, 17, 18, 19, 20, 21, 22, 23, 24, 25, 26, 27, 28, 29, 30]), (zA 79 (.bin .add (.t 61) (.t 78)), [0, 1, 2, 3, 4, 5, 6, 7, 8, 9, 10, 11, 12, 13, 14, 15, 16, 17, 18, 19, 20, 21, 22, 23, 24, 25, 26, 27, 28, 29, 30, 31]), (zM 80 5, []), (zA 81 (.bin .mul (.t 80) (.k (.c (.lit (.int .i64 29))))), [33]), (zA 82 (.bin .add (.t 79) (.t 81)), [0, 1, 2, 3, 4, 5, 6, 7, 8, 9, 10, 11, 12, 13, 14, 15, 16, 17, 18, 19, 20, 21, 22, 23, 24, 25, 26, 27, 28, 29, 30, 31, 32, 33, 34]), (zM 83 5, []), (zM 84 0, []), (zA 85 (.nilck (.t 84)), [37]), (zA 86 (.faddr 0 (.t 85)), [37, 38]), (zA 87 (.load false 1 (.t 86)), [37, 38, 39]), (zA 88 (.len (.t 87)), [37, 38, 39, 40]), (zA 89 (.bin .quo (.t 83) (.t 88)), [36, 37, 38, 39, 40, 41]), (zA 90 (.bin .mul (.t 89) (.k (.c (.lit (.int .i64 53))))), [36, 37, 38, 39, 40, 41, 42]), (zA 91 (.bin .add (.t 82) (.t 90)), [0, 1, 2, 3, 4, 5, 6, 7, 8, 9, 10, 11, 12, 13, 14, 15, 16, 17, 18, 19, 20, 21, 22, 23, 24, 25, 26, 27, 28, 29, 30, 31, 32, 33, 34, 35, 36, 37, 38, 39, 40, 41, 42, 43]), (zM 6 91, [0, 1, 2, 3, 4, 5, 6, 7, 8, 9, 10, 11, 12, 13, 14, 15, 16, 17, 18, 19, 20, 21, 22, 23, 24, 25, 26, 27, 28, 29, 30, 31, 32, 33, 34, 35, 36, 37, 38, 39, 40, 41, 42, 43, 44])] [1, 6]) (.seq (.reg [ zM 92 6, zM 93 6, zA 94 (.bin .quo (.t 93) (.k (.c (.lit (.int .i64 64))))), zA 95 (.bin .xor (.t 92) (.t 94)), zM 6 95] [1, 6]) (.seq (.reg [ zM 96 6, zM 97 1, zA 98 (.bin .rem (.t 96) (.t 97)), zM 4 98] [4]) .ret))))))))
theorem K.spec_reader_pick : chkF Go.Proofs.Tryz.prog 43 2 1 C.spec_reader_pick [.tmp 4] = true := by kernel_rfl
def C.spec_reader_one : ACode := (.seq (.reg [ zA 4 (.mv (.k (.c (.lit (.int .i64 0)))))] [0, 1]) (.seq (.reg [ zM 5 1, zM 6 0, zM 7 1, zA 8 (.len (.t 7)), ⟨none, some 9, .call 43 [.t 6, .t 8]⟩, zA 10 (.iaddr 1 (.t 5) (.t 9)), zA 11 (.load false 1 (.t 10)), zM 4 11] [4]) .ret))
theorem K.spec_reader_one : chkF Go.Proofs.Tryz.prog 102 2 1 C.spec_reader_one [.tmp 4] = true := by kernel_rfl
def C.spec_slot : ACode := (.seq (.reg [ zA 2 (.box 10 (.t 0)), zA 4 (.mv (.k (.c (.lit (.int .i64 0))))), zA 5 (.mv (.k (.c (.lit (.bool false)))))] [1, 2]) (.seq (.reg [ zA 8 (.load true 5 (.t 2)), zM 9 1, ⟨none, some 10, .call 89 [.t 8, .t 9]⟩, zM 6 10] [1, 2, 6]) (.seq (.seq (.reg [ zM 11 6, zA 12 (.bin .geq (.t 11) (.k (.c (.lit (.int .i64 0)))))] [1, 2, 6, 12]) (.cond (.t 12) (.seq (.regD [ (zM 13 6, []), (zA 14 (.faddr 0 (.t 2)), []), (zA 15 (.load false 1 (.t 14)), [1]), (zA 16 (.bin .eql (.t 15) (.k (.c (.lit (.int .i64 4))))), [1, 2]), (zM 4 13, [0]), (zM 5 16, [0, 1, 2, 3, 4])] [4, 5]) .ret) .skip)) (.seq (.seq (.reg [ zA 17 (.faddr 0 (.t 2)), zA 18 (.load false 1 (.t 17)), zA 19 (.bin .eql (.t 18) (.k (.c (.lit (.int .i64 3))))), zM 20 19, zG 20 true 21 (.mv (.t 1)), zG 20 true 22 (.bin .eql (.t 21) (.k (.c (.str [45])))), zG 20 true 23 (.mv (.t 22)), zG 23 false 24 (.mv (.t 1)), zG 23 false 25 (.faddr 4 (.t 2)), zG 23 false 26 (.load false 1 (.t 25)), zG 23 false 27 (.len (.t 26)), ⟨(some (23, false)), some 28, .call 135 [.t 27]⟩, zG 23 false 29 (.bin .eql (.t 24) (.t 28)), zG 20 true 30 (.pick (.t 23) (.k (.c (.lit (.bool true)))) (.t 29)), zA 31 (.pick (.t 20) (.t 30) (.k (.c (.lit (.bool false)))))] [1, 2, 31]) (.cond (.t 31) (.seq (.reg [ zA 32 (.faddr 4 (.t 2)), zA 33 (.load false 1 (.t 32)), zA 34 (.len (.t 33)), zM 4 34, zA 5 (.mv (.k (.c (.lit (.bool false)))))] [4, 5]) .ret) .skip)) (.seq (.seq (.reg [ zA 7 (.mv (.k (.c (.lit (.int .i64 0)))))] [1, 2, 7]) (.block 0 (.loop (.seq (.seq (.reg [ zA 35 (.faddr 0 (.t 2)), zA 36 (.load false 1 (.t 35)), zA 37 (.bin .eql (.t 36) (.k (.c (.lit (.int .i64 4))))), zM 38 37, zG 38 true 39 (.mv (.t 7)), zG 38 true 40 (.faddr 4 (.t 2)), zG 38 true 41 (.load false 1 (.t 40)), zG 38 true 42 (.len (.t 41)), zG 38 true 43 (.bin .leq (.t 39) (.t 42)), zA 44 (.pick (.t 38) (.t 43) (.k (.c (.lit (.bool false)))))] [1, 2, 7, 44]) (.cond (.t 44) .skip (.exit 0))) (.seq (.block 1 (.seq (.reg [ zM 47 7, zA 48 (.faddr 4 (.t 2)), zA 49 (.load false 1 (.t 48)), zA 50 (.len (.t 49)), zA 51 (.bin .eql (.t 47) (.t 50)), zM 52 51, zG 52 false 53 (.mv (.t 1)), zG 52 false 54 (.faddr 3 (.t 2)), zG 52 false 55 (.load false 1 (.t 54)), zG 52 false 56 (.mv (.t 7)), zG 52 false 57 (.iaddr 1 (.t 55) (.t 56)), zG 52 false 58 (.load false 1 (.t 57)), zG 52 false 59 (.bin .lss (.t 53) (.t 58)), zA 60 (.pick (.t 52) (.k (.c (.lit (.bool true)))) (.t 59))] [1, 2, 7, 60]) (.cond (.t 60) (.seq (.reg [ zM 61 7, zM 4 61, zA 5 (.mv (.k (.c (.lit (.bool false)))))] [4, 5]) .ret) .skip))) (.reg [ zM 45 7, zA 46 (.bin .add (.t 45) (.k (.c (.lit (.int .i64 1))))), zM 7 46] [1, 2, 7])))))) (.seq (.reg [ zA 4 (.mv (.k (.c (.lit (.int .i64 (-1)))))), zA 5 (.mv (.k (.c (.lit (.bool false)))))] [4, 5]) .ret))))))
theorem K.spec_slot : chkF Go.Proofs.Tryz.prog 136 2 0 C.spec_slot [.tmp 4, .tmp 5] = true := by kernel_rfl
def C.spec_withKid : ACode := (.seq (.reg [ zA 3 (.box 10 (.t 0)), zA 5 (.box 11 (.t 2)), zA 6 (.alloc 12 [.c (.lit (.int .i64 0)), .c (.lit (.int .i64 0)), .c (.str []), .nsl 1, .nsl 5])] [1, 3, 5, 6]) (.seq (.reg [ zA 8 (.load true 5 (.t 3)), ⟨none, some 9, .call 88 [.t 8]⟩, zA 7 (.alloc 13 [.c (.lit (.int .i64 0)), .c (.lit (.int .i64 0)), .c (.str []), .nsl 1, .nsl 5]), zS (.store true 5 (.t 7) (.t 9))] [1, 5, 6, 7]) (.seq (.regD [ (zA 10 (.faddr 4 (.t 7)), []), (zA 11 (.load false 1 (.t 10)), [0]), (zM 12 1, []), (zA 13 (.load true 5 (.t 5)), []), (⟨none, some 14, .call 88 [.t 13]⟩, [3]), (zA 15 (.iaddr 5 (.t 11) (.t 12)), [0, 1, 2, 3, 4]), (zS (.store true 5 (.t 15) (.t 14)), [0, 1, 2, 3, 4, 5])] [6, 7]) (.seq (.reg [ zA 16 (.load true 5 (.t 7)), zS (.store true 5 (.t 6) (.t 16))] [6]) .ret))))
theorem K.spec_withKid : chkF Go.Proofs.Tryz.prog 91 3 0 C.spec_withKid [.cell 6 true 5] = true := by kernel_rfl
end Go.Ab
end
