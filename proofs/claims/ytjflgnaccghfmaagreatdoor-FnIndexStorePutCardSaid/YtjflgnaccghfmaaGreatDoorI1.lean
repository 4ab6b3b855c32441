/- The law FnIndexStorePut of the package laws answers true for every code of bytes and leaves it as it is: the abstract interpreter of the program, the printed functions and proofs, the laws of the data, the statement (part 3 of the proof). Conditions: none but what the row lists. -/
import Derived.Test.YtjflgnaccghfmaaGreatDoorW2
set_option linter.unusedVariables false
set_option linter.unusedSimpArgs false
section
namespace Go.Ab
open Go
set_option maxRecDepth 100000
set_option maxHeartbeats 4000000
set_option linter.unusedVariables false
set_option linter.unusedSimpArgs false
structure NodeT where
  Kind : Int
  Num : Int
  Text : Txt
  Names : List Txt
  Kids : List NodeT
  deriving Inhabited
mutual
def NodeT.cells : NodeT → List Cell
  | NodeT.mk x0 x1 x2 x3 x4 => [.lit (.int .i64 x0), .lit (.int .i64 x1), .str x2, .sl 1 (List.map cS x3), .sl 5 (NodeT.cellsL x4)]
def NodeT.cellsL : List NodeT → List (List Cell)
  | [] => []
  | x :: r => x.cells :: NodeT.cellsL r
end
theorem NodeT.cellsL_eq (ks : List NodeT) : NodeT.cellsL ks = List.map NodeT.cells ks := by
  induction ks with
  | nil => rfl
  | cons x r ih => simp [NodeT.cellsL, ih]
theorem NodeT.cells_eq (n : NodeT) : n.cells = [.lit (.int .i64 n.Kind), .lit (.int .i64 n.Num), .str n.Text, .sl 1 (List.map cS n.Names), .sl 5 (List.map NodeT.cells n.Kids)] := by
  cases n
  rw [NodeT.cells, NodeT.cellsL_eq]
structure EntryT where
  Key : NodeT
  Name : Txt
  deriving Inhabited
def EntryT.cells (n : EntryT) : List Cell := [.lit (.int .i64 n.Key.Kind), .lit (.int .i64 n.Key.Num), .str n.Key.Text, .sl 1 (List.map cS n.Key.Names), .sl 5 (List.map NodeT.cells n.Key.Kids), .str n.Name]
theorem EntryT.cells_eq (n : EntryT) : n.cells = [.lit (.int .i64 n.Key.Kind), .lit (.int .i64 n.Key.Num), .str n.Key.Text, .sl 1 (List.map cS n.Key.Names), .sl 5 (List.map NodeT.cells n.Key.Kids), .str n.Name] := rfl
structure ItemT where
  Name : Txt
  Version : Int
  Node : NodeT
  deriving Inhabited
def ItemT.cells (n : ItemT) : List Cell := [.str n.Name, .lit (.int .i64 n.Version), .lit (.int .i64 n.Node.Kind), .lit (.int .i64 n.Node.Num), .str n.Node.Text, .sl 1 (List.map cS n.Node.Names), .sl 5 (List.map NodeT.cells n.Node.Kids)]
theorem ItemT.cells_eq (n : ItemT) : n.cells = [.str n.Name, .lit (.int .i64 n.Version), .lit (.int .i64 n.Node.Kind), .lit (.int .i64 n.Node.Num), .str n.Node.Text, .sl 1 (List.map cS n.Node.Names), .sl 5 (List.map NodeT.cells n.Node.Kids)] := rfl
structure StoreT where
  Items : List ItemT
  Clock : Int
  deriving Inhabited
def StoreT.cells (n : StoreT) : List Cell := [.sl 7 (List.map ItemT.cells n.Items), .lit (.int .i64 n.Clock)]
theorem StoreT.cells_eq (n : StoreT) : n.cells = [.sl 7 (List.map ItemT.cells n.Items), .lit (.int .i64 n.Clock)] := rfl
structure ReaderT where
  b : List Int
  p : Int
  deriving Inhabited
def ReaderT.cells (n : ReaderT) : List Cell := [.sl 1 (List.map cU n.b), .lit (.int .i64 n.p)]
theorem ReaderT.cells_eq (n : ReaderT) : n.cells = [.sl 1 (List.map cU n.b), .lit (.int .i64 n.p)] := rfl
theorem EntryT.dropS {l : List EntryT} {i j : Nat} {x0 x1 x2 x3 x4 x5 : Cell} : List.drop 6 (((List.map EntryT.cells l).set i [x0, x1, x2, x3, x4, x5]).getD j []) = [] := Go.Ab.dropS EntryT.cells 6 (fun t => by simp [EntryT.cells_eq]) (by simp)
end Go.Ab
end
section
namespace Go.Ab
open Go
set_option maxRecDepth 100000
set_option maxHeartbeats 4000000
set_option linter.unusedVariables false
set_option linter.unusedSimpArgs false
def G.cmp_isNaN_int (f : Nat) (a_x1 : Int) : Option (Bool) := match f with
| 0 => none
| n + 1 =>
(some ((a_x1 != a_x1)))
def G.cmp_Compare_int (f : Nat) (a_x1 : Int) (a_y1 : Int) : Option (Int) := match f with
| 0 => none
| n + 1 =>
(Option.bind (G.cmp_isNaN_int n a_x1) fun v1 =>
(Option.bind (G.cmp_isNaN_int n a_y1) fun v2 =>
(cond v1
(cond v2
(some (0))
(some ((-1))))
(cond v2
(some (1))
(cond (decide (a_x1 < a_y1))
(some ((-1)))
(cond (decide (a_y1 < a_x1))
(some (1))
(some (0))))))))
def G.cmp_isNaN_string (f : Nat) (a_x1 : Txt) : Option (Bool) := match f with
| 0 => none
| n + 1 =>
(some ((!(a_x1 == a_x1))))
def G.cmp_Less_string (f : Nat) (a_x1 : Txt) (a_y1 : Txt) : Option (Bool) := match f with
| 0 => none
| n + 1 =>
(Option.bind (G.cmp_isNaN_string n a_x1) fun v1 =>
(cond v1
(Option.bind (G.cmp_isNaN_string n a_y1) fun v2 =>
(cond v2
(some ((Op.bytesLess a_x1 a_y1)))
(some (true))))
(some ((Op.bytesLess a_x1 a_y1)))))
def G.cmp_Or_int.L1 (f : Nat) (a_vals1 : List Int) (x_t2 : Int) : Option (Int) := match f with
| 0 => none
| n + 1 =>
(cond (decide (x_t2 < ((a_vals1.length : Nat) : Int)))
(chk (0 ≤ x_t2 ∧ x_t2 < ((a_vals1.length : Nat) : Int))
(cond ((a_vals1.getD x_t2.toNat default) != 0)
(some ((a_vals1.getD x_t2.toNat default)))
(G.cmp_Or_int.L1 n a_vals1 (IntKind.wrap .i64 (x_t2 + 1)))))
(some (0)))
def G.cmp_Or_int (f : Nat) (a_vals1 : List Int) : Option (Int) := match f with
| 0 => none
| n + 1 =>
(G.cmp_Or_int.L1 n a_vals1 0)
def G.internal_bytealg_CompareString (f : Nat) (a_a1 : Txt) (a_b1 : Txt) : Option (Int) := match f with
| 0 => none
| n + 1 =>
(some ((Go.Lib.compareBytes a_a1 a_b1)))
def G.strings_Compare (f : Nat) (a_a1 : Txt) (a_b1 : Txt) : Option (Int) := match f with
| 0 => none
| n + 1 =>
(Option.bind (G.internal_bytealg_CompareString n a_a1 a_b1) fun v1 =>
(some (v1)))
mutual
def G.impl_compareValid.K4 (f : Nat) (a_a1 : NodeT) (a_b1 : NodeT) (x_i2 : Int) : Option (Int) := match f with
| 0 => none
| n + 1 =>
(chk (0 ≤ x_i2 ∧ x_i2 < ((a_a1.Kids.length : Nat) : Int))
(chk (0 ≤ x_i2 ∧ x_i2 < ((a_b1.Kids.length : Nat) : Int))
(Option.bind (G.impl_compareValid n (a_a1.Kids.getD x_i2.toNat default) (a_b1.Kids.getD x_i2.toNat default)) fun v11 =>
(cond (v11 != 0)
(some (v11))
(G.impl_compareValid.L3 n a_a1 a_b1 (IntKind.wrap .i64 (x_i2 + 1)))))))
def G.impl_compareValid.L3 (f : Nat) (a_a1 : NodeT) (a_b1 : NodeT) (x_i2 : Int) : Option (Int) := match f with
| 0 => none
| n + 1 =>
(cond (decide (x_i2 < ((a_a1.Kids.length : Nat) : Int)))
(cond (decide (x_i2 < ((a_b1.Kids.length : Nat) : Int)))
(cond (a_a1.Kind == 4)
(chk (0 ≤ x_i2 ∧ x_i2 < ((a_a1.Names.length : Nat) : Int))
(chk (0 ≤ x_i2 ∧ x_i2 < ((a_b1.Names.length : Nat) : Int))
(Option.bind (G.strings_Compare n (a_a1.Names.getD x_i2.toNat default) (a_b1.Names.getD x_i2.toNat default)) fun v12 =>
(cond (v12 != 0)
(some (v12))
(G.impl_compareValid.K4 n a_a1 a_b1 x_i2)))))
(G.impl_compareValid.K4 n a_a1 a_b1 x_i2))
(Option.bind (G.cmp_Compare_int n ((a_a1.Kids.length : Nat) : Int) ((a_b1.Kids.length : Nat) : Int)) fun v13 =>
(some (v13))))
(Option.bind (G.cmp_Compare_int n ((a_a1.Kids.length : Nat) : Int) ((a_b1.Kids.length : Nat) : Int)) fun v14 =>
(some (v14))))
def G.impl_compareValid (f : Nat) (a_a1 : NodeT) (a_b1 : NodeT) : Option (Int) := match f with
| 0 => none
| n + 1 =>
(Option.bind (G.cmp_Compare_int n a_a1.Kind a_b1.Kind) fun v1 =>
(cond (v1 != 0)
(some (v1))
(Option.bind (G.cmp_Compare_int n a_a1.Num a_b1.Num) fun v2 =>
(cond (v2 != 0)
(some (v2))
(Option.bind (G.strings_Compare n a_a1.Text a_b1.Text) fun v3 =>
(cond (v3 != 0)
(some (v3))
(G.impl_compareValid.L3 n a_a1 a_b1 0)))))))
end
def G.impl_IndexStore_1 (f : Nat) (a_a1 : EntryT) (a_b1 : EntryT) : Option (Int) := match f with
| 0 => none
| n + 1 =>
(Option.bind (G.impl_compareValid n a_a1.Key a_b1.Key) fun v1 =>
(Option.bind (G.strings_Compare n a_a1.Name a_b1.Name) fun v2 =>
(Option.bind (G.cmp_Or_int n [v1, v2]) fun v3 =>
(some (v3)))))
def G.impl_isPlainText.L1 (f : Nat) (a_s1 : Txt) (x_i2 : Int) : Option (Bool) := match f with
| 0 => none
| n + 1 =>
(cond (decide (x_i2 < ((a_s1.length : Nat) : Int)))
(chk (0 ≤ x_i2 ∧ x_i2 < ((a_s1.length : Nat) : Int))
(cond (decide ((((a_s1.getD x_i2.toNat 0).toNat : Nat) : Int) < 32))
(some (false))
(chk (0 ≤ x_i2 ∧ x_i2 < ((a_s1.length : Nat) : Int))
(cond (decide (126 < (((a_s1.getD x_i2.toNat 0).toNat : Nat) : Int)))
(some (false))
(G.impl_isPlainText.L1 n a_s1 (IntKind.wrap .i64 (x_i2 + 1)))))))
(some (true)))
def G.impl_isPlainText (f : Nat) (a_s1 : Txt) : Option (Bool) := match f with
| 0 => none
| n + 1 =>
(cond (decide (12 < ((a_s1.length : Nat) : Int)))
(some (false))
(G.impl_isPlainText.L1 n a_s1 0))
def G.impl_areNames.L1 (f : Nat) (a_names1 : List Txt) (x_t2 : Int) : Option (Bool) := match f with
| 0 => none
| n + 1 =>
(cond (decide (x_t2 < ((a_names1.length : Nat) : Int)))
(chk (0 ≤ x_t2 ∧ x_t2 < ((a_names1.length : Nat) : Int))
(Option.bind (G.impl_isPlainText n (a_names1.getD x_t2.toNat default)) fun v3 =>
(cond v3
(cond (decide (0 < x_t2))
(chk (0 ≤ (IntKind.wrap .i64 (x_t2 - 1)) ∧ (IntKind.wrap .i64 (x_t2 - 1)) < ((a_names1.length : Nat) : Int))
(cond (Op.bytesLess (a_names1.getD (IntKind.wrap .i64 (x_t2 - 1)).toNat default) (a_names1.getD x_t2.toNat default))
(G.impl_areNames.L1 n a_names1 (IntKind.wrap .i64 (x_t2 + 1)))
(some (false))))
(G.impl_areNames.L1 n a_names1 (IntKind.wrap .i64 (x_t2 + 1))))
(some (false)))))
(some (true)))
def G.impl_areNames (f : Nat) (a_names1 : List Txt) : Option (Bool) := match f with
| 0 => none
| n + 1 =>
(cond (decide (6 < ((a_names1.length : Nat) : Int)))
(some (false))
(G.impl_areNames.L1 n a_names1 0))
def G.impl_hasValidParts.K1 (f : Nat) (a_n1 : NodeT) : Option (Bool) := match f with
| 0 => none
| n + 1 =>
(cond (a_n1.Kind != 4)
(cond (decide (0 < ((a_n1.Names.length : Nat) : Int)))
(some (false))
(cond (a_n1.Kind == 0)
(some ((((a_n1.Kids.length : Nat) : Int) == 0)))
(cond (a_n1.Kind == 1)
(cond (decide ((-999999) ≤ a_n1.Num))
(cond (decide (a_n1.Num ≤ 999999))
(some ((((a_n1.Kids.length : Nat) : Int) == 0)))
(some (false)))
(some (false)))
(cond (a_n1.Kind == 2)
(Option.bind (G.impl_isPlainText n a_n1.Text) fun v1 =>
(cond v1
(some ((((a_n1.Kids.length : Nat) : Int) == 0)))
(some (false))))
(cond (a_n1.Kind == 3)
(some ((decide (((a_n1.Kids.length : Nat) : Int) ≤ 6))))
(cond (a_n1.Kind == 4)
(Option.bind (G.impl_areNames n a_n1.Names) fun v2 =>
(cond v2
(some ((((a_n1.Kids.length : Nat) : Int) == ((a_n1.Names.length : Nat) : Int))))
(some (false))))
(some (false))))))))
(cond (a_n1.Kind == 0)
(some ((((a_n1.Kids.length : Nat) : Int) == 0)))
(cond (a_n1.Kind == 1)
(cond (decide ((-999999) ≤ a_n1.Num))
(cond (decide (a_n1.Num ≤ 999999))
(some ((((a_n1.Kids.length : Nat) : Int) == 0)))
(some (false)))
(some (false)))
(cond (a_n1.Kind == 2)
(Option.bind (G.impl_isPlainText n a_n1.Text) fun v3 =>
(cond v3
(some ((((a_n1.Kids.length : Nat) : Int) == 0)))
(some (false))))
(cond (a_n1.Kind == 3)
(some ((decide (((a_n1.Kids.length : Nat) : Int) ≤ 6))))
(cond (a_n1.Kind == 4)
(Option.bind (G.impl_areNames n a_n1.Names) fun v4 =>
(cond v4
(some ((((a_n1.Kids.length : Nat) : Int) == ((a_n1.Names.length : Nat) : Int))))
(some (false))))
(some (false))))))))
def G.impl_hasValidParts (f : Nat) (a_n1 : NodeT) : Option (Bool) := match f with
| 0 => none
| n + 1 =>
(cond (a_n1.Kind != 1)
(cond (a_n1.Num != 0)
(some (false))
(cond (a_n1.Kind != 2)
(cond (a_n1.Text == [])
(G.impl_hasValidParts.K1 n a_n1)
(some (false)))
(G.impl_hasValidParts.K1 n a_n1)))
(cond (a_n1.Kind != 2)
(cond (a_n1.Text == [])
(G.impl_hasValidParts.K1 n a_n1)
(some (false)))
(G.impl_hasValidParts.K1 n a_n1)))
mutual
def G.impl_measureNode.L1 (f : Nat) (a_n1 : NodeT) (a_level1 : Int) (x_count2 : Int) (x_depth2 : Int) (x_t2 : Int) : Option (Int × Int × Bool) := match f with
| 0 => none
| n + 1 =>
(cond (decide (x_t2 < ((a_n1.Kids.length : Nat) : Int)))
(chk (0 ≤ x_t2 ∧ x_t2 < ((a_n1.Kids.length : Nat) : Int))
(Option.bind (G.impl_measureNode n (a_n1.Kids.getD x_t2.toNat default) (IntKind.wrap .i64 (a_level1 + 1))) fun v4 =>
(cond v4.2.2
(G.impl_measureNode.L1 n a_n1 a_level1 (IntKind.wrap .i64 (x_count2 + v4.1)) (if (IntKind.wrap .i64 (v4.2.1 + 1)) > x_depth2 then (IntKind.wrap .i64 (v4.2.1 + 1)) else x_depth2) (IntKind.wrap .i64 (x_t2 + 1)))
(some (0, 0, false)))))
(some (x_count2, x_depth2, true)))
def G.impl_measureNode (f : Nat) (a_n1 : NodeT) (a_level1 : Int) : Option (Int × Int × Bool) := match f with
| 0 => none
| n + 1 =>
(cond (decide (5 < a_level1))
(some (0, 0, false))
(Option.bind (G.impl_hasValidParts n a_n1) fun v1 =>
(cond v1
(G.impl_measureNode.L1 n a_n1 a_level1 1 1 0)
(some (0, 0, false)))))
end
def G.impl_ValidNode (f : Nat) (a_n1 : NodeT) : Option (Bool) := match f with
| 0 => none
| n + 1 =>
(Option.bind (G.impl_measureNode n a_n1 1) fun v1 =>
(cond v1.2.2
(some ((decide (v1.1 ≤ 40))))
(some (false))))
def G.impl_isName.L1 (f : Nat) (a_s1 : Txt) (x_i2 : Int) : Option (Bool) := match f with
| 0 => none
| n + 1 =>
(cond (decide (x_i2 < ((a_s1.length : Nat) : Int)))
(chk (0 ≤ x_i2 ∧ x_i2 < ((a_s1.length : Nat) : Int))
(cond (decide ((((a_s1.getD x_i2.toNat 0).toNat : Nat) : Int) < 97))
(chk (0 ≤ x_i2 ∧ x_i2 < ((a_s1.length : Nat) : Int))
(cond (decide ((((a_s1.getD x_i2.toNat 0).toNat : Nat) : Int) < 48))
(some (false))
(chk (0 ≤ x_i2 ∧ x_i2 < ((a_s1.length : Nat) : Int))
(cond (decide (57 < (((a_s1.getD x_i2.toNat 0).toNat : Nat) : Int)))
(some (false))
(G.impl_isName.L1 n a_s1 (IntKind.wrap .i64 (x_i2 + 1)))))))
(chk (0 ≤ x_i2 ∧ x_i2 < ((a_s1.length : Nat) : Int))
(cond (decide (122 < (((a_s1.getD x_i2.toNat 0).toNat : Nat) : Int)))
(chk (0 ≤ x_i2 ∧ x_i2 < ((a_s1.length : Nat) : Int))
(cond (decide ((((a_s1.getD x_i2.toNat 0).toNat : Nat) : Int) < 48))
(some (false))
(chk (0 ≤ x_i2 ∧ x_i2 < ((a_s1.length : Nat) : Int))
(cond (decide (57 < (((a_s1.getD x_i2.toNat 0).toNat : Nat) : Int)))
(some (false))
(G.impl_isName.L1 n a_s1 (IntKind.wrap .i64 (x_i2 + 1)))))))
(G.impl_isName.L1 n a_s1 (IntKind.wrap .i64 (x_i2 + 1)))))))
(some (true)))
def G.impl_isName (f : Nat) (a_s1 : Txt) : Option (Bool) := match f with
| 0 => none
| n + 1 =>
(cond (a_s1 == [])
(some (false))
(cond (decide (8 < ((a_s1.length : Nat) : Int)))
(some (false))
(G.impl_isName.L1 n a_s1 0)))
def G.impl_ValidStore.L1 (f : Nat) (a_s1 : StoreT) (x_t2 : Int) : Option (Bool) := match f with
| 0 => none
| n + 1 =>
(cond (decide (x_t2 < ((a_s1.Items.length : Nat) : Int)))
(chk (0 ≤ x_t2 ∧ x_t2 < ((a_s1.Items.length : Nat) : Int))
(Option.bind (G.impl_isName n ((a_s1.Items.getD x_t2.toNat default).Name)) fun v6 =>
(cond v6
(cond (decide (0 < x_t2))
(chk (0 ≤ (IntKind.wrap .i64 (x_t2 - 1)) ∧ (IntKind.wrap .i64 (x_t2 - 1)) < ((a_s1.Items.length : Nat) : Int))
(cond (Op.bytesLess ((a_s1.Items.getD (IntKind.wrap .i64 (x_t2 - 1)).toNat default).Name) ((a_s1.Items.getD x_t2.toNat default).Name))
(cond (decide ((a_s1.Items.getD x_t2.toNat default).Version < 1))
(some (false))
(cond (decide (a_s1.Clock < (a_s1.Items.getD x_t2.toNat default).Version))
(some (false))
(Option.bind (G.impl_ValidNode n ((a_s1.Items.getD x_t2.toNat default).Node)) fun v7 =>
(cond v7
(G.impl_ValidStore.L1 n a_s1 (IntKind.wrap .i64 (x_t2 + 1)))
(some (false))))))
(some (false))))
(cond (decide ((a_s1.Items.getD x_t2.toNat default).Version < 1))
(some (false))
(cond (decide (a_s1.Clock < (a_s1.Items.getD x_t2.toNat default).Version))
(some (false))
(Option.bind (G.impl_ValidNode n ((a_s1.Items.getD x_t2.toNat default).Node)) fun v8 =>
(cond v8
(G.impl_ValidStore.L1 n a_s1 (IntKind.wrap .i64 (x_t2 + 1)))
(some (false)))))))
(some (false)))))
(some (true)))
def G.impl_ValidStore (f : Nat) (a_s1 : StoreT) : Option (Bool) := match f with
| 0 => none
| n + 1 =>
(cond (decide (10 < ((a_s1.Items.length : Nat) : Int)))
(some (false))
(cond (decide (a_s1.Clock < 0))
(some (false))
(cond (decide (999 < a_s1.Clock))
(some (false))
(G.impl_ValidStore.L1 n a_s1 0))))
mutual
def G.impl_copyNode.L2 (f : Nat) (a_n1 : NodeT) (z1 : List Txt) (x_t2 : Int) (z4 : List NodeT) : Option (NodeT) := match f with
| 0 => none
| n + 1 =>
(cond (decide (x_t2 < ((a_n1.Kids.length : Nat) : Int)))
(chk (0 ≤ x_t2 ∧ x_t2 < ((a_n1.Kids.length : Nat) : Int))
(Option.bind (G.impl_copyNode n (a_n1.Kids.getD x_t2.toNat default)) fun v3 =>
(chk (0 ≤ x_t2 ∧ x_t2 < ((z4.length : Nat) : Int))
(G.impl_copyNode.L2 n a_n1 z1 (IntKind.wrap .i64 (x_t2 + 1)) (z4.set x_t2.toNat v3)))))
(some ((NodeT.mk a_n1.Kind a_n1.Num a_n1.Text z1 z4))))
def G.impl_copyNode.K1 (f : Nat) (a_n1 : NodeT) (z1 : List Txt) : Option (NodeT) := match f with
| 0 => none
| n + 1 =>
(cond (decide (0 < ((a_n1.Kids.length : Nat) : Int)))
(chk (0 ≤ ((a_n1.Kids.length : Nat) : Int) ∧ ((a_n1.Kids.length : Nat) : Int) ≤ ((a_n1.Kids.length : Nat) : Int) ∧ 80 * ((a_n1.Kids.length : Nat) : Int) ≤ 2 ^ 47 ∧ ((a_n1.Kids.length : Nat) : Int) ≤ 2 ^ 47)
(G.impl_copyNode.L2 n a_n1 z1 0 (List.replicate a_n1.Kids.length (NodeT.mk 0 0 [] [] []))))
(some ((NodeT.mk a_n1.Kind a_n1.Num a_n1.Text z1 []))))
def G.impl_copyNode (f : Nat) (a_n1 : NodeT) : Option (NodeT) := match f with
| 0 => none
| n + 1 =>
(cond (decide (0 < ((a_n1.Names.length : Nat) : Int)))
(chk (0 ≤ ((a_n1.Names.length : Nat) : Int) ∧ ((a_n1.Names.length : Nat) : Int) ≤ ((a_n1.Names.length : Nat) : Int) ∧ 16 * ((a_n1.Names.length : Nat) : Int) ≤ 2 ^ 47 ∧ ((a_n1.Names.length : Nat) : Int) ≤ 2 ^ 47)
(G.impl_copyNode.K1 n a_n1 a_n1.Names))
(G.impl_copyNode.K1 n a_n1 []))
end
def G.slices_isNaN_string (f : Nat) (a_x1 : Txt) : Option (Bool) := match f with
| 0 => none
| n + 1 =>
(some ((!(a_x1 == a_x1))))
def G.slices_BinarySearch_string.L1 (f : Nat) (a_x1 : List Txt) (a_target1 : Txt) (x_i2 : Int) (x_j2 : Int) : Option (Int × Bool) := match f with
| 0 => none
| n + 1 =>
(cond (decide (x_i2 < x_j2))
(chk (0 ≤ (IntKind.wrap .i64 ((Int.fdiv (IntKind.wrap .u64 ((IntKind.wrap .i64 (x_i2 + x_j2)))) (2 ^ (min 1 (IntKind.bits .u64)))))) ∧ (IntKind.wrap .i64 ((Int.fdiv (IntKind.wrap .u64 ((IntKind.wrap .i64 (x_i2 + x_j2)))) (2 ^ (min 1 (IntKind.bits .u64)))))) < ((a_x1.length : Nat) : Int))
(Option.bind (G.cmp_Less_string n (a_x1.getD (IntKind.wrap .i64 ((Int.fdiv (IntKind.wrap .u64 ((IntKind.wrap .i64 (x_i2 + x_j2)))) (2 ^ (min 1 (IntKind.bits .u64)))))).toNat default) a_target1) fun v3 =>
(cond v3
(G.slices_BinarySearch_string.L1 n a_x1 a_target1 (IntKind.wrap .i64 ((IntKind.wrap .i64 ((Int.fdiv (IntKind.wrap .u64 ((IntKind.wrap .i64 (x_i2 + x_j2)))) (2 ^ (min 1 (IntKind.bits .u64)))))) + 1)) x_j2)
(G.slices_BinarySearch_string.L1 n a_x1 a_target1 x_i2 (IntKind.wrap .i64 ((Int.fdiv (IntKind.wrap .u64 ((IntKind.wrap .i64 (x_i2 + x_j2)))) (2 ^ (min 1 (IntKind.bits .u64))))))))))
(cond (decide (x_i2 < ((a_x1.length : Nat) : Int)))
(chk (0 ≤ x_i2 ∧ x_i2 < ((a_x1.length : Nat) : Int))
(cond ((a_x1.getD x_i2.toNat default) == a_target1)
(some (x_i2, true))
(chk (0 ≤ x_i2 ∧ x_i2 < ((a_x1.length : Nat) : Int))
(Option.bind (G.slices_isNaN_string n (a_x1.getD x_i2.toNat default)) fun v4 =>
(cond v4
(Option.bind (G.slices_isNaN_string n a_target1) fun v5 =>
(some (x_i2, v5)))
(some (x_i2, false)))))))
(some (x_i2, false))))
def G.slices_BinarySearch_string (f : Nat) (a_x1 : List Txt) (a_target1 : Txt) : Option (Int × Bool) := match f with
| 0 => none
| n + 1 =>
(G.slices_BinarySearch_string.L1 n a_x1 a_target1 0 ((a_x1.length : Nat) : Int))
def G.internal_strconv_log10Pow2 (f : Nat) (a_x1 : Int) : Option (Int) := match f with
| 0 => none
| n + 1 =>
(some ((Int.fdiv (IntKind.wrap .i64 (a_x1 * 78913)) (2 ^ (min 18 (IntKind.bits .i64))))))
def G.math_bits_Len64.K2 (f : Nat) (x_x2 : Int) (x_n2 : Int) : Option (Int) := match f with
| 0 => none
| n + 1 =>
(cond (decide (256 ≤ x_x2))
(chk (0 ≤ (IntKind.wrap .u8 ((Int.fdiv x_x2 (2 ^ (min 8 (IntKind.bits .u64)))))) ∧ (IntKind.wrap .u8 ((Int.fdiv x_x2 (2 ^ (min 8 (IntKind.bits .u64)))))) < ((256 : Nat) : Int))
(some ((IntKind.wrap .i64 ((IntKind.wrap .i64 (x_n2 + 8)) + (IntKind.wrap .i64 ((((([0, 1, 2, 2, 3, 3, 3, 3, 4, 4, 4, 4, 4, 4, 4, 4, 5, 5, 5, 5, 5, 5, 5, 5, 5, 5, 5, 5, 5, 5, 5, 5, 6, 6, 6, 6, 6, 6, 6, 6, 6, 6, 6, 6, 6, 6, 6, 6, 6, 6, 6, 6, 6, 6, 6, 6, 6, 6, 6, 6, 6, 6, 6, 6, 7, 7, 7, 7, 7, 7, 7, 7, 7, 7, 7, 7, 7, 7, 7, 7, 7, 7, 7, 7, 7, 7, 7, 7, 7, 7, 7, 7, 7, 7, 7, 7, 7, 7, 7, 7, 7, 7, 7, 7, 7, 7, 7, 7, 7, 7, 7, 7, 7, 7, 7, 7, 7, 7, 7, 7, 7, 7, 7, 7, 7, 7, 7, 7, 8, 8, 8, 8, 8, 8, 8, 8, 8, 8, 8, 8, 8, 8, 8, 8, 8, 8, 8, 8, 8, 8, 8, 8, 8, 8, 8, 8, 8, 8, 8, 8, 8, 8, 8, 8, 8, 8, 8, 8, 8, 8, 8, 8, 8, 8, 8, 8, 8, 8, 8, 8, 8, 8, 8, 8, 8, 8, 8, 8, 8, 8, 8, 8, 8, 8, 8, 8, 8, 8, 8, 8, 8, 8, 8, 8, 8, 8, 8, 8, 8, 8, 8, 8, 8, 8, 8, 8, 8, 8, 8, 8, 8, 8, 8, 8, 8, 8, 8, 8, 8, 8, 8, 8, 8, 8, 8, 8, 8, 8, 8, 8, 8, 8, 8, 8, 8, 8, 8, 8, 8, 8, 8, 8, 8, 8, 8, 8] : Txt).getD (IntKind.wrap .u8 ((Int.fdiv x_x2 (2 ^ (min 8 (IntKind.bits .u64)))))).toNat 0).toNat : Nat) : Int))))))))
(chk (0 ≤ (IntKind.wrap .u8 (x_x2)) ∧ (IntKind.wrap .u8 (x_x2)) < ((256 : Nat) : Int))
(some ((IntKind.wrap .i64 (x_n2 + (IntKind.wrap .i64 ((((([0, 1, 2, 2, 3, 3, 3, 3, 4, 4, 4, 4, 4, 4, 4, 4, 5, 5, 5, 5, 5, 5, 5, 5, 5, 5, 5, 5, 5, 5, 5, 5, 6, 6, 6, 6, 6, 6, 6, 6, 6, 6, 6, 6, 6, 6, 6, 6, 6, 6, 6, 6, 6, 6, 6, 6, 6, 6, 6, 6, 6, 6, 6, 6, 7, 7, 7, 7, 7, 7, 7, 7, 7, 7, 7, 7, 7, 7, 7, 7, 7, 7, 7, 7, 7, 7, 7, 7, 7, 7, 7, 7, 7, 7, 7, 7, 7, 7, 7, 7, 7, 7, 7, 7, 7, 7, 7, 7, 7, 7, 7, 7, 7, 7, 7, 7, 7, 7, 7, 7, 7, 7, 7, 7, 7, 7, 7, 7, 8, 8, 8, 8, 8, 8, 8, 8, 8, 8, 8, 8, 8, 8, 8, 8, 8, 8, 8, 8, 8, 8, 8, 8, 8, 8, 8, 8, 8, 8, 8, 8, 8, 8, 8, 8, 8, 8, 8, 8, 8, 8, 8, 8, 8, 8, 8, 8, 8, 8, 8, 8, 8, 8, 8, 8, 8, 8, 8, 8, 8, 8, 8, 8, 8, 8, 8, 8, 8, 8, 8, 8, 8, 8, 8, 8, 8, 8, 8, 8, 8, 8, 8, 8, 8, 8, 8, 8, 8, 8, 8, 8, 8, 8, 8, 8, 8, 8, 8, 8, 8, 8, 8, 8, 8, 8, 8, 8, 8, 8, 8, 8, 8, 8, 8, 8, 8, 8, 8, 8, 8, 8, 8, 8, 8, 8, 8, 8] : Txt).getD (IntKind.wrap .u8 (x_x2)).toNat 0).toNat : Nat) : Int)))))))))
def G.math_bits_Len64.K1 (f : Nat) (x_x1 : Int) (x_n1 : Int) : Option (Int) := match f with
| 0 => none
| n + 1 =>
(cond (decide (65536 ≤ x_x1))
(G.math_bits_Len64.K2 n (Int.fdiv x_x1 (2 ^ (min 16 (IntKind.bits .u64)))) (IntKind.wrap .i64 (x_n1 + 16)))
(G.math_bits_Len64.K2 n x_x1 x_n1))
def G.math_bits_Len64 (f : Nat) (a_x1 : Int) : Option (Int) := match f with
| 0 => none
| n + 1 =>
(cond (decide (4294967296 ≤ a_x1))
(G.math_bits_Len64.K1 n (Int.fdiv a_x1 (2 ^ (min 32 (IntKind.bits .u64)))) 32)
(G.math_bits_Len64.K1 n a_x1 0))
def G.internal_strconv_numDigits (f : Nat) (a_d1 : Int) : Option (Int) := match f with
| 0 => none
| n + 1 =>
(Option.bind (G.math_bits_Len64 n a_d1) fun v1 =>
(Option.bind (G.internal_strconv_log10Pow2 n v1) fun v2 =>
(none)))
def G.internal_strconv_small (f : Nat) (a_i1 : Int) : Option (Txt) := match f with
| 0 => none
| n + 1 =>
(cond (decide (a_i1 < 10))
(chk (0 ≤ a_i1 ∧ a_i1 ≤ (IntKind.wrap .i64 (a_i1 + 1)) ∧ (IntKind.wrap .i64 (a_i1 + 1)) ≤ ((36 : Nat) : Int))
(some ((([48, 49, 50, 51, 52, 53, 54, 55, 56, 57, 97, 98, 99, 100, 101, 102, 103, 104, 105, 106, 107, 108, 109, 110, 111, 112, 113, 114, 115, 116, 117, 118, 119, 120, 121, 122].take ((IntKind.wrap .i64 (a_i1 + 1)).toNat)).drop a_i1.toNat))))
(chk (0 ≤ (IntKind.wrap .i64 (a_i1 * 2)) ∧ (IntKind.wrap .i64 (a_i1 * 2)) ≤ (IntKind.wrap .i64 ((IntKind.wrap .i64 (a_i1 * 2)) + 2)) ∧ (IntKind.wrap .i64 ((IntKind.wrap .i64 (a_i1 * 2)) + 2)) ≤ ((200 : Nat) : Int))
(some ((([48, 48, 48, 49, 48, 50, 48, 51, 48, 52, 48, 53, 48, 54, 48, 55, 48, 56, 48, 57, 49, 48, 49, 49, 49, 50, 49, 51, 49, 52, 49, 53, 49, 54, 49, 55, 49, 56, 49, 57, 50, 48, 50, 49, 50, 50, 50, 51, 50, 52, 50, 53, 50, 54, 50, 55, 50, 56, 50, 57, 51, 48, 51, 49, 51, 50, 51, 51, 51, 52, 51, 53, 51, 54, 51, 55, 51, 56, 51, 57, 52, 48, 52, 49, 52, 50, 52, 51, 52, 52, 52, 53, 52, 54, 52, 55, 52, 56, 52, 57, 53, 48, 53, 49, 53, 50, 53, 51, 53, 52, 53, 53, 53, 54, 53, 55, 53, 56, 53, 57, 54, 48, 54, 49, 54, 50, 54, 51, 54, 52, 54, 53, 54, 54, 54, 55, 54, 56, 54, 57, 55, 48, 55, 49, 55, 50, 55, 51, 55, 52, 55, 53, 55, 54, 55, 55, 55, 56, 55, 57, 56, 48, 56, 49, 56, 50, 56, 51, 56, 52, 56, 53, 56, 54, 56, 55, 56, 56, 56, 57, 57, 48, 57, 49, 57, 50, 57, 51, 57, 52, 57, 53, 57, 54, 57, 55, 57, 56, 57, 57].take ((IntKind.wrap .i64 ((IntKind.wrap .i64 (a_i1 * 2)) + 2)).toNat)).drop ((IntKind.wrap .i64 (a_i1 * 2)).toNat))))))
def G.internal_strconv_FormatInt.K1 (f : Nat) (x_u1 : Int) (z1 : List Int) : Option (Txt) := match f with
| 0 => none
| n + 1 =>
(Option.bind (G.internal_strconv_numDigits n x_u1) fun v2 =>
(none))
def G.internal_strconv_FormatInt.K2 (f : Nat) (x_u2 : Int) (z2 : List Int) : Option (Txt) := match f with
| 0 => none
| n + 1 =>
(Option.bind (G.internal_strconv_numDigits n x_u2) fun v3 =>
(none))
def G.internal_strconv_FormatInt (f : Nat) (a_i1 : Int) (a_base1 : Int) : Option (Txt) := match f with
| 0 => none
| n + 1 =>
(cond (a_base1 == 10)
(cond (decide (0 ≤ a_i1))
(cond (decide (a_i1 < 100))
(Option.bind (G.internal_strconv_small n a_i1) fun v1 =>
(some (v1)))
(cond (decide (a_i1 < 0))
(G.internal_strconv_FormatInt.K1 n (IntKind.wrap .u64 (0 - (IntKind.wrap .u64 (a_i1)))) (List.replicate 24 0))
(G.internal_strconv_FormatInt.K1 n (IntKind.wrap .u64 (a_i1)) (List.replicate 24 0))))
(cond (decide (a_i1 < 0))
(G.internal_strconv_FormatInt.K2 n (IntKind.wrap .u64 (0 - (IntKind.wrap .u64 (a_i1)))) (List.replicate 24 0))
(G.internal_strconv_FormatInt.K2 n (IntKind.wrap .u64 (a_i1)) (List.replicate 24 0))))
(none))
def G.internal_strconv_Itoa (f : Nat) (a_i1 : Int) : Option (Txt) := match f with
| 0 => none
| n + 1 =>
(Option.bind (G.internal_strconv_FormatInt n a_i1 10) fun v1 =>
(some (v1)))
def G.strconv_Itoa (f : Nat) (a_i1 : Int) : Option (Txt) := match f with
| 0 => none
| n + 1 =>
(Option.bind (G.internal_strconv_Itoa n a_i1) fun v1 =>
(some (v1)))
def G.impl_kidIndex.L1 (f : Nat) (a_n1 : NodeT) (a_step1 : Txt) (x_t2 : Int) : Option (Int × Bool) := match f with
| 0 => none
| n + 1 =>
(cond (decide (x_t2 < ((a_n1.Kids.length : Nat) : Int)))
(Option.bind (G.strconv_Itoa n x_t2) fun v4 =>
(cond (v4 == a_step1)
(some (x_t2, true))
(G.impl_kidIndex.L1 n a_n1 a_step1 (IntKind.wrap .i64 (x_t2 + 1)))))
(some (0, false)))
def G.impl_kidIndex (f : Nat) (a_n1 : NodeT) (a_step1 : Txt) : Option (Int × Bool) := match f with
| 0 => none
| n + 1 =>
(cond (a_n1.Kind == 4)
(Option.bind (G.slices_BinarySearch_string n a_n1.Names a_step1) fun v1 =>
(some (v1.1, v1.2)))
(cond (a_n1.Kind == 3)
(G.impl_kidIndex.L1 n a_n1 a_step1 0)
(some (0, false))))
def G.impl_findNode.L1 (f : Nat) (a_path1 : List Txt) (x_t2 : Int) (y6 : Int) (y7 : Int) (y8 : Txt) (y9 : List Txt) (y10 : List NodeT) : Option (NodeT × Bool) := match f with
| 0 => none
| n + 1 =>
(cond (decide (x_t2 < ((a_path1.length : Nat) : Int)))
(chk (0 ≤ x_t2 ∧ x_t2 < ((a_path1.length : Nat) : Int))
(Option.bind (G.impl_kidIndex n (NodeT.mk y6 y7 y8 y9 y10) (a_path1.getD x_t2.toNat default)) fun v3 =>
(cond v3.2
(chk (0 ≤ v3.1 ∧ v3.1 < ((y10.length : Nat) : Int))
(G.impl_findNode.L1 n a_path1 (IntKind.wrap .i64 (x_t2 + 1)) ((y10.getD v3.1.toNat default).Kind) ((y10.getD v3.1.toNat default).Num) ((y10.getD v3.1.toNat default).Text) ((y10.getD v3.1.toNat default).Names) ((y10.getD v3.1.toNat default).Kids)))
(some ((NodeT.mk 0 0 [] [] []), false)))))
(some ((NodeT.mk y6 y7 y8 y9 y10), true)))
def G.impl_findNode (f : Nat) (a_n1 : NodeT) (a_path1 : List Txt) : Option (NodeT × Bool) := match f with
| 0 => none
| n + 1 =>
(G.impl_findNode.L1 n a_path1 0 a_n1.Kind a_n1.Num a_n1.Text a_n1.Names a_n1.Kids)
def G.impl_isPath.L1 (f : Nat) (a_path1 : List Txt) (x_t2 : Int) : Option (Bool) := match f with
| 0 => none
| n + 1 =>
(cond (decide (x_t2 < ((a_path1.length : Nat) : Int)))
(chk (0 ≤ x_t2 ∧ x_t2 < ((a_path1.length : Nat) : Int))
(Option.bind (G.impl_isPlainText n (a_path1.getD x_t2.toNat default)) fun v3 =>
(cond v3
(G.impl_isPath.L1 n a_path1 (IntKind.wrap .i64 (x_t2 + 1)))
(some (false)))))
(some (true)))
def G.impl_isPath (f : Nat) (a_path1 : List Txt) : Option (Bool) := match f with
| 0 => none
| n + 1 =>
(cond (decide (5 < ((a_path1.length : Nat) : Int)))
(some (false))
(G.impl_isPath.L1 n a_path1 0))
def G.math_bits_Len (f : Nat) (a_x1 : Int) : Option (Int) := match f with
| 0 => none
| n + 1 =>
(Option.bind (G.math_bits_Len64 n a_x1) fun v1 =>
(some (v1)))
mutual
def G.slices_insertionSortCmpFunc_impl_Entry__impl_IndexStore_1.L4 (f : Nat) (a_a1 : Int) (a_b1 : Int) (x_i2 : Int) (x_j6 : Int) (z8 : List EntryT) : Option (List EntryT) := match f with
| 0 => none
| n + 1 =>
(cond (decide (a_a1 < x_j6))
(chk (0 ≤ x_j6 ∧ x_j6 < ((z8.length : Nat) : Int))
(chk (0 ≤ (IntKind.wrap .i64 (x_j6 - 1)) ∧ (IntKind.wrap .i64 (x_j6 - 1)) < ((z8.length : Nat) : Int))
(Option.bind (G.impl_IndexStore_1 n (EntryT.mk ((z8.getD x_j6.toNat default).Key) ((z8.getD x_j6.toNat default).Name)) (EntryT.mk ((z8.getD (IntKind.wrap .i64 (x_j6 - 1)).toNat default).Key) ((z8.getD (IntKind.wrap .i64 (x_j6 - 1)).toNat default).Name))) fun v9 =>
(cond (decide (v9 < 0))
(chk (0 ≤ (IntKind.wrap .i64 (x_j6 - 1)) ∧ (IntKind.wrap .i64 (x_j6 - 1)) < ((z8.length : Nat) : Int))
(chk (0 ≤ x_j6 ∧ x_j6 < ((z8.length : Nat) : Int))
(chk (0 ≤ x_j6 ∧ x_j6 < ((z8.length : Nat) : Int))
(chk (0 ≤ (IntKind.wrap .i64 (x_j6 - 1)) ∧ (IntKind.wrap .i64 (x_j6 - 1)) < ((z8.length : Nat) : Int))
(G.slices_insertionSortCmpFunc_impl_Entry__impl_IndexStore_1.L4 n a_a1 a_b1 x_i2 (IntKind.wrap .i64 (x_j6 - 1)) ((z8.set x_j6.toNat (EntryT.mk ((z8.getD (IntKind.wrap .i64 (x_j6 - 1)).toNat default).Key) ((z8.getD (IntKind.wrap .i64 (x_j6 - 1)).toNat default).Name))).set ((IntKind.wrap .i64 (x_j6 - 1)).toNat) (EntryT.mk ((z8.getD x_j6.toNat default).Key) ((z8.getD x_j6.toNat default).Name))))))))
(G.slices_insertionSortCmpFunc_impl_Entry__impl_IndexStore_1.L3 n a_a1 a_b1 (IntKind.wrap .i64 (x_i2 + 1)) z8)))))
(G.slices_insertionSortCmpFunc_impl_Entry__impl_IndexStore_1.L3 n a_a1 a_b1 (IntKind.wrap .i64 (x_i2 + 1)) z8))
def G.slices_insertionSortCmpFunc_impl_Entry__impl_IndexStore_1.L3 (f : Nat) (a_a1 : Int) (a_b1 : Int) (x_i2 : Int) (z6 : List EntryT) : Option (List EntryT) := match f with
| 0 => none
| n + 1 =>
(cond (decide (x_i2 < a_b1))
(G.slices_insertionSortCmpFunc_impl_Entry__impl_IndexStore_1.L4 n a_a1 a_b1 x_i2 x_i2 z6)
(some (z6)))
end
def G.slices_insertionSortCmpFunc_impl_Entry__impl_IndexStore_1 (f : Nat) (a_data1 : List EntryT) (a_a1 : Int) (a_b1 : Int) : Option (List EntryT) := match f with
| 0 => none
| n + 1 =>
(G.slices_insertionSortCmpFunc_impl_Entry__impl_IndexStore_1.L3 n a_a1 a_b1 (IntKind.wrap .i64 (a_a1 + 1)) a_data1)
mutual
def G.slices_pdqsortCmpFunc_impl_Entry__impl_IndexStore_1.K3 (f : Nat) : Option (List EntryT) := match f with
| 0 => none
| n + 1 =>
(none)
def G.slices_pdqsortCmpFunc_impl_Entry__impl_IndexStore_1.L2 (f : Nat) (a_data1 : List EntryT) (a_a1 : Int) (a_b1 : Int) (a_limit1 : Int) : Option (List EntryT) := match f with
| 0 => none
| n + 1 =>
(cond (decide ((IntKind.wrap .i64 (a_b1 - a_a1)) ≤ 12))
(Option.bind (G.slices_insertionSortCmpFunc_impl_Entry__impl_IndexStore_1 n a_data1 a_a1 a_b1) fun v2 =>
(chk (a_data1.length = v2.length)
(some (v2))))
(cond (a_limit1 == 0)
(none)
(G.slices_pdqsortCmpFunc_impl_Entry__impl_IndexStore_1.K3 n)))
def G.slices_pdqsortCmpFunc_impl_Entry__impl_IndexStore_1 (f : Nat) (a_data1 : List EntryT) (a_a1 : Int) (a_b1 : Int) (a_limit1 : Int) : Option (List EntryT) := match f with
| 0 => none
| n + 1 =>
(G.slices_pdqsortCmpFunc_impl_Entry__impl_IndexStore_1.L2 n a_data1 a_a1 a_b1 a_limit1)
end
def G.slices_SortFunc_impl_Entry__impl_IndexStore_1 (f : Nat) (a_x1 : List EntryT) : Option (List EntryT) := match f with
| 0 => none
| n + 1 =>
(Option.bind (G.math_bits_Len n (IntKind.wrap .u64 (((a_x1.length : Nat) : Int)))) fun v1 =>
(Option.bind (G.slices_pdqsortCmpFunc_impl_Entry__impl_IndexStore_1 n a_x1 0 ((a_x1.length : Nat) : Int) v1) fun v2 =>
(chk (a_x1.length = v2.length)
(some (v2)))))
def G.impl_IndexStore.L1 (f : Nat) (a_s1 : StoreT) (a_path1 : List Txt) (x_t2 : Int) (z2 : List EntryT) : Option (List EntryT) := match f with
| 0 => none
| n + 1 =>
(cond (decide (x_t2 < ((a_s1.Items.length : Nat) : Int)))
(chk (0 ≤ x_t2 ∧ x_t2 < ((a_s1.Items.length : Nat) : Int))
(Option.bind (G.impl_findNode n ((a_s1.Items.getD x_t2.toNat default).Node) a_path1) fun v7 =>
(cond v7.2
(Option.bind (G.impl_copyNode n v7.1) fun v8 =>
(chk ((z2.length + 1) * 103 ≤ 2 ^ 46)
(G.impl_IndexStore.L1 n a_s1 a_path1 (IntKind.wrap .i64 (x_t2 + 1)) (z2 ++ [(EntryT.mk v8 ((a_s1.Items.getD x_t2.toNat default).Name))]))))
(G.impl_IndexStore.L1 n a_s1 a_path1 (IntKind.wrap .i64 (x_t2 + 1)) z2))))
(Option.bind (G.slices_SortFunc_impl_Entry__impl_IndexStore_1 n z2) fun v9 =>
(chk (z2.length = v9.length)
(some (v9)))))
def G.impl_IndexStore (f : Nat) (a_s1 : StoreT) (a_path1 : List Txt) : Option (List EntryT) := match f with
| 0 => none
| n + 1 =>
(Option.bind (G.impl_ValidStore n a_s1) fun v1 =>
(cond v1
(Option.bind (G.impl_isPath n a_path1) fun v2 =>
(cond v2
(G.impl_IndexStore.L1 n a_s1 a_path1 0 [])
(some ([]))))
(some ([]))))
def G.impl_copyItem (f : Nat) (a_item1 : ItemT) : Option (ItemT) := match f with
| 0 => none
| n + 1 =>
(Option.bind (G.impl_copyNode n a_item1.Node) fun v1 =>
(some ((ItemT.mk a_item1.Name a_item1.Version v1))))
def G.impl_copyStore.L1 (f : Nat) (a_s1 : StoreT) (x_t2 : Int) (z3 : List ItemT) : Option (StoreT) := match f with
| 0 => none
| n + 1 =>
(cond (decide (x_t2 < ((a_s1.Items.length : Nat) : Int)))
(chk (0 ≤ x_t2 ∧ x_t2 < ((a_s1.Items.length : Nat) : Int))
(Option.bind (G.impl_copyItem n (ItemT.mk ((a_s1.Items.getD x_t2.toNat default).Name) ((a_s1.Items.getD x_t2.toNat default).Version) ((a_s1.Items.getD x_t2.toNat default).Node))) fun v3 =>
(chk (0 ≤ x_t2 ∧ x_t2 < ((z3.length : Nat) : Int))
(G.impl_copyStore.L1 n a_s1 (IntKind.wrap .i64 (x_t2 + 1)) (z3.set x_t2.toNat v3)))))
(some ((StoreT.mk z3 a_s1.Clock))))
def G.impl_copyStore (f : Nat) (a_s1 : StoreT) : Option (StoreT) := match f with
| 0 => none
| n + 1 =>
(cond (decide (0 < ((a_s1.Items.length : Nat) : Int)))
(chk (0 ≤ ((a_s1.Items.length : Nat) : Int) ∧ ((a_s1.Items.length : Nat) : Int) ≤ ((a_s1.Items.length : Nat) : Int) ∧ 104 * ((a_s1.Items.length : Nat) : Int) ≤ 2 ^ 47 ∧ ((a_s1.Items.length : Nat) : Int) ≤ 2 ^ 47)
(G.impl_copyStore.L1 n a_s1 0 (List.replicate a_s1.Items.length (ItemT.mk [] 0 (NodeT.mk 0 0 [] [] [])))))
(some ((StoreT.mk [] a_s1.Clock))))
def G.impl_findItem_1 (f : Nat) (a_item1 : ItemT) (a_name1 : Txt) : Option (Int) := match f with
| 0 => none
| n + 1 =>
(Option.bind (G.strings_Compare n a_item1.Name a_name1) fun v1 =>
(some (v1)))
def G.slices_BinarySearchFunc_impl_Item_string__impl_findItem_1.L1 (f : Nat) (a_x1 : List ItemT) (a_target1 : Txt) (x_i2 : Int) (x_j2 : Int) : Option (Int × Bool) := match f with
| 0 => none
| n + 1 =>
(cond (decide (x_i2 < x_j2))
(chk (0 ≤ (IntKind.wrap .i64 ((Int.fdiv (IntKind.wrap .u64 ((IntKind.wrap .i64 (x_i2 + x_j2)))) (2 ^ (min 1 (IntKind.bits .u64)))))) ∧ (IntKind.wrap .i64 ((Int.fdiv (IntKind.wrap .u64 ((IntKind.wrap .i64 (x_i2 + x_j2)))) (2 ^ (min 1 (IntKind.bits .u64)))))) < ((a_x1.length : Nat) : Int))
(Option.bind (G.impl_findItem_1 n (ItemT.mk ((a_x1.getD (IntKind.wrap .i64 ((Int.fdiv (IntKind.wrap .u64 ((IntKind.wrap .i64 (x_i2 + x_j2)))) (2 ^ (min 1 (IntKind.bits .u64)))))).toNat default).Name) ((a_x1.getD (IntKind.wrap .i64 ((Int.fdiv (IntKind.wrap .u64 ((IntKind.wrap .i64 (x_i2 + x_j2)))) (2 ^ (min 1 (IntKind.bits .u64)))))).toNat default).Version) ((a_x1.getD (IntKind.wrap .i64 ((Int.fdiv (IntKind.wrap .u64 ((IntKind.wrap .i64 (x_i2 + x_j2)))) (2 ^ (min 1 (IntKind.bits .u64)))))).toNat default).Node)) a_target1) fun v3 =>
(cond (decide (v3 < 0))
(G.slices_BinarySearchFunc_impl_Item_string__impl_findItem_1.L1 n a_x1 a_target1 (IntKind.wrap .i64 ((IntKind.wrap .i64 ((Int.fdiv (IntKind.wrap .u64 ((IntKind.wrap .i64 (x_i2 + x_j2)))) (2 ^ (min 1 (IntKind.bits .u64)))))) + 1)) x_j2)
(G.slices_BinarySearchFunc_impl_Item_string__impl_findItem_1.L1 n a_x1 a_target1 x_i2 (IntKind.wrap .i64 ((Int.fdiv (IntKind.wrap .u64 ((IntKind.wrap .i64 (x_i2 + x_j2)))) (2 ^ (min 1 (IntKind.bits .u64))))))))))
(cond (decide (x_i2 < ((a_x1.length : Nat) : Int)))
(chk (0 ≤ x_i2 ∧ x_i2 < ((a_x1.length : Nat) : Int))
(Option.bind (G.impl_findItem_1 n (ItemT.mk ((a_x1.getD x_i2.toNat default).Name) ((a_x1.getD x_i2.toNat default).Version) ((a_x1.getD x_i2.toNat default).Node)) a_target1) fun v4 =>
(some (x_i2, (v4 == 0)))))
(some (x_i2, false))))
def G.slices_BinarySearchFunc_impl_Item_string__impl_findItem_1 (f : Nat) (a_x1 : List ItemT) (a_target1 : Txt) : Option (Int × Bool) := match f with
| 0 => none
| n + 1 =>
(G.slices_BinarySearchFunc_impl_Item_string__impl_findItem_1.L1 n a_x1 a_target1 0 ((a_x1.length : Nat) : Int))
def G.impl_findItem (f : Nat) (a_items1 : List ItemT) (a_name1 : Txt) : Option (Int × Bool) := match f with
| 0 => none
| n + 1 =>
(Option.bind (G.slices_BinarySearchFunc_impl_Item_string__impl_findItem_1 n a_items1 a_name1) fun v1 =>
(some (v1.1, v1.2)))
def G.slices_Insert_impl_Item (f : Nat) (s : List ItemT) (i : Int) (v : List ItemT) : Option (List ItemT) := match f with
| 0 => none
| _ + 1 => chk (0 ≤ i ∧ i ≤ ((s.length : Nat) : Int) ∧ v.length = 1 ∧ (s.length + 1) * 112 ≤ 2 ^ 46) (some (s.take i.toNat ++ v ++ s.drop i.toNat))
def G.impl_putAt (f : Nat) (a_items1 : List ItemT) (a_item1 : ItemT) : Option (List ItemT) := match f with
| 0 => none
| n + 1 =>
(Option.bind (G.impl_findItem n a_items1 a_item1.Name) fun v1 =>
(cond v1.2
(chk (0 ≤ v1.1 ∧ v1.1 < ((a_items1.length : Nat) : Int))
(some ((a_items1.set v1.1.toNat a_item1))))
(Option.bind (G.slices_Insert_impl_Item n a_items1 v1.1 [a_item1]) fun v2 =>
(some (v2)))))
def G.impl_PutItem (f : Nat) (a_s1 : StoreT) (a_name1 : Txt) (a_n1 : NodeT) : Option (StoreT × Bool) := match f with
| 0 => none
| n + 1 =>
(Option.bind (G.impl_ValidStore n a_s1) fun v1 =>
(cond v1
(Option.bind (G.impl_isName n a_name1) fun v2 =>
(cond v2
(Option.bind (G.impl_ValidNode n a_n1) fun v3 =>
(cond v3
(Option.bind (G.impl_copyStore n a_s1) fun v4 =>
(Option.bind (G.impl_copyNode n a_n1) fun v5 =>
(Option.bind (G.impl_putAt n v4.Items (ItemT.mk a_name1 (IntKind.wrap .i64 (v4.Clock + 1)) v5)) fun v6 =>
(Option.bind (G.impl_ValidStore n (StoreT.mk v6 (IntKind.wrap .i64 (v4.Clock + 1)))) fun v7 =>
(cond v7
(some ((StoreT.mk v6 (IntKind.wrap .i64 (v4.Clock + 1))), true))
(some ((StoreT.mk [] 0), false)))))))
(some ((StoreT.mk [] 0), false))))
(some ((StoreT.mk [] 0), false))))
(some ((StoreT.mk [] 0), false))))
def G.laws_equalTexts.L1 (f : Nat) (a_a1 : List Txt) (a_b1 : List Txt) (x_i2 : Int) : Option (Bool) := match f with
| 0 => none
| n + 1 =>
(cond (decide (x_i2 < ((a_a1.length : Nat) : Int)))
(chk (0 ≤ x_i2 ∧ x_i2 < ((a_a1.length : Nat) : Int))
(chk (0 ≤ x_i2 ∧ x_i2 < ((a_b1.length : Nat) : Int))
(cond ((a_a1.getD x_i2.toNat default) == (a_b1.getD x_i2.toNat default))
(G.laws_equalTexts.L1 n a_a1 a_b1 (IntKind.wrap .i64 (x_i2 + 1)))
(some (false)))))
(some (true)))
def G.laws_equalTexts (f : Nat) (a_a1 : List Txt) (a_b1 : List Txt) : Option (Bool) := match f with
| 0 => none
| n + 1 =>
(cond (((a_a1.length : Nat) : Int) != ((a_b1.length : Nat) : Int))
(some (false))
(G.laws_equalTexts.L1 n a_a1 a_b1 0))
mutual
def G.laws_equalNode (f : Nat) (a_a1 : NodeT) (a_b1 : NodeT) : Option (Bool) := match f with
| 0 => none
| n + 1 =>
(cond (a_a1.Kind == a_b1.Kind)
(cond (a_a1.Num == a_b1.Num)
(cond (a_a1.Text == a_b1.Text)
(Option.bind (G.laws_equalTexts n a_a1.Names a_b1.Names) fun v1 =>
(cond v1
(Option.bind (G.laws_equalNodes n a_a1.Kids a_b1.Kids) fun v2 =>
(some (v2)))
(some (false))))
(some (false)))
(some (false)))
(some (false)))
def G.laws_equalNodes.L1 (f : Nat) (a_a1 : List NodeT) (a_b1 : List NodeT) (x_i2 : Int) : Option (Bool) := match f with
| 0 => none
| n + 1 =>
(cond (decide (x_i2 < ((a_a1.length : Nat) : Int)))
(chk (0 ≤ x_i2 ∧ x_i2 < ((a_a1.length : Nat) : Int))
(chk (0 ≤ x_i2 ∧ x_i2 < ((a_b1.length : Nat) : Int))
(Option.bind (G.laws_equalNode n (a_a1.getD x_i2.toNat default) (a_b1.getD x_i2.toNat default)) fun v3 =>
(cond v3
(G.laws_equalNodes.L1 n a_a1 a_b1 (IntKind.wrap .i64 (x_i2 + 1)))
(some (false))))))
(some (true)))
def G.laws_equalNodes (f : Nat) (a_a1 : List NodeT) (a_b1 : List NodeT) : Option (Bool) := match f with
| 0 => none
| n + 1 =>
(cond (((a_a1.length : Nat) : Int) != ((a_b1.length : Nat) : Int))
(some (false))
(G.laws_equalNodes.L1 n a_a1 a_b1 0))
end
def G.laws_equalEntries.L1 (f : Nat) (a_a1 : List EntryT) (a_b1 : List EntryT) (x_i2 : Int) : Option (Bool) := match f with
| 0 => none
| n + 1 =>
(cond (decide (x_i2 < ((a_a1.length : Nat) : Int)))
(chk (0 ≤ x_i2 ∧ x_i2 < ((a_a1.length : Nat) : Int))
(chk (0 ≤ x_i2 ∧ x_i2 < ((a_b1.length : Nat) : Int))
(cond ((a_a1.getD x_i2.toNat default).Name == (a_b1.getD x_i2.toNat default).Name)
(chk (0 ≤ x_i2 ∧ x_i2 < ((a_a1.length : Nat) : Int))
(chk (0 ≤ x_i2 ∧ x_i2 < ((a_b1.length : Nat) : Int))
(Option.bind (G.laws_equalNode n ((a_a1.getD x_i2.toNat default).Key) ((a_b1.getD x_i2.toNat default).Key)) fun v3 =>
(cond v3
(G.laws_equalEntries.L1 n a_a1 a_b1 (IntKind.wrap .i64 (x_i2 + 1)))
(some (false))))))
(some (false)))))
(some (true)))
def G.laws_equalEntries (f : Nat) (a_a1 : List EntryT) (a_b1 : List EntryT) : Option (Bool) := match f with
| 0 => none
| n + 1 =>
(cond (((a_a1.length : Nat) : Int) != ((a_b1.length : Nat) : Int))
(some (false))
(G.laws_equalEntries.L1 n a_a1 a_b1 0))
def G.laws_none (f : Nat) : Option (NodeT) := match f with
| 0 => none
| n + 1 =>
(some ((NodeT.mk 0 0 [] [] [])))
mutual
def G.spec_copyNode.L1 (f : Nat) (a_n1 : NodeT) (x_i2 : Int) (z2 : List NodeT) : Option (NodeT) := match f with
| 0 => none
| n + 1 =>
(cond (decide (x_i2 < ((a_n1.Kids.length : Nat) : Int)))
(chk (0 ≤ x_i2 ∧ x_i2 < ((a_n1.Kids.length : Nat) : Int))
(Option.bind (G.spec_copyNode n (a_n1.Kids.getD x_i2.toNat default)) fun v3 =>
(chk ((z2.length + 1) * 86 ≤ 2 ^ 46)
(G.spec_copyNode.L1 n a_n1 (IntKind.wrap .i64 (x_i2 + 1)) (z2 ++ [v3])))))
(chk (a_n1.Names.length * 18 ≤ 2 ^ 46)
(some ((NodeT.mk a_n1.Kind a_n1.Num a_n1.Text a_n1.Names z2)))))
def G.spec_copyNode (f : Nat) (a_n1 : NodeT) : Option (NodeT) := match f with
| 0 => none
| n + 1 =>
(G.spec_copyNode.L1 n a_n1 0 [])
end
def G.spec_reader_pick (f : Nat) (p_r1 : ReaderT) (a_n1 : Int) : Option (Int × ReaderT) := match f with
| 0 => none
| n + 1 =>
(cond (decide (a_n1 < 1))
(some (0, (ReaderT.mk p_r1.b (IntKind.wrap .i64 (p_r1.p + 1)))))
(cond (((p_r1.b.length : Nat) : Int) == 0)
(some (0, (ReaderT.mk p_r1.b (IntKind.wrap .i64 (p_r1.p + 1)))))
(cond (decide ((IntKind.wrap .i64 ((IntKind.wrap .i64 (p_r1.p + 1)) - 1)) < ((p_r1.b.length : Nat) : Int)))
(chk (0 ≤ (IntKind.wrap .i64 ((IntKind.wrap .i64 (p_r1.p + 1)) - 1)) ∧ (IntKind.wrap .i64 ((IntKind.wrap .i64 (p_r1.p + 1)) - 1)) < ((p_r1.b.length : Nat) : Int))
(chk (a_n1 ≠ 0)
(some ((Int.tmod (IntKind.wrap .i64 ((p_r1.b.getD (IntKind.wrap .i64 ((IntKind.wrap .i64 (p_r1.p + 1)) - 1)).toNat default))) a_n1), (ReaderT.mk p_r1.b (IntKind.wrap .i64 (p_r1.p + 1)))))))
(chk (((p_r1.b.length : Nat) : Int) ≠ 0)
(chk (0 ≤ (Int.tmod (IntKind.wrap .i64 ((IntKind.wrap .i64 (p_r1.p + 1)) - 1)) ((p_r1.b.length : Nat) : Int)) ∧ (Int.tmod (IntKind.wrap .i64 ((IntKind.wrap .i64 (p_r1.p + 1)) - 1)) ((p_r1.b.length : Nat) : Int)) < ((p_r1.b.length : Nat) : Int))
(chk (((p_r1.b.length : Nat) : Int) ≠ 0)
(chk (0 ≤ (Int.tmod (IntKind.wrap .i64 ((IntKind.wrap .i64 ((IntKind.wrap .i64 ((IntKind.wrap .i64 (p_r1.p + 1)) - 1)) * 7)) + 3)) ((p_r1.b.length : Nat) : Int)) ∧ (Int.tmod (IntKind.wrap .i64 ((IntKind.wrap .i64 ((IntKind.wrap .i64 ((IntKind.wrap .i64 (p_r1.p + 1)) - 1)) * 7)) + 3)) ((p_r1.b.length : Nat) : Int)) < ((p_r1.b.length : Nat) : Int))
(chk (((p_r1.b.length : Nat) : Int) ≠ 0)
(chk (a_n1 ≠ 0)
(some ((Int.tmod (IntKind.wrap .i64 (((BitVec.ofInt (IntKind.bits .i64) (IntKind.wrap .i64 ((IntKind.wrap .i64 ((IntKind.wrap .i64 ((IntKind.wrap .i64 ((IntKind.wrap .i64 ((p_r1.b.getD (Int.tmod (IntKind.wrap .i64 ((IntKind.wrap .i64 (p_r1.p + 1)) - 1)) ((p_r1.b.length : Nat) : Int)).toNat default))) * 131)) + (IntKind.wrap .i64 ((IntKind.wrap .i64 ((p_r1.b.getD (Int.tmod (IntKind.wrap .i64 ((IntKind.wrap .i64 ((IntKind.wrap .i64 ((IntKind.wrap .i64 (p_r1.p + 1)) - 1)) * 7)) + 3)) ((p_r1.b.length : Nat) : Int)).toNat default))) * 1117)))) + (IntKind.wrap .i64 ((IntKind.wrap .i64 ((IntKind.wrap .i64 (p_r1.p + 1)) - 1)) * 29)))) + (IntKind.wrap .i64 ((IntKind.wrap .i64 (Int.tdiv (IntKind.wrap .i64 ((IntKind.wrap .i64 (p_r1.p + 1)) - 1)) ((p_r1.b.length : Nat) : Int))) * 53)))) ^^^ BitVec.ofInt (IntKind.bits .i64) (IntKind.wrap .i64 (Int.tdiv (IntKind.wrap .i64 ((IntKind.wrap .i64 ((IntKind.wrap .i64 ((IntKind.wrap .i64 ((IntKind.wrap .i64 ((p_r1.b.getD (Int.tmod (IntKind.wrap .i64 ((IntKind.wrap .i64 (p_r1.p + 1)) - 1)) ((p_r1.b.length : Nat) : Int)).toNat default))) * 131)) + (IntKind.wrap .i64 ((IntKind.wrap .i64 ((p_r1.b.getD (Int.tmod (IntKind.wrap .i64 ((IntKind.wrap .i64 ((IntKind.wrap .i64 ((IntKind.wrap .i64 (p_r1.p + 1)) - 1)) * 7)) + 3)) ((p_r1.b.length : Nat) : Int)).toNat default))) * 1117)))) + (IntKind.wrap .i64 ((IntKind.wrap .i64 ((IntKind.wrap .i64 (p_r1.p + 1)) - 1)) * 29)))) + (IntKind.wrap .i64 ((IntKind.wrap .i64 (Int.tdiv (IntKind.wrap .i64 ((IntKind.wrap .i64 (p_r1.p + 1)) - 1)) ((p_r1.b.length : Nat) : Int))) * 53)))) 64))).toNat : Int))) a_n1), (ReaderT.mk p_r1.b (IntKind.wrap .i64 (p_r1.p + 1))))))))))))))
def G.spec_reader_one (f : Nat) (p_r1 : ReaderT) (a_list1 : List Int) : Option (Int × ReaderT) := match f with
| 0 => none
| n + 1 =>
(Option.bind (G.spec_reader_pick n p_r1 ((a_list1.length : Nat) : Int)) fun v1 =>
(chk (0 ≤ v1.1 ∧ v1.1 < ((a_list1.length : Nat) : Int))
(some ((a_list1.getD v1.1.toNat default), v1.2))))
mutual
def G.spec_decimal (f : Nat) (a_n1 : Int) : Option (Txt) := match f with
| 0 => none
| n + 1 =>
(cond (decide (a_n1 < 0))
(cond (a_n1 == (IntKind.wrap .i64 (0 - a_n1)))
(some ([45, 57, 50, 50, 51, 51, 55, 50, 48, 51, 54, 56, 53, 52, 55, 55, 53, 56, 48, 56]))
(Option.bind (G.spec_decimal n (IntKind.wrap .i64 (0 - a_n1))) fun v1 =>
(chk (1 + v1.length ≤ maxLen)
(some (([45] ++ v1))))))
(cond (decide (a_n1 < 10))
(chk (1 ≤ maxLen)
(some ([UInt8.ofNat (IntKind.wrap .u8 ((IntKind.wrap .i64 (48 + a_n1)))).toNat])))
(Option.bind (G.spec_decimal n (IntKind.wrap .i64 (Int.tdiv a_n1 10))) fun v2 =>
(chk (1 ≤ maxLen)
(chk (v2.length + 1 ≤ maxLen)
(some ((v2 ++ [UInt8.ofNat (IntKind.wrap .u8 ((IntKind.wrap .i64 (48 + (Int.tmod a_n1 10))))).toNat]))))))))
end
def G.spec_place.L1 (f : Nat) (a_n1 : NodeT) (a_step1 : Txt) (x_i2 : Int) : Option (Int) := match f with
| 0 => none
| n + 1 =>
(cond (decide (x_i2 < ((a_n1.Kids.length : Nat) : Int)))
(cond (a_n1.Kind == 4)
(chk (0 ≤ x_i2 ∧ x_i2 < ((a_n1.Names.length : Nat) : Int))
(cond ((a_n1.Names.getD x_i2.toNat default) == a_step1)
(some (x_i2))
(cond (a_n1.Kind == 3)
(Option.bind (G.spec_decimal n x_i2) fun v5 =>
(cond (v5 == a_step1)
(some (x_i2))
(G.spec_place.L1 n a_n1 a_step1 (IntKind.wrap .i64 (x_i2 + 1)))))
(G.spec_place.L1 n a_n1 a_step1 (IntKind.wrap .i64 (x_i2 + 1))))))
(cond (a_n1.Kind == 3)
(Option.bind (G.spec_decimal n x_i2) fun v6 =>
(cond (v6 == a_step1)
(some (x_i2))
(G.spec_place.L1 n a_n1 a_step1 (IntKind.wrap .i64 (x_i2 + 1)))))
(G.spec_place.L1 n a_n1 a_step1 (IntKind.wrap .i64 (x_i2 + 1)))))
(some ((-1))))
def G.spec_place (f : Nat) (a_n1 : NodeT) (a_step1 : Txt) : Option (Int) := match f with
| 0 => none
| n + 1 =>
(G.spec_place.L1 n a_n1 a_step1 0)
def G.spec_slot.L1 (f : Nat) (a_n1 : NodeT) (a_step1 : Txt) (x_i2 : Int) : Option (Int × Bool) := match f with
| 0 => none
| n + 1 =>
(cond (a_n1.Kind == 4)
(cond (decide (x_i2 ≤ ((a_n1.Kids.length : Nat) : Int)))
(cond (x_i2 == ((a_n1.Kids.length : Nat) : Int))
(some (x_i2, false))
(chk (0 ≤ x_i2 ∧ x_i2 < ((a_n1.Names.length : Nat) : Int))
(cond (Op.bytesLess a_step1 (a_n1.Names.getD x_i2.toNat default))
(some (x_i2, false))
(G.spec_slot.L1 n a_n1 a_step1 (IntKind.wrap .i64 (x_i2 + 1))))))
(some ((-1), false)))
(some ((-1), false)))
def G.spec_slot.L2 (f : Nat) (a_n1 : NodeT) (a_step1 : Txt) (x_i4 : Int) : Option (Int × Bool) := match f with
| 0 => none
| n + 1 =>
(cond (a_n1.Kind == 4)
(cond (decide (x_i4 ≤ ((a_n1.Kids.length : Nat) : Int)))
(cond (x_i4 == ((a_n1.Kids.length : Nat) : Int))
(some (x_i4, false))
(chk (0 ≤ x_i4 ∧ x_i4 < ((a_n1.Names.length : Nat) : Int))
(cond (Op.bytesLess a_step1 (a_n1.Names.getD x_i4.toNat default))
(some (x_i4, false))
(G.spec_slot.L2 n a_n1 a_step1 (IntKind.wrap .i64 (x_i4 + 1))))))
(some ((-1), false)))
(some ((-1), false)))
def G.spec_slot (f : Nat) (a_n1 : NodeT) (a_step1 : Txt) : Option (Int × Bool) := match f with
| 0 => none
| n + 1 =>
(Option.bind (G.spec_place n a_n1 a_step1) fun v1 =>
(cond (decide (0 ≤ v1))
(some (v1, (a_n1.Kind == 4)))
(cond (a_n1.Kind == 3)
(cond (a_step1 == [45])
(some (((a_n1.Kids.length : Nat) : Int), false))
(Option.bind (G.spec_decimal n ((a_n1.Kids.length : Nat) : Int)) fun v2 =>
(cond (a_step1 == v2)
(some (((a_n1.Kids.length : Nat) : Int), false))
(G.spec_slot.L1 n a_n1 a_step1 0))))
(G.spec_slot.L2 n a_n1 a_step1 0))))
def G.spec_withKid (f : Nat) (a_n1 : NodeT) (a_k1 : Int) (a_kid1 : NodeT) : Option (NodeT) := match f with
| 0 => none
| n + 1 =>
(Option.bind (G.spec_copyNode n a_n1) fun v1 =>
(Option.bind (G.spec_copyNode n a_kid1) fun v2 =>
(chk (0 ≤ a_k1 ∧ a_k1 < ((v1.Kids.length : Nat) : Int))
(some ((NodeT.mk v1.Kind v1.Num v1.Text v1.Names (v1.Kids.set a_k1.toNat v2)))))))
def G.spec_addHere (f : Nat) (a_n1 : NodeT) (a_step1 : Txt) (a_value1 : NodeT) : Option (NodeT × Bool) := match f with
| 0 => none
| n + 1 =>
(Option.bind (G.spec_slot n a_n1 a_step1) fun v1 =>
(cond (decide (v1.1 < 0))
(some ((NodeT.mk 0 0 [] [] []), false))
(cond v1.2
(Option.bind (G.spec_withKid n a_n1 v1.1 a_value1) fun v2 =>
(some (v2, true)))
(Option.bind (G.spec_copyNode n a_n1) fun v3 =>
(chk (0 ≤ 0 ∧ 0 ≤ v1.1 ∧ v1.1 ≤ ((v3.Kids.length : Nat) : Int))
(chk (((v3.Kids.take v1.1.toNat).length) * 86 ≤ 2 ^ 46)
(Option.bind (G.spec_copyNode n a_value1) fun v4 =>
(chk (((v3.Kids.take v1.1.toNat).length + 1) * 86 ≤ 2 ^ 46)
(chk (0 ≤ v1.1 ∧ v1.1 ≤ ((v3.Kids.length : Nat) : Int) ∧ ((v3.Kids.length : Nat) : Int) ≤ ((v3.Kids.length : Nat) : Int))
(chk ((((v3.Kids.take v1.1.toNat).length + 1) + (v3.Kids.drop v1.1.toNat).length) * 86 ≤ 2 ^ 46)
(cond (a_n1.Kind == 3)
(some ((NodeT.mk a_n1.Kind 0 [] [] (((v3.Kids.take v1.1.toNat) ++ [v4]) ++ (v3.Kids.drop v1.1.toNat))), true))
(chk (0 ≤ 0 ∧ 0 ≤ v1.1 ∧ v1.1 ≤ ((v3.Names.length : Nat) : Int))
(chk (((v3.Names.take v1.1.toNat).length) * 18 ≤ 2 ^ 46)
(chk (((v3.Names.take v1.1.toNat).length + 1) * 18 ≤ 2 ^ 46)
(chk (0 ≤ v1.1 ∧ v1.1 ≤ ((v3.Names.length : Nat) : Int) ∧ ((v3.Names.length : Nat) : Int) ≤ ((v3.Names.length : Nat) : Int))
(chk ((((v3.Names.take v1.1.toNat).length + 1) + (v3.Names.drop v1.1.toNat).length) * 18 ≤ 2 ^ 46)
(some ((NodeT.mk a_n1.Kind 0 [] (((v3.Names.take v1.1.toNat) ++ [a_step1]) ++ (v3.Names.drop v1.1.toNat)) (((v3.Kids.take v1.1.toNat) ++ [v4]) ++ (v3.Kids.drop v1.1.toNat))), true))))))))))))))))))
def G.spec_reader_of (f : Nat) (p_r1 : ReaderT) (a_list1 : List Txt) : Option (Txt × ReaderT) := match f with
| 0 => none
| n + 1 =>
(Option.bind (G.spec_reader_pick n p_r1 ((a_list1.length : Nat) : Int)) fun v1 =>
(chk (0 ≤ v1.1 ∧ v1.1 < ((a_list1.length : Nat) : Int))
(some ((a_list1.getD v1.1.toNat default), v1.2))))
def G.spec_someText (f : Nat) (p_r1 : ReaderT) : Option (Txt × ReaderT) := match f with
| 0 => none
| n + 1 =>
(Option.bind (G.spec_reader_of n p_r1 [[97], [98], [], [97, 98, 99], [97, 47, 98], [126], [120, 32, 121], [34, 113, 34], [98, 97, 99, 107, 92, 115], [48], [49], [97, 98, 99, 100, 101, 102, 103, 104, 105, 106, 107, 108]]) fun v1 =>
(some (v1.1, v1.2)))
def G.spec_someName (f : Nat) (p_r1 : ReaderT) : Option (Txt × ReaderT) := match f with
| 0 => none
| n + 1 =>
(Option.bind (G.spec_reader_of n p_r1 [[97], [98], [99], [100], [97, 47, 98], [126, 120], [], [107]]) fun v1 =>
(some (v1.1, v1.2)))
mutual
def G.spec_randomMap.L1 (f : Nat) (a_depth1 : Int) (x_n2 : Int) (y8 : List Int) (y9 : Int) (y10 : Int) (y11 : Int) (y12 : Txt) (y13 : List Txt) (y14 : List NodeT) : Option (NodeT × ReaderT) := match f with
| 0 => none
| n + 1 =>
(cond (decide (0 < x_n2))
(Option.bind (G.spec_someName n (ReaderT.mk y8 y9)) fun v10 =>
(Option.bind (G.spec_randomNode n v10.2 (IntKind.wrap .i64 (a_depth1 - 1))) fun v11 =>
(Option.bind (G.spec_place n (NodeT.mk y10 y11 y12 y13 y14) v10.1) fun v12 =>
(cond (decide (v12 < 0))
(Option.bind (G.spec_addHere n (NodeT.mk y10 y11 y12 y13 y14) v10.1 v11.1) fun v13 =>
(G.spec_randomMap.L1 n a_depth1 (IntKind.wrap .i64 (x_n2 - 1)) v11.2.b v11.2.p v13.1.Kind v13.1.Num v13.1.Text v13.1.Names v13.1.Kids))
(G.spec_randomMap.L1 n a_depth1 (IntKind.wrap .i64 (x_n2 - 1)) v11.2.b v11.2.p y10 y11 y12 y13 y14)))))
(some ((NodeT.mk y10 y11 y12 y13 y14), (ReaderT.mk y8 y9))))
def G.spec_randomMap (f : Nat) (p_r1 : ReaderT) (a_depth1 : Int) : Option (NodeT × ReaderT) := match f with
| 0 => none
| n + 1 =>
(Option.bind (G.spec_reader_one n p_r1 [2, 3, 1, 0, 4]) fun v1 =>
(G.spec_randomMap.L1 n a_depth1 v1.1 v1.2.b v1.2.p 4 0 [] [] []))
def G.spec_randomNode.L2 (f : Nat) (a_depth1 : Int) (x_kind1 : Int) (x_n2 : Int) (y5 : List Int) (y6 : Int) (z2 : List NodeT) : Option (NodeT × ReaderT) := match f with
| 0 => none
| n + 1 =>
(cond (decide (0 < x_n2))
(Option.bind (G.spec_randomNode n (ReaderT.mk y5 y6) (IntKind.wrap .i64 (a_depth1 - 1))) fun v9 =>
(chk ((z2.length + 1) * 86 ≤ 2 ^ 46)
(G.spec_randomNode.L2 n a_depth1 x_kind1 (IntKind.wrap .i64 (x_n2 - 1)) v9.2.b v9.2.p (z2 ++ [v9.1]))))
(some ((NodeT.mk x_kind1 0 [] [] z2), (ReaderT.mk y5 y6))))
def G.spec_randomNode.K1 (f : Nat) (a_depth1 : Int) (x_kind1 : Int) (y1 : List Int) (y2 : Int) : Option (NodeT × ReaderT) := match f with
| 0 => none
| n + 1 =>
(cond (x_kind1 == 1)
(Option.bind (G.spec_reader_pick n (ReaderT.mk y1 y2) 250) fun v3 =>
(Option.bind (G.spec_reader_one n v3.2 [0, 1, 2, 7, (-7), 999999, (-999999), v3.1]) fun v4 =>
(some ((NodeT.mk x_kind1 v4.1 [] [] []), v4.2))))
(cond (x_kind1 == 2)
(Option.bind (G.spec_someText n (ReaderT.mk y1 y2)) fun v5 =>
(some ((NodeT.mk x_kind1 0 v5.1 [] []), v5.2)))
(cond (x_kind1 == 3)
(Option.bind (G.spec_reader_pick n (ReaderT.mk y1 y2) 4) fun v6 =>
(G.spec_randomNode.L2 n a_depth1 x_kind1 v6.1 v6.2.b v6.2.p []))
(cond (x_kind1 == 4)
(Option.bind (G.spec_randomMap n (ReaderT.mk y1 y2) a_depth1) fun v10 =>
(some (v10.1, v10.2)))
(some ((NodeT.mk 0 0 [] [] []), (ReaderT.mk y1 y2)))))))
def G.spec_randomNode (f : Nat) (p_r1 : ReaderT) (a_depth1 : Int) : Option (NodeT × ReaderT) := match f with
| 0 => none
| n + 1 =>
(Option.bind (G.spec_reader_pick n p_r1 5) fun v1 =>
(cond (decide (a_depth1 ≤ 1))
(Option.bind (G.spec_reader_pick n v1.2 3) fun v11 =>
(G.spec_randomNode.K1 n a_depth1 v11.1 v11.2.b v11.2.p))
(G.spec_randomNode.K1 n a_depth1 v1.1 v1.2.b v1.2.p)))
end
mutual
def G.spec_count.L1 (f : Nat) (a_n1 : NodeT) (x_k2 : Int) (x_i2 : Int) : Option (Int) := match f with
| 0 => none
| n + 1 =>
(cond (decide (x_i2 < ((a_n1.Kids.length : Nat) : Int)))
(chk (0 ≤ x_i2 ∧ x_i2 < ((a_n1.Kids.length : Nat) : Int))
(Option.bind (G.spec_count n (a_n1.Kids.getD x_i2.toNat default)) fun v3 =>
(G.spec_count.L1 n a_n1 (IntKind.wrap .i64 (x_k2 + v3)) (IntKind.wrap .i64 (x_i2 + 1)))))
(some (x_k2)))
def G.spec_count (f : Nat) (a_n1 : NodeT) : Option (Int) := match f with
| 0 => none
| n + 1 =>
(G.spec_count.L1 n a_n1 1 0)
end
def G.spec_inRange (f : Nat) (a_n1 : Int) (a_low1 : Int) (a_high1 : Int) : Option (Bool) := match f with
| 0 => none
| n + 1 =>
(cond (decide (a_low1 ≤ a_n1))
(some ((decide (a_n1 ≤ a_high1))))
(some (false)))
def G.spec_validText.L1 (f : Nat) (a_s1 : Txt) (x_i2 : Int) : Option (Bool) := match f with
| 0 => none
| n + 1 =>
(cond (decide (x_i2 < ((a_s1.length : Nat) : Int)))
(chk (0 ≤ x_i2 ∧ x_i2 < ((a_s1.length : Nat) : Int))
(Option.bind (G.spec_inRange n (IntKind.wrap .i64 ((((a_s1.getD x_i2.toNat 0).toNat : Nat) : Int))) 32 126) fun v3 =>
(cond v3
(G.spec_validText.L1 n a_s1 (IntKind.wrap .i64 (x_i2 + 1)))
(some (false)))))
(some ((decide (((a_s1.length : Nat) : Int) ≤ 12)))))
def G.spec_validText (f : Nat) (a_s1 : Txt) : Option (Bool) := match f with
| 0 => none
| n + 1 =>
(G.spec_validText.L1 n a_s1 0)
def G.spec_names.L1 (f : Nat) (a_list1 : List Txt) (x_i2 : Int) : Option (Bool) := match f with
| 0 => none
| n + 1 =>
(cond (decide (x_i2 < ((a_list1.length : Nat) : Int)))
(chk (0 ≤ x_i2 ∧ x_i2 < ((a_list1.length : Nat) : Int))
(Option.bind (G.spec_validText n (a_list1.getD x_i2.toNat default)) fun v3 =>
(cond v3
(cond (decide (0 < x_i2))
(chk (0 ≤ x_i2 ∧ x_i2 < ((a_list1.length : Nat) : Int))
(chk (0 ≤ (IntKind.wrap .i64 (x_i2 - 1)) ∧ (IntKind.wrap .i64 (x_i2 - 1)) < ((a_list1.length : Nat) : Int))
(cond (Op.bytesLess (a_list1.getD x_i2.toNat default) (a_list1.getD (IntKind.wrap .i64 (x_i2 - 1)).toNat default))
(some (false))
(cond ((a_list1.getD x_i2.toNat default) == (a_list1.getD (IntKind.wrap .i64 (x_i2 - 1)).toNat default))
(some (false))
(G.spec_names.L1 n a_list1 (IntKind.wrap .i64 (x_i2 + 1)))))))
(G.spec_names.L1 n a_list1 (IntKind.wrap .i64 (x_i2 + 1))))
(some (false)))))
(some (true)))
def G.spec_names (f : Nat) (a_list1 : List Txt) : Option (Bool) := match f with
| 0 => none
| n + 1 =>
(G.spec_names.L1 n a_list1 0)
mutual
def G.spec_kids.L1 (f : Nat) (a_n1 : NodeT) (a_depth1 : Int) (x_i2 : Int) : Option (Bool) := match f with
| 0 => none
| n + 1 =>
(cond (decide (x_i2 < ((a_n1.Kids.length : Nat) : Int)))
(chk (0 ≤ x_i2 ∧ x_i2 < ((a_n1.Kids.length : Nat) : Int))
(Option.bind (G.spec_shape n (a_n1.Kids.getD x_i2.toNat default) (IntKind.wrap .i64 (a_depth1 - 1))) fun v3 =>
(cond v3
(G.spec_kids.L1 n a_n1 a_depth1 (IntKind.wrap .i64 (x_i2 + 1)))
(some (false)))))
(some (true)))
def G.spec_kids (f : Nat) (a_n1 : NodeT) (a_depth1 : Int) : Option (Bool) := match f with
| 0 => none
| n + 1 =>
(G.spec_kids.L1 n a_n1 a_depth1 0)
def G.spec_shape.K1 (f : Nat) (a_n1 : NodeT) (a_depth1 : Int) : Option (Bool) := match f with
| 0 => none
| n + 1 =>
(cond (a_n1.Kind == 1)
(Option.bind (G.spec_inRange n a_n1.Num (-999999) 999999) fun v1 =>
(some (v1)))
(cond (a_n1.Kind == 2)
(Option.bind (G.spec_validText n a_n1.Text) fun v2 =>
(some (v2)))
(cond (a_n1.Kind == 3)
(Option.bind (G.spec_kids n a_n1 a_depth1) fun v3 =>
(some (v3)))
(cond (a_n1.Kind == 4)
(cond (((a_n1.Names.length : Nat) : Int) == ((a_n1.Kids.length : Nat) : Int))
(Option.bind (G.spec_names n a_n1.Names) fun v4 =>
(cond v4
(Option.bind (G.spec_kids n a_n1 a_depth1) fun v5 =>
(some (v5)))
(some (false))))
(some (false)))
(some ((a_n1.Kind == 0)))))))
def G.spec_shape (f : Nat) (a_n1 : NodeT) (a_depth1 : Int) : Option (Bool) := match f with
| 0 => none
| n + 1 =>
(cond (a_depth1 == 0)
(some (false))
(cond (decide (6 < ((a_n1.Kids.length : Nat) : Int)))
(some (false))
(cond (a_n1.Kind != 1)
(cond (a_n1.Num != 0)
(some (false))
(cond (a_n1.Kind != 2)
(cond (a_n1.Text == [])
(cond (a_n1.Kind != 4)
(cond (decide (0 < ((a_n1.Names.length : Nat) : Int)))
(some (false))
(cond (decide (a_n1.Kind < 3))
(cond (decide (0 < ((a_n1.Kids.length : Nat) : Int)))
(some (false))
(G.spec_shape.K1 n a_n1 a_depth1))
(G.spec_shape.K1 n a_n1 a_depth1)))
(cond (decide (a_n1.Kind < 3))
(cond (decide (0 < ((a_n1.Kids.length : Nat) : Int)))
(some (false))
(G.spec_shape.K1 n a_n1 a_depth1))
(G.spec_shape.K1 n a_n1 a_depth1)))
(some (false)))
(cond (a_n1.Kind != 4)
(cond (decide (0 < ((a_n1.Names.length : Nat) : Int)))
(some (false))
(cond (decide (a_n1.Kind < 3))
(cond (decide (0 < ((a_n1.Kids.length : Nat) : Int)))
(some (false))
(G.spec_shape.K1 n a_n1 a_depth1))
(G.spec_shape.K1 n a_n1 a_depth1)))
(cond (decide (a_n1.Kind < 3))
(cond (decide (0 < ((a_n1.Kids.length : Nat) : Int)))
(some (false))
(G.spec_shape.K1 n a_n1 a_depth1))
(G.spec_shape.K1 n a_n1 a_depth1)))))
(cond (a_n1.Kind != 2)
(cond (a_n1.Text == [])
(cond (a_n1.Kind != 4)
(cond (decide (0 < ((a_n1.Names.length : Nat) : Int)))
(some (false))
(cond (decide (a_n1.Kind < 3))
(cond (decide (0 < ((a_n1.Kids.length : Nat) : Int)))
(some (false))
(G.spec_shape.K1 n a_n1 a_depth1))
(G.spec_shape.K1 n a_n1 a_depth1)))
(cond (decide (a_n1.Kind < 3))
(cond (decide (0 < ((a_n1.Kids.length : Nat) : Int)))
(some (false))
(G.spec_shape.K1 n a_n1 a_depth1))
(G.spec_shape.K1 n a_n1 a_depth1)))
(some (false)))
(cond (a_n1.Kind != 4)
(cond (decide (0 < ((a_n1.Names.length : Nat) : Int)))
(some (false))
(cond (decide (a_n1.Kind < 3))
(cond (decide (0 < ((a_n1.Kids.length : Nat) : Int)))
(some (false))
(G.spec_shape.K1 n a_n1 a_depth1))
(G.spec_shape.K1 n a_n1 a_depth1)))
(cond (decide (a_n1.Kind < 3))
(cond (decide (0 < ((a_n1.Kids.length : Nat) : Int)))
(some (false))
(G.spec_shape.K1 n a_n1 a_depth1))
(G.spec_shape.K1 n a_n1 a_depth1)))))))
end
def G.spec_validNode (f : Nat) (a_n1 : NodeT) : Option (Bool) := match f with
| 0 => none
| n + 1 =>
(Option.bind (G.spec_shape n a_n1 5) fun v1 =>
(cond v1
(Option.bind (G.spec_count n a_n1) fun v2 =>
(some ((decide (v2 ≤ 40)))))
(some (false))))
def G.spec_someNode.K1 (f : Nat) (y1 : List Int) (y2 : Int) (y3 : Int) (y4 : Int) (y5 : Txt) (y6 : List Txt) (y7 : List NodeT) : Option (NodeT × ReaderT) := match f with
| 0 => none
| n + 1 =>
(Option.bind (G.spec_validNode n (NodeT.mk y3 y4 y5 y6 y7)) fun v4 =>
(cond v4
(some ((NodeT.mk y3 y4 y5 y6 y7), (ReaderT.mk y1 y2)))
(some ((NodeT.mk 0 0 [] [] []), (ReaderT.mk y1 y2)))))
def G.spec_someNode (f : Nat) (p_r1 : ReaderT) : Option (NodeT × ReaderT) := match f with
| 0 => none
| n + 1 =>
(Option.bind (G.spec_randomNode n p_r1 3) fun v1 =>
(Option.bind (G.spec_reader_pick n v1.2 3) fun v5 =>
(cond (decide (0 < v5.1))
(Option.bind (G.spec_randomMap n v5.2 3) fun v6 =>
(G.spec_someNode.K1 n v6.2.b v6.2.p v6.1.Kind v6.1.Num v6.1.Text v6.1.Names v6.1.Kids))
(G.spec_someNode.K1 n v5.2.b v5.2.p v1.1.Kind v1.1.Num v1.1.Text v1.1.Names v1.1.Kids))))
def G.spec_anyNode.L1 (f : Nat) (v1 : NodeT × ReaderT) (x_i2 : Int) (y3 : List Int) (y4 : Int) (z2 : List NodeT) : Option (NodeT × ReaderT) := match f with
| 0 => none
| n + 1 =>
(Option.bind (G.spec_reader_pick n (ReaderT.mk y3 y4) 2) fun v9 =>
(cond (decide (x_i2 < (IntKind.wrap .i64 (6 + v9.1))))
(Option.bind (G.spec_copyNode n v1.1) fun v10 =>
(chk ((z2.length + 1) * 86 ≤ 2 ^ 46)
(G.spec_anyNode.L1 n v1 (IntKind.wrap .i64 (x_i2 + 1)) v9.2.b v9.2.p (z2 ++ [v10]))))
(some ((NodeT.mk 3 0 [] [] z2), v9.2))))
def G.spec_anyNode (f : Nat) (p_r1 : ReaderT) : Option (NodeT × ReaderT) := match f with
| 0 => none
| n + 1 =>
(Option.bind (G.spec_someNode n p_r1) fun v1 =>
(Option.bind (G.spec_reader_pick n v1.2 40) fun v2 =>
(cond (v2.1 == 0)
(Option.bind (G.spec_reader_one n v2.2 [(-1), 5, 0, 3]) fun v3 =>
(some ((NodeT.mk v3.1 v1.1.Num v1.1.Text v1.1.Names v1.1.Kids), v3.2)))
(cond (v2.1 == 1)
(Option.bind (G.spec_reader_one n v2.2 [1, 1000000]) fun v4 =>
(some ((NodeT.mk v1.1.Kind v4.1 v1.1.Text v1.1.Names v1.1.Kids), v4.2)))
(cond (v2.1 == 2)
(some ((NodeT.mk v1.1.Kind v1.1.Num [97, 98, 99, 100, 101, 102, 103, 104, 105, 106, 107, 108, 109] v1.1.Names v1.1.Kids), v2.2))
(cond (v2.1 == 3)
(chk ((v1.1.Names.length + 1) * 18 ≤ 2 ^ 46)
(some ((NodeT.mk v1.1.Kind v1.1.Num v1.1.Text (v1.1.Names ++ [[]]) v1.1.Kids), v2.2)))
(cond (v2.1 == 4)
(some ((NodeT.mk 3 0 [] [] [(NodeT.mk 3 0 [] [] [(NodeT.mk 3 0 [] [] [(NodeT.mk 3 0 [] [] [v1.1])])])]), v2.2))
(cond (v2.1 == 5)
(G.spec_anyNode.L1 n v1 0 v2.2.b v2.2.p [])
(some (v1.1, v2.2))))))))))
def G.spec_badName (f : Nat) (p_r1 : ReaderT) : Option (Txt × ReaderT) := match f with
| 0 => none
| n + 1 =>
(Option.bind (G.spec_reader_of n p_r1 [[], [65], [97, 98, 99, 100, 101, 102, 103, 104, 105], [97, 32, 98], [97]]) fun v1 =>
(some (v1.1, v1.2)))
def G.spec_copyStore.L1 (f : Nat) (a_s1 : StoreT) (x_i2 : Int) (z2 : List ItemT) : Option (StoreT) := match f with
| 0 => none
| n + 1 =>
(cond (decide (x_i2 < ((a_s1.Items.length : Nat) : Int)))
(chk (0 ≤ x_i2 ∧ x_i2 < ((a_s1.Items.length : Nat) : Int))
(chk (0 ≤ x_i2 ∧ x_i2 < ((a_s1.Items.length : Nat) : Int))
(chk (0 ≤ x_i2 ∧ x_i2 < ((a_s1.Items.length : Nat) : Int))
(Option.bind (G.spec_copyNode n ((a_s1.Items.getD x_i2.toNat default).Node)) fun v3 =>
(chk ((z2.length + 1) * 112 ≤ 2 ^ 46)
(G.spec_copyStore.L1 n a_s1 (IntKind.wrap .i64 (x_i2 + 1)) (z2 ++ [(ItemT.mk ((a_s1.Items.getD x_i2.toNat default).Name) ((a_s1.Items.getD x_i2.toNat default).Version) v3)])))))))
(some ((StoreT.mk z2 a_s1.Clock))))
def G.spec_copyStore (f : Nat) (a_s1 : StoreT) : Option (StoreT) := match f with
| 0 => none
| n + 1 =>
(G.spec_copyStore.L1 n a_s1 0 [])
def G.spec_drop.L1 (f : Nat) (a_s1 : StoreT) (a_name1 : Txt) (v1 : StoreT) (x_i2 : Int) (z2 : List ItemT) : Option (StoreT) := match f with
| 0 => none
| n + 1 =>
(cond (decide (x_i2 < ((v1.Items.length : Nat) : Int)))
(chk (0 ≤ x_i2 ∧ x_i2 < ((v1.Items.length : Nat) : Int))
(cond ((v1.Items.getD x_i2.toNat default).Name == a_name1)
(G.spec_drop.L1 n a_s1 a_name1 v1 (IntKind.wrap .i64 (x_i2 + 1)) z2)
(chk (0 ≤ x_i2 ∧ x_i2 < ((v1.Items.length : Nat) : Int))
(chk ((z2.length + 1) * 112 ≤ 2 ^ 46)
(G.spec_drop.L1 n a_s1 a_name1 v1 (IntKind.wrap .i64 (x_i2 + 1)) (z2 ++ [(ItemT.mk ((v1.Items.getD x_i2.toNat default).Name) ((v1.Items.getD x_i2.toNat default).Version) ((v1.Items.getD x_i2.toNat default).Node))]))))))
(some ((StoreT.mk z2 (IntKind.wrap .i64 (a_s1.Clock + 1))))))
def G.spec_drop (f : Nat) (a_s1 : StoreT) (a_name1 : Txt) : Option (StoreT) := match f with
| 0 => none
| n + 1 =>
(Option.bind (G.spec_copyStore n a_s1) fun v1 =>
(G.spec_drop.L1 n a_s1 a_name1 v1 0 []))
def G.spec_find.L1 (f : Nat) (a_s1 : StoreT) (a_name1 : Txt) (x_i2 : Int) : Option (Int) := match f with
| 0 => none
| n + 1 =>
(cond (decide (x_i2 < ((a_s1.Items.length : Nat) : Int)))
(chk (0 ≤ x_i2 ∧ x_i2 < ((a_s1.Items.length : Nat) : Int))
(cond ((a_s1.Items.getD x_i2.toNat default).Name == a_name1)
(some (x_i2))
(G.spec_find.L1 n a_s1 a_name1 (IntKind.wrap .i64 (x_i2 + 1)))))
(some ((-1))))
def G.spec_find (f : Nat) (a_s1 : StoreT) (a_name1 : Txt) : Option (Int) := match f with
| 0 => none
| n + 1 =>
(G.spec_find.L1 n a_s1 a_name1 0)
def G.spec_validName.L1 (f : Nat) (a_s1 : Txt) (x_i2 : Int) : Option (Bool) := match f with
| 0 => none
| n + 1 =>
(cond (decide (x_i2 < ((a_s1.length : Nat) : Int)))
(chk (0 ≤ x_i2 ∧ x_i2 < ((a_s1.length : Nat) : Int))
(Option.bind (G.spec_inRange n (IntKind.wrap .i64 ((((a_s1.getD x_i2.toNat 0).toNat : Nat) : Int))) 97 122) fun v5 =>
(cond v5
(G.spec_validName.L1 n a_s1 (IntKind.wrap .i64 (x_i2 + 1)))
(chk (0 ≤ x_i2 ∧ x_i2 < ((a_s1.length : Nat) : Int))
(Option.bind (G.spec_inRange n (IntKind.wrap .i64 ((((a_s1.getD x_i2.toNat 0).toNat : Nat) : Int))) 48 57) fun v6 =>
(cond v6
(G.spec_validName.L1 n a_s1 (IntKind.wrap .i64 (x_i2 + 1)))
(some (false))))))))
(Option.bind (G.spec_inRange n ((a_s1.length : Nat) : Int) 1 8) fun v7 =>
(some (v7))))
def G.spec_validName (f : Nat) (a_s1 : Txt) : Option (Bool) := match f with
| 0 => none
| n + 1 =>
(G.spec_validName.L1 n a_s1 0)
def G.spec_validStore.L1 (f : Nat) (a_s1 : StoreT) (x_i2 : Int) : Option (Bool) := match f with
| 0 => none
| n + 1 =>
(cond (decide (x_i2 < ((a_s1.Items.length : Nat) : Int)))
(chk (0 ≤ x_i2 ∧ x_i2 < ((a_s1.Items.length : Nat) : Int))
(Option.bind (G.spec_validName n ((a_s1.Items.getD x_i2.toNat default).Name)) fun v7 =>
(cond v7
(Option.bind (G.spec_validNode n ((a_s1.Items.getD x_i2.toNat default).Node)) fun v8 =>
(cond v8
(Option.bind (G.spec_inRange n ((a_s1.Items.getD x_i2.toNat default).Version) 1 a_s1.Clock) fun v9 =>
(cond v9
(cond (decide (0 < x_i2))
(chk (0 ≤ (IntKind.wrap .i64 (x_i2 - 1)) ∧ (IntKind.wrap .i64 (x_i2 - 1)) < ((a_s1.Items.length : Nat) : Int))
(cond (Op.bytesLess ((a_s1.Items.getD x_i2.toNat default).Name) ((a_s1.Items.getD (IntKind.wrap .i64 (x_i2 - 1)).toNat default).Name))
(some (false))
(cond ((a_s1.Items.getD x_i2.toNat default).Name == (a_s1.Items.getD (IntKind.wrap .i64 (x_i2 - 1)).toNat default).Name)
(some (false))
(G.spec_validStore.L1 n a_s1 (IntKind.wrap .i64 (x_i2 + 1))))))
(G.spec_validStore.L1 n a_s1 (IntKind.wrap .i64 (x_i2 + 1))))
(some (false))))
(some (false))))
(some (false)))))
(cond (decide (((a_s1.Items.length : Nat) : Int) ≤ 10))
(Option.bind (G.spec_inRange n a_s1.Clock 0 999) fun v10 =>
(some (v10)))
(some (false))))
def G.spec_validStore (f : Nat) (a_s1 : StoreT) : Option (Bool) := match f with
| 0 => none
| n + 1 =>
(G.spec_validStore.L1 n a_s1 0)
def G.spec_DropItem (f : Nat) (a_s1 : StoreT) (a_name1 : Txt) : Option (StoreT × Bool) := match f with
| 0 => none
| n + 1 =>
(Option.bind (G.spec_validStore n a_s1) fun v1 =>
(cond v1
(Option.bind (G.spec_find n a_s1 a_name1) fun v2 =>
(cond (decide (v2 < 0))
(some ((StoreT.mk [] 0), false))
(cond (a_s1.Clock == 999)
(some ((StoreT.mk [] 0), false))
(Option.bind (G.spec_drop n a_s1 a_name1) fun v3 =>
(some (v3, true))))))
(some ((StoreT.mk [] 0), false))))
mutual
def G.spec_put.K4 (f : Nat) (a_s1 : StoreT) (a_name1 : Txt) (v1 : NodeT) (v2 : StoreT) (x_i2 : Int) (x_done5 : Bool) (z5 : List ItemT) : Option (StoreT) := match f with
| 0 => none
| n + 1 =>
(chk (0 ≤ x_i2 ∧ x_i2 < ((v2.Items.length : Nat) : Int))
(cond ((v2.Items.getD x_i2.toNat default).Name == a_name1)
(G.spec_put.L3 n a_s1 a_name1 v1 v2 x_done5 (IntKind.wrap .i64 (x_i2 + 1)) z5)
(chk (0 ≤ x_i2 ∧ x_i2 < ((v2.Items.length : Nat) : Int))
(chk ((z5.length + 1) * 112 ≤ 2 ^ 46)
(G.spec_put.L3 n a_s1 a_name1 v1 v2 x_done5 (IntKind.wrap .i64 (x_i2 + 1)) (z5 ++ [(ItemT.mk ((v2.Items.getD x_i2.toNat default).Name) ((v2.Items.getD x_i2.toNat default).Version) ((v2.Items.getD x_i2.toNat default).Node))]))))))
def G.spec_put.L3 (f : Nat) (a_s1 : StoreT) (a_name1 : Txt) (v1 : NodeT) (v2 : StoreT) (x_done4 : Bool) (x_i2 : Int) (z4 : List ItemT) : Option (StoreT) := match f with
| 0 => none
| n + 1 =>
(cond (decide (x_i2 < ((v2.Items.length : Nat) : Int)))
(cond x_done4
(G.spec_put.K4 n a_s1 a_name1 v1 v2 x_i2 true z4)
(chk (0 ≤ x_i2 ∧ x_i2 < ((v2.Items.length : Nat) : Int))
(cond (Op.bytesLess ((v2.Items.getD x_i2.toNat default).Name) a_name1)
(G.spec_put.K4 n a_s1 a_name1 v1 v2 x_i2 false z4)
(chk ((z4.length + 1) * 112 ≤ 2 ^ 46)
(G.spec_put.K4 n a_s1 a_name1 v1 v2 x_i2 true (z4 ++ [(ItemT.mk a_name1 (IntKind.wrap .i64 (a_s1.Clock + 1)) v1)]))))))
(cond x_done4
(some ((StoreT.mk z4 (IntKind.wrap .i64 (a_s1.Clock + 1)))))
(chk ((z4.length + 1) * 112 ≤ 2 ^ 46)
(some ((StoreT.mk (z4 ++ [(ItemT.mk a_name1 (IntKind.wrap .i64 (a_s1.Clock + 1)) v1)]) (IntKind.wrap .i64 (a_s1.Clock + 1))))))))
end
def G.spec_put (f : Nat) (a_s1 : StoreT) (a_name1 : Txt) (a_n1 : NodeT) : Option (StoreT) := match f with
| 0 => none
| n + 1 =>
(Option.bind (G.spec_copyNode n a_n1) fun v1 =>
(Option.bind (G.spec_copyStore n a_s1) fun v2 =>
(G.spec_put.L3 n a_s1 a_name1 v1 v2 false 0 [])))
def G.spec_PutItem (f : Nat) (a_s1 : StoreT) (a_name1 : Txt) (a_n1 : NodeT) : Option (StoreT × Bool) := match f with
| 0 => none
| n + 1 =>
(Option.bind (G.spec_validStore n a_s1) fun v1 =>
(cond v1
(Option.bind (G.spec_validName n a_name1) fun v2 =>
(cond v2
(Option.bind (G.spec_validNode n a_n1) fun v3 =>
(cond v3
(Option.bind (G.spec_put n a_s1 a_name1 a_n1) fun v4 =>
(Option.bind (G.spec_validStore n v4) fun v5 =>
(cond v5
(some (v4, true))
(some ((StoreT.mk [] 0), false)))))
(some ((StoreT.mk [] 0), false))))
(some ((StoreT.mk [] 0), false))))
(some ((StoreT.mk [] 0), false))))
def G.spec_itemName (f : Nat) (p_r1 : ReaderT) : Option (Txt × ReaderT) := match f with
| 0 => none
| n + 1 =>
(Option.bind (G.spec_reader_of n p_r1 [[97], [98], [100, 111, 99], [122, 122], [97, 49], [109], [120, 57], [98, 111, 111, 107], [97, 98, 99, 100, 101, 102, 103, 104], [113]]) fun v1 =>
(some (v1.1, v1.2)))
mutual
def G.spec_someStore.K4 (f : Nat) (x_n2 : Int) (y15 : List ItemT) (y16 : Int) (x_ok3 : Bool) (y17 : List Int) (y18 : Int) (y19 : List ItemT) (y20 : Int) : Option (StoreT × ReaderT) := match f with
| 0 => none
| n + 1 =>
(cond x_ok3
(G.spec_someStore.L3 n (IntKind.wrap .i64 (x_n2 - 1)) y17 y18 y19 y20)
(G.spec_someStore.L3 n (IntKind.wrap .i64 (x_n2 - 1)) y17 y18 y15 y16))
def G.spec_someStore.L3 (f : Nat) (x_n2 : Int) (y13 : List Int) (y14 : Int) (y15 : List ItemT) (y16 : Int) : Option (StoreT × ReaderT) := match f with
| 0 => none
| n + 1 =>
(cond (decide (0 < x_n2))
(Option.bind (G.spec_itemName n (ReaderT.mk y13 y14)) fun v20 =>
(Option.bind (G.spec_someNode n v20.2) fun v21 =>
(Option.bind (G.spec_PutItem n (StoreT.mk y15 y16) v20.1 v21.1) fun v22 =>
(Option.bind (G.spec_reader_pick n v21.2 8) fun v26 =>
(cond (v26.1 == 0)
(Option.bind (G.spec_itemName n v26.2) fun v27 =>
(Option.bind (G.spec_DropItem n (StoreT.mk y15 y16) v27.1) fun v28 =>
(G.spec_someStore.K4 n x_n2 y15 y16 v28.2 v27.2.b v27.2.p v28.1.Items v28.1.Clock)))
(G.spec_someStore.K4 n x_n2 y15 y16 v22.2 v26.2.b v26.2.p v22.1.Items v22.1.Clock))))))
(some ((StoreT.mk y15 y16), (ReaderT.mk y13 y14))))
end
def G.spec_someStore (f : Nat) (p_r1 : ReaderT) : Option (StoreT × ReaderT) := match f with
| 0 => none
| n + 1 =>
(Option.bind (G.spec_reader_one n p_r1 [3, 4, 2, 5, 0, 12]) fun v1 =>
(G.spec_someStore.L3 n v1.1 v1.2.b v1.2.p [] 0))
def G.spec_anyStore (f : Nat) (p_r1 : ReaderT) : Option (StoreT × ReaderT) := match f with
| 0 => none
| n + 1 =>
(Option.bind (G.spec_someStore n p_r1) fun v1 =>
(Option.bind (G.spec_reader_pick n v1.2 30) fun v2 =>
(cond (v2.1 == 0)
(Option.bind (G.spec_reader_one n v2.2 [0, 999, 1000, (-1)]) fun v3 =>
(some ((StoreT.mk v1.1.Items v3.1), v3.2)))
(cond (v2.1 == 1)
(Option.bind (G.spec_badName n v2.2) fun v4 =>
(chk ((v1.1.Items.length + 1) * 112 ≤ 2 ^ 46)
(some ((StoreT.mk (v1.1.Items ++ [(ItemT.mk v4.1 1 (NodeT.mk 0 0 [] [] []))]) v1.1.Clock), v4.2))))
(cond (v2.1 == 2)
(cond (decide (0 < ((v1.1.Items.length : Nat) : Int)))
(Option.bind (G.spec_reader_one n v2.2 [0, (IntKind.wrap .i64 (v1.1.Clock + 1)), 1]) fun v5 =>
(chk (0 ≤ 0 ∧ 0 < ((v1.1.Items.length : Nat) : Int))
(some ((StoreT.mk (v1.1.Items.set 0 (ItemT.mk ((v1.1.Items.getD 0 default).Name) v5.1 ((v1.1.Items.getD 0 default).Node))) v1.1.Clock), v5.2))))
(some (v1.1, v2.2)))
(cond (v2.1 == 3)
(cond (decide (0 < ((v1.1.Items.length : Nat) : Int)))
(Option.bind (G.spec_anyNode n v2.2) fun v6 =>
(chk (0 ≤ 0 ∧ 0 < ((v1.1.Items.length : Nat) : Int))
(some ((StoreT.mk (v1.1.Items.set 0 (ItemT.mk ((v1.1.Items.getD 0 default).Name) ((v1.1.Items.getD 0 default).Version) v6.1)) v1.1.Clock), v6.2))))
(some (v1.1, v2.2)))
(some (v1.1, v2.2))))))))
def G.spec_newReader (f : Nat) (a_code1 : List Int) : Option (ReaderT) := match f with
| 0 => none
| n + 1 =>
(cond (decide (2000 < ((a_code1.length : Nat) : Int)))
(chk (0 ≤ 0 ∧ 0 ≤ 2000 ∧ 2000 ≤ ((a_code1.length : Nat) : Int))
(some ((ReaderT.mk (a_code1.take 2000) 0))))
(some ((ReaderT.mk a_code1 0))))
mutual
def G.spec_all.L7 (f : Nat) (a_n1 : NodeT) (x_i2 : Int) (x_step3 : Txt) (v6 : List (List Txt)) (x_k6 : Int) (z8 : List (List Txt)) : Option (List (List Txt)) := match f with
| 0 => none
| n + 1 =>
(cond (decide (x_k6 < ((v6.length : Nat) : Int)))
(chk (0 ≤ x_k6 ∧ x_k6 < ((v6.length : Nat) : Int))
(chk ((1 + (v6.getD x_k6.toNat default).length) * 18 ≤ 2 ^ 46)
(chk ((z8.length + 1) * 26 ≤ 2 ^ 46)
(G.spec_all.L7 n a_n1 x_i2 x_step3 v6 (IntKind.wrap .i64 (x_k6 + 1)) (z8 ++ [([x_step3] ++ (v6.getD x_k6.toNat default))])))))
(G.spec_all.L5 n a_n1 (IntKind.wrap .i64 (x_i2 + 1)) z8))
def G.spec_all.K6 (f : Nat) (a_n1 : NodeT) (x_i2 : Int) (z6 : List (List Txt)) (x_step3 : Txt) : Option (List (List Txt)) := match f with
| 0 => none
| n + 1 =>
(chk (0 ≤ x_i2 ∧ x_i2 < ((a_n1.Kids.length : Nat) : Int))
(Option.bind (G.spec_all n (a_n1.Kids.getD x_i2.toNat default)) fun v6 =>
(G.spec_all.L7 n a_n1 x_i2 x_step3 v6 0 z6)))
def G.spec_all.L5 (f : Nat) (a_n1 : NodeT) (x_i2 : Int) (z6 : List (List Txt)) : Option (List (List Txt)) := match f with
| 0 => none
| n + 1 =>
(cond (decide (x_i2 < ((a_n1.Kids.length : Nat) : Int)))
(Option.bind (G.spec_decimal n x_i2) fun v5 =>
(cond (a_n1.Kind == 4)
(chk (0 ≤ x_i2 ∧ x_i2 < ((a_n1.Names.length : Nat) : Int))
(G.spec_all.K6 n a_n1 x_i2 z6 (a_n1.Names.getD x_i2.toNat default)))
(G.spec_all.K6 n a_n1 x_i2 z6 v5)))
(some (z6)))
def G.spec_all (f : Nat) (a_n1 : NodeT) : Option (List (List Txt)) := match f with
| 0 => none
| n + 1 =>
(G.spec_all.L5 n a_n1 0 [[]])
end
def G.spec_AllPaths (f : Nat) (a_n1 : NodeT) : Option (List (List Txt)) := match f with
| 0 => none
| n + 1 =>
(Option.bind (G.spec_validNode n a_n1) fun v1 =>
(cond v1
(Option.bind (G.spec_all n a_n1) fun v2 =>
(some (v2)))
(some ([]))))
def G.spec_anyPath.L1 (f : Nat) (x_n2 : Int) (y3 : List Int) (y4 : Int) (z2 : List Txt) : Option (List Txt × ReaderT) := match f with
| 0 => none
| n + 1 =>
(cond (decide (0 < x_n2))
(Option.bind (G.spec_reader_of n (ReaderT.mk y3 y4) [[97], [98], [48], [49], [45], [97, 47, 98], [126, 120], [], [99]]) fun v4 =>
(chk ((z2.length + 1) * 18 ≤ 2 ^ 46)
(G.spec_anyPath.L1 n (IntKind.wrap .i64 (x_n2 - 1)) v4.2.b v4.2.p (z2 ++ [v4.1]))))
(cond (decide (0 < ((z2.length : Nat) : Int)))
(Option.bind (G.spec_reader_pick n (ReaderT.mk y3 y4) 20) fun v5 =>
(cond (v5.1 == 0)
(Option.bind (G.spec_reader_of n v5.2 [[97, 98, 99, 100, 101, 102, 103, 104, 105, 106, 107, 108, 109], [10]]) fun v6 =>
(chk (0 ≤ 0 ∧ 0 < ((z2.length : Nat) : Int))
(some ((z2.set 0 v6.1), v6.2))))
(some (z2, v5.2))))
(some (z2, (ReaderT.mk y3 y4)))))
def G.spec_anyPath (f : Nat) (p_r1 : ReaderT) : Option (List Txt × ReaderT) := match f with
| 0 => none
| n + 1 =>
(Option.bind (G.spec_reader_one n p_r1 [1, 2, 1, 0, 3, 5, 6]) fun v1 =>
(G.spec_anyPath.L1 n v1.1 v1.2.b v1.2.p []))
def G.spec_pathIn (f : Nat) (p_r1 : ReaderT) (a_n1 : NodeT) : Option (List Txt × ReaderT) := match f with
| 0 => none
| n + 1 =>
(Option.bind (G.spec_AllPaths n a_n1) fun v1 =>
(cond (decide (0 < ((v1.length : Nat) : Int)))
(Option.bind (G.spec_reader_pick n p_r1 4) fun v2 =>
(cond (decide (0 < v2.1))
(Option.bind (G.spec_reader_pick n v2.2 ((v1.length : Nat) : Int)) fun v3 =>
(chk (0 ≤ v3.1 ∧ v3.1 < ((v1.length : Nat) : Int))
(some ((v1.getD v3.1.toNat default), v3.2))))
(Option.bind (G.spec_anyPath n v2.2) fun v4 =>
(some (v4.1, v4.2)))))
(Option.bind (G.spec_anyPath n p_r1) fun v5 =>
(some (v5.1, v5.2)))))
def G.spec_reader_words (f : Nat) (p_r1 : ReaderT) : Option (List Txt × ReaderT) := match f with
| 0 => none
| n + 1 =>
(Option.bind (G.spec_reader_pick n p_r1 4) fun v1 =>
(cond (v1.1 == 0)
(Option.bind (G.spec_anyPath n v1.2) fun v2 =>
(some (v2.1, v2.2)))
(Option.bind (G.spec_reader_of n v1.2 [[97], [98], [99], [48]]) fun v3 =>
(some ([v3.1], v3.2)))))
def G.spec_storePath (f : Nat) (p_r1 : ReaderT) (a_s1 : StoreT) : Option (List Txt × ReaderT) := match f with
| 0 => none
| n + 1 =>
(cond (decide (0 < ((a_s1.Items.length : Nat) : Int)))
(Option.bind (G.spec_reader_pick n p_r1 3) fun v1 =>
(cond (decide (0 < v1.1))
(Option.bind (G.spec_reader_pick n v1.2 ((a_s1.Items.length : Nat) : Int)) fun v2 =>
(chk (0 ≤ v2.1 ∧ v2.1 < ((a_s1.Items.length : Nat) : Int))
(Option.bind (G.spec_pathIn n v2.2 ((a_s1.Items.getD v2.1.toNat default).Node)) fun v3 =>
(some (v3.1, v3.2)))))
(Option.bind (G.spec_reader_words n v1.2) fun v4 =>
(some (v4.1, v4.2)))))
(Option.bind (G.spec_reader_words n p_r1) fun v5 =>
(some (v5.1, v5.2))))
def G.spec_DrawIndexStore (f : Nat) (a_code1 : List Int) : Option (StoreT × List Txt) := match f with
| 0 => none
| n + 1 =>
(Option.bind (G.spec_newReader n a_code1) fun v1 =>
(Option.bind (G.spec_anyStore n v1) fun v2 =>
(Option.bind (G.spec_storePath n v2.2 v2.1) fun v3 =>
(some (v2.1, v3.1)))))
def G.spec_at.L1 (f : Nat) (a_path1 : List Txt) (x_i2 : Int) (y6 : Int) (y7 : Int) (y8 : Txt) (y9 : List Txt) (y10 : List NodeT) : Option (NodeT × Bool) := match f with
| 0 => none
| n + 1 =>
(cond (decide (x_i2 < ((a_path1.length : Nat) : Int)))
(chk (0 ≤ x_i2 ∧ x_i2 < ((a_path1.length : Nat) : Int))
(Option.bind (G.spec_place n (NodeT.mk y6 y7 y8 y9 y10) (a_path1.getD x_i2.toNat default)) fun v3 =>
(cond (decide (v3 < 0))
(some ((NodeT.mk 0 0 [] [] []), false))
(chk (0 ≤ v3 ∧ v3 < ((y10.length : Nat) : Int))
(G.spec_at.L1 n a_path1 (IntKind.wrap .i64 (x_i2 + 1)) ((y10.getD v3.toNat default).Kind) ((y10.getD v3.toNat default).Num) ((y10.getD v3.toNat default).Text) ((y10.getD v3.toNat default).Names) ((y10.getD v3.toNat default).Kids))))))
(Option.bind (G.spec_copyNode n (NodeT.mk y6 y7 y8 y9 y10)) fun v4 =>
(some (v4, true))))
def G.spec_at (f : Nat) (a_n1 : NodeT) (a_path1 : List Txt) : Option (NodeT × Bool) := match f with
| 0 => none
| n + 1 =>
(G.spec_at.L1 n a_path1 0 a_n1.Kind a_n1.Num a_n1.Text a_n1.Names a_n1.Kids)
def G.spec_toInt (f : Nat) (a_b1 : Bool) : Option (Int) := match f with
| 0 => none
| n + 1 =>
(cond a_b1
(some (1))
(some (0)))
def G.spec_order (f : Nat) (a_a1 : Int) (a_b1 : Int) : Option (Int) := match f with
| 0 => none
| n + 1 =>
(Option.bind (G.spec_toInt n (decide (a_b1 < a_a1))) fun v1 =>
(Option.bind (G.spec_toInt n (decide (a_a1 < a_b1))) fun v2 =>
(some ((IntKind.wrap .i64 (v1 - v2))))))
def G.spec_orderText (f : Nat) (a_a1 : Txt) (a_b1 : Txt) : Option (Int) := match f with
| 0 => none
| n + 1 =>
(cond (Op.bytesLess a_a1 a_b1)
(Option.bind (G.spec_toInt n false) fun v1 =>
(Option.bind (G.spec_toInt n true) fun v2 =>
(some ((IntKind.wrap .i64 (v1 - v2))))))
(cond (a_a1 == a_b1)
(Option.bind (G.spec_toInt n false) fun v3 =>
(Option.bind (G.spec_toInt n false) fun v4 =>
(some ((IntKind.wrap .i64 (v3 - v4))))))
(Option.bind (G.spec_toInt n true) fun v5 =>
(Option.bind (G.spec_toInt n false) fun v6 =>
(some ((IntKind.wrap .i64 (v5 - v6))))))))
mutual
def G.spec_compare.L1 (f : Nat) (a_a1 : NodeT) (a_b1 : NodeT) (x_i2 : Int) : Option (Int) := match f with
| 0 => none
| n + 1 =>
(cond (decide (x_i2 < ((a_a1.Kids.length : Nat) : Int)))
(cond (decide (x_i2 < ((a_b1.Kids.length : Nat) : Int)))
(cond (a_a1.Kind == 4)
(chk (0 ≤ x_i2 ∧ x_i2 < ((a_a1.Names.length : Nat) : Int))
(chk (0 ≤ x_i2 ∧ x_i2 < ((a_b1.Names.length : Nat) : Int))
(cond ((a_a1.Names.getD x_i2.toNat default) == (a_b1.Names.getD x_i2.toNat default))
(chk (0 ≤ x_i2 ∧ x_i2 < ((a_a1.Kids.length : Nat) : Int))
(chk (0 ≤ x_i2 ∧ x_i2 < ((a_b1.Kids.length : Nat) : Int))
(Option.bind (G.spec_compare n (a_a1.Kids.getD x_i2.toNat default) (a_b1.Kids.getD x_i2.toNat default)) fun v9 =>
(cond (v9 != 0)
(some (v9))
(G.spec_compare.L1 n a_a1 a_b1 (IntKind.wrap .i64 (x_i2 + 1)))))))
(chk (0 ≤ x_i2 ∧ x_i2 < ((a_a1.Names.length : Nat) : Int))
(chk (0 ≤ x_i2 ∧ x_i2 < ((a_b1.Names.length : Nat) : Int))
(Option.bind (G.spec_orderText n (a_a1.Names.getD x_i2.toNat default) (a_b1.Names.getD x_i2.toNat default)) fun v10 =>
(some (v10))))))))
(chk (0 ≤ x_i2 ∧ x_i2 < ((a_a1.Kids.length : Nat) : Int))
(chk (0 ≤ x_i2 ∧ x_i2 < ((a_b1.Kids.length : Nat) : Int))
(Option.bind (G.spec_compare n (a_a1.Kids.getD x_i2.toNat default) (a_b1.Kids.getD x_i2.toNat default)) fun v11 =>
(cond (v11 != 0)
(some (v11))
(G.spec_compare.L1 n a_a1 a_b1 (IntKind.wrap .i64 (x_i2 + 1))))))))
(Option.bind (G.spec_order n ((a_a1.Kids.length : Nat) : Int) ((a_b1.Kids.length : Nat) : Int)) fun v12 =>
(some (v12))))
(Option.bind (G.spec_order n ((a_a1.Kids.length : Nat) : Int) ((a_b1.Kids.length : Nat) : Int)) fun v13 =>
(some (v13))))
def G.spec_compare (f : Nat) (a_a1 : NodeT) (a_b1 : NodeT) : Option (Int) := match f with
| 0 => none
| n + 1 =>
(cond (a_a1.Kind != a_b1.Kind)
(Option.bind (G.spec_order n a_a1.Kind a_b1.Kind) fun v1 =>
(some (v1)))
(cond (a_a1.Num != a_b1.Num)
(Option.bind (G.spec_order n a_a1.Num a_b1.Num) fun v2 =>
(some (v2)))
(cond (a_a1.Text == a_b1.Text)
(G.spec_compare.L1 n a_a1 a_b1 0)
(Option.bind (G.spec_orderText n a_a1.Text a_b1.Text) fun v14 =>
(some (v14))))))
end
mutual
def G.spec_entries.L4 (f : Nat) (a_s1 : StoreT) (a_path1 : List Txt) (x_i2 : Int) (x_k6 : Int) (z10 : List EntryT) : Option (List EntryT) := match f with
| 0 => none
| n + 1 =>
(cond (decide (0 < x_k6))
(chk (0 ≤ x_k6 ∧ x_k6 < ((z10.length : Nat) : Int))
(chk (0 ≤ (IntKind.wrap .i64 (x_k6 - 1)) ∧ (IntKind.wrap .i64 (x_k6 - 1)) < ((z10.length : Nat) : Int))
(Option.bind (G.spec_compare n ((z10.getD x_k6.toNat default).Key) ((z10.getD (IntKind.wrap .i64 (x_k6 - 1)).toNat default).Key)) fun v12 =>
(cond (decide (v12 < 0))
(chk (0 ≤ x_k6 ∧ x_k6 < ((z10.length : Nat) : Int))
(chk (0 ≤ (IntKind.wrap .i64 (x_k6 - 1)) ∧ (IntKind.wrap .i64 (x_k6 - 1)) < ((z10.length : Nat) : Int))
(chk (0 ≤ x_k6 ∧ x_k6 < ((z10.length : Nat) : Int))
(chk (0 ≤ (IntKind.wrap .i64 (x_k6 - 1)) ∧ (IntKind.wrap .i64 (x_k6 - 1)) < ((z10.length : Nat) : Int))
(G.spec_entries.L4 n a_s1 a_path1 x_i2 (IntKind.wrap .i64 (x_k6 - 1)) ((z10.set x_k6.toNat (EntryT.mk ((z10.getD (IntKind.wrap .i64 (x_k6 - 1)).toNat default).Key) ((z10.getD (IntKind.wrap .i64 (x_k6 - 1)).toNat default).Name))).set ((IntKind.wrap .i64 (x_k6 - 1)).toNat) (EntryT.mk ((z10.getD x_k6.toNat default).Key) ((z10.getD x_k6.toNat default).Name))))))))
(G.spec_entries.L3 n a_s1 a_path1 (IntKind.wrap .i64 (x_i2 + 1)) z10)))))
(G.spec_entries.L3 n a_s1 a_path1 (IntKind.wrap .i64 (x_i2 + 1)) z10))
def G.spec_entries.L3 (f : Nat) (a_s1 : StoreT) (a_path1 : List Txt) (x_i2 : Int) (z7 : List EntryT) : Option (List EntryT) := match f with
| 0 => none
| n + 1 =>
(cond (decide (x_i2 < ((a_s1.Items.length : Nat) : Int)))
(chk (0 ≤ x_i2 ∧ x_i2 < ((a_s1.Items.length : Nat) : Int))
(Option.bind (G.spec_at n ((a_s1.Items.getD x_i2.toNat default).Node) a_path1) fun v9 =>
(cond v9.2
(chk (0 ≤ x_i2 ∧ x_i2 < ((a_s1.Items.length : Nat) : Int))
(chk ((z7.length + 1) * 103 ≤ 2 ^ 46)
(G.spec_entries.L4 n a_s1 a_path1 x_i2 (IntKind.wrap .i64 ((((z7.length + 1) : Nat) : Int) - 1)) (z7 ++ [(EntryT.mk v9.1 ((a_s1.Items.getD x_i2.toNat default).Name))]))))
(G.spec_entries.L3 n a_s1 a_path1 (IntKind.wrap .i64 (x_i2 + 1)) z7))))
(some (z7)))
end
def G.spec_entries (f : Nat) (a_s1 : StoreT) (a_path1 : List Txt) : Option (List EntryT) := match f with
| 0 => none
| n + 1 =>
(G.spec_entries.L3 n a_s1 a_path1 0 [])
def G.spec_validPath.L1 (f : Nat) (a_path1 : List Txt) (x_i2 : Int) : Option (Bool) := match f with
| 0 => none
| n + 1 =>
(cond (decide (x_i2 < ((a_path1.length : Nat) : Int)))
(chk (0 ≤ x_i2 ∧ x_i2 < ((a_path1.length : Nat) : Int))
(Option.bind (G.spec_validText n (a_path1.getD x_i2.toNat default)) fun v3 =>
(cond v3
(G.spec_validPath.L1 n a_path1 (IntKind.wrap .i64 (x_i2 + 1)))
(some (false)))))
(some ((decide (((a_path1.length : Nat) : Int) ≤ 5)))))
def G.spec_validPath (f : Nat) (a_path1 : List Txt) : Option (Bool) := match f with
| 0 => none
| n + 1 =>
(G.spec_validPath.L1 n a_path1 0)
def G.spec_IndexStore (f : Nat) (a_s1 : StoreT) (a_path1 : List Txt) : Option (List EntryT) := match f with
| 0 => none
| n + 1 =>
(Option.bind (G.spec_validStore n a_s1) fun v1 =>
(cond v1
(Option.bind (G.spec_validPath n a_path1) fun v2 =>
(cond v2
(Option.bind (G.spec_entries n a_s1 a_path1) fun v3 =>
(some (v3)))
(some ([]))))
(some ([]))))
mutual
def G.laws_FnIndexStorePut.L4 (f : Nat) (v2 : List EntryT) (v9 : List EntryT) (x_i2 : Int) (x_some6 : Bool) (x_k6 : Int) : Option (Bool) := match f with
| 0 => none
| n + 1 =>
(cond (decide (x_k6 < ((v9.length : Nat) : Int)))
(cond x_some6
(G.laws_FnIndexStorePut.L4 n v2 v9 x_i2 true (IntKind.wrap .i64 (x_k6 + 1)))
(chk (0 ≤ x_k6 ∧ x_k6 < ((v9.length : Nat) : Int))
(chk (0 ≤ x_i2 ∧ x_i2 < ((v2.length : Nat) : Int))
(cond ((v9.getD x_k6.toNat default).Name == (v2.getD x_i2.toNat default).Name)
(chk (0 ≤ x_k6 ∧ x_k6 < ((v9.length : Nat) : Int))
(chk (0 ≤ x_i2 ∧ x_i2 < ((v2.length : Nat) : Int))
(Option.bind (G.laws_equalNode n ((v9.getD x_k6.toNat default).Key) ((v2.getD x_i2.toNat default).Key)) fun v18 =>
(G.laws_FnIndexStorePut.L4 n v2 v9 x_i2 v18 (IntKind.wrap .i64 (x_k6 + 1))))))
(G.laws_FnIndexStorePut.L4 n v2 v9 x_i2 false (IntKind.wrap .i64 (x_k6 + 1)))))))
(cond x_some6
(G.laws_FnIndexStorePut.L3 n v2 v9 true (IntKind.wrap .i64 (x_i2 + 1)))
(some (false))))
def G.laws_FnIndexStorePut.L3 (f : Nat) (v2 : List EntryT) (v9 : List EntryT) (x_ok2 : Bool) (x_i2 : Int) : Option (Bool) := match f with
| 0 => none
| n + 1 =>
(cond (decide (x_i2 < ((v2.length : Nat) : Int)))
(cond x_ok2
(chk (0 ≤ x_i2 ∧ x_i2 < ((v2.length : Nat) : Int))
(G.laws_FnIndexStorePut.L4 n v2 v9 x_i2 ((v2.getD x_i2.toNat default).Name == [98]) 0))
(some (true)))
(some (true)))
end
def G.laws_FnIndexStorePut (f : Nat) (a_code1 : List Int) : Option (Bool) := match f with
| 0 => none
| n + 1 =>
(cond (decide (1048576 < ((a_code1.length : Nat) : Int)))
(some (true))
(Option.bind (G.spec_DrawIndexStore n a_code1) fun v1 =>
(Option.bind (G.impl_IndexStore n v1.1 v1.2) fun v2 =>
(Option.bind (G.spec_IndexStore n v1.1 v1.2) fun v3 =>
(Option.bind (G.laws_equalEntries n v2 v3) fun v4 =>
(cond v4
(cond (((v2.length : Nat) : Int) == 0)
(Option.bind (G.spec_IndexStore n v1.1 v1.2) fun v5 =>
(Option.bind (G.laws_equalEntries n v2 v5) fun v6 =>
(some (v6))))
(Option.bind (G.laws_none n) fun v7 =>
(Option.bind (G.impl_PutItem n v1.1 [98] v7) fun v8 =>
(Option.bind (G.impl_IndexStore n v8.1 v1.2) fun v9 =>
(G.laws_FnIndexStorePut.L3 n v2 v9 v8.2 0)))))
(Option.bind (G.spec_IndexStore n v1.1 v1.2) fun v19 =>
(Option.bind (G.laws_equalEntries n v2 v19) fun v20 =>
(some (v20))))))))))
end Go.Ab
end
section
namespace Go.Ab
open Go
set_option maxRecDepth 100000
set_option linter.defProp false
theorem mapTakeS {α β : Type} (f : α → β) (l : List α) (n : Nat) : List.take n (List.map f l) = List.map f (List.take n l) := List.map_take.symm
theorem mapDropS {α β : Type} (f : α → β) (l : List α) (n : Nat) : List.drop n (List.map f l) = List.map f (List.drop n l) := List.map_drop.symm
theorem kq1 {i : Int} {m : Nat} [inst : Decidable (0 ≤ i ∧ i < (m : Int))] {α : Type} {k : Option α} {r : α} (h : chk (0 ≤ i ∧ i < (m : Int)) k = some r) : (0 ≤ i ∧ i < (m : Int)) ∧ i.toNat < m ∧ k = some r := by
  obtain ⟨h1, h2⟩ := chk_some.1 h
  exact ⟨h1, by omega, h2⟩
inductive Mk : Nat → Prop
  | mk (n : Nat) : Mk n
theorem kq0 {m : Nat} [inst : Decidable ((0 : Nat) ≤ 0 ∧ (0 : Int) < (m : Int))] {α : Type} {k : Option α} {r : α} (h : chk ((0 : Nat) ≤ 0 ∧ (0 : Int) < (m : Int)) k = some r) : (0 : Int) < (m : Int) ∧ 0 < m ∧ k = some r := by
  obtain ⟨h1, h2⟩ := chk_some.1 h
  exact ⟨h1.2, by omega, h2⟩
theorem kq {c : Prop} [Decidable c] {α : Type} {k : Option α} {r : α} (h : chk c k = some r) : c ∧ k = some r := chk_some.1 h
theorem bq {α β : Type} {x : Option α} {f : α → Option β} {r : β} (h : Option.bind x f = some r) : ∃ a, x = some a ∧ f a = some r := Option.bind_eq_some_iff.1 h
section
variable {P : Program} {Q : AQ} {st : ASt}
theorem isCall {f : FuncId} {avs : List AV} {p : Bool} {d : Option Nat} {K : List Nat → List Nat → ASt → Prop} {du : DU K} (k : TCallK P f avs p d st K du) : TCallK P f avs p d st K du := k
theorem isLoop {a : AQ → ASt → Prop} {d1 : DU a} {d2 : DU Q} (k : WLoopK a Q st d1 d2) : WLoopK a Q st d1 d2 := k
theorem isCut {a b : AQ → ASt → Prop} {d1 : DU a} {d2 : DU b} {d3 : DU Q} (k : WCutK a b Q st d1 d2 d3) : WCutK a b Q st d1 d2 d3 := k
theorem isEx {X : Type} {p : X → Prop} (k : ∃ x, p x) : ∃ x, p x := k
theorem isEnd {rs : List ARes} {r : AV} (k : PEnd rs r st) : PEnd rs r st := k
theorem isRet {rs : List ARes} {m : Nat} {post : AV → List Box → Prop} (k : RetOK rs m post st) : RetOK rs m post st := k
end
theorem sq {α : Type} {x r : α} (h : some x = some r) : r = x := (Option.some.inj h).symm
theorem cq {b : Bool} {α : Type} {x y : Option α} {r : α} (h : cond b x y = some r) : (b = true ∧ x = some r) ∨ (b = false ∧ y = some r) := cond_some.1 h
def egD := And.intro @wpCK_skip (And.intro @wpCK_reg (And.intro @wpCK_regD (And.intro @wpCK_seq (And.intro @wpCK_cut (And.intro @wpCK_loop (And.intro @wpCK_block (And.intro @wpCK_exit (And.intro @wpCK_ret (And.intro @wpCK_cond (And.intro @condK_t (And.intro @condK_f (And.intro @QK_then_n (And.intro @QK_then_e (And.intro @QK_then_r (And.intro @QK_next_n (And.intro @QK_next_e (And.intro @QK_next_r (And.intro @QK_block_n (And.intro @QK_block_e (And.intro @QK_block_r (And.intro @QK_QP_n (And.intro @QK_QP_r (And.intro @QK_QF_n (And.intro @QK_QF_r (And.intro @wpOpsK_nil (And.intro @wpOpsK_cons (And.intro @wpDK_nil (And.intro @wpDK_cons (And.intro @TK_op' (And.intro @TGK_t (And.intro @TGK_f (And.intro @TOpV_m (And.intro @TK_call (And.intro @TK_callv (And.intro @TCallV_eq (And.intro @TCallV_f (And.intro @slots0.eq_1 (And.intro @slots0.eq_2 (And.intro @boxes0.eq_1 (And.intro @boxes0.eq_2 (And.intro @st0.eq_1 (And.intro @guardVC.eq_1 (And.intro @guardVC.eq_2 (And.intro @guardV.eq_1 (And.intro @guardV.eq_2 (And.intro @AOp.valid.eq_1 (And.intro @AOp.valid.eq_2 (And.intro @avOf.eq_1 (And.intro @ev_t (And.intro @ev_k (And.intro @g_v (And.intro @x_v (And.intro @of_tm (And.intro @of_bx (And.intro @of_put (And.intro @of_setb (And.intro @of_keep (And.intro @lookT.eq_1 (And.intro @lookT.eq_2 (And.intro @lookB.eq_1 (And.intro @lookB.eq_2 (And.intro @keepL.eq_1 (And.intro @keepL.eq_2 (And.intro @setB.eq_1 (And.intro @setB.eq_2 (And.intro @putO_none (And.intro @putO_some (And.intro @setbs_nil (And.intro @setbs_cons (And.intro @FR.ok.eq_1 (And.intro @binV.eq_1 (And.intro @binV.eq_2 (And.intro @binV.eq_3 (And.intro @AV.flat.eq_1 (And.intro @AV.flat.eq_2 (And.intro @AV.cells.eq_1 (And.intro @AV.cells.eq_2 (And.intro @AV.cells.eq_3 (And.intro @loadV.eq_1 (And.intro @loadV.eq_2 (And.intro @loadV.eq_3 (And.intro @loadV.eq_4 (And.intro @partOK.eq_1 (And.intro @fillV.eq_1 (And.intro @fillV.eq_2 (And.intro @splice.eq_1 (And.intro @Box.arr.eq_1 (And.intro @Box.arr.eq_2 (And.intro @Box.arr.eq_3 (And.intro @dataOf.eq_1 (And.intro @dataOf.eq_2 (And.intro @dataOf.eq_3 (And.intro @dataOf.eq_4 (And.intro @datas.eq_1 (And.intro @datas.eq_2 (And.intro @bnd.eq_1 (And.intro @bnd.eq_2 (And.intro @pickV.eq_1 (And.intro @pickV.eq_2 (And.intro @logOK_nn (And.intro @logOK_n0 (And.intro @vStr.eq_1 (And.intro @vInt.eq_1 (And.intro @vBool.eq_1 (And.intro @vSl.eq_1 (And.intro @lendA.eq_1 (And.intro @lendA.eq_2 (And.intro @lendA.eq_3 (And.intro @lendC.eq_1 (And.intro @lendC.eq_2 (And.intro @lendC.eq_3 (And.intro @lendOKs.eq_1 (And.intro @lendOKs.eq_2 (And.intro @lendOKs.eq_3 (And.intro @lendOK.eq_1 (And.intro @lendOK.eq_2 (And.intro @lendOK.eq_3 (And.intro @AV.owns.eq_1 (And.intro @AV.owns.eq_2 (And.intro @AV.owns.eq_3 (And.intro @ownsOf.eq_1 (And.intro @ownsOf.eq_2 (And.intro @ownsOf.eq_3 (And.intro @AC.isData.eq_1 (And.intro @AC.isData.eq_2 (And.intro @AC.isLit.eq_1 (And.intro @AC.isLit.eq_2 (And.intro @AV.all.eq_1 (And.intro @AV.all.eq_2 (And.intro @AV.all.eq_3 (And.intro @Cell.isLit.eq_1 (And.intro @Cell.isLit.eq_2 (And.intro @List.mem_cons.{0} (And.intro @List.not_mem_nil.{0} (And.intro @or_false (And.intro @false_or (And.intro @or_true (And.intro @true_or (And.intro @forall_eq.{1} (And.intro @forall_eq_or_imp.{1} (And.intro @true_and (And.intro @and_true (And.intro @true_implies (And.intro @false_implies (And.intro @implies_true.{1} (And.intro @if_true.{1} (And.intro @if_false.{1} (And.intro @Bool.false_eq_true (And.intro @Bool.true_eq_false (And.intro @imp_self (And.intro @and_self (And.intro @cond_true.{1} (And.intro @cond_false.{1} (And.intro @List.map_cons.{0,0} (And.intro @List.map_nil.{0,0} (And.intro @List.take_succ_cons.{0} (And.intro @List.take_zero.{0} (And.intro @List.drop_succ_cons.{0} (And.intro @List.drop_zero.{0} (And.intro @List.take_nil.{0} (And.intro @List.drop_nil.{0} (And.intro @List.cons_append.{0} (And.intro @List.nil_append.{0} (And.intro @List.append_nil.{0} (And.intro @List.length_cons.{0} (And.intro @List.length_nil.{0} (And.intro @List.getElem?_cons_zero.{0} (And.intro @List.getElem?_cons_succ.{0} (And.intro @List.length_map.{0,0} (And.intro @List.length_replicate.{0} (And.intro @List.length_append.{0} (And.intro @List.map_append.{0,0} (And.intro @List.flatMap_cons.{0,0} (And.intro @List.flatMap_nil.{0,0} (And.intro @List.all_cons.{0} (And.intro @List.all_nil.{0} (And.intro @List.contains_cons.{0} (And.intro @List.contains_nil.{0} (And.intro @Bool.and_true (And.intro @Bool.or_false (And.intro @Bool.false_or (And.intro @Bool.true_or (And.intro @Bool.or_true (And.intro @Bool.and_self (And.intro @Bool.not_false (And.intro @Bool.not_true (And.intro @Bool.true_and (And.intro @Bool.false_and (And.intro @Bool.and_false (And.intro @Nat.zero_lt_succ (And.intro @Nat.zero_le (And.intro @Nat.zero_add (And.intro @Nat.le_refl (And.intro @Nat.min_self (And.intro @bq_t (And.intro @bq_f (And.intro @decide_true (And.intro @decide_false (And.intro @beqV.eq_1 (And.intro @beqV.eq_2 (And.intro @shfV.eq_1 (And.intro @shfV.eq_2 (And.intro @capV.eq_1 (And.intro @capV.eq_2 (And.intro @capV.eq_3 (And.intro @cmpsV.eq_1 (And.intro @cmpsV.eq_2 (And.intro @ovlV.eq_1 (And.intro @asSub.eq_1 (And.intro @asSub.eq_2 (And.intro @asSub.eq_3 (And.intro @cI.eq_1 (And.intro @cU.eq_1 (And.intro @cB.eq_1 (And.intro @cS.eq_1 (And.intro @cL.eq_1 (And.intro @cK.eq_1 (And.intro @NodeT.cells_eq (And.intro @EntryT.cells_eq (And.intro @StoreT.cells_eq (And.intro @ItemT.cells_eq (And.intro @ReaderT.cells_eq (And.intro @EntryT.dropS (And.intro @List.getD_cons_zero.{0} (And.intro @List.getD_cons_succ.{0} (And.intro @List.map_set.{0,0} (And.intro @List.length_set.{0} (And.intro @getD_mapL (And.intro @take_len (And.intro @take_c1 (And.intro @take_c2 (And.intro @of_frzL (And.intro @frzL.eq_1 (And.intro @frzL.eq_2 (And.intro @frzL_nil (And.intro @frzB.eq_1 (And.intro @frzB.eq_2 (And.intro @bytesOf_cU (And.intro @bytesTxt_length (And.intro @bytesOf_nil (And.intro @bytesOf_one (And.intro @Option.map_some.{0,0} (And.intro @Int.toNat_natCast (And.intro @Int.toNat_zero (And.intro @mapTakeS (And.intro @mapDropS (And.intro @bne_self_eq_false.{0} (And.intro @Bool.bne_true (And.intro @Bool.bne_false (And.intro @List.drop_replicate.{0} (And.intro @Nat.sub_self (And.intro @capsOf.eq_1 (And.intro @capsOf.eq_2 (And.intro @capsOf.eq_3 (And.intro @Option.toList_none.{0} (And.intro @Option.toList_some.{0} (And.intro @frzs.eq_1 (And.intro @partOwns.eq_1 (And.intro @partOwns.eq_2 (And.intro @partLend.eq_1 (And.intro @partLend.eq_2 (And.intro @eq_self.{1} (And.intro @List.replicate_zero.{0} (And.intro @List.replicate_succ.{0} (And.intro @fillE.eq_1 (And.intro @fillE.eq_2 (And.intro @datParts.eq_1 (And.intro @datParts.eq_2 (And.intro @List.set_cons_zero.{0} (And.intro @List.set_cons_succ.{0} (And.intro @drop1S (And.intro @renB.eq_1 (And.intro @renB.eq_2 (And.intro @renA.eq_1 (And.intro @renA.eq_2 (And.intro @renA.eq_3 (And.intro @List.zip_cons_cons.{0,0} (And.intro @List.zip_nil_right.{0,0} (And.intro @List.zip_nil_left.{0,0} (And.intro @beq_self_eq_true.{0} @Nat.add_zero))))))))))))))))))))))))))))))))))))))))))))))))))))))))))))))))))))))))))))))))))))))))))))))))))))))))))))))))))))))))))))))))))))))))))))))))))))))))))))))))))))))))))))))))))))))))))))))))))))))))))))))))))))))))))))))))))))))))))))))))))))))))))))))))))))))))))))))))))))))))
theorem egR : type_of% egD := egD
def wkD := And.intro @wkBs.eq_1 (And.intro @wkBs.eq_2 (And.intro @wkTs.eq_1 (And.intro @wkTs.eq_2 (And.intro @wkSl.eq_1 (And.intro @wkSl.eq_2 (And.intro @wkSl.eq_3 (And.intro @wkV.eq_1 (And.intro @wkV.eq_2 (And.intro @wkV.eq_3 (And.intro @wkV.eq_4 (And.intro @wkCs.eq_1 (And.intro @wkCs.eq_2 (And.intro @wkCs.eq_3 (And.intro @piL.eq_1 (And.intro @piL.eq_2 (And.intro @lookT.eq_1 (And.intro @lookT.eq_2 (And.intro @lookB.eq_1 (And.intro @lookB.eq_2 (And.intro @true_and (And.intro @and_true (And.intro @implies_true.{1} (And.intro @List.mem_cons.{0} (And.intro @List.not_mem_nil.{0} (And.intro @or_false (And.intro @or_true (And.intro @true_or (And.intro @Box.arr.eq_1 (And.intro @Box.arr.eq_2 (And.intro @Box.arr.eq_3 (And.intro @vStr.eq_1 (And.intro @vInt.eq_1 (And.intro @vBool.eq_1 (And.intro @vSl.eq_1 (And.intro @not_false_eq_true (And.intro @false_or (And.intro @Option.some.injEq.{0} (And.intro @true_implies (And.intro @cI.eq_1 (And.intro @cU.eq_1 (And.intro @cB.eq_1 (And.intro @cS.eq_1 (And.intro @cL.eq_1 (And.intro @cK.eq_1 (And.intro @NodeT.cells_eq (And.intro @EntryT.cells_eq (And.intro @StoreT.cells_eq (And.intro @ItemT.cells_eq (And.intro @ReaderT.cells_eq (And.intro @EntryT.dropS (And.intro @List.map_append.{0,0} (And.intro @List.map_cons.{0,0} (And.intro @List.map_nil.{0,0} (And.intro @List.map_set.{0,0} (And.intro @List.map_take.{0,0} (And.intro @List.map_drop.{0,0} (And.intro @List.map_replicate.{0,0} (And.intro @List.length_append.{0} (And.intro @List.length_cons.{0} (And.intro @List.length_nil.{0} (And.intro @List.length_map.{0,0} (And.intro @List.length_set.{0} (And.intro @List.length_replicate.{0} (And.intro @Nat.zero_add (And.intro @Nat.add_zero (And.intro @List.nil_append.{0} (And.intro @List.cons_append.{0} (And.intro @List.append_nil.{0} (And.intro @take_len (And.intro @take_c1 (And.intro @take_c2 @and_self)))))))))))))))))))))))))))))))))))))))))))))))))))))))))))))))))))))))
theorem wkR : type_of% wkD := wkD
def peD := And.intro @PEnd.eq_1 (And.intro @resOKs.eq_1 (And.intro @resOKs.eq_2 (And.intro @ARes.ok.eq_1 (And.intro @ARes.ok.eq_2 (And.intro @ARes.val.eq_1 (And.intro @ARes.val.eq_2 (And.intro @retV.eq_1 (And.intro @retV.eq_2 (And.intro @resParts.eq_1 (And.intro @resParts.eq_2 (And.intro @partOf.eq_1 (And.intro @partOf.eq_2 (And.intro @partOf.eq_3 (And.intro @of_tm (And.intro @of_bx (And.intro @of_bx' (And.intro @g_v (And.intro @x_v (And.intro @AV.flat.eq_1 (And.intro @AV.flat.eq_2 (And.intro @loadV.eq_1 (And.intro @loadV.eq_2 (And.intro @loadV.eq_3 (And.intro @loadV.eq_4 (And.intro @lookT.eq_1 (And.intro @lookT.eq_2 (And.intro @lookB.eq_1 (And.intro @lookB.eq_2 (And.intro @dV.eq_1 (And.intro @dV.eq_2 (And.intro @dV.eq_3 (And.intro @dV.eq_4 (And.intro @dC.eq_1 (And.intro @dC.eq_2 (And.intro @dC.eq_3 (And.intro @dC.eq_4 (And.intro @dCs.eq_1 (And.intro @dCs.eq_2 (And.intro @dCs.eq_3 (And.intro @dPs.eq_1 (And.intro @dPs.eq_2 (And.intro @dPs.eq_3 (And.intro @Box.arr.eq_1 (And.intro @Box.arr.eq_2 (And.intro @Box.arr.eq_3 (And.intro @List.take_succ_cons.{0} (And.intro @List.take_zero.{0} (And.intro @List.drop_zero.{0} (And.intro @List.drop_succ_cons.{0} (And.intro @List.length_cons.{0} (And.intro @List.length_nil.{0} (And.intro @List.getElem?_cons_zero.{0} (And.intro @List.getElem?_cons_succ.{0} (And.intro @true_and (And.intro @and_true (And.intro @Nat.zero_add (And.intro @vInt.eq_1 (And.intro @vBool.eq_1 (And.intro @vStr.eq_1 (And.intro @vSl.eq_1 (And.intro @FR.ok.eq_1 (And.intro @cI.eq_1 (And.intro @cU.eq_1 (And.intro @cB.eq_1 (And.intro @cS.eq_1 (And.intro @cL.eq_1 (And.intro @cK.eq_1 (And.intro @NodeT.cells_eq (And.intro @EntryT.cells_eq (And.intro @StoreT.cells_eq (And.intro @ItemT.cells_eq (And.intro @ReaderT.cells_eq (And.intro @EntryT.dropS (And.intro @List.map_append.{0,0} (And.intro @List.map_cons.{0,0} (And.intro @List.map_nil.{0,0} (And.intro @List.map_set.{0,0} (And.intro @List.map_take.{0,0} (And.intro @List.map_drop.{0,0} (And.intro @List.map_replicate.{0,0} (And.intro @List.length_append.{0} (And.intro @List.length_map.{0,0} (And.intro @List.length_set.{0} (And.intro @List.length_replicate.{0} (And.intro @Nat.add_zero (And.intro @List.nil_append.{0} (And.intro @List.cons_append.{0} (And.intro @List.append_nil.{0} (And.intro @take_len (And.intro @take_c1 (And.intro @take_c2 (And.intro @and_self @bytesTxt_length))))))))))))))))))))))))))))))))))))))))))))))))))))))))))))))))))))))))))))))))))))))))))))
theorem peR : type_of% peD := peD
def rwD := And.intro @wkBs.eq_1 (And.intro @wkBs.eq_2 (And.intro @wkTs.eq_1 (And.intro @wkTs.eq_2 (And.intro @wkSl.eq_1 (And.intro @wkSl.eq_2 (And.intro @wkSl.eq_3 (And.intro @wkV.eq_1 (And.intro @wkV.eq_2 (And.intro @wkV.eq_3 (And.intro @wkV.eq_4 (And.intro @wkCs.eq_1 (And.intro @wkCs.eq_2 (And.intro @wkCs.eq_3 (And.intro @piL.eq_1 (And.intro @piL.eq_2 (And.intro @lookT.eq_1 (And.intro @lookT.eq_2 (And.intro @lookB.eq_1 (And.intro @lookB.eq_2 (And.intro @true_and (And.intro @and_true (And.intro @implies_true.{1} (And.intro @List.mem_cons.{0} (And.intro @List.not_mem_nil.{0} (And.intro @or_false (And.intro @or_true (And.intro @true_or (And.intro @Box.arr.eq_1 (And.intro @Box.arr.eq_2 (And.intro @Box.arr.eq_3 (And.intro @vStr.eq_1 (And.intro @vInt.eq_1 (And.intro @vBool.eq_1 (And.intro @vSl.eq_1 (And.intro @not_false_eq_true (And.intro @false_or (And.intro @Option.some.injEq.{0} (And.intro @true_implies (And.intro @cI.eq_1 (And.intro @cU.eq_1 (And.intro @cB.eq_1 (And.intro @cS.eq_1 (And.intro @cL.eq_1 (And.intro @cK.eq_1 (And.intro @NodeT.cells_eq (And.intro @EntryT.cells_eq (And.intro @StoreT.cells_eq (And.intro @ItemT.cells_eq (And.intro @ReaderT.cells_eq (And.intro @EntryT.dropS (And.intro @List.map_append.{0,0} (And.intro @List.map_cons.{0,0} (And.intro @List.map_nil.{0,0} (And.intro @List.map_set.{0,0} (And.intro @List.map_take.{0,0} (And.intro @List.map_drop.{0,0} (And.intro @List.map_replicate.{0,0} (And.intro @List.length_append.{0} (And.intro @List.length_cons.{0} (And.intro @List.length_nil.{0} (And.intro @List.length_map.{0,0} (And.intro @List.length_set.{0} (And.intro @List.length_replicate.{0} (And.intro @Nat.zero_add (And.intro @Nat.add_zero (And.intro @List.nil_append.{0} (And.intro @List.cons_append.{0} (And.intro @List.append_nil.{0} (And.intro @take_len (And.intro @take_c1 (And.intro @take_c2 (And.intro @and_self (And.intro @boxes0.eq_1 (And.intro @boxes0.eq_2 (And.intro @wkPs.eq_1 (And.intro @wkPs.eq_2 (And.intro @wkPs.eq_3 (And.intro @PEnd.eq_1 (And.intro @resOKs.eq_1 (And.intro @resOKs.eq_2 (And.intro @ARes.ok.eq_1 (And.intro @ARes.ok.eq_2 (And.intro @ARes.val.eq_1 (And.intro @ARes.val.eq_2 (And.intro @retV.eq_1 (And.intro @retV.eq_2 (And.intro @resParts.eq_1 (And.intro @resParts.eq_2 (And.intro @partOf.eq_1 (And.intro @partOf.eq_2 (And.intro @partOf.eq_3 (And.intro @of_tm (And.intro @of_bx (And.intro @of_bx' (And.intro @g_v (And.intro @x_v (And.intro @AV.flat.eq_1 (And.intro @AV.flat.eq_2 (And.intro @loadV.eq_1 (And.intro @loadV.eq_2 (And.intro @loadV.eq_3 (And.intro @loadV.eq_4 (And.intro @dV.eq_1 (And.intro @dV.eq_2 (And.intro @dV.eq_3 (And.intro @dV.eq_4 (And.intro @dC.eq_1 (And.intro @dC.eq_2 (And.intro @dC.eq_3 (And.intro @dC.eq_4 (And.intro @dCs.eq_1 (And.intro @dCs.eq_2 (And.intro @dCs.eq_3 (And.intro @dPs.eq_1 (And.intro @dPs.eq_2 (And.intro @dPs.eq_3 (And.intro @List.take_succ_cons.{0} (And.intro @List.take_zero.{0} (And.intro @List.drop_zero.{0} (And.intro @List.drop_succ_cons.{0} (And.intro @List.getElem?_cons_zero.{0} (And.intro @List.getElem?_cons_succ.{0} (And.intro @FR.ok.eq_1 @bytesTxt_length)))))))))))))))))))))))))))))))))))))))))))))))))))))))))))))))))))))))))))))))))))))))))))))))))))))))))))))))))))))))))))
theorem rwR : type_of% rwD := rwD
def lnD := And.intro @lendA.eq_1 (And.intro @lendA.eq_2 (And.intro @lendA.eq_3 (And.intro @lendC.eq_1 (And.intro @lendC.eq_2 (And.intro @lendC.eq_3 (And.intro @lendOKs.eq_1 (And.intro @lendOKs.eq_2 (And.intro @lendOKs.eq_3 (And.intro @lendOK.eq_1 (And.intro @lendOK.eq_2 (And.intro @lendOK.eq_3 (And.intro @of_bx (And.intro @lookB.eq_1 (And.intro @lookB.eq_2 (And.intro @Box.arr.eq_1 (And.intro @Box.arr.eq_2 (And.intro @Box.arr.eq_3 (And.intro @AV.cells.eq_1 (And.intro @AV.cells.eq_2 (And.intro @AV.cells.eq_3 (And.intro @List.map_cons.{0,0} (And.intro @List.map_nil.{0,0} (And.intro @List.length_map.{0,0} (And.intro @List.length_append.{0} (And.intro @List.length_cons.{0} (And.intro @List.length_nil.{0} (And.intro @List.length_replicate.{0} (And.intro @List.length_set.{0} (And.intro @take_len (And.intro @take_c1 (And.intro @take_c2 (And.intro @true_and (And.intro @and_true (And.intro @and_self (And.intro @Nat.le_refl (And.intro @Nat.zero_add (And.intro @Nat.add_zero (And.intro @vInt.eq_1 (And.intro @vBool.eq_1 (And.intro @vStr.eq_1 (And.intro @vSl.eq_1 (And.intro @cI.eq_1 (And.intro @cU.eq_1 (And.intro @cB.eq_1 (And.intro @cS.eq_1 (And.intro @cL.eq_1 (And.intro @cK.eq_1 (And.intro @List.map_append.{0,0} (And.intro @List.cons_append.{0} (And.intro @List.nil_append.{0} (And.intro @NodeT.cells_eq (And.intro @EntryT.cells_eq (And.intro @StoreT.cells_eq (And.intro @ItemT.cells_eq (And.intro @ReaderT.cells_eq @EntryT.dropS)))))))))))))))))))))))))))))))))))))))))))))))))))))))
theorem lnR : type_of% lnD := lnD
def ggD := And.intro @sgOK.eq_1 (And.intro @sgOK.eq_2 (And.intro @nuOK.eq_1 (And.intro @nuOK.eq_2 (And.intro @of_bx (And.intro @lookB.eq_1 (And.intro @lookB.eq_2 (And.intro @renB.eq_1 (And.intro @renB.eq_2 (And.intro @List.getD_cons_zero.{0} (And.intro @List.getD_cons_succ.{0} (And.intro @List.cons_append.{0} (And.intro @List.nil_append.{0} (And.intro @List.append_nil.{0} (And.intro @List.map_cons.{0,0} (And.intro @List.map_nil.{0,0} (And.intro @List.map_append.{0,0} (And.intro @List.map_set.{0,0} (And.intro @List.length_append.{0} (And.intro @List.length_cons.{0} (And.intro @List.length_nil.{0} (And.intro @List.length_map.{0,0} (And.intro @List.length_set.{0} (And.intro @List.length_replicate.{0} (And.intro @List.replicate_zero.{0} (And.intro @List.replicate_succ.{0} (And.intro @List.map_replicate.{0,0} (And.intro @Nat.zero_add (And.intro @Nat.add_zero (And.intro @renA.eq_1 (And.intro @renA.eq_2 (And.intro @renA.eq_3 (And.intro @and_self (And.intro @and_true (And.intro @true_and (And.intro @cI.eq_1 (And.intro @cU.eq_1 (And.intro @cB.eq_1 (And.intro @cS.eq_1 (And.intro @cL.eq_1 (And.intro @cK.eq_1 (And.intro @NodeT.cells_eq (And.intro @EntryT.cells_eq (And.intro @StoreT.cells_eq (And.intro @ItemT.cells_eq (And.intro @ReaderT.cells_eq @EntryT.dropS)))))))))))))))))))))))))))))))))))))))))))))
theorem ggR : type_of% ggD := ggD
def ghD := And.intro @sgOK.eq_1 (And.intro @sgOK.eq_2 (And.intro @nuOK.eq_1 (And.intro @nuOK.eq_2 (And.intro @of_bx (And.intro @lookB.eq_1 (And.intro @lookB.eq_2 (And.intro @renB.eq_1 (And.intro @renB.eq_2 (And.intro @List.getD_cons_zero.{0} (And.intro @List.getD_cons_succ.{0} (And.intro @List.cons_append.{0} (And.intro @List.nil_append.{0} (And.intro @List.append_nil.{0} (And.intro @List.map_cons.{0,0} (And.intro @List.map_nil.{0,0} (And.intro @List.map_append.{0,0} (And.intro @List.map_set.{0,0} (And.intro @List.length_append.{0} (And.intro @List.length_cons.{0} (And.intro @List.length_nil.{0} (And.intro @List.length_map.{0,0} (And.intro @List.length_set.{0} (And.intro @List.length_replicate.{0} (And.intro @List.replicate_zero.{0} (And.intro @List.replicate_succ.{0} (And.intro @List.map_replicate.{0,0} (And.intro @Nat.zero_add (And.intro @Nat.add_zero (And.intro @renA.eq_1 (And.intro @renA.eq_2 (And.intro @renA.eq_3 (And.intro @and_self (And.intro @and_true (And.intro @true_and (And.intro @cI.eq_1 (And.intro @cU.eq_1 (And.intro @cB.eq_1 (And.intro @cS.eq_1 (And.intro @cL.eq_1 (And.intro @cK.eq_1 (And.intro @NodeT.cells_eq (And.intro @EntryT.cells_eq (And.intro @StoreT.cells_eq (And.intro @ItemT.cells_eq (And.intro @ReaderT.cells_eq (And.intro @EntryT.dropS (And.intro @of_frzL (And.intro @frzL.eq_1 (And.intro @frzL.eq_2 (And.intro @frzB.eq_1 (And.intro @frzB.eq_2 (And.intro @List.flatMap_cons.{0,0} (And.intro @List.flatMap_nil.{0,0} (And.intro @AV.owns.eq_1 (And.intro @AV.owns.eq_2 (And.intro @AV.owns.eq_3 (And.intro @ownsOf.eq_1 (And.intro @ownsOf.eq_2 (And.intro @ownsOf.eq_3 (And.intro @List.contains_cons.{0} (And.intro @List.contains_nil.{0} (And.intro @Bool.or_false (And.intro @Bool.or_true (And.intro @Bool.false_or (And.intro @if_true.{1} (And.intro @if_false.{1} (And.intro @Bool.false_eq_true (And.intro @lendA.eq_1 (And.intro @lendA.eq_2 (And.intro @lendA.eq_3 (And.intro @lendC.eq_1 (And.intro @lendC.eq_2 (And.intro @lendC.eq_3 (And.intro @lendOKs.eq_1 (And.intro @lendOKs.eq_2 (And.intro @lendOKs.eq_3 (And.intro @lendOK.eq_1 (And.intro @lendOK.eq_2 (And.intro @lendOK.eq_3 (And.intro @Box.arr.eq_1 (And.intro @Box.arr.eq_2 (And.intro @Box.arr.eq_3 (And.intro @AV.cells.eq_1 (And.intro @AV.cells.eq_2 (And.intro @AV.cells.eq_3 (And.intro @Nat.le_refl (And.intro @take_len (And.intro @take_c1 (And.intro @take_c2 (And.intro @vInt.eq_1 (And.intro @vBool.eq_1 (And.intro @vStr.eq_1 @vSl.eq_1))))))))))))))))))))))))))))))))))))))))))))))))))))))))))))))))))))))))))))))))))))))))))))
theorem ghR : type_of% ghD := ghD
end Go.Ab
end
section
namespace Go.Ab
open Go
set_option maxRecDepth 100000
set_option linter.unusedVariables false
def pp {α : Sort _} {β : Sort _} (a : α) (b : β) : PProd α β := ⟨a, b⟩
theorem ihL {n : Nat} {A B : Nat → Prop} (h : ∀ m, m < n → A m ∧ B m) : ∀ m, m < n → A m := fun m hm => (h m hm).1
theorem ihR {n : Nat} {A B : Nat → Prop} (h : ∀ m, m < n → A m ∧ B m) : ∀ m, m < n → B m := fun m hm => (h m hm).2
theorem weakX (zs : List Nat) (pi : List (Nat × Nat)) (vs : List Nat) {m : Nat} {ts0 ts : List (Nat × Slot)} {bs0 bs : List (Nat × Box)} (hk : keysOK m bs0 bs pi vs = true)
    (hb : wkBs zs (lookB bs0) (piL pi) vs bs) (ht : wkTs zs (lookB bs0) (piL pi) vs ts0 ts) : Weak m (ASt.of ts0 bs0) (ASt.of ts bs) := weak_of zs pi vs hk hb ht
theorem retX (zs : List Nat) (pi : List (Nat × Nat)) (vs : List Nat) {rs : List ARes} {ts : List (Nat × Slot)} {bs0 : List (Nat × Box)} {m : Nat} {r : AV} {bs : List Box} (hk : keysOK m bs0 (boxes0 bs 0) pi vs = true)
    (hok : resOKs (ASt.of ts bs0) rs) (hb : wkBs zs (lookB bs0) (piL pi) vs (boxes0 bs 0)) (hv : wkV zs (lookB bs0) (piL pi) vs (retV (ASt.of ts bs0) rs) r) :
    RetOK rs m (fun r1 b1 => r1 = r ∧ b1 = bs) (ASt.of ts bs0) := ret_of zs pi vs hk hok hb hv
section
variable {P : Program} {f : FuncId} {avs : List AV} {d : Option Nat} {st : ASt} {K : List Nat → List Nat → ASt → Prop} {du : DU K} {Q : AQ}
theorem cG (sg nu : List Nat) {P : Program} {f : FuncId} {avs : List AV} {d : Option Nat} {st : ASt} {K : List Nat → List Nat → ASt → Prop} {du : DU K} {ds : List AV} {fp bs0 : List Box} {r0 : AV} (h : ACalls P f ds fp (fun r bs => r = r0 ∧ bs = bs0)) (hl : sg.length = fp.length) (hn : nodupB (sg ++ nu) = true) (hf : sgOK st (sg ++ nu) fp 0) (hv : nuOK st nu)
    (hra : (ds.all fun x => x.all (AC.refsLt fp.length)) = true) (hrf : fp.all (Box.refsLt fp.length) = true) (ha : avs = ds.map (renA fun b => (sg ++ nu).getD b 0)) (hb : bs0.length = (sg ++ nu).length)
    (k : K (sg ++ nu) (sg ++ nu) ((st.setbs ((sg ++ nu).zip (bs0.map (renB fun b => (sg ++ nu).getD b 0)))).putO d (.v true (renA (fun b => (sg ++ nu).getD b 0) r0)))) : TCallK P f avs true d st K du := callG sg nu h hl hn hf hv hra hrf ha hb k
theorem cH (sg nu : List Nat) {P : Program} {f : FuncId} {avs : List AV} {d : Option Nat} {st : ASt} {K : List Nat → List Nat → ASt → Prop} {du : DU K} {ds : List AV} {fp bs0 : List Box} {r0 : AV} (h : ACalls P f ds fp (fun r bs => r = r0 ∧ bs = bs0)) (he : avs.map (lendA st.bx) = ds.map (renA fun b => (sg ++ nu).getD b 0)) (hlo : lendOKs st.bx avs)
    (hl : sg.length = fp.length) (hn : nodupB (sg ++ nu) = true) (hf : sgOK (st.frz (avs.flatMap AV.owns)) (sg ++ nu) fp 0) (hv : nuOK st nu)
    (hra : (ds.all fun x => x.all (AC.refsLt fp.length)) = true) (hrf : fp.all (Box.refsLt fp.length) = true) (hb : bs0.length = (sg ++ nu).length)
    (k : K (avs.flatMap AV.owns ++ (sg ++ nu)) (avs.flatMap AV.owns ++ (sg ++ nu)) (((st.frz (avs.flatMap AV.owns)).setbs ((sg ++ nu).zip (bs0.map (renB fun b => (sg ++ nu).getD b 0)))).putO d (.v true (renA (fun b => (sg ++ nu).getD b 0) r0)))) : TCallK P f avs true d st K du := callH sg nu h he hlo hl hn hf hv hra hrf hb k
theorem cutX (X : Type) (R : Type) (g : Nat → X → Option R) (r : R) (S : X → ASt) (N : Nat) {P : Program} {st : ASt} {Q : AQ} {a b : ACode} {d1 : DU (wpC P a)} {d2 : DU (wpC P b)} {d3 : DU Q}
    (h1 : wpCK P a (AExit.then (fun st' => ∃ x m, (g m x = some r ∧ m ≤ N) ∧ Weak 10 st' (S x)) Q) st .mk .mk) (h2 : ∀ n x, n ≤ N → g n x = some r → wpCK P b Q (S x) .mk .mk) : WCutK (wpC P a) (wpC P b) Q st d1 d2 d3 := by
  refine cutK (X := X × Nat) (fun p => g p.2 p.1 = some r ∧ p.2 ≤ N) (fun p => S p.1) (wpC_mono (fun e st h => ?_) h1) (fun p hp => h2 p.2 p.1 hp.2 hp.1)
  cases e with
  | normal => obtain ⟨x, m, h, hw⟩ := h; exact ⟨(x, m), h, hw⟩
  | _ => exact h
theorem lopX (X : Type) (R : Type) (g : Nat → X → Option R) (r : R) (S : X → ASt) (N : Nat) {P : Program} {st : ASt} {Q : AQ} {a : ACode} {d1 : DU (wpC P a)} {d2 : DU Q} (h0 : ∃ x m, (g m x = some r ∧ m ≤ N) ∧ Weak 10 st (S x))
    (h : ∀ n x, n ≤ N → g n x = some r → wpCK P a (AExit.then (fun st' => ∃ x' m, (g m x' = some r ∧ m ≤ N ∧ m < n) ∧ Weak 10 st' (S x')) Q) (S x) .mk .mk) : WLoopK (wpC P a) Q st d1 d2 := by
  obtain ⟨x, m, h0, hw⟩ := h0
  refine loopK (X := X × Nat) (fun p => g p.2 p.1 = some r ∧ p.2 ≤ N) (fun p => S p.1) (fun p => p.2) (x, m) h0 hw (fun p hp => wpC_mono (fun e st h => ?_) (h p.2 p.1 hp.2 hp.1))
  cases e with
  | normal => obtain ⟨x, m, h, hw⟩ := h; exact ⟨(x, m), ⟨⟨h.1, h.2.1⟩, h.2.2⟩, hw⟩
  | _ => exact h
end
theorem tWK {p : Prop} (x : p := by simp -dsimp only [wkR, wkB, wkC, reduceIte, Nat.reduceEqDiff, reduceCtorEq] <;> simp [List.take_of_length_le] <;> fail) : p := x
theorem tPE {p : Prop} (x : p := by (simp -dsimp only [peR, reduceIte, Nat.reduceEqDiff, Nat.reduceAdd, Nat.reduceLeDiff, reduceCtorEq] <;> first | (simp [List.take_of_length_le]; done) | ((try simp only [List.map_take, List.map_drop, List.map_append, List.map_cons, List.map_nil]) <;> (repeat' apply And.intro) <;> first | rfl | (simp; done) | (simp <;> omega; done) | (congr 1; exact (List.take_of_length_le (by simp <;> omega)).symm)))) : p := x
theorem tRE {p : Prop} (x : p := by (simp -dsimp only [rwR, wkB, wkC, reduceIte, Nat.reduceEqDiff, reduceCtorEq, Nat.reduceAdd, Nat.reduceLeDiff] <;> first | (simp [List.take_of_length_le]; done) | ((try simp only [List.map_take, List.map_drop, List.map_append, List.map_cons, List.map_nil]) <;> (repeat' apply And.intro) <;> first | rfl | (simp; done) | (simp <;> omega; done) | (congr 1; exact (List.take_of_length_le (by simp <;> omega)).symm)))) : p := x
theorem tLN {p : Prop} (x : p := by (simp only [lnR, reduceIte, Nat.reduceEqDiff] <;> omega)) : p := x
theorem tGG {p : Prop} (x : p := by (simp only [ggR, renC, reduceIte, Nat.reduceEqDiff, Nat.reduceLeDiff, Nat.reduceAdd] <;> omega)) : p := x
theorem tGR {p : Prop} (x : p := by first | rfl | (simp only [ggR, renC, reduceIte, Nat.reduceEqDiff, Nat.reduceLeDiff, Nat.reduceAdd] <;> omega)) : p := x
theorem tGH {p : Prop} (x : p := by (simp only [ghR, renC, reduceIte, Nat.reduceEqDiff, Nat.reduceLeDiff, Nat.reduceAdd, Nat.reduceBEq] <;> omega)) : p := x
theorem tFIT {p : Prop} (x : p := by ((try simp only [Prod.exists]); (first | refine ⟨_, _, ⟨h, ?_⟩, ?_⟩ | refine ⟨_, _, _, ⟨h, ?_⟩, ?_⟩ | refine ⟨_, _, _, _, ⟨h, ?_⟩, ?_⟩ | refine ⟨_, _, _, _, _, ⟨h, ?_⟩, ?_⟩ | refine ⟨_, _, _, _, _, _, ⟨h, ?_⟩, ?_⟩ | refine ⟨_, _, _, _, _, _, _, ⟨h, ?_⟩, ?_⟩ | refine ⟨_, _, _, _, _, _, _, _, ⟨h, ?_⟩, ?_⟩ | refine ⟨_, _, _, _, _, _, _, _, _, ⟨h, ?_⟩, ?_⟩ | refine ⟨_, _, _, _, _, _, _, _, _, _, ⟨h, ?_⟩, ?_⟩ | refine ⟨_, _, _, _, _, _, _, _, _, _, _, ⟨h, ?_⟩, ?_⟩ | refine ⟨_, _, _, _, _, _, _, _, _, _, _, _, ⟨h, ?_⟩, ?_⟩ | refine ⟨_, _, _, _, _, _, _, _, _, _, _, _, _, ⟨h, ?_⟩, ?_⟩ | refine ⟨_, _, _, _, _, _, _, _, _, _, _, _, _, _, ⟨h, ?_⟩, ?_⟩ | refine ⟨_, _, _, _, _, _, _, _, _, _, _, _, _, _, _, ⟨h, ?_⟩, ?_⟩ | refine ⟨_, _, _, _, _, _, _, _, _, _, _, _, _, _, _, _, ⟨h, ?_⟩, ?_⟩ | refine ⟨(), _, ⟨h, ?_⟩, ?_⟩); (focus omega); first | exact zj.1 (by rfl) tWK tWK | exact zj.2.1 (by rfl) tWK tWK | exact zj.2.2.1 (by rfl) tWK tWK | exact zj.2.2.2.1 (by rfl) tWK tWK | exact zj.2.2.2.2.1 (by rfl) tWK tWK | exact zj.2.2.2.2.2.1 (by rfl) tWK tWK | exact zj.2.2.2.2.2.2.1 (by rfl) tWK tWK | exact zj.2.2.2.2.2.2.2.1 (by rfl) tWK tWK | exact zj.2.2.2.2.2.2.2.2.1 (by rfl) tWK tWK | exact zj.2.2.2.2.2.2.2.2.2.1 (by rfl) tWK tWK | exact zj.2.2.2.2.2.2.2.2.2.2.1 (by rfl) tWK tWK | exact zj.2.2.2.2.2.2.2.2.2.2.2.1 (by rfl) tWK tWK | exact zj.2.2.2.2.2.2.2.2.2.2.2.2.1 (by rfl) tWK tWK | exact zj.2.2.2.2.2.2.2.2.2.2.2.2.2.1 (by rfl) tWK tWK)) : p := x
theorem drv {p : Prop} (x : p := by
  repeat' first
  | (clear h; (with_reducible intro n x hn h); rcases n with _ | n <;> simp only [ze.1, reduceCtorEq] at h)
  | (simp only [reduceCtorEq] at h; done)
  | ((with_reducible replace h := kq0 h); obtain ⟨_, _, h⟩ := h)
  | ((with_reducible replace h := kq1 h); obtain ⟨_, _, h⟩ := h)
  | ((with_reducible replace h := kq h); obtain ⟨_, h⟩ := h)
  | ((with_reducible replace h := sq h); subst h; have h := True.intro)
  | (try simp -dsimp only [egR, AOp.opds, AOp.f, AOp.rd, intBin, storeV, lvl, srcOf, reduceIte, Nat.reduceEqDiff, Nat.reduceAdd, Nat.reduceLeDiff, Nat.reduceBEq, reduceCtorEq, Int.reduceBNe, Int.reduceBEq, Int.reduceLT, Int.reduceLE, Int.reduceNeg, Nat.reduceLT, strBin, Int.reduceToNat, renC, *]
     repeat ((with_reducible refine And.intro ?_ ?_); focus first | (show logOK _ _ _ _ = true; kernel_rfl) | (show callOK _ _ = true; kernel_rfl) | omega | assumption | (show _ ≤ maxLen; decide))
     first
     | with_reducible refine callN ?_
     | ((with_reducible refine isCut ?_); with_reducible refine zu.1 n ?_ ?_)
     | ((with_reducible refine isLoop ?_); first | ((with_reducible refine zk.1 n ?_ ?_); (focus exact tFIT)) | ((with_reducible refine zk.2.1 n ?_ ?_); (focus exact tFIT)) | ((with_reducible refine zk.2.2.1 n ?_ ?_); (focus exact tFIT)) | ((with_reducible refine zk.2.2.2.1 n ?_ ?_); (focus exact tFIT)) | ((with_reducible refine zk.2.2.2.2.1 n ?_ ?_); (focus exact tFIT)) | ((with_reducible refine zk.2.2.2.2.2.1 n ?_ ?_); (focus exact tFIT)))
     | ((with_reducible refine isCall ?_); (with_reducible replace h := bq h); obtain ⟨_, hv, h⟩ := h; first | ((first | with_reducible have hc := zc.1 hv | with_reducible have hc := zc.1 _ (by omega) hv | with_reducible have hc := zc.2.1 hv | with_reducible have hc := zc.2.1 _ (by omega) hv | with_reducible have hc := zc.2.2.1 hv | with_reducible have hc := zc.2.2.1 _ (by omega) hv | with_reducible have hc := zc.2.2.2.1 hv | with_reducible have hc := zc.2.2.2.2.1 hv | with_reducible have hc := zc.2.2.2.2.2.1 hv | with_reducible have hc := zc.2.2.2.2.2.2.1 hv | with_reducible have hc := zc.2.2.2.2.2.2.2.1 hv | with_reducible have hc := zc.2.2.2.2.2.2.2.2.1 hv | with_reducible have hc := zc.2.2.2.2.2.2.2.2.2.1 hv | with_reducible have hc := zc.2.2.2.2.2.2.2.2.2.2.1 hv | with_reducible have hc := zc.2.2.2.2.2.2.2.2.2.2.2.1 hv | with_reducible have hc := zc.2.2.2.2.2.2.2.2.2.2.2.2.1 hv | with_reducible have hc := zc.2.2.2.2.2.2.2.2.2.2.2.2.2.1 hv | with_reducible have hc := zc.2.2.2.2.2.2.2.2.2.2.2.2.2.2.1 hv | with_reducible have hc := zc.2.2.2.2.2.2.2.2.2.2.2.2.2.2.2.1 hv | with_reducible have hc := zc.2.2.2.2.2.2.2.2.2.2.2.2.2.2.2.2.1 hv | with_reducible have hc := zc.2.2.2.2.2.2.2.2.2.2.2.2.2.2.2.2.2.1 hv | with_reducible have hc := zc.2.2.2.2.2.2.2.2.2.2.2.2.2.2.2.2.2.2.1 hv | with_reducible have hc := zc.2.2.2.2.2.2.2.2.2.2.2.2.2.2.2.2.2.2.2.1 hv | with_reducible have hc := zc.2.2.2.2.2.2.2.2.2.2.2.2.2.2.2.2.2.2.2.2.1 hv | with_reducible have hc := zc.2.2.2.2.2.2.2.2.2.2.2.2.2.2.2.2.2.2.2.2.2.1 hv); (first | refine callL (fun _ => hc) rfl rfl ?_ | refine callP hc rfl rfl ?_ | refine callE hc tLN tLN rfl rfl ?_ | refine callD hc tLN tLN rfl rfl ?_)) | ((first | with_reducible have hc := zg.1.1 hv | with_reducible have hc := zg.1.1 _ (by omega) hv); (first | refine zg.1.2 hc rfl rfl tGG tGG rfl rfl tGR rfl ?_ | refine zg.1.2 hc tGH tGH rfl rfl tGH tGH rfl rfl rfl ?_)) | ((first | with_reducible have hc := zg.2.1.1 hv | with_reducible have hc := zg.2.1.1 _ (by omega) hv); (first | refine zg.2.1.2 hc rfl rfl tGG tGG rfl rfl tGR rfl ?_ | refine zg.2.1.2 hc tGH tGH rfl rfl tGH tGH rfl rfl rfl ?_)) | ((first | with_reducible have hc := zg.2.2.1.1 hv | with_reducible have hc := zg.2.2.1.1 _ (by omega) hv); (first | refine zg.2.2.1.2 hc rfl rfl tGG tGG rfl rfl tGR rfl ?_ | refine zg.2.2.1.2 hc tGH tGH rfl rfl tGH tGH rfl rfl rfl ?_)) | ((with_reducible have hc := zg.2.2.2.1.1 hv); (first | refine zg.2.2.2.1.2 hc rfl rfl tGG tGG rfl rfl tGR rfl ?_ | refine zg.2.2.2.1.2 hc tGH tGH rfl rfl tGH tGH rfl rfl rfl ?_)) | ((with_reducible have hc := zg.2.2.2.2.1.1 hv); (first | refine zg.2.2.2.2.1.2 hc rfl rfl tGG tGG rfl rfl tGR rfl ?_ | refine zg.2.2.2.2.1.2 hc tGH tGH rfl rfl tGH tGH rfl rfl rfl ?_)) | ((with_reducible have hc := zg.2.2.2.2.2.1.1 hv); (first | refine zg.2.2.2.2.2.1.2 hc rfl rfl tGG tGG rfl rfl tGR rfl ?_ | refine zg.2.2.2.2.2.1.2 hc tGH tGH rfl rfl tGH tGH rfl rfl rfl ?_)) | ((with_reducible have hc := zg.2.2.2.2.2.2.1.1 hv); (first | refine zg.2.2.2.2.2.2.1.2 hc rfl rfl tGG tGG rfl rfl tGR rfl ?_ | refine zg.2.2.2.2.2.2.1.2 hc tGH tGH rfl rfl tGH tGH rfl rfl rfl ?_)) | ((with_reducible have hc := zg.2.2.2.2.2.2.2.1.1 hv); (first | refine zg.2.2.2.2.2.2.2.1.2 hc rfl rfl tGG tGG rfl rfl tGR rfl ?_ | refine zg.2.2.2.2.2.2.2.1.2 hc tGH tGH rfl rfl tGH tGH rfl rfl rfl ?_)) | ((with_reducible have hc := zg.2.2.2.2.2.2.2.2.1.1 hv); (first | refine zg.2.2.2.2.2.2.2.2.1.2 hc rfl rfl tGG tGG rfl rfl tGR rfl ?_ | refine zg.2.2.2.2.2.2.2.2.1.2 hc tGH tGH rfl rfl tGH tGH rfl rfl rfl ?_)) | ((with_reducible have hc := zg.2.2.2.2.2.2.2.2.2.1.1 hv); (first | refine zg.2.2.2.2.2.2.2.2.2.1.2 hc rfl rfl tGG tGG rfl rfl tGR rfl ?_ | refine zg.2.2.2.2.2.2.2.2.2.1.2 hc tGH tGH rfl rfl tGH tGH rfl rfl rfl ?_)) | ((with_reducible have hc := zg.2.2.2.2.2.2.2.2.2.2.1.1 hv); (first | refine zg.2.2.2.2.2.2.2.2.2.2.1.2 hc rfl rfl tGG tGG rfl rfl tGR rfl ?_ | refine zg.2.2.2.2.2.2.2.2.2.2.1.2 hc tGH tGH rfl rfl tGH tGH rfl rfl rfl ?_)) | ((with_reducible have hc := zg.2.2.2.2.2.2.2.2.2.2.2.1.1 hv); (first | refine zg.2.2.2.2.2.2.2.2.2.2.2.1.2 hc rfl rfl tGG tGG rfl rfl tGR rfl ?_ | refine zg.2.2.2.2.2.2.2.2.2.2.2.1.2 hc tGH tGH rfl rfl tGH tGH rfl rfl rfl ?_)))
     | ((with_reducible replace h := cq h); rcases h with ⟨c, h⟩ | ⟨c, h⟩ <;> try (simp only [*, Bool.false_eq_true, reduceCtorEq] at c; done))
     | ((with_reducible refine isEx ?_); exact tFIT)
     | ((with_reducible refine isEnd ?_); exact tPE)
     | ((with_reducible refine isRet ?_); first | exact zt.1 (by rfl) tRE tRE tRE | exact zt.2.1 (by rfl) tRE tRE tRE | exact zt.2.2.1 (by rfl) tRE tRE tRE | exact zt.2.2.2.1 (by rfl) tRE tRE tRE | exact zt.2.2.2.2.1 (by rfl) tRE tRE tRE | exact zt.2.2.2.2.2.1 (by rfl) tRE tRE tRE | exact zt.2.2.2.2.2.2.1 (by rfl) tRE tRE tRE | exact zt.2.2.2.2.2.2.2.1 (by rfl) tRE tRE tRE | exact zt.2.2.2.2.2.2.2.2.1 (by rfl) tRE tRE tRE | exact zt.2.2.2.2.2.2.2.2.2.1 (by rfl) tRE tRE tRE | exact zt.2.2.2.2.2.2.2.2.2.2.1 (by rfl) tRE tRE tRE | exact zt.2.2.2.2.2.2.2.2.2.2.2.1 (by rfl) tRE tRE tRE)
     | (cases h; done))) : p := x
theorem drvM {p : Prop} (x : p := by
  repeat' first
  | (clear h; (with_reducible intro n x hn h); rcases n with _ | n <;> simp only [ze.1, reduceCtorEq] at h)
  | (simp only [reduceCtorEq] at h; done)
  | ((with_reducible replace h := kq0 h); obtain ⟨_, _, h⟩ := h)
  | ((with_reducible replace h := kq1 h); obtain ⟨_, _, h⟩ := h)
  | ((with_reducible replace h := kq h); obtain ⟨_, h⟩ := h)
  | ((with_reducible replace h := sq h); subst h; have h := True.intro)
  | (try simp -dsimp only [egR, AOp.opds, AOp.f, AOp.rd, intBin, storeV, lvl, srcOf, reduceIte, Nat.reduceEqDiff, Nat.reduceAdd, Nat.reduceLeDiff, Nat.reduceBEq, reduceCtorEq, Int.reduceBNe, Int.reduceBEq, Int.reduceLT, Int.reduceLE, Int.reduceNeg, Nat.reduceLT, strBin, Int.reduceToNat, renC, *]
     repeat ((with_reducible refine And.intro ?_ ?_); focus first | (show logOK _ _ _ _ = true; kernel_rfl) | (show callOK _ _ = true; kernel_rfl) | omega | assumption | (show _ ≤ maxLen; decide))
     first
     | with_reducible refine callN ?_
     | ((with_reducible refine isCut ?_); first | (rename Mk 1 => tk; clear tk; have : True := (by (first | rewrite [zq.1.1] at h | rewrite [zq.1.2.1] at h | rewrite [zq.1.2.2.1] at h | rewrite [zq.1.2.2.2.1] at h | rewrite [zq.1.2.2.2.2.1] at h | rewrite [zq.1.2.2.2.2.2.1] at h | rewrite [zq.1.2.2.2.2.2.2.1] at h | rewrite [zq.1.2.2.2.2.2.2.2.1] at h); exact True.intro); with_reducible refine zu.1 n ?_ ?_) | (rename Mk 2 => tk; clear tk; have : True := (by (first | rewrite [zq.2.1.1] at h | rewrite [zq.2.1.2.1] at h | rewrite [zq.2.1.2.2.1] at h | rewrite [zq.2.1.2.2.2.1] at h | rewrite [zq.2.1.2.2.2.2.1] at h | rewrite [zq.2.1.2.2.2.2.2.1] at h | rewrite [zq.2.1.2.2.2.2.2.2.1] at h | rewrite [zq.2.1.2.2.2.2.2.2.2.1] at h); exact True.intro); with_reducible refine zu.2.1 n ?_ ?_) | (rename Mk 3 => tk; clear tk; have : True := (by (first | rewrite [zq.2.2.1.1] at h | rewrite [zq.2.2.1.2.1] at h | rewrite [zq.2.2.1.2.2.1] at h | rewrite [zq.2.2.1.2.2.2.1] at h | rewrite [zq.2.2.1.2.2.2.2.1] at h | rewrite [zq.2.2.1.2.2.2.2.2.1] at h | rewrite [zq.2.2.1.2.2.2.2.2.2.1] at h | rewrite [zq.2.2.1.2.2.2.2.2.2.2.1] at h); exact True.intro); with_reducible refine zu.2.2.1 n ?_ ?_) | (rename Mk 4 => tk; clear tk; have : True := (by (first | rewrite [zq.2.2.2.1.1] at h | rewrite [zq.2.2.2.1.2.1] at h | rewrite [zq.2.2.2.1.2.2.1] at h | rewrite [zq.2.2.2.1.2.2.2.1] at h | rewrite [zq.2.2.2.1.2.2.2.2.1] at h | rewrite [zq.2.2.2.1.2.2.2.2.2.1] at h | rewrite [zq.2.2.2.1.2.2.2.2.2.2.1] at h | rewrite [zq.2.2.2.1.2.2.2.2.2.2.2.1] at h); exact True.intro); with_reducible refine zu.2.2.2.1 n ?_ ?_) | (rename Mk 5 => tk; clear tk; have : True := (by (first | rewrite [zq.2.2.2.2.1.1] at h | rewrite [zq.2.2.2.2.1.2.1] at h | rewrite [zq.2.2.2.2.1.2.2.1] at h | rewrite [zq.2.2.2.2.1.2.2.2.1] at h | rewrite [zq.2.2.2.2.1.2.2.2.2.1] at h | rewrite [zq.2.2.2.2.1.2.2.2.2.2.1] at h | rewrite [zq.2.2.2.2.1.2.2.2.2.2.2.1] at h | rewrite [zq.2.2.2.2.1.2.2.2.2.2.2.2.1] at h); exact True.intro); with_reducible refine zu.2.2.2.2.1 n ?_ ?_) | (rename Mk 6 => tk; clear tk; have : True := (by (first | rewrite [zq.2.2.2.2.2.1.1] at h | rewrite [zq.2.2.2.2.2.1.2.1] at h | rewrite [zq.2.2.2.2.2.1.2.2.1] at h | rewrite [zq.2.2.2.2.2.1.2.2.2.1] at h | rewrite [zq.2.2.2.2.2.1.2.2.2.2.1] at h | rewrite [zq.2.2.2.2.2.1.2.2.2.2.2.1] at h | rewrite [zq.2.2.2.2.2.1.2.2.2.2.2.2.1] at h | rewrite [zq.2.2.2.2.2.1.2.2.2.2.2.2.2.1] at h); exact True.intro); with_reducible refine zu.2.2.2.2.2.1 n ?_ ?_))
     | ((with_reducible refine isLoop ?_); first | ((with_reducible refine zk.1 n ?_ ?_); (focus exact tFIT)) | ((with_reducible refine zk.2.1 n ?_ ?_); (focus exact tFIT)) | ((with_reducible refine zk.2.2.1 n ?_ ?_); (focus exact tFIT)) | ((with_reducible refine zk.2.2.2.1 n ?_ ?_); (focus exact tFIT)) | ((with_reducible refine zk.2.2.2.2.1 n ?_ ?_); (focus exact tFIT)) | ((with_reducible refine zk.2.2.2.2.2.1 n ?_ ?_); (focus exact tFIT)))
     | ((with_reducible refine isCall ?_); (with_reducible replace h := bq h); obtain ⟨_, hv, h⟩ := h; first | ((first | with_reducible have hc := zc.1 hv | with_reducible have hc := zc.1 _ (by omega) hv | with_reducible have hc := zc.2.1 hv | with_reducible have hc := zc.2.1 _ (by omega) hv | with_reducible have hc := zc.2.2.1 hv | with_reducible have hc := zc.2.2.1 _ (by omega) hv | with_reducible have hc := zc.2.2.2.1 hv | with_reducible have hc := zc.2.2.2.2.1 hv | with_reducible have hc := zc.2.2.2.2.2.1 hv | with_reducible have hc := zc.2.2.2.2.2.2.1 hv | with_reducible have hc := zc.2.2.2.2.2.2.2.1 hv | with_reducible have hc := zc.2.2.2.2.2.2.2.2.1 hv | with_reducible have hc := zc.2.2.2.2.2.2.2.2.2.1 hv | with_reducible have hc := zc.2.2.2.2.2.2.2.2.2.2.1 hv | with_reducible have hc := zc.2.2.2.2.2.2.2.2.2.2.2.1 hv | with_reducible have hc := zc.2.2.2.2.2.2.2.2.2.2.2.2.1 hv | with_reducible have hc := zc.2.2.2.2.2.2.2.2.2.2.2.2.2.1 hv | with_reducible have hc := zc.2.2.2.2.2.2.2.2.2.2.2.2.2.2.1 hv | with_reducible have hc := zc.2.2.2.2.2.2.2.2.2.2.2.2.2.2.2.1 hv | with_reducible have hc := zc.2.2.2.2.2.2.2.2.2.2.2.2.2.2.2.2.1 hv | with_reducible have hc := zc.2.2.2.2.2.2.2.2.2.2.2.2.2.2.2.2.2.1 hv | with_reducible have hc := zc.2.2.2.2.2.2.2.2.2.2.2.2.2.2.2.2.2.2.1 hv | with_reducible have hc := zc.2.2.2.2.2.2.2.2.2.2.2.2.2.2.2.2.2.2.2.1 hv | with_reducible have hc := zc.2.2.2.2.2.2.2.2.2.2.2.2.2.2.2.2.2.2.2.2.1 hv | with_reducible have hc := zc.2.2.2.2.2.2.2.2.2.2.2.2.2.2.2.2.2.2.2.2.2.1 hv); (first | refine callL (fun _ => hc) rfl rfl ?_ | refine callP hc rfl rfl ?_ | refine callE hc tLN tLN rfl rfl ?_ | refine callD hc tLN tLN rfl rfl ?_)) | ((first | with_reducible have hc := zg.1.1 hv | with_reducible have hc := zg.1.1 _ (by omega) hv); (first | refine zg.1.2 hc rfl rfl tGG tGG rfl rfl tGR rfl ?_ | refine zg.1.2 hc tGH tGH rfl rfl tGH tGH rfl rfl rfl ?_)) | ((first | with_reducible have hc := zg.2.1.1 hv | with_reducible have hc := zg.2.1.1 _ (by omega) hv); (first | refine zg.2.1.2 hc rfl rfl tGG tGG rfl rfl tGR rfl ?_ | refine zg.2.1.2 hc tGH tGH rfl rfl tGH tGH rfl rfl rfl ?_)) | ((first | with_reducible have hc := zg.2.2.1.1 hv | with_reducible have hc := zg.2.2.1.1 _ (by omega) hv); (first | refine zg.2.2.1.2 hc rfl rfl tGG tGG rfl rfl tGR rfl ?_ | refine zg.2.2.1.2 hc tGH tGH rfl rfl tGH tGH rfl rfl rfl ?_)) | ((with_reducible have hc := zg.2.2.2.1.1 hv); (first | refine zg.2.2.2.1.2 hc rfl rfl tGG tGG rfl rfl tGR rfl ?_ | refine zg.2.2.2.1.2 hc tGH tGH rfl rfl tGH tGH rfl rfl rfl ?_)) | ((with_reducible have hc := zg.2.2.2.2.1.1 hv); (first | refine zg.2.2.2.2.1.2 hc rfl rfl tGG tGG rfl rfl tGR rfl ?_ | refine zg.2.2.2.2.1.2 hc tGH tGH rfl rfl tGH tGH rfl rfl rfl ?_)) | ((with_reducible have hc := zg.2.2.2.2.2.1.1 hv); (first | refine zg.2.2.2.2.2.1.2 hc rfl rfl tGG tGG rfl rfl tGR rfl ?_ | refine zg.2.2.2.2.2.1.2 hc tGH tGH rfl rfl tGH tGH rfl rfl rfl ?_)) | ((with_reducible have hc := zg.2.2.2.2.2.2.1.1 hv); (first | refine zg.2.2.2.2.2.2.1.2 hc rfl rfl tGG tGG rfl rfl tGR rfl ?_ | refine zg.2.2.2.2.2.2.1.2 hc tGH tGH rfl rfl tGH tGH rfl rfl rfl ?_)) | ((with_reducible have hc := zg.2.2.2.2.2.2.2.1.1 hv); (first | refine zg.2.2.2.2.2.2.2.1.2 hc rfl rfl tGG tGG rfl rfl tGR rfl ?_ | refine zg.2.2.2.2.2.2.2.1.2 hc tGH tGH rfl rfl tGH tGH rfl rfl rfl ?_)) | ((with_reducible have hc := zg.2.2.2.2.2.2.2.2.1.1 hv); (first | refine zg.2.2.2.2.2.2.2.2.1.2 hc rfl rfl tGG tGG rfl rfl tGR rfl ?_ | refine zg.2.2.2.2.2.2.2.2.1.2 hc tGH tGH rfl rfl tGH tGH rfl rfl rfl ?_)) | ((with_reducible have hc := zg.2.2.2.2.2.2.2.2.2.1.1 hv); (first | refine zg.2.2.2.2.2.2.2.2.2.1.2 hc rfl rfl tGG tGG rfl rfl tGR rfl ?_ | refine zg.2.2.2.2.2.2.2.2.2.1.2 hc tGH tGH rfl rfl tGH tGH rfl rfl rfl ?_)) | ((with_reducible have hc := zg.2.2.2.2.2.2.2.2.2.2.1.1 hv); (first | refine zg.2.2.2.2.2.2.2.2.2.2.1.2 hc rfl rfl tGG tGG rfl rfl tGR rfl ?_ | refine zg.2.2.2.2.2.2.2.2.2.2.1.2 hc tGH tGH rfl rfl tGH tGH rfl rfl rfl ?_)) | ((with_reducible have hc := zg.2.2.2.2.2.2.2.2.2.2.2.1.1 hv); (first | refine zg.2.2.2.2.2.2.2.2.2.2.2.1.2 hc rfl rfl tGG tGG rfl rfl tGR rfl ?_ | refine zg.2.2.2.2.2.2.2.2.2.2.2.1.2 hc tGH tGH rfl rfl tGH tGH rfl rfl rfl ?_)))
     | ((with_reducible replace h := cq h); rcases h with ⟨c, h⟩ | ⟨c, h⟩ <;> try (simp only [*, Bool.false_eq_true, reduceCtorEq] at c; done))
     | ((with_reducible refine isEx ?_); exact tFIT)
     | ((with_reducible refine isEnd ?_); exact tPE)
     | ((with_reducible refine isRet ?_); first | exact zt.1 (by rfl) tRE tRE tRE | exact zt.2.1 (by rfl) tRE tRE tRE | exact zt.2.2.1 (by rfl) tRE tRE tRE | exact zt.2.2.2.1 (by rfl) tRE tRE tRE | exact zt.2.2.2.2.1 (by rfl) tRE tRE tRE | exact zt.2.2.2.2.2.1 (by rfl) tRE tRE tRE | exact zt.2.2.2.2.2.2.1 (by rfl) tRE tRE tRE | exact zt.2.2.2.2.2.2.2.1 (by rfl) tRE tRE tRE | exact zt.2.2.2.2.2.2.2.2.1 (by rfl) tRE tRE tRE | exact zt.2.2.2.2.2.2.2.2.2.1 (by rfl) tRE tRE tRE | exact zt.2.2.2.2.2.2.2.2.2.2.1 (by rfl) tRE tRE tRE | exact zt.2.2.2.2.2.2.2.2.2.2.2.1 (by rfl) tRE tRE tRE)
     | (cases h; done))) : p := x
end Go.Ab
end
section
namespace Go.Ab
open Go
set_option maxRecDepth 100000
set_option maxHeartbeats 4000000
set_option linter.unusedVariables false
set_option linter.unusedSimpArgs false
abbrev zA (d : Nat) (x : AOp) : AOper := ⟨none, some d, .op x⟩
abbrev zM (d s : Nat) : AOper := ⟨none, some d, .op (.mv (.t s))⟩
abbrev zS (x : AOp) : AOper := ⟨none, none, .op x⟩
abbrev zG (g : Nat) (b : Bool) (d : Nat) (x : AOp) : AOper := ⟨some (g, b), some d, .op x⟩
def C.cmp_isNaN_int : ACode := (.seq (.reg [ zA 2 (.mv (.k (.c (.lit (.bool false)))))] [0]) (.seq (.reg [ zM 3 0, zM 4 0, zA 5 (.bin .neq (.t 3) (.t 4)), zM 2 5] [2]) .ret))
theorem K.cmp_isNaN_int : chkF Go.Proofs.Tryz.prog 164 1 0 C.cmp_isNaN_int [.tmp 2] = true := by kernel_rfl
def C.cmp_Compare_int : ACode := (.seq (.reg [ zA 4 (.mv (.k (.c (.lit (.int .i64 0)))))] [0, 1]) (.seq (.reg [ zM 7 0, ⟨none, some 8, .call 164 [.t 7]⟩, zM 5 8] [0, 1, 5]) (.seq (.reg [ zM 9 1, ⟨none, some 10, .call 164 [.t 9]⟩, zM 6 10] [0, 1, 5, 6]) (.seq (.seq (.reg [ zM 11 5] [0, 1, 6, 11]) (.cond (.t 11) (.seq (.seq (.reg [ zM 12 6] [12]) (.cond (.t 12) (.seq (.reg [ zA 4 (.mv (.k (.c (.lit (.int .i64 0)))))] [4]) .ret) .skip)) (.seq (.reg [ zA 4 (.mv (.k (.c (.lit (.int .i64 (-1))))))] [4]) .ret)) .skip)) (.seq (.seq (.reg [ zM 13 6] [0, 1, 13]) (.cond (.t 13) (.seq (.reg [ zA 4 (.mv (.k (.c (.lit (.int .i64 1)))))] [4]) .ret) .skip)) (.seq (.seq (.reg [ zM 14 0, zM 15 1, zA 16 (.bin .lss (.t 14) (.t 15))] [0, 1, 16]) (.cond (.t 16) (.seq (.reg [ zA 4 (.mv (.k (.c (.lit (.int .i64 (-1))))))] [4]) .ret) .skip)) (.seq (.seq (.reg [ zM 17 0, zM 18 1, zA 19 (.bin .gtr (.t 17) (.t 18))] [19]) (.cond (.t 19) (.seq (.reg [ zA 4 (.mv (.k (.c (.lit (.int .i64 1)))))] [4]) .ret) .skip)) (.seq (.reg [ zA 4 (.mv (.k (.c (.lit (.int .i64 0)))))] [4]) .ret))))))))
theorem K.cmp_Compare_int : chkF Go.Proofs.Tryz.prog 110 2 0 C.cmp_Compare_int [.tmp 4] = true := by kernel_rfl
def C.cmp_isNaN_string : ACode := (.seq (.reg [ zA 2 (.mv (.k (.c (.lit (.bool false)))))] [0]) (.seq (.reg [ zM 3 0, zM 4 0, zA 5 (.bin .neq (.t 3) (.t 4)), zM 2 5] [2]) .ret))
theorem K.cmp_isNaN_string : chkF Go.Proofs.Tryz.prog 178 1 0 C.cmp_isNaN_string [.tmp 2] = true := by kernel_rfl
def C.cmp_Less_string : ACode := (.seq (.reg [ zA 4 (.mv (.k (.c (.lit (.bool false)))))] [0, 1]) (.seq (.reg [ zM 5 0, ⟨none, some 6, .call 178 [.t 5]⟩, zM 7 6, zG 7 true 8 (.mv (.t 1)), ⟨(some (7, true)), some 9, .call 178 [.t 8]⟩, zG 7 true 10 (.not (.t 9)), zA 11 (.pick (.t 7) (.t 10) (.k (.c (.lit (.bool false))))), zM 12 11, zG 12 false 13 (.mv (.t 0)), zG 12 false 14 (.mv (.t 1)), zG 12 false 15 (.bin .lss (.t 13) (.t 14)), zA 16 (.pick (.t 12) (.k (.c (.lit (.bool true)))) (.t 15)), zM 4 16] [4]) .ret))
theorem K.cmp_Less_string : chkF Go.Proofs.Tryz.prog 137 2 0 C.cmp_Less_string [.tmp 4] = true := by kernel_rfl
def C.cmp_Or_int : ACode := (.seq (.reg [ zA 2 (.mv (.k (.c (.lit (.int .i64 0)))))] [0]) (.seq (.reg [ zA 3 (.mv (.k (.c (.lit (.int .i64 0)))))] [0, 3]) (.seq (.seq (.reg [ zM 6 0, zA 7 (.len (.t 6)), zA 8 (.mv (.k (.c (.lit (.int .i64 0)))))] [3, 6, 7, 8]) (.block 0 (.loop (.seq (.reg [ zA 9 (.bin .lss (.t 8) (.t 7))] [3, 6, 7, 8, 9]) (.seq (.cond (.t 9) .skip (.exit 0)) (.seq (.block 1 (.seq (.reg [ zA 10 (.iaddr 1 (.t 6) (.t 8)), zA 11 (.load false 1 (.t 10)), zM 5 11] [3, 5, 6, 7, 8]) (.seq (.reg [ zM 12 5, zM 13 3, zA 14 (.bin .neq (.t 12) (.t 13))] [3, 5, 6, 7, 8, 14]) (.cond (.t 14) (.seq (.reg [ zM 15 5, zM 2 15] [2]) .ret) .skip)))) (.reg [ zA 16 (.bin .add (.t 8) (.k (.c (.lit (.int .i64 1))))), zM 8 16] [3, 6, 7, 8]))))))) (.seq (.reg [ zM 17 3, zM 2 17] [2]) .ret))))
theorem K.cmp_Or_int : chkF Go.Proofs.Tryz.prog 64 1 0 C.cmp_Or_int [.tmp 2] = true := by kernel_rfl
def C.internal_bytealg_CompareString : ACode := (.seq (.reg [ zA 4 (.mv (.k (.c (.lit (.int .i64 0)))))] [0, 1]) (.seq (.reg [ zM 5 0, zM 6 1, zA 7 (.cmps (.t 5) (.t 6)), zM 4 7] [4]) .ret))
theorem K.internal_bytealg_CompareString : chkF Go.Proofs.Tryz.prog 111 2 0 C.internal_bytealg_CompareString [.tmp 4] = true := by kernel_rfl
def C.strings_Compare : ACode := (.seq (.reg [ zA 4 (.mv (.k (.c (.lit (.int .i64 0)))))] [0, 1]) (.seq (.reg [ zM 5 0, zM 6 1, ⟨none, some 7, .call 111 [.t 5, .t 6]⟩, zM 4 7] [4]) .ret))
theorem K.strings_Compare : chkF Go.Proofs.Tryz.prog 66 2 0 C.strings_Compare [.tmp 4] = true := by kernel_rfl
def C.impl_compareValid : ACode := (.seq (.reg [ zA 2 (.box 10 (.t 0)), zA 3 (.box 11 (.t 1)), zA 4 (.mv (.k (.c (.lit (.int .i64 0)))))] [2, 3]) (.seq (.seq (.reg [ zA 11 (.faddr 0 (.t 2)), zA 12 (.load false 1 (.t 11)), zA 13 (.faddr 0 (.t 3)), zA 14 (.load false 1 (.t 13)), ⟨none, some 15, .call 110 [.t 12, .t 14]⟩, zM 5 15] [2, 3, 5]) (.seq (.reg [ zM 16 5, zA 17 (.bin .neq (.t 16) (.k (.c (.lit (.int .i64 0)))))] [2, 3, 5, 17]) (.cond (.t 17) (.seq (.reg [ zM 18 5, zM 4 18] [4]) .ret) .skip))) (.seq (.seq (.reg [ zA 19 (.faddr 1 (.t 2)), zA 20 (.load false 1 (.t 19)), zA 21 (.faddr 1 (.t 3)), zA 22 (.load false 1 (.t 21)), ⟨none, some 23, .call 110 [.t 20, .t 22]⟩, zM 6 23] [2, 3, 6]) (.seq (.reg [ zM 24 6, zA 25 (.bin .neq (.t 24) (.k (.c (.lit (.int .i64 0)))))] [2, 3, 6, 25]) (.cond (.t 25) (.seq (.reg [ zM 26 6, zM 4 26] [4]) .ret) .skip))) (.seq (.seq (.reg [ zA 27 (.faddr 2 (.t 2)), zA 28 (.load false 1 (.t 27)), zA 29 (.faddr 2 (.t 3)), zA 30 (.load false 1 (.t 29)), ⟨none, some 31, .call 66 [.t 28, .t 30]⟩, zM 7 31] [2, 3, 7]) (.seq (.reg [ zM 32 7, zA 33 (.bin .neq (.t 32) (.k (.c (.lit (.int .i64 0)))))] [2, 3, 7, 33]) (.cond (.t 33) (.seq (.reg [ zM 34 7, zM 4 34] [4]) .ret) .skip))) (.seq (.seq (.reg [ zA 8 (.mv (.k (.c (.lit (.int .i64 0)))))] [2, 3, 8]) (.block 0 (.loop (.seq (.seq (.reg [ zM 35 8, zA 36 (.faddr 4 (.t 2)), zA 37 (.load false 1 (.t 36)), zA 38 (.len (.t 37)), zA 39 (.bin .lss (.t 35) (.t 38)), zM 40 39, zG 40 true 41 (.mv (.t 8)), zG 40 true 42 (.faddr 4 (.t 3)), zG 40 true 43 (.load false 1 (.t 42)), zG 40 true 44 (.len (.t 43)), zG 40 true 45 (.bin .lss (.t 41) (.t 44)), zA 46 (.pick (.t 40) (.t 45) (.k (.c (.lit (.bool false)))))] [2, 3, 8, 46]) (.cond (.t 46) .skip (.exit 0))) (.seq (.block 1 (.cut (.seq (.reg [ zA 49 (.faddr 0 (.t 2)), zA 50 (.load false 1 (.t 49)), zA 51 (.bin .eql (.t 50) (.k (.c (.lit (.int .i64 4)))))] [2, 3, 8, 51]) (.cond (.t 51) (.seq (.regD [ (zA 52 (.faddr 3 (.t 2)), []), (zA 53 (.load false 1 (.t 52)), [0]), (zM 54 8, []), (zA 55 (.iaddr 1 (.t 53) (.t 54)), [0, 1, 2]), (zA 56 (.load false 1 (.t 55)), [0, 1, 2, 3]), (zA 57 (.faddr 3 (.t 3)), []), (zA 58 (.load false 1 (.t 57)), [5]), (zM 59 8, []), (zA 60 (.iaddr 1 (.t 58) (.t 59)), [5, 6, 7]), (zA 61 (.load false 1 (.t 60)), [5, 6, 7, 8]), (⟨none, some 62, .call 66 [.t 56, .t 61]⟩, [0, 1, 2, 3, 4, 5, 6, 7, 8, 9]), (zM 9 62, [0, 1, 2, 3, 4, 5, 6, 7, 8, 9, 10])] [2, 3, 8, 9]) (.seq (.reg [ zM 63 9, zA 64 (.bin .neq (.t 63) (.k (.c (.lit (.int .i64 0)))))] [2, 3, 8, 9, 64]) (.cond (.t 64) (.seq (.reg [ zM 65 9, zM 4 65] [4]) .ret) .skip))) .skip)) (.seq (.regD [ (zA 66 (.faddr 4 (.t 2)), []), (zA 67 (.load false 1 (.t 66)), [0]), (zM 68 8, []), (zA 69 (.iaddr 5 (.t 67) (.t 68)), [0, 1, 2]), (zA 70 (.load true 5 (.t 69)), [0, 1, 2, 3]), (zA 71 (.faddr 4 (.t 3)), []), (zA 72 (.load false 1 (.t 71)), [5]), (zM 73 8, []), (zA 74 (.iaddr 5 (.t 72) (.t 73)), [5, 6, 7]), (zA 75 (.load true 5 (.t 74)), [5, 6, 7, 8]), (⟨none, some 76, .call 65 [.t 70, .t 75]⟩, [0, 1, 2, 3, 4, 5, 6, 7, 8, 9]), (zM 10 76, [0, 1, 2, 3, 4, 5, 6, 7, 8, 9, 10])] [2, 3, 8, 10]) (.seq (.reg [ zM 77 10, zA 78 (.bin .neq (.t 77) (.k (.c (.lit (.int .i64 0)))))] [2, 3, 8, 10, 78]) (.cond (.t 78) (.seq (.reg [ zM 79 10, zM 4 79] [4]) .ret) .skip))))) (.reg [ zM 47 8, zA 48 (.bin .add (.t 47) (.k (.c (.lit (.int .i64 1))))), zM 8 48] [2, 3, 8])))))) (.seq (.reg [ zA 80 (.faddr 4 (.t 2)), zA 81 (.load false 1 (.t 80)), zA 82 (.len (.t 81)), zA 83 (.faddr 4 (.t 3)), zA 84 (.load false 1 (.t 83)), zA 85 (.len (.t 84)), ⟨none, some 86, .call 110 [.t 82, .t 85]⟩, zM 4 86] [4]) .ret))))))
theorem K.impl_compareValid : chkF Go.Proofs.Tryz.prog 65 2 0 C.impl_compareValid [.tmp 4] = true := by kernel_rfl
def C.impl_IndexStore_1 : ACode := (.seq (.reg [ zA 2 (.box 10 (.t 0)), zA 3 (.box 11 (.t 1)), zA 4 (.mv (.k (.c (.lit (.int .i64 0)))))] [2, 3]) (.seq (.regD [ (zA 5 (.faddr 0 (.t 2)), []), (zA 6 (.load true 5 (.t 5)), [0]), (zA 7 (.faddr 0 (.t 3)), []), (zA 8 (.load true 5 (.t 7)), [2]), (⟨none, some 9, .call 65 [.t 6, .t 8]⟩, [0, 1, 2, 3]), (zA 10 (.faddr 5 (.t 2)), []), (zA 11 (.load false 1 (.t 10)), [5]), (zA 12 (.faddr 5 (.t 3)), []), (zA 13 (.load false 1 (.t 12)), [7]), (⟨none, some 14, .call 66 [.t 11, .t 13]⟩, [0, 1, 2, 3, 4, 5, 6, 7, 8]), (zA 15 (.bslice 12 1 2 [.lit (.int .i64 0)] [(0, .t 9), (1, .t 14)]), [0, 1, 2, 3, 4, 5, 6, 7, 8, 9]), (⟨none, some 16, .call 64 [.t 15]⟩, [0, 1, 2, 3, 4, 5, 6, 7, 8, 9, 10]), (zM 4 16, [0, 1, 2, 3, 4, 5, 6, 7, 8, 9, 10, 11])] [4]) .ret))
theorem K.impl_IndexStore_1 : chkF Go.Proofs.Tryz.prog 63 2 0 C.impl_IndexStore_1 [.tmp 4] = true := by kernel_rfl
def C.impl_isPlainText : ACode := (.seq (.reg [ zA 2 (.mv (.k (.c (.lit (.bool false)))))] [0]) (.seq (.seq (.reg [ zM 4 0, zA 5 (.lens (.t 4)), zA 6 (.bin .gtr (.t 5) (.k (.c (.lit (.int .i64 12)))))] [0, 6]) (.cond (.t 6) (.seq (.reg [ zA 2 (.mv (.k (.c (.lit (.bool false)))))] [2]) .ret) .skip)) (.seq (.seq (.reg [ zA 3 (.mv (.k (.c (.lit (.int .i64 0)))))] [0, 3]) (.block 0 (.loop (.seq (.seq (.reg [ zM 7 3, zM 8 0, zA 9 (.lens (.t 8)), zA 10 (.bin .lss (.t 7) (.t 9))] [0, 3, 10]) (.cond (.t 10) .skip (.exit 0))) (.seq (.block 1 (.seq (.reg [ zM 13 0, zM 14 3, zA 15 (.idxs (.t 13) (.t 14)), zA 16 (.bin .lss (.t 15) (.k (.c (.lit (.int .u8 32))))), zM 17 16, zG 17 false 18 (.mv (.t 0)), zG 17 false 19 (.mv (.t 3)), zG 17 false 20 (.idxs (.t 18) (.t 19)), zG 17 false 21 (.bin .gtr (.t 20) (.k (.c (.lit (.int .u8 126))))), zA 22 (.pick (.t 17) (.k (.c (.lit (.bool true)))) (.t 21))] [0, 3, 22]) (.cond (.t 22) (.seq (.reg [ zA 2 (.mv (.k (.c (.lit (.bool false)))))] [2]) .ret) .skip))) (.reg [ zM 11 3, zA 12 (.bin .add (.t 11) (.k (.c (.lit (.int .i64 1))))), zM 3 12] [0, 3])))))) (.seq (.reg [ zA 2 (.mv (.k (.c (.lit (.bool true)))))] [2]) .ret))))
theorem K.impl_isPlainText : chkF Go.Proofs.Tryz.prog 106 1 0 C.impl_isPlainText [.tmp 2] = true := by kernel_rfl
def C.impl_areNames : ACode := (.seq (.reg [ zA 2 (.mv (.k (.c (.lit (.bool false)))))] [0]) (.seq (.seq (.reg [ zM 5 0, zA 6 (.len (.t 5)), zA 7 (.bin .gtr (.t 6) (.k (.c (.lit (.int .i64 6)))))] [0, 7]) (.cond (.t 7) (.seq (.reg [ zA 2 (.mv (.k (.c (.lit (.bool false)))))] [2]) .ret) .skip)) (.seq (.seq (.reg [ zM 8 0, zA 9 (.len (.t 8)), zA 10 (.mv (.k (.c (.lit (.int .i64 0)))))] [0, 8, 9, 10]) (.block 0 (.loop (.seq (.reg [ zA 11 (.bin .lss (.t 10) (.t 9))] [0, 8, 9, 10, 11]) (.seq (.cond (.t 11) .skip (.exit 0)) (.seq (.block 1 (.seq (.reg [ zM 12 10, zA 13 (.iaddr 1 (.t 8) (.t 10)), zA 14 (.load false 1 (.t 13)), zM 3 12, zM 4 14] [0, 3, 4, 8, 9, 10]) (.seq (.reg [ zM 15 4, ⟨none, some 16, .call 106 [.t 15]⟩, zA 17 (.not (.t 16)), zM 18 17, zG 18 false 19 (.mv (.t 3)), zG 18 false 20 (.bin .gtr (.t 19) (.k (.c (.lit (.int .i64 0))))), zG 18 false 21 (.mv (.t 20)), zG 21 true 22 (.mv (.t 0)), zG 21 true 23 (.mv (.t 3)), zG 21 true 24 (.bin .sub (.t 23) (.k (.c (.lit (.int .i64 1))))), zG 21 true 25 (.iaddr 1 (.t 22) (.t 24)), zG 21 true 26 (.load false 1 (.t 25)), zG 21 true 27 (.mv (.t 4)), zG 21 true 28 (.bin .geq (.t 26) (.t 27)), zG 18 false 29 (.pick (.t 21) (.t 28) (.k (.c (.lit (.bool false))))), zA 30 (.pick (.t 18) (.k (.c (.lit (.bool true)))) (.t 29))] [0, 8, 9, 10, 30]) (.cond (.t 30) (.seq (.reg [ zA 2 (.mv (.k (.c (.lit (.bool false)))))] [2]) .ret) .skip)))) (.reg [ zA 31 (.bin .add (.t 10) (.k (.c (.lit (.int .i64 1))))), zM 10 31] [0, 8, 9, 10]))))))) (.seq (.reg [ zA 2 (.mv (.k (.c (.lit (.bool true)))))] [2]) .ret))))
theorem K.impl_areNames : chkF Go.Proofs.Tryz.prog 176 1 0 C.impl_areNames [.tmp 2] = true := by kernel_rfl
def C.impl_hasValidParts : ACode := (.seq (.reg [ zA 1 (.box 10 (.t 0)), zA 2 (.mv (.k (.c (.lit (.bool false)))))] [1]) (.cut (.seq (.reg [ zA 3 (.faddr 0 (.t 1)), zA 4 (.load false 1 (.t 3)), zA 5 (.bin .neq (.t 4) (.k (.c (.lit (.int .i64 1))))), zM 6 5, zG 6 true 7 (.faddr 1 (.t 1)), zG 6 true 8 (.load false 1 (.t 7)), zG 6 true 9 (.bin .neq (.t 8) (.k (.c (.lit (.int .i64 0))))), zA 10 (.pick (.t 6) (.t 9) (.k (.c (.lit (.bool false))))), zM 11 10, zG 11 false 12 (.faddr 0 (.t 1)), zG 11 false 13 (.load false 1 (.t 12)), zG 11 false 14 (.bin .neq (.t 13) (.k (.c (.lit (.int .i64 2))))), zG 11 false 15 (.mv (.t 14)), zG 15 true 16 (.faddr 2 (.t 1)), zG 15 true 17 (.load false 1 (.t 16)), zG 15 true 18 (.bin .neq (.t 17) (.k (.c (.str [])))), zG 11 false 19 (.pick (.t 15) (.t 18) (.k (.c (.lit (.bool false))))), zA 20 (.pick (.t 11) (.k (.c (.lit (.bool true)))) (.t 19))] [1, 20]) (.cond (.t 20) (.seq (.reg [ zA 2 (.mv (.k (.c (.lit (.bool false)))))] [2]) .ret) .skip)) (.seq (.seq (.reg [ zA 21 (.faddr 0 (.t 1)), zA 22 (.load false 1 (.t 21)), zA 23 (.bin .neq (.t 22) (.k (.c (.lit (.int .i64 4))))), zM 24 23, zG 24 true 25 (.faddr 3 (.t 1)), zG 24 true 26 (.load false 1 (.t 25)), zG 24 true 27 (.len (.t 26)), zG 24 true 28 (.bin .gtr (.t 27) (.k (.c (.lit (.int .i64 0))))), zA 29 (.pick (.t 24) (.t 28) (.k (.c (.lit (.bool false)))))] [1, 29]) (.cond (.t 29) (.seq (.reg [ zA 2 (.mv (.k (.c (.lit (.bool false)))))] [2]) .ret) .skip)) (.seq (.seq (.reg [ zA 30 (.faddr 0 (.t 1)), zA 31 (.load false 1 (.t 30))] [1, 31]) (.block 0 (.seq (.reg [ zA 33 (.bin .eql (.t 31) (.k (.c (.lit (.int .i64 0))))), zM 32 33] [1, 31, 32]) (.cond (.t 32) (.seq (.reg [ zA 34 (.faddr 4 (.t 1)), zA 35 (.load false 1 (.t 34)), zA 36 (.len (.t 35)), zA 37 (.bin .eql (.t 36) (.k (.c (.lit (.int .i64 0))))), zM 2 37] [2]) .ret) (.seq (.reg [ zA 39 (.bin .eql (.t 31) (.k (.c (.lit (.int .i64 1))))), zM 38 39] [1, 31, 38]) (.cond (.t 38) (.seq (.reg [ zA 40 (.faddr 1 (.t 1)), zA 41 (.load false 1 (.t 40)), zA 42 (.bin .geq (.t 41) (.k (.c (.lit (.int .i64 (-999999)))))), zM 43 42, zG 43 true 44 (.faddr 1 (.t 1)), zG 43 true 45 (.load false 1 (.t 44)), zG 43 true 46 (.bin .leq (.t 45) (.k (.c (.lit (.int .i64 999999))))), zA 47 (.pick (.t 43) (.t 46) (.k (.c (.lit (.bool false))))), zM 48 47, zG 48 true 49 (.faddr 4 (.t 1)), zG 48 true 50 (.load false 1 (.t 49)), zG 48 true 51 (.len (.t 50)), zG 48 true 52 (.bin .eql (.t 51) (.k (.c (.lit (.int .i64 0))))), zA 53 (.pick (.t 48) (.t 52) (.k (.c (.lit (.bool false))))), zM 2 53] [2]) .ret) (.seq (.reg [ zA 55 (.bin .eql (.t 31) (.k (.c (.lit (.int .i64 2))))), zM 54 55] [1, 31, 54]) (.cond (.t 54) (.seq (.reg [ zA 56 (.faddr 2 (.t 1)), zA 57 (.load false 1 (.t 56)), ⟨none, some 58, .call 106 [.t 57]⟩, zM 59 58, zG 59 true 60 (.faddr 4 (.t 1)), zG 59 true 61 (.load false 1 (.t 60)), zG 59 true 62 (.len (.t 61)), zG 59 true 63 (.bin .eql (.t 62) (.k (.c (.lit (.int .i64 0))))), zA 64 (.pick (.t 59) (.t 63) (.k (.c (.lit (.bool false))))), zM 2 64] [2]) .ret) (.seq (.reg [ zA 66 (.bin .eql (.t 31) (.k (.c (.lit (.int .i64 3))))), zM 65 66] [1, 31, 65]) (.cond (.t 65) (.seq (.reg [ zA 67 (.faddr 4 (.t 1)), zA 68 (.load false 1 (.t 67)), zA 69 (.len (.t 68)), zA 70 (.bin .leq (.t 69) (.k (.c (.lit (.int .i64 6))))), zM 2 70] [2]) .ret) (.seq (.reg [ zA 72 (.bin .eql (.t 31) (.k (.c (.lit (.int .i64 4))))), zM 71 72] [1, 71]) (.cond (.t 71) (.seq (.reg [ zA 73 (.faddr 3 (.t 1)), zA 74 (.load false 1 (.t 73)), ⟨none, some 75, .call 176 [.t 74]⟩, zM 76 75, zG 76 true 77 (.faddr 4 (.t 1)), zG 76 true 78 (.load false 1 (.t 77)), zG 76 true 79 (.len (.t 78)), zG 76 true 80 (.faddr 3 (.t 1)), zG 76 true 81 (.load false 1 (.t 80)), zG 76 true 82 (.len (.t 81)), zG 76 true 83 (.bin .eql (.t 79) (.t 82)), zA 84 (.pick (.t 76) (.t 83) (.k (.c (.lit (.bool false))))), zM 2 84] [2]) .ret) .skip)))))))))))) (.seq (.reg [ zA 2 (.mv (.k (.c (.lit (.bool false)))))] [2]) .ret)))))
theorem K.impl_hasValidParts : chkF Go.Proofs.Tryz.prog 128 1 0 C.impl_hasValidParts [.tmp 2] = true := by kernel_rfl
def C.impl_measureNode : ACode := (.seq (.reg [ zA 2 (.box 10 (.t 0)), zA 4 (.mv (.k (.c (.lit (.int .i64 0))))), zA 5 (.mv (.k (.c (.lit (.int .i64 0))))), zA 6 (.mv (.k (.c (.lit (.bool false)))))] [1, 2]) (.seq (.seq (.reg [ zM 12 1, zA 13 (.bin .gtr (.t 12) (.k (.c (.lit (.int .i64 5))))), zM 14 13, zG 14 false 15 (.load true 5 (.t 2)), ⟨(some (14, false)), some 16, .call 128 [.t 15]⟩, zG 14 false 17 (.not (.t 16)), zA 18 (.pick (.t 14) (.k (.c (.lit (.bool true)))) (.t 17))] [1, 2, 18]) (.cond (.t 18) (.seq (.reg [ zA 4 (.mv (.k (.c (.lit (.int .i64 0))))), zA 5 (.mv (.k (.c (.lit (.int .i64 0))))), zA 6 (.mv (.k (.c (.lit (.bool false)))))] [4, 5, 6]) .ret) .skip)) (.seq (.reg [ zA 4 (.mv (.k (.c (.lit (.int .i64 1))))), zA 5 (.mv (.k (.c (.lit (.int .i64 1)))))] [1, 2, 4, 5]) (.seq (.seq (.reg [ zA 19 (.faddr 4 (.t 2)), zA 20 (.load false 1 (.t 19)), zA 21 (.len (.t 20)), zA 22 (.mv (.k (.c (.lit (.int .i64 0)))))] [1, 4, 5, 20, 21, 22]) (.block 0 (.loop (.seq (.reg [ zA 23 (.bin .lss (.t 22) (.t 21))] [1, 4, 5, 20, 21, 22, 23]) (.seq (.cond (.t 23) .skip (.exit 0)) (.seq (.block 1 (.seq (.reg [ zA 24 (.iaddr 5 (.t 20) (.t 22)), zA 25 (.load true 5 (.t 24)), zA 8 (.alloc 11 [.c (.lit (.int .i64 0)), .c (.lit (.int .i64 0)), .c (.str []), .nsl 1, .nsl 5]), zS (.store true 5 (.t 8) (.t 25))] [1, 4, 5, 8, 20, 21, 22]) (.seq (.reg [ zA 27 (.load true 5 (.t 8)), zM 28 1, zA 29 (.bin .add (.t 28) (.k (.c (.lit (.int .i64 1))))), ⟨none, some 30, .call 77 [.t 27, .t 29]⟩, zM 26 30, zA 31 (.extract (.t 26) 0), zA 32 (.extract (.t 26) 1), zA 33 (.extract (.t 26) 2), zM 9 31, zM 10 32, zM 11 33] [1, 4, 5, 9, 10, 11, 20, 21, 22]) (.seq (.seq (.reg [ zM 34 11, zA 35 (.not (.t 34))] [1, 4, 5, 9, 10, 20, 21, 22, 35]) (.cond (.t 35) (.seq (.reg [ zA 4 (.mv (.k (.c (.lit (.int .i64 0))))), zA 5 (.mv (.k (.c (.lit (.int .i64 0))))), zA 6 (.mv (.k (.c (.lit (.bool false)))))] [4, 5, 6]) .ret) .skip)) (.seq (.reg [ zM 36 4, zM 37 9, zA 38 (.bin .add (.t 36) (.t 37)), zM 4 38] [1, 4, 5, 10, 20, 21, 22]) (.reg [ zM 39 5, zM 40 10, zA 41 (.bin .add (.t 40) (.k (.c (.lit (.int .i64 1))))), zA 42 (.max (.t 39) (.t 41)), zM 5 42] [1, 4, 5, 20, 21, 22])))))) (.reg [ zA 43 (.bin .add (.t 22) (.k (.c (.lit (.int .i64 1))))), zM 22 43] [1, 4, 5, 20, 21, 22]))))))) (.seq (.reg [ zM 44 4, zM 45 5, zM 4 44, zM 5 45, zA 6 (.mv (.k (.c (.lit (.bool true)))))] [4, 5, 6]) .ret)))))
theorem K.impl_measureNode : chkF Go.Proofs.Tryz.prog 77 2 0 C.impl_measureNode [.tmp 4, .tmp 5, .tmp 6] = true := by kernel_rfl
def C.impl_ValidNode : ACode := (.seq (.reg [ zA 1 (.box 10 (.t 0)), zA 2 (.mv (.k (.c (.lit (.bool false)))))] [1]) (.seq (.reg [ zA 7 (.load true 5 (.t 1)), ⟨none, some 8, .call 77 [.t 7, .k (.c (.lit (.int .i64 1)))]⟩, zM 6 8, zA 9 (.extract (.t 6) 0), zA 10 (.extract (.t 6) 1), zA 11 (.extract (.t 6) 2), zM 3 9, zM 4 10, zM 5 11] [3, 5]) (.seq (.reg [ zM 12 5, zM 13 12, zG 13 true 14 (.mv (.t 3)), zG 13 true 15 (.bin .leq (.t 14) (.k (.c (.lit (.int .i64 40))))), zA 16 (.pick (.t 13) (.t 15) (.k (.c (.lit (.bool false))))), zM 2 16] [2]) .ret)))
theorem K.impl_ValidNode : chkF Go.Proofs.Tryz.prog 38 1 0 C.impl_ValidNode [.tmp 2] = true := by kernel_rfl
def C.impl_isName : ACode := (.seq (.reg [ zA 2 (.mv (.k (.c (.lit (.bool false)))))] [0]) (.seq (.seq (.reg [ zM 4 0, zA 5 (.bin .eql (.t 4) (.k (.c (.str [])))), zM 6 5, zG 6 false 7 (.mv (.t 0)), zG 6 false 8 (.lens (.t 7)), zG 6 false 9 (.bin .gtr (.t 8) (.k (.c (.lit (.int .i64 8))))), zA 10 (.pick (.t 6) (.k (.c (.lit (.bool true)))) (.t 9))] [0, 10]) (.cond (.t 10) (.seq (.reg [ zA 2 (.mv (.k (.c (.lit (.bool false)))))] [2]) .ret) .skip)) (.seq (.seq (.reg [ zA 3 (.mv (.k (.c (.lit (.int .i64 0)))))] [0, 3]) (.block 0 (.loop (.seq (.seq (.reg [ zM 11 3, zM 12 0, zA 13 (.lens (.t 12)), zA 14 (.bin .lss (.t 11) (.t 13))] [0, 3, 14]) (.cond (.t 14) .skip (.exit 0))) (.seq (.block 1 (.seq (.reg [ zM 17 0, zM 18 3, zA 19 (.idxs (.t 17) (.t 18)), zA 20 (.bin .lss (.t 19) (.k (.c (.lit (.int .u8 97))))), zM 21 20, zG 21 false 22 (.mv (.t 0)), zG 21 false 23 (.mv (.t 3)), zG 21 false 24 (.idxs (.t 22) (.t 23)), zG 21 false 25 (.bin .gtr (.t 24) (.k (.c (.lit (.int .u8 122))))), zA 26 (.pick (.t 21) (.k (.c (.lit (.bool true)))) (.t 25)), zM 27 26, zG 27 true 28 (.mv (.t 0)), zG 27 true 29 (.mv (.t 3)), zG 27 true 30 (.idxs (.t 28) (.t 29)), zG 27 true 31 (.bin .lss (.t 30) (.k (.c (.lit (.int .u8 48))))), zG 27 true 32 (.mv (.t 31)), zG 32 false 33 (.mv (.t 0)), zG 32 false 34 (.mv (.t 3)), zG 32 false 35 (.idxs (.t 33) (.t 34)), zG 32 false 36 (.bin .gtr (.t 35) (.k (.c (.lit (.int .u8 57))))), zG 27 true 37 (.pick (.t 32) (.k (.c (.lit (.bool true)))) (.t 36)), zA 38 (.pick (.t 27) (.t 37) (.k (.c (.lit (.bool false)))))] [0, 3, 38]) (.cond (.t 38) (.seq (.reg [ zA 2 (.mv (.k (.c (.lit (.bool false)))))] [2]) .ret) .skip))) (.reg [ zM 15 3, zA 16 (.bin .add (.t 15) (.k (.c (.lit (.int .i64 1))))), zM 3 16] [0, 3])))))) (.seq (.reg [ zA 2 (.mv (.k (.c (.lit (.bool true)))))] [2]) .ret))))
theorem K.impl_isName : chkF Go.Proofs.Tryz.prog 72 1 0 C.impl_isName [.tmp 2] = true := by kernel_rfl
def C.impl_ValidStore : ACode := (.seq (.reg [ zA 1 (.box 10 (.t 0)), zA 2 (.mv (.k (.c (.lit (.bool false)))))] [1]) (.seq (.seq (.reg [ zA 5 (.faddr 0 (.t 1)), zA 6 (.load false 1 (.t 5)), zA 7 (.len (.t 6)), zA 8 (.bin .gtr (.t 7) (.k (.c (.lit (.int .i64 10))))), zM 9 8, zG 9 false 10 (.faddr 1 (.t 1)), zG 9 false 11 (.load false 1 (.t 10)), zG 9 false 12 (.bin .lss (.t 11) (.k (.c (.lit (.int .i64 0))))), zA 13 (.pick (.t 9) (.k (.c (.lit (.bool true)))) (.t 12)), zM 14 13, zG 14 false 15 (.faddr 1 (.t 1)), zG 14 false 16 (.load false 1 (.t 15)), zG 14 false 17 (.bin .gtr (.t 16) (.k (.c (.lit (.int .i64 999))))), zA 18 (.pick (.t 14) (.k (.c (.lit (.bool true)))) (.t 17))] [1, 18]) (.cond (.t 18) (.seq (.reg [ zA 2 (.mv (.k (.c (.lit (.bool false)))))] [2]) .ret) .skip)) (.seq (.seq (.reg [ zA 19 (.faddr 0 (.t 1)), zA 20 (.load false 1 (.t 19)), zA 21 (.len (.t 20)), zA 22 (.mv (.k (.c (.lit (.int .i64 0)))))] [1, 20, 21, 22]) (.block 0 (.loop (.seq (.reg [ zA 23 (.bin .lss (.t 22) (.t 21))] [1, 20, 21, 22, 23]) (.seq (.cond (.t 23) .skip (.exit 0)) (.seq (.block 1 (.seq (.reg [ zM 24 22, zA 25 (.iaddr 7 (.t 20) (.t 22)), zA 26 (.load true 7 (.t 25)), zA 4 (.alloc 11 [.c (.str []), .c (.lit (.int .i64 0)), .c (.lit (.int .i64 0)), .c (.lit (.int .i64 0)), .c (.str []), .nsl 1, .nsl 5]), zM 3 24, zS (.store true 7 (.t 4) (.t 26))] [1, 3, 4, 20, 21, 22]) (.seq (.seq (.regD [ (zA 27 (.faddr 0 (.t 4)), []), (zA 28 (.load false 1 (.t 27)), [0]), (⟨none, some 29, .call 72 [.t 28]⟩, [0, 1]), (zA 30 (.not (.t 29)), [0, 1, 2]), (zM 31 30, [0, 1, 2, 3]), (zG 31 false 32 (.mv (.t 3)), [0, 1, 2, 3, 4]), (zG 31 false 33 (.bin .gtr (.t 32) (.k (.c (.lit (.int .i64 0))))), [0, 1, 2, 3, 4, 5]), (zG 31 false 34 (.mv (.t 33)), [0, 1, 2, 3, 4, 5, 6]), (zG 34 true 35 (.faddr 0 (.t 1)), [0, 1, 2, 3, 4, 5, 6, 7]), (zG 34 true 36 (.load false 1 (.t 35)), [0, 1, 2, 3, 4, 5, 6, 7, 8]), (zG 34 true 37 (.mv (.t 3)), [0, 1, 2, 3, 4, 5, 6, 7]), (zG 34 true 38 (.bin .sub (.t 37) (.k (.c (.lit (.int .i64 1))))), [0, 1, 2, 3, 4, 5, 6, 7, 10]), (zG 34 true 39 (.iaddr 7 (.t 36) (.t 38)), [0, 1, 2, 3, 4, 5, 6, 7, 8, 9, 10, 11]), (zG 34 true 40 (.faddr 0 (.t 39)), [0, 1, 2, 3, 4, 5, 6, 7, 8, 9, 10, 11, 12]), (zG 34 true 41 (.load false 1 (.t 40)), [0, 1, 2, 3, 4, 5, 6, 7, 8, 9, 10, 11, 12, 13]), (zG 34 true 42 (.faddr 0 (.t 4)), [0, 1, 2, 3, 4, 5, 6, 7]), (zG 34 true 43 (.load false 1 (.t 42)), [0, 1, 2, 3, 4, 5, 6, 7, 15]), (zG 34 true 44 (.bin .geq (.t 41) (.t 43)), [0, 1, 2, 3, 4, 5, 6, 7, 8, 9, 10, 11, 12, 13, 14, 15, 16]), (zG 31 false 45 (.pick (.t 34) (.t 44) (.k (.c (.lit (.bool false))))), [0, 1, 2, 3, 4, 5, 6, 7, 8, 9, 10, 11, 12, 13, 14, 15, 16, 17]), (zA 46 (.pick (.t 31) (.k (.c (.lit (.bool true)))) (.t 45)), [0, 1, 2, 3, 4, 5, 6, 7, 8, 9, 10, 11, 12, 13, 14, 15, 16, 17, 18])] [1, 4, 20, 21, 22, 46]) (.cond (.t 46) (.seq (.reg [ zA 2 (.mv (.k (.c (.lit (.bool false)))))] [2]) .ret) .skip)) (.seq (.reg [ zA 47 (.faddr 1 (.t 4)), zA 48 (.load false 1 (.t 47)), zA 49 (.bin .lss (.t 48) (.k (.c (.lit (.int .i64 1))))), zM 50 49, zG 50 false 51 (.faddr 1 (.t 4)), zG 50 false 52 (.load false 1 (.t 51)), zG 50 false 53 (.faddr 1 (.t 1)), zG 50 false 54 (.load false 1 (.t 53)), zG 50 false 55 (.bin .gtr (.t 52) (.t 54)), zA 56 (.pick (.t 50) (.k (.c (.lit (.bool true)))) (.t 55)), zM 57 56, zG 57 false 58 (.faddr 2 (.t 4)), zG 57 false 59 (.load true 5 (.t 58)), ⟨(some (57, false)), some 60, .call 38 [.t 59]⟩, zG 57 false 61 (.not (.t 60)), zA 62 (.pick (.t 57) (.k (.c (.lit (.bool true)))) (.t 61))] [1, 20, 21, 22, 62]) (.cond (.t 62) (.seq (.reg [ zA 2 (.mv (.k (.c (.lit (.bool false)))))] [2]) .ret) .skip))))) (.reg [ zA 63 (.bin .add (.t 22) (.k (.c (.lit (.int .i64 1))))), zM 22 63] [1, 20, 21, 22]))))))) (.seq (.reg [ zA 2 (.mv (.k (.c (.lit (.bool true)))))] [2]) .ret))))
theorem K.impl_ValidStore : chkF Go.Proofs.Tryz.prog 58 1 0 C.impl_ValidStore [.tmp 2] = true := by kernel_rfl
def C.impl_copyNode : ACode := (.seq (.reg [ zA 1 (.box 10 (.t 0)), zA 2 (.alloc 11 [.c (.lit (.int .i64 0)), .c (.lit (.int .i64 0)), .c (.str []), .nsl 1, .nsl 5])] [1, 2]) (.seq (.reg [ zA 6 (.faddr 0 (.t 1)), zA 7 (.load false 1 (.t 6)), zA 8 (.faddr 1 (.t 1)), zA 9 (.load false 1 (.t 8)), zA 10 (.faddr 2 (.t 1)), zA 11 (.load false 1 (.t 10)), zA 12 (.build [.c (.lit (.int .i64 0)), .c (.lit (.int .i64 0)), .c (.str []), .nsl 1, .nsl 5] [(0, 1, .t 7), (1, 1, .t 9), (2, 1, .t 11)]), zA 3 (.alloc 12 [.c (.lit (.int .i64 0)), .c (.lit (.int .i64 0)), .c (.str []), .nsl 1, .nsl 5]), zS (.store true 5 (.t 3) (.t 12))] [1, 2, 3]) (.cut (.seq (.reg [ zA 13 (.faddr 3 (.t 1)), zA 14 (.load false 1 (.t 13)), zA 15 (.len (.t 14)), zA 16 (.bin .gtr (.t 15) (.k (.c (.lit (.int .i64 0)))))] [1, 2, 3, 16]) (.cond (.t 16) (.seq (.reg [ zA 17 (.faddr 3 (.t 1)), zA 18 (.load false 1 (.t 17)), zA 19 (.len (.t 18)), zA 20 (.makes 13 1 16 [.str []] (.t 19) (.t 19)), zA 21 (.faddr 3 (.t 3)), zS (.store false 1 (.t 21) (.t 20))] [1, 2, 3]) (.reg [ zA 22 (.faddr 3 (.t 3)), zA 23 (.load false 1 (.t 22)), zA 24 (.faddr 3 (.t 1)), zA 25 (.load false 1 (.t 24)), zA 26 (.copy 1 (.t 23) (.t 25))] [1, 2, 3])) .skip)) (.seq (.seq (.reg [ zA 27 (.faddr 4 (.t 1)), zA 28 (.load false 1 (.t 27)), zA 29 (.len (.t 28)), zA 30 (.bin .gtr (.t 29) (.k (.c (.lit (.int .i64 0)))))] [1, 2, 3, 30]) (.cond (.t 30) (.seq (.reg [ zA 31 (.faddr 4 (.t 1)), zA 32 (.load false 1 (.t 31)), zA 33 (.len (.t 32)), zA 34 (.makes 14 5 80 [.lit (.int .i64 0), .lit (.int .i64 0), .str [], .sl 1 [], .sl 5 []] (.t 33) (.t 33)), zA 35 (.faddr 4 (.t 3)), zS (.store false 1 (.t 35) (.t 34))] [1, 2, 3]) (.seq (.reg [ zA 36 (.faddr 4 (.t 1)), zA 37 (.load false 1 (.t 36)), zA 38 (.len (.t 37)), zA 39 (.mv (.k (.c (.lit (.int .i64 0)))))] [2, 3, 37, 38, 39]) (.block 0 (.loop (.seq (.reg [ zA 40 (.bin .lss (.t 39) (.t 38))] [2, 3, 37, 38, 39, 40]) (.seq (.cond (.t 40) .skip (.exit 0)) (.seq (.block 1 (.seq (.reg [ zM 41 39, zA 42 (.iaddr 5 (.t 37) (.t 39)), zA 43 (.load true 5 (.t 42)), zA 5 (.alloc 15 [.c (.lit (.int .i64 0)), .c (.lit (.int .i64 0)), .c (.str []), .nsl 1, .nsl 5]), zM 4 41, zS (.store true 5 (.t 5) (.t 43))] [2, 3, 4, 5, 37, 38, 39]) (.regD [ (zA 44 (.faddr 4 (.t 3)), []), (zA 45 (.load false 1 (.t 44)), [0]), (zM 46 4, []), (zA 47 (.load true 5 (.t 5)), []), (⟨none, some 48, .call 61 [.t 47]⟩, [3]), (zA 49 (.iaddr 5 (.t 45) (.t 46)), [0, 1, 2, 3, 4]), (zS (.store true 5 (.t 49) (.t 48)), [0, 1, 2, 3, 4, 5])] [2, 3, 37, 38, 39]))) (.reg [ zA 50 (.bin .add (.t 39) (.k (.c (.lit (.int .i64 1))))), zM 39 50] [2, 3, 37, 38, 39])))))))) .skip)) (.seq (.reg [ zA 51 (.load true 5 (.t 3)), zS (.store true 5 (.t 2) (.t 51))] [2]) .ret)))))
theorem K.impl_copyNode : chkF Go.Proofs.Tryz.prog 61 1 0 C.impl_copyNode [.cell 2 true 5] = true := by kernel_rfl
def C.slices_isNaN_string : ACode := (.seq (.reg [ zA 2 (.mv (.k (.c (.lit (.bool false)))))] [0]) (.seq (.reg [ zM 3 0, zM 4 0, zA 5 (.bin .neq (.t 3) (.t 4)), zM 2 5] [2]) .ret))
theorem K.slices_isNaN_string : chkF Go.Proofs.Tryz.prog 138 1 0 C.slices_isNaN_string [.tmp 2] = true := by kernel_rfl
def C.slices_BinarySearch_string : ACode := (.seq (.reg [ zA 4 (.mv (.k (.c (.lit (.int .i64 0))))), zA 5 (.mv (.k (.c (.lit (.bool false)))))] [0, 1]) (.seq (.reg [ zM 10 0, zA 11 (.len (.t 10)), zM 6 11] [0, 1, 6]) (.seq (.reg [ zM 12 6, zA 7 (.mv (.k (.c (.lit (.int .i64 0))))), zM 8 12] [0, 1, 6, 7, 8]) (.seq (.block 0 (.loop (.seq (.seq (.reg [ zM 13 7, zM 14 8, zA 15 (.bin .lss (.t 13) (.t 14))] [0, 1, 6, 7, 8, 15]) (.cond (.t 15) .skip (.exit 0))) (.block 1 (.seq (.reg [ zM 16 7, zM 17 8, zA 18 (.bin .add (.t 16) (.t 17)), zA 19 (.cint .u64 (.t 18)), zA 20 (.shf false (.t 19) (.k (.c (.lit (.int .u64 1))))), zA 21 (.cint .i64 (.t 20)), zM 9 21] [0, 1, 6, 7, 8, 9]) (.seq (.reg [ zM 22 0, zM 23 9, zA 24 (.iaddr 1 (.t 22) (.t 23)), zA 25 (.load false 1 (.t 24)), zM 26 1, ⟨none, some 27, .call 137 [.t 25, .t 26]⟩] [0, 1, 6, 7, 8, 9, 27]) (.cond (.t 27) (.reg [ zM 28 9, zA 29 (.bin .add (.t 28) (.k (.c (.lit (.int .i64 1))))), zM 7 29] [0, 1, 6, 7, 8]) (.reg [ zM 30 9, zM 8 30] [0, 1, 6, 7, 8])))))))) (.seq (.reg [ zM 31 7, zM 32 7, zM 33 6, zA 34 (.bin .lss (.t 32) (.t 33)), zM 35 34, zG 35 true 36 (.mv (.t 0)), zG 35 true 37 (.mv (.t 7)), zG 35 true 38 (.iaddr 1 (.t 36) (.t 37)), zG 35 true 39 (.load false 1 (.t 38)), zG 35 true 40 (.mv (.t 1)), zG 35 true 41 (.bin .eql (.t 39) (.t 40)), zG 35 true 42 (.mv (.t 41)), zG 42 false 43 (.mv (.t 0)), zG 42 false 44 (.mv (.t 7)), zG 42 false 45 (.iaddr 1 (.t 43) (.t 44)), zG 42 false 46 (.load false 1 (.t 45)), ⟨(some (42, false)), some 47, .call 138 [.t 46]⟩, zG 42 false 48 (.mv (.t 47)), zG 48 true 49 (.mv (.t 1)), ⟨(some (48, true)), some 50, .call 138 [.t 49]⟩, zG 42 false 51 (.pick (.t 48) (.t 50) (.k (.c (.lit (.bool false))))), zG 35 true 52 (.pick (.t 42) (.k (.c (.lit (.bool true)))) (.t 51)), zA 53 (.pick (.t 35) (.t 52) (.k (.c (.lit (.bool false))))), zM 4 31, zM 5 53] [4, 5]) .ret)))))
theorem K.slices_BinarySearch_string : chkF Go.Proofs.Tryz.prog 94 2 0 C.slices_BinarySearch_string [.tmp 4, .tmp 5] = true := by kernel_rfl
def C.internal_strconv_log10Pow2 : ACode := (.seq (.reg [ zA 2 (.mv (.k (.c (.lit (.int .i64 0)))))] [0]) (.seq (.reg [ zM 3 0, zA 4 (.bin .mul (.t 3) (.k (.c (.lit (.int .i64 78913))))), zA 5 (.shf false (.t 4) (.k (.c (.lit (.int .u64 18))))), zM 2 5] [2]) .ret))
theorem K.internal_strconv_log10Pow2 : chkF Go.Proofs.Tryz.prog 213 1 0 C.internal_strconv_log10Pow2 [.tmp 2] = true := by kernel_rfl
def C.math_bits_Len64 : ACode := (.seq (.reg [ zA 2 (.mv (.k (.c (.lit (.int .i64 0)))))] [0, 2]) (.cut (.seq (.reg [ zM 3 0, zA 4 (.bin .geq (.t 3) (.k (.c (.lit (.int .u64 4294967296)))))] [0, 2, 4]) (.cond (.t 4) (.seq (.reg [ zM 5 0, zA 6 (.shf false (.t 5) (.k (.c (.lit (.int .u64 32))))), zM 0 6] [0]) (.reg [ zA 2 (.mv (.k (.c (.lit (.int .i64 32)))))] [0, 2])) .skip)) (.cut (.seq (.reg [ zM 7 0, zA 8 (.bin .geq (.t 7) (.k (.c (.lit (.int .u64 65536)))))] [0, 2, 8]) (.cond (.t 8) (.seq (.reg [ zM 9 0, zA 10 (.shf false (.t 9) (.k (.c (.lit (.int .u64 16))))), zM 0 10] [0, 2]) (.reg [ zM 11 2, zA 12 (.bin .add (.t 11) (.k (.c (.lit (.int .i64 16))))), zM 2 12] [0, 2])) .skip)) (.seq (.seq (.reg [ zM 13 0, zA 14 (.bin .geq (.t 13) (.k (.c (.lit (.int .u64 256)))))] [0, 2, 14]) (.cond (.t 14) (.seq (.reg [ zM 15 0, zA 16 (.shf false (.t 15) (.k (.c (.lit (.int .u64 8))))), zM 0 16] [0, 2]) (.reg [ zM 17 2, zA 18 (.bin .add (.t 17) (.k (.c (.lit (.int .i64 8))))), zM 2 18] [0, 2])) .skip)) (.seq (.reg [ zM 19 2, zM 20 0, zA 21 (.cint .u8 (.t 20)), zA 22 (.idxs (.k (.c (.str [0, 1, 2, 2, 3, 3, 3, 3, 4, 4, 4, 4, 4, 4, 4, 4, 5, 5, 5, 5, 5, 5, 5, 5, 5, 5, 5, 5, 5, 5, 5, 5, 6, 6, 6, 6, 6, 6, 6, 6, 6, 6, 6, 6, 6, 6, 6, 6, 6, 6, 6, 6, 6, 6, 6, 6, 6, 6, 6, 6, 6, 6, 6, 6, 7, 7, 7, 7, 7, 7, 7, 7, 7, 7, 7, 7, 7, 7, 7, 7, 7, 7, 7, 7, 7, 7, 7, 7, 7, 7, 7, 7, 7, 7, 7, 7, 7, 7, 7, 7, 7, 7, 7, 7, 7, 7, 7, 7, 7, 7, 7, 7, 7, 7, 7, 7, 7, 7, 7, 7, 7, 7, 7, 7, 7, 7, 7, 7, 8, 8, 8, 8, 8, 8, 8, 8, 8, 8, 8, 8, 8, 8, 8, 8, 8, 8, 8, 8, 8, 8, 8, 8, 8, 8, 8, 8, 8, 8, 8, 8, 8, 8, 8, 8, 8, 8, 8, 8, 8, 8, 8, 8, 8, 8, 8, 8, 8, 8, 8, 8, 8, 8, 8, 8, 8, 8, 8, 8, 8, 8, 8, 8, 8, 8, 8, 8, 8, 8, 8, 8, 8, 8, 8, 8, 8, 8, 8, 8, 8, 8, 8, 8, 8, 8, 8, 8, 8, 8, 8, 8, 8, 8, 8, 8, 8, 8, 8, 8, 8, 8, 8, 8, 8, 8, 8, 8, 8, 8, 8, 8, 8, 8, 8, 8, 8, 8, 8, 8, 8, 8, 8, 8, 8, 8, 8, 8]))) (.t 21)), zA 23 (.cint .i64 (.t 22)), zA 24 (.bin .add (.t 19) (.t 23)), zM 2 24] [2]) .ret)))))
theorem K.math_bits_Len64 : chkF Go.Proofs.Tryz.prog 163 1 0 C.math_bits_Len64 [.tmp 2] = true := by kernel_rfl
def C.internal_strconv_numDigits : ACode := (.seq (.reg [ zA 2 (.mv (.k (.c (.lit (.int .i64 0)))))] [0]) (.seq (.reg [ zM 4 0, ⟨none, some 5, .call 163 [.t 4]⟩, ⟨none, some 6, .call 213 [.t 5]⟩, zM 3 6] [0, 3]) (.seq (.reg [ zM 7 3, zM 8 0, zM 9 3, ⟨none, some 10, .op (.iaddrA 1 20 (.k (.c (.lit (.pointer (some ⟨1, 0, none⟩))))) (.t 9))⟩, zA 11 (.load false 1 (.t 10)), zA 12 (.bin .geq (.t 8) (.t 11)), ⟨none, some 13, .call 214 [.t 12]⟩, zA 14 (.bin .add (.t 7) (.t 13)), zM 2 14] [2]) .ret)))
theorem K.internal_strconv_numDigits : chkF Go.Proofs.Tryz.prog 208 1 0 C.internal_strconv_numDigits [.tmp 2] = true := by kernel_rfl
def C.internal_strconv_small : ACode := (.seq (.reg [ zA 2 (.mv (.k (.c (.str []))))] [0]) (.seq (.seq (.reg [ zM 3 0, zA 4 (.bin .lss (.t 3) (.k (.c (.lit (.int .i64 10)))))] [0, 4]) (.cond (.t 4) (.seq (.reg [ zM 5 0, zM 6 0, zA 7 (.bin .add (.t 6) (.k (.c (.lit (.int .i64 1))))), zA 8 (.slstr (.k (.c (.str [48, 49, 50, 51, 52, 53, 54, 55, 56, 57, 97, 98, 99, 100, 101, 102, 103, 104, 105, 106, 107, 108, 109, 110, 111, 112, 113, 114, 115, 116, 117, 118, 119, 120, 121, 122]))) (some (.t 5)) (some (.t 7))), zM 2 8] [2]) .ret) .skip)) (.seq (.reg [ zM 9 0, zA 10 (.bin .mul (.t 9) (.k (.c (.lit (.int .i64 2))))), zM 11 0, zA 12 (.bin .mul (.t 11) (.k (.c (.lit (.int .i64 2))))), zA 13 (.bin .add (.t 12) (.k (.c (.lit (.int .i64 2))))), zA 14 (.slstr (.k (.c (.str [48, 48, 48, 49, 48, 50, 48, 51, 48, 52, 48, 53, 48, 54, 48, 55, 48, 56, 48, 57, 49, 48, 49, 49, 49, 50, 49, 51, 49, 52, 49, 53, 49, 54, 49, 55, 49, 56, 49, 57, 50, 48, 50, 49, 50, 50, 50, 51, 50, 52, 50, 53, 50, 54, 50, 55, 50, 56, 50, 57, 51, 48, 51, 49, 51, 50, 51, 51, 51, 52, 51, 53, 51, 54, 51, 55, 51, 56, 51, 57, 52, 48, 52, 49, 52, 50, 52, 51, 52, 52, 52, 53, 52, 54, 52, 55, 52, 56, 52, 57, 53, 48, 53, 49, 53, 50, 53, 51, 53, 52, 53, 53, 53, 54, 53, 55, 53, 56, 53, 57, 54, 48, 54, 49, 54, 50, 54, 51, 54, 52, 54, 53, 54, 54, 54, 55, 54, 56, 54, 57, 55, 48, 55, 49, 55, 50, 55, 51, 55, 52, 55, 53, 55, 54, 55, 55, 55, 56, 55, 57, 56, 48, 56, 49, 56, 50, 56, 51, 56, 52, 56, 53, 56, 54, 56, 55, 56, 56, 56, 57, 57, 48, 57, 49, 57, 50, 57, 51, 57, 52, 57, 53, 57, 54, 57, 55, 57, 56, 57, 57]))) (some (.t 10)) (some (.t 13))), zM 2 14] [2]) .ret)))
theorem K.internal_strconv_small : chkF Go.Proofs.Tryz.prog 207 1 0 C.internal_strconv_small [.tmp 2] = true := by kernel_rfl
def C.internal_strconv_FormatInt : ACode := (.seq (.reg [ zA 4 (.mv (.k (.c (.str []))))] [0, 1]) (.seq (.seq (.reg [ zM 10 1, zA 11 (.bin .eql (.t 10) (.k (.c (.lit (.int .i64 10)))))] [0, 1, 11]) (.cond (.t 11) (.seq (.seq (.reg [ zM 12 0, zA 13 (.bin .leq (.k (.c (.lit (.int .i64 0)))) (.t 12)), zM 14 13, zG 14 true 15 (.mv (.t 0)), zG 14 true 16 (.bin .lss (.t 15) (.k (.c (.lit (.int .i64 100))))), zA 17 (.pick (.t 14) (.t 16) (.k (.c (.lit (.bool false)))))] [0, 17]) (.cond (.t 17) (.seq (.reg [ zM 18 0, ⟨none, some 19, .call 207 [.t 18]⟩, zM 4 19] [4]) .ret) .skip)) (.seq (.reg [ zA 5 (.allocA 10 1 24 [.lit (.int .u8 0)])] [0, 5]) (.seq (.reg [ zM 20 0, zA 21 (.cint .u64 (.t 20)), zM 6 21] [0, 5, 6]) (.cut (.seq (.reg [ zM 22 0, zA 23 (.bin .lss (.t 22) (.k (.c (.lit (.int .i64 0)))))] [0, 5, 6, 23]) (.cond (.t 23) (.reg [ zM 24 6, zA 25 (.neg (.t 24)), zM 6 25] [0, 5, 6]) .skip)) (.seq (.reg [ zM 26 6, ⟨none, some 27, .call 208 [.t 26]⟩, zM 7 27] [0, 5, 6, 7]) (.seq (.reg [ zM 28 7, zA 29 (.bin .add (.k (.c (.lit (.int .i64 1)))) (.t 28)), ⟨none, some 30, .op .stop⟩, zM 31 6, ⟨none, some 32, .call 209 [.t 30, .t 31]⟩] [0, 5, 7]) (.seq (.seq (.reg [ zM 33 0, zA 34 (.bin .lss (.t 33) (.k (.c (.lit (.int .i64 0)))))] [5, 7, 34]) (.cond (.t 34) (.seq (.reg [ zA 35 (.iaddrA 1 24 (.t 5) (.k (.c (.lit (.int .i64 0))))), zS (.store false 1 (.t 35) (.k (.c (.lit (.int .u8 45)))))] [5, 7]) (.seq (.reg [ zM 36 7, zA 37 (.bin .add (.k (.c (.lit (.int .i64 1)))) (.t 36)), ⟨none, some 38, .op .stop⟩, zA 39 (.cstr (.t 38)), zM 4 39] [4]) .ret)) .skip)) (.seq (.reg [ zM 40 7, zA 41 (.bin .add (.k (.c (.lit (.int .i64 1)))) (.t 40)), ⟨none, some 42, .op .stop⟩, zA 43 (.cstr (.t 42)), zM 4 43] [4]) .ret)))))))) .skip)) (.seq (.reg [ zM 45 0, zA 46 (.cint .u64 (.t 45)), zM 47 1, zM 48 0, zA 49 (.bin .lss (.t 48) (.k (.c (.lit (.int .i64 0))))), ⟨none, some 50, .call 210 [.k (.nsl 1), .t 46, .t 47, .t 49, .k (.c (.lit (.bool false)))]⟩, zM 44 50, zA 51 (.extract (.t 44) 0), zA 52 (.extract (.t 44) 1), zM 8 51, zM 9 52] [9]) (.seq (.reg [ zM 53 9, zM 4 53] [4]) .ret))))
theorem K.internal_strconv_FormatInt : chkF Go.Proofs.Tryz.prog 201 2 0 C.internal_strconv_FormatInt [.tmp 4] = true := by kernel_rfl
def C.internal_strconv_Itoa : ACode := (.seq (.reg [ zA 2 (.mv (.k (.c (.str []))))] [0]) (.seq (.reg [ zM 3 0, ⟨none, some 4, .call 201 [.t 3, .k (.c (.lit (.int .i64 10)))]⟩, zM 2 4] [2]) .ret))
theorem K.internal_strconv_Itoa : chkF Go.Proofs.Tryz.prog 177 1 0 C.internal_strconv_Itoa [.tmp 2] = true := by kernel_rfl
def C.strconv_Itoa : ACode := (.seq (.reg [ zA 2 (.mv (.k (.c (.str []))))] [0]) (.seq (.reg [ zM 3 0, ⟨none, some 4, .call 177 [.t 3]⟩, zM 2 4] [2]) .ret))
theorem K.strconv_Itoa : chkF Go.Proofs.Tryz.prog 130 1 0 C.strconv_Itoa [.tmp 2] = true := by kernel_rfl
def C.impl_kidIndex : ACode := (.seq (.reg [ zA 2 (.box 10 (.t 0)), zA 4 (.mv (.k (.c (.lit (.int .i64 0))))), zA 5 (.mv (.k (.c (.lit (.bool false)))))] [1, 2]) (.seq (.seq (.reg [ zA 7 (.faddr 0 (.t 2)), zA 8 (.load false 1 (.t 7))] [1, 2, 8]) (.block 0 (.seq (.reg [ zA 10 (.bin .eql (.t 8) (.k (.c (.lit (.int .i64 4))))), zM 9 10] [1, 2, 8, 9]) (.cond (.t 9) (.seq (.reg [ zA 11 (.faddr 3 (.t 2)), zA 12 (.load false 1 (.t 11)), zM 13 1, ⟨none, some 14, .call 94 [.t 12, .t 13]⟩, zA 15 (.extract (.t 14) 0), zA 16 (.extract (.t 14) 1), zM 4 15, zM 5 16] [4, 5]) .ret) (.seq (.reg [ zA 18 (.bin .eql (.t 8) (.k (.c (.lit (.int .i64 3))))), zM 17 18] [1, 2, 17]) (.cond (.t 17) (.seq (.reg [ zA 19 (.faddr 4 (.t 2)), zA 20 (.load false 1 (.t 19)), zA 21 (.len (.t 20)), zA 22 (.mv (.k (.c (.lit (.int .i64 0)))))] [1, 21, 22]) (.block 1 (.loop (.seq (.reg [ zA 23 (.bin .lss (.t 22) (.t 21))] [1, 21, 22, 23]) (.seq (.cond (.t 23) .skip (.exit 1)) (.seq (.block 2 (.seq (.reg [ zM 24 22, zM 6 24] [1, 6, 21, 22]) (.seq (.reg [ zM 25 6, ⟨none, some 26, .call 130 [.t 25]⟩, zM 27 1, zA 28 (.bin .eql (.t 26) (.t 27))] [1, 6, 21, 22, 28]) (.cond (.t 28) (.seq (.reg [ zM 29 6, zM 4 29, zA 5 (.mv (.k (.c (.lit (.bool true)))))] [4, 5]) .ret) .skip)))) (.reg [ zA 30 (.bin .add (.t 22) (.k (.c (.lit (.int .i64 1))))), zM 22 30] [1, 21, 22]))))))) .skip)))))) (.seq (.reg [ zA 4 (.mv (.k (.c (.lit (.int .i64 0))))), zA 5 (.mv (.k (.c (.lit (.bool false)))))] [4, 5]) .ret)))
theorem K.impl_kidIndex : chkF Go.Proofs.Tryz.prog 107 2 0 C.impl_kidIndex [.tmp 4, .tmp 5] = true := by kernel_rfl
def C.impl_findNode : ACode := (.seq (.reg [ zA 2 (.box 10 (.t 0)), zA 4 (.alloc 11 [.c (.lit (.int .i64 0)), .c (.lit (.int .i64 0)), .c (.str []), .nsl 1, .nsl 5]), zA 5 (.mv (.k (.c (.lit (.bool false)))))] [1, 2, 4]) (.seq (.seq (.reg [ zM 10 1, zA 11 (.len (.t 10)), zA 12 (.mv (.k (.c (.lit (.int .i64 0)))))] [2, 4, 10, 11, 12]) (.block 0 (.loop (.seq (.reg [ zA 13 (.bin .lss (.t 12) (.t 11))] [2, 4, 10, 11, 12, 13]) (.seq (.cond (.t 13) .skip (.exit 0)) (.seq (.block 1 (.seq (.reg [ zA 14 (.iaddr 1 (.t 10) (.t 12)), zA 15 (.load false 1 (.t 14)), zM 7 15] [2, 4, 7, 10, 11, 12]) (.seq (.reg [ zA 17 (.load true 5 (.t 2)), zM 18 7, ⟨none, some 19, .call 107 [.t 17, .t 18]⟩, zM 16 19, zA 20 (.extract (.t 16) 0), zA 21 (.extract (.t 16) 1), zM 8 20, zM 9 21] [2, 4, 8, 9, 10, 11, 12]) (.seq (.seq (.reg [ zM 22 9, zA 23 (.not (.t 22))] [2, 4, 8, 10, 11, 12, 23]) (.cond (.t 23) (.seq (.reg [ zA 24 (.build [.c (.lit (.int .i64 0)), .c (.lit (.int .i64 0)), .c (.str []), .nsl 1, .nsl 5] []), zS (.store true 5 (.t 4) (.t 24)), zA 5 (.mv (.k (.c (.lit (.bool false)))))] [4, 5]) .ret) .skip)) (.reg [ zA 25 (.faddr 4 (.t 2)), zA 26 (.load false 1 (.t 25)), zM 27 8, zA 28 (.iaddr 5 (.t 26) (.t 27)), zA 29 (.load true 5 (.t 28)), zS (.store true 5 (.t 2) (.t 29))] [2, 4, 10, 11, 12]))))) (.reg [ zA 30 (.bin .add (.t 12) (.k (.c (.lit (.int .i64 1))))), zM 12 30] [2, 4, 10, 11, 12]))))))) (.seq (.reg [ zA 31 (.load true 5 (.t 2)), zS (.store true 5 (.t 4) (.t 31)), zA 5 (.mv (.k (.c (.lit (.bool true)))))] [4, 5]) .ret)))
theorem K.impl_findNode : chkF Go.Proofs.Tryz.prog 60 2 0 C.impl_findNode [.cell 4 true 5, .tmp 5] = true := by kernel_rfl
def C.impl_isPath : ACode := (.seq (.reg [ zA 2 (.mv (.k (.c (.lit (.bool false)))))] [0]) (.seq (.seq (.reg [ zM 5 0, zA 6 (.len (.t 5)), zA 7 (.bin .gtr (.t 6) (.k (.c (.lit (.int .i64 5)))))] [0, 7]) (.cond (.t 7) (.seq (.reg [ zA 2 (.mv (.k (.c (.lit (.bool false)))))] [2]) .ret) .skip)) (.seq (.seq (.reg [ zM 8 0, zA 9 (.len (.t 8)), zA 10 (.mv (.k (.c (.lit (.int .i64 0)))))] [8, 9, 10]) (.block 0 (.loop (.seq (.reg [ zA 11 (.bin .lss (.t 10) (.t 9))] [8, 9, 10, 11]) (.seq (.cond (.t 11) .skip (.exit 0)) (.seq (.block 1 (.seq (.reg [ zA 12 (.iaddr 1 (.t 8) (.t 10)), zA 13 (.load false 1 (.t 12)), zM 4 13] [4, 8, 9, 10]) (.seq (.reg [ zM 14 4, ⟨none, some 15, .call 106 [.t 14]⟩, zA 16 (.not (.t 15))] [8, 9, 10, 16]) (.cond (.t 16) (.seq (.reg [ zA 2 (.mv (.k (.c (.lit (.bool false)))))] [2]) .ret) .skip)))) (.reg [ zA 17 (.bin .add (.t 10) (.k (.c (.lit (.int .i64 1))))), zM 10 17] [8, 9, 10]))))))) (.seq (.reg [ zA 2 (.mv (.k (.c (.lit (.bool true)))))] [2]) .ret))))
theorem K.impl_isPath : chkF Go.Proofs.Tryz.prog 59 1 0 C.impl_isPath [.tmp 2] = true := by kernel_rfl
def C.math_bits_Len : ACode := (.seq (.reg [ zA 2 (.mv (.k (.c (.lit (.int .i64 0)))))] [0]) (.seq (.cond (.k (.c (.lit (.bool false)))) (.seq (.reg [ zM 3 0, zA 4 (.cint .u32 (.t 3)), ⟨none, some 5, .call 162 [.t 4]⟩, zM 2 5] [2]) .ret) .skip) (.seq (.reg [ zM 6 0, ⟨none, some 7, .call 163 [.t 6]⟩, zM 2 7] [2]) .ret)))
theorem K.math_bits_Len : chkF Go.Proofs.Tryz.prog 109 1 0 C.math_bits_Len [.tmp 2] = true := by kernel_rfl
def C.slices_insertionSortCmpFunc_impl_Entry : ACode := (.seq (.reg [ zM 10 1, zA 11 (.bin .add (.t 10) (.k (.c (.lit (.int .i64 1))))), zM 8 11] [0, 1, 2, 3, 8]) (.block 0 (.loop (.seq (.seq (.reg [ zM 12 8, zM 13 2, zA 14 (.bin .lss (.t 12) (.t 13))] [0, 1, 2, 3, 8, 14]) (.cond (.t 14) .skip (.exit 0))) (.seq (.block 1 (.seq (.reg [ zM 17 8, zM 9 17] [0, 1, 2, 3, 8, 9]) (.block 2 (.loop (.seq (.seq (.regD [ (zM 18 9, []), (zM 19 1, []), (zA 20 (.bin .gtr (.t 18) (.t 19)), [0, 1]), (zM 21 20, [0, 1, 2]), (zG 21 true 22 (.mv (.t 3)), [0, 1, 2, 3]), (zG 21 true 23 (.mv (.t 0)), [0, 1, 2, 3]), (zG 21 true 24 (.mv (.t 9)), [0, 1, 2, 3]), (zG 21 true 25 (.iaddr 6 (.t 23) (.t 24)), [0, 1, 2, 3, 5, 6]), (zG 21 true 26 (.load true 6 (.t 25)), [0, 1, 2, 3, 5, 6, 7]), (zG 21 true 27 (.mv (.t 0)), [0, 1, 2, 3]), (zG 21 true 28 (.mv (.t 9)), [0, 1, 2, 3]), (zG 21 true 29 (.bin .sub (.t 28) (.k (.c (.lit (.int .i64 1))))), [0, 1, 2, 3, 10]), (zG 21 true 30 (.iaddr 6 (.t 27) (.t 29)), [0, 1, 2, 3, 9, 10, 11]), (zG 21 true 31 (.load true 6 (.t 30)), [0, 1, 2, 3, 9, 10, 11, 12]), (⟨(some (21, true)), some 32, .callv (.t 22) [.t 26, .t 31]⟩, [0, 1, 2, 3, 4, 5, 6, 7, 8, 9, 10, 11, 12, 13]), (zG 21 true 33 (.bin .lss (.t 32) (.k (.c (.lit (.int .i64 0))))), [0, 1, 2, 3, 4, 5, 6, 7, 8, 9, 10, 11, 12, 13, 14]), (zA 34 (.pick (.t 21) (.t 33) (.k (.c (.lit (.bool false))))), [0, 1, 2, 3, 4, 5, 6, 7, 8, 9, 10, 11, 12, 13, 14, 15])] [0, 1, 2, 3, 8, 9, 34]) (.cond (.t 34) .skip (.exit 2))) (.seq (.block 3 (.regD [ (zM 37 0, []), (zM 38 9, []), (zM 39 0, []), (zM 40 9, []), (zA 41 (.bin .sub (.t 40) (.k (.c (.lit (.int .i64 1))))), [3]), (zM 42 0, []), (zM 43 9, []), (zA 44 (.bin .sub (.t 43) (.k (.c (.lit (.int .i64 1))))), [6]), (zA 45 (.iaddr 6 (.t 42) (.t 44)), [5, 6, 7]), (zA 46 (.load true 6 (.t 45)), [5, 6, 7, 8]), (zM 47 0, []), (zM 48 9, []), (zA 49 (.iaddr 6 (.t 47) (.t 48)), [10, 11]), (zA 50 (.load true 6 (.t 49)), [10, 11, 12]), (zA 51 (.iaddr 6 (.t 37) (.t 38)), [0, 1, 5, 6, 7, 8, 9, 10, 11, 12, 13]), (zS (.store true 6 (.t 51) (.t 46)), [0, 1, 5, 6, 7, 8, 9, 10, 11, 12, 13, 14]), (zA 52 (.iaddr 6 (.t 39) (.t 41)), [0, 1, 2, 3, 4, 5, 6, 7, 8, 9, 10, 11, 12, 13, 14, 15]), (zS (.store true 6 (.t 52) (.t 50)), [0, 1, 2, 3, 4, 5, 6, 7, 8, 9, 10, 11, 12, 13, 14, 15, 16])] [0, 1, 2, 3, 8, 9])) (.reg [ zM 35 9, zA 36 (.bin .sub (.t 35) (.k (.c (.lit (.int .i64 1))))), zM 9 36] [0, 1, 2, 3, 8, 9]))))))) (.reg [ zM 15 8, zA 16 (.bin .add (.t 15) (.k (.c (.lit (.int .i64 1))))), zM 8 16] [0, 1, 2, 3, 8]))))))
theorem K.slices_insertionSortCmpFunc_impl_Entry__impl_IndexStore_1 : chkF Go.Proofs.Tryz.prog 154 4 1 C.slices_insertionSortCmpFunc_impl_Entry [] = true := by kernel_rfl
def C.slices_pdqsortCmpFunc_impl_Entry : ACode := (.seq (.reg [ zA 10 (.mv (.k (.c (.lit (.bool true)))))] [0, 1, 2, 3, 4, 10]) (.seq (.reg [ zA 11 (.mv (.k (.c (.lit (.bool true)))))] [0, 1, 2, 3, 4, 10, 11]) (.block 0 (.loop (.block 1 (.seq (.reg [ zM 21 2, zM 22 1, zA 23 (.bin .sub (.t 21) (.t 22)), zM 12 23] [0, 1, 2, 3, 4, 10, 11, 12]) (.seq (.seq (.reg [ zM 24 12, zA 25 (.bin .leq (.t 24) (.k (.c (.lit (.int .i64 12)))))] [0, 1, 2, 3, 4, 10, 11, 12, 25]) (.cond (.t 25) (.seq (.reg [ zM 26 0, zM 27 1, zM 28 2, zM 29 4, ⟨none, some 30, .call 154 [.t 26, .t 27, .t 28, .t 29]⟩] []) .ret) .skip)) (.seq (.seq (.reg [ zM 31 3, zA 32 (.bin .eql (.t 31) (.k (.c (.lit (.int .i64 0)))))] [0, 1, 2, 3, 4, 10, 11, 12, 32]) (.cond (.t 32) (.seq (.reg [ zM 33 0, zM 34 1, zM 35 2, zM 36 4, ⟨none, some 37, .call 155 [.t 33, .t 34, .t 35, .t 36]⟩] []) .ret) .skip)) (.cut (.seq (.reg [ zM 38 10, zA 39 (.not (.t 38))] [0, 1, 2, 3, 4, 10, 11, 12, 39]) (.cond (.t 39) (.seq (.reg [ zM 40 0, zM 41 1, zM 42 2, zM 43 4, ⟨none, some 44, .call 156 [.t 40, .t 41, .t 42, .t 43]⟩] [0, 1, 2, 3, 4, 10, 11, 12]) (.reg [ zM 45 3, zA 46 (.bin .sub (.t 45) (.k (.c (.lit (.int .i64 1))))), zM 3 46] [0, 1, 2, 3, 4, 10, 11, 12])) .skip)) (.seq (.reg [ zM 48 0, zM 49 1, zM 50 2, zM 51 4, ⟨none, some 52, .call 157 [.t 48, .t 49, .t 50, .t 51]⟩, zM 47 52, zA 53 (.extract (.t 47) 0), zA 54 (.extract (.t 47) 1), zM 13 53, zM 14 54] [0, 1, 2, 3, 4, 10, 11, 12, 13, 14]) (.cut (.seq (.reg [ zM 55 14, zA 56 (.bin .eql (.t 55) (.k (.c (.lit (.int .i64 2)))))] [0, 1, 2, 3, 4, 10, 11, 12, 13, 14, 56]) (.cond (.t 56) (.seq (.reg [ zM 57 0, zM 58 1, zM 59 2, zM 60 4, ⟨none, some 61, .call 158 [.t 57, .t 58, .t 59, .t 60]⟩] [0, 1, 2, 3, 4, 10, 11, 12, 13]) (.seq (.reg [ zM 62 2, zA 63 (.bin .sub (.t 62) (.k (.c (.lit (.int .i64 1))))), zM 64 13, zM 65 1, zA 66 (.bin .sub (.t 64) (.t 65)), zA 67 (.bin .sub (.t 63) (.t 66)), zM 13 67] [0, 1, 2, 3, 4, 10, 11, 12, 13]) (.reg [ zA 14 (.mv (.k (.c (.lit (.int .i64 1)))))] [0, 1, 2, 3, 4, 10, 11, 12, 13, 14]))) .skip)) (.cut (.seq (.reg [ zM 68 10, zM 69 68, zG 69 true 70 (.mv (.t 11)), zA 71 (.pick (.t 69) (.t 70) (.k (.c (.lit (.bool false))))), zM 72 71, zG 72 true 73 (.mv (.t 14)), zG 72 true 74 (.bin .eql (.t 73) (.k (.c (.lit (.int .i64 1))))), zA 75 (.pick (.t 72) (.t 74) (.k (.c (.lit (.bool false)))))] [0, 1, 2, 3, 4, 10, 11, 12, 13, 75]) (.cond (.t 75) (.seq (.reg [ zM 76 0, zM 77 1, zM 78 2, zM 79 4, ⟨none, some 80, .call 159 [.t 76, .t 77, .t 78, .t 79]⟩] [0, 1, 2, 3, 4, 10, 11, 12, 13, 80]) (.cond (.t 80) .ret .skip)) .skip)) (.seq (.seq (.regD [ (zM 81 1, []), (zA 82 (.bin .gtr (.t 81) (.k (.c (.lit (.int .i64 0))))), [0]), (zM 83 82, [0, 1]), (zG 83 true 84 (.mv (.t 4)), [0, 1, 2]), (zG 83 true 85 (.mv (.t 0)), [0, 1, 2]), (zG 83 true 86 (.mv (.t 1)), [0, 1, 2]), (zG 83 true 87 (.bin .sub (.t 86) (.k (.c (.lit (.int .i64 1))))), [0, 1, 2, 5]), (zG 83 true 88 (.iaddr 6 (.t 85) (.t 87)), [0, 1, 2, 4, 5, 6]), (zG 83 true 89 (.load true 6 (.t 88)), [0, 1, 2, 4, 5, 6, 7]), (zG 83 true 90 (.mv (.t 0)), [0, 1, 2]), (zG 83 true 91 (.mv (.t 13)), [0, 1, 2]), (zG 83 true 92 (.iaddr 6 (.t 90) (.t 91)), [0, 1, 2, 9, 10]), (zG 83 true 93 (.load true 6 (.t 92)), [0, 1, 2, 9, 10, 11]), (⟨(some (83, true)), some 94, .callv (.t 84) [.t 89, .t 93]⟩, [0, 1, 2, 3, 4, 5, 6, 7, 8, 9, 10, 11, 12]), (zG 83 true 95 (.bin .lss (.t 94) (.k (.c (.lit (.int .i64 0))))), [0, 1, 2, 3, 4, 5, 6, 7, 8, 9, 10, 11, 12, 13]), (zG 83 true 96 (.not (.t 95)), [0, 1, 2, 3, 4, 5, 6, 7, 8, 9, 10, 11, 12, 13, 14]), (zA 97 (.pick (.t 83) (.t 96) (.k (.c (.lit (.bool false))))), [0, 1, 2, 3, 4, 5, 6, 7, 8, 9, 10, 11, 12, 13, 14, 15])] [0, 1, 2, 3, 4, 10, 11, 12, 13, 97]) (.cond (.t 97) (.seq (.reg [ zM 98 0, zM 99 1, zM 100 2, zM 101 13, zM 102 4, ⟨none, some 103, .call 160 [.t 98, .t 99, .t 100, .t 101, .t 102]⟩, zM 15 103] [0, 2, 3, 4, 10, 11, 15]) (.seq (.reg [ zM 104 15, zM 1 104] [0, 1, 2, 3, 4, 10, 11]) (.exit 1))) .skip)) (.seq (.reg [ zM 106 0, zM 107 1, zM 108 2, zM 109 13, zM 110 4, ⟨none, some 111, .call 161 [.t 106, .t 107, .t 108, .t 109, .t 110]⟩, zM 105 111, zA 112 (.extract (.t 105) 0), zA 113 (.extract (.t 105) 1), zM 16 112, zM 17 113] [0, 1, 2, 3, 4, 12, 16, 17]) (.seq (.reg [ zM 114 17, zM 11 114] [0, 1, 2, 3, 4, 11, 12, 16]) (.seq (.reg [ zM 115 16, zM 116 1, zA 117 (.bin .sub (.t 115) (.t 116)), zM 118 2, zM 119 16, zA 120 (.bin .sub (.t 118) (.t 119)), zM 18 117, zM 19 120] [0, 1, 2, 3, 4, 11, 12, 16, 18, 19]) (.seq (.reg [ zM 121 12, zA 122 (.bin .quo (.t 121) (.k (.c (.lit (.int .i64 8))))), zM 20 122] [0, 1, 2, 3, 4, 11, 16, 18, 19, 20]) (.seq (.reg [ zM 123 18, zM 124 19, zA 125 (.bin .lss (.t 123) (.t 124))] [0, 1, 2, 3, 4, 11, 16, 18, 19, 20, 125]) (.cond (.t 125) (.seq (.reg [ zM 126 18, zM 127 20, zA 128 (.bin .geq (.t 126) (.t 127)), zM 10 128] [0, 1, 2, 3, 4, 10, 11, 16]) (.seq (.reg [ zM 129 0, zM 130 1, zM 131 16, zM 132 3, zM 133 4, ⟨none, some 134, .call 108 [.t 129, .t 130, .t 131, .t 132, .t 133]⟩] [0, 2, 3, 4, 10, 11, 16]) (.reg [ zM 135 16, zA 136 (.bin .add (.t 135) (.k (.c (.lit (.int .i64 1))))), zM 1 136] [0, 1, 2, 3, 4, 10, 11]))) (.seq (.reg [ zM 137 19, zM 138 20, zA 139 (.bin .geq (.t 137) (.t 138)), zM 10 139] [0, 1, 2, 3, 4, 10, 11, 16]) (.seq (.reg [ zM 140 0, zM 141 16, zA 142 (.bin .add (.t 141) (.k (.c (.lit (.int .i64 1))))), zM 143 2, zM 144 3, zM 145 4, ⟨none, some 146, .call 108 [.t 140, .t 142, .t 143, .t 144, .t 145]⟩] [0, 1, 3, 4, 10, 11, 16]) (.reg [ zM 147 16, zM 2 147] [0, 1, 2, 3, 4, 10, 11]))))))))))))))))))))))
theorem K.slices_pdqsortCmpFunc_impl_Entry__impl_IndexStore_1 : chkF Go.Proofs.Tryz.prog 108 5 1 C.slices_pdqsortCmpFunc_impl_Entry [] = true := by kernel_rfl
def C.slices_SortFunc_impl_Entry : ACode := (.seq (.reg [ zM 5 0, zA 6 (.len (.t 5)), zM 4 6] [0, 1, 4]) (.reg [ zM 7 0, zM 8 4, zM 9 4, zA 10 (.cint .u64 (.t 9)), ⟨none, some 11, .call 109 [.t 10]⟩, zM 12 1, ⟨none, some 13, .call 108 [.t 7, .k (.c (.lit (.int .i64 0))), .t 8, .t 11, .t 12]⟩] []))
theorem K.slices_SortFunc_impl_Entry__impl_IndexStore_1 : chkF Go.Proofs.Tryz.prog 62 2 1 C.slices_SortFunc_impl_Entry [] = true := by kernel_rfl
def C.impl_IndexStore : ACode := (.seq (.reg [ zA 2 (.box 10 (.t 0)), zA 4 (.mv (.k (.nsl 6)))] [1, 2]) (.seq (.seq (.reg [ zA 10 (.load true 2 (.t 2)), ⟨none, some 11, .call 58 [.t 10]⟩, zA 12 (.not (.t 11)), zM 13 12, zG 13 false 14 (.mv (.t 1)), ⟨(some (13, false)), some 15, .call 59 [.t 14]⟩, zG 13 false 16 (.not (.t 15)), zA 17 (.pick (.t 13) (.k (.c (.lit (.bool true)))) (.t 16))] [1, 2, 17]) (.cond (.t 17) (.seq (.reg [ zA 4 (.mv (.k (.nsl 6)))] [4]) .ret) .skip)) (.seq (.reg [ zA 5 (.mv (.k (.nsl 6)))] [1, 2, 5]) (.seq (.seq (.reg [ zA 18 (.faddr 0 (.t 2)), zA 19 (.load false 1 (.t 18)), zA 20 (.len (.t 19)), zA 21 (.mv (.k (.c (.lit (.int .i64 0)))))] [1, 5, 19, 20, 21]) (.block 0 (.loop (.seq (.reg [ zA 22 (.bin .lss (.t 21) (.t 20))] [1, 5, 19, 20, 21, 22]) (.seq (.cond (.t 22) .skip (.exit 0)) (.seq (.block 1 (.seq (.reg [ zA 23 (.iaddr 7 (.t 19) (.t 21)), zA 24 (.load true 7 (.t 23)), zA 7 (.alloc 11 [.c (.str []), .c (.lit (.int .i64 0)), .c (.lit (.int .i64 0)), .c (.lit (.int .i64 0)), .c (.str []), .nsl 1, .nsl 5]), zS (.store true 7 (.t 7) (.t 24))] [1, 5, 7, 19, 20, 21]) (.seq (.reg [ zA 26 (.faddr 2 (.t 7)), zA 27 (.load true 5 (.t 26)), zM 28 1, ⟨none, some 29, .call 60 [.t 27, .t 28]⟩, zM 25 29, zA 30 (.extract (.t 25) 0), zA 31 (.extract (.t 25) 1), zA 8 (.alloc 12 [.c (.lit (.int .i64 0)), .c (.lit (.int .i64 0)), .c (.str []), .nsl 1, .nsl 5]), zS (.store true 5 (.t 8) (.t 30)), zM 9 31] [1, 5, 7, 8, 9, 19, 20, 21]) (.seq (.reg [ zM 32 9] [1, 5, 7, 8, 19, 20, 21, 32]) (.cond (.t 32) (.regD [ (zM 33 5, []), (zA 34 (.load true 5 (.t 8)), []), (⟨none, some 35, .call 61 [.t 34]⟩, [1]), (zA 36 (.faddr 0 (.t 7)), []), (zA 37 (.load false 1 (.t 36)), [3]), (zA 38 (.build [.c (.lit (.int .i64 0)), .c (.lit (.int .i64 0)), .c (.str []), .nsl 1, .nsl 5, .c (.str [])] [(0, 5, .t 35), (5, 1, .t 37)]), [1, 2, 3, 4]), (zA 39 (.bslice 13 6 1 [.lit (.int .i64 0), .lit (.int .i64 0), .str [], .sl 1 [], .sl 5 [], .str []] [(0, .t 38)]), [1, 2, 3, 4, 5]), (zA 40 (.append 14 6 96 (.t 33) (.t 39)), [0, 1, 2, 3, 4, 5, 6]), (zM 5 40, [0, 1, 2, 3, 4, 5, 6, 7])] [1, 5, 19, 20, 21]) .skip))))) (.reg [ zA 41 (.bin .add (.t 21) (.k (.c (.lit (.int .i64 1))))), zM 21 41] [1, 5, 19, 20, 21]))))))) (.seq (.reg [ zM 42 5, ⟨none, some 43, .call 62 [.t 42, .k (.fn 63 [])]⟩] [5]) (.seq (.reg [ zM 44 5, zM 4 44] [4]) .ret))))))
theorem K.impl_IndexStore : chkF Go.Proofs.Tryz.prog 26 2 0 C.impl_IndexStore [.tmp 4] = true := by kernel_rfl
def C.impl_copyItem : ACode := (.seq (.reg [ zA 1 (.box 10 (.t 0)), zA 2 (.alloc 11 [.c (.str []), .c (.lit (.int .i64 0)), .c (.lit (.int .i64 0)), .c (.lit (.int .i64 0)), .c (.str []), .nsl 1, .nsl 5])] [1, 2]) (.seq (.regD [ (zA 3 (.faddr 0 (.t 1)), []), (zA 4 (.load false 1 (.t 3)), [0]), (zA 5 (.faddr 1 (.t 1)), []), (zA 6 (.load false 1 (.t 5)), [2]), (zA 7 (.faddr 2 (.t 1)), []), (zA 8 (.load true 5 (.t 7)), [4]), (⟨none, some 9, .call 61 [.t 8]⟩, [4, 5]), (zA 10 (.build [.c (.str []), .c (.lit (.int .i64 0)), .c (.lit (.int .i64 0)), .c (.lit (.int .i64 0)), .c (.str []), .nsl 1, .nsl 5] [(0, 1, .t 4), (1, 1, .t 6), (2, 5, .t 9)]), [0, 1, 2, 3, 4, 5, 6]), (zS (.store true 7 (.t 2) (.t 10)), [0, 1, 2, 3, 4, 5, 6, 7])] [2]) .ret))
theorem K.impl_copyItem : chkF Go.Proofs.Tryz.prog 119 1 0 C.impl_copyItem [.cell 2 true 7] = true := by kernel_rfl
def C.impl_copyStore : ACode := (.seq (.reg [ zA 1 (.box 10 (.t 0)), zA 2 (.alloc 11 [.nsl 7, .c (.lit (.int .i64 0))])] [1, 2]) (.seq (.reg [ zA 6 (.faddr 1 (.t 1)), zA 7 (.load false 1 (.t 6)), zA 8 (.build [.nsl 7, .c (.lit (.int .i64 0))] [(1, 1, .t 7)]), zA 3 (.alloc 12 [.nsl 7, .c (.lit (.int .i64 0))]), zS (.store true 2 (.t 3) (.t 8))] [1, 2, 3]) (.seq (.seq (.reg [ zA 9 (.faddr 0 (.t 1)), zA 10 (.load false 1 (.t 9)), zA 11 (.len (.t 10)), zA 12 (.bin .gtr (.t 11) (.k (.c (.lit (.int .i64 0)))))] [1, 2, 3, 12]) (.cond (.t 12) (.seq (.reg [ zA 13 (.faddr 0 (.t 1)), zA 14 (.load false 1 (.t 13)), zA 15 (.len (.t 14)), zA 16 (.makes 13 7 104 [.str [], .lit (.int .i64 0), .lit (.int .i64 0), .lit (.int .i64 0), .str [], .sl 1 [], .sl 5 []] (.t 15) (.t 15)), zA 17 (.faddr 0 (.t 3)), zS (.store false 1 (.t 17) (.t 16))] [1, 2, 3]) (.seq (.reg [ zA 18 (.faddr 0 (.t 1)), zA 19 (.load false 1 (.t 18)), zA 20 (.len (.t 19)), zA 21 (.mv (.k (.c (.lit (.int .i64 0)))))] [2, 3, 19, 20, 21]) (.block 0 (.loop (.seq (.reg [ zA 22 (.bin .lss (.t 21) (.t 20))] [2, 3, 19, 20, 21, 22]) (.seq (.cond (.t 22) .skip (.exit 0)) (.seq (.block 1 (.seq (.reg [ zM 23 21, zA 24 (.iaddr 7 (.t 19) (.t 21)), zA 25 (.load true 7 (.t 24)), zA 5 (.alloc 14 [.c (.str []), .c (.lit (.int .i64 0)), .c (.lit (.int .i64 0)), .c (.lit (.int .i64 0)), .c (.str []), .nsl 1, .nsl 5]), zM 4 23, zS (.store true 7 (.t 5) (.t 25))] [2, 3, 4, 5, 19, 20, 21]) (.regD [ (zA 26 (.faddr 0 (.t 3)), []), (zA 27 (.load false 1 (.t 26)), [0]), (zM 28 4, []), (zA 29 (.load true 7 (.t 5)), []), (⟨none, some 30, .call 119 [.t 29]⟩, [3]), (zA 31 (.iaddr 7 (.t 27) (.t 28)), [0, 1, 2, 3, 4]), (zS (.store true 7 (.t 31) (.t 30)), [0, 1, 2, 3, 4, 5])] [2, 3, 19, 20, 21]))) (.reg [ zA 32 (.bin .add (.t 21) (.k (.c (.lit (.int .i64 1))))), zM 21 32] [2, 3, 19, 20, 21])))))))) .skip)) (.seq (.reg [ zA 33 (.load true 2 (.t 3)), zS (.store true 2 (.t 2) (.t 33))] [2]) .ret))))
theorem K.impl_copyStore : chkF Go.Proofs.Tryz.prog 73 1 0 C.impl_copyStore [.cell 2 true 2] = true := by kernel_rfl
def C.impl_findItem_1 : ACode := (.seq (.reg [ zA 2 (.box 10 (.t 0)), zA 4 (.mv (.k (.c (.lit (.int .i64 0)))))] [1, 2]) (.seq (.reg [ zA 5 (.faddr 0 (.t 2)), zA 6 (.load false 1 (.t 5)), zM 7 1, ⟨none, some 8, .call 66 [.t 6, .t 7]⟩, zM 4 8] [4]) .ret))
theorem K.impl_findItem_1 : chkF Go.Proofs.Tryz.prog 171 2 0 C.impl_findItem_1 [.tmp 4] = true := by kernel_rfl
def C.slices_BinarySearchFunc_impl_Item_string : ACode := (.seq (.reg [ zA 6 (.mv (.k (.c (.lit (.int .i64 0))))), zA 7 (.mv (.k (.c (.lit (.bool false)))))] [0, 1, 2]) (.seq (.reg [ zM 12 0, zA 13 (.len (.t 12)), zM 8 13] [0, 1, 2, 8]) (.seq (.reg [ zM 14 8, zA 9 (.mv (.k (.c (.lit (.int .i64 0))))), zM 10 14] [0, 1, 2, 8, 9, 10]) (.seq (.block 0 (.loop (.seq (.seq (.reg [ zM 15 9, zM 16 10, zA 17 (.bin .lss (.t 15) (.t 16))] [0, 1, 2, 8, 9, 10, 17]) (.cond (.t 17) .skip (.exit 0))) (.block 1 (.seq (.reg [ zM 18 9, zM 19 10, zA 20 (.bin .add (.t 18) (.t 19)), zA 21 (.cint .u64 (.t 20)), zA 22 (.shf false (.t 21) (.k (.c (.lit (.int .u64 1))))), zA 23 (.cint .i64 (.t 22)), zM 11 23] [0, 1, 2, 8, 9, 10, 11]) (.seq (.reg [ zM 24 2, zM 25 0, zM 26 11, zA 27 (.iaddr 7 (.t 25) (.t 26)), zA 28 (.load true 7 (.t 27)), zM 29 1, ⟨none, some 30, .callv (.t 24) [.t 28, .t 29]⟩, zA 31 (.bin .lss (.t 30) (.k (.c (.lit (.int .i64 0)))))] [0, 1, 2, 8, 9, 10, 11, 31]) (.cond (.t 31) (.reg [ zM 32 11, zA 33 (.bin .add (.t 32) (.k (.c (.lit (.int .i64 1))))), zM 9 33] [0, 1, 2, 8, 9, 10]) (.reg [ zM 34 11, zM 10 34] [0, 1, 2, 8, 9, 10])))))))) (.seq (.reg [ zM 35 9, zM 36 9, zM 37 8, zA 38 (.bin .lss (.t 36) (.t 37)), zM 39 38, zG 39 true 40 (.mv (.t 2)), zG 39 true 41 (.mv (.t 0)), zG 39 true 42 (.mv (.t 9)), zG 39 true 43 (.iaddr 7 (.t 41) (.t 42)), zG 39 true 44 (.load true 7 (.t 43)), zG 39 true 45 (.mv (.t 1)), ⟨(some (39, true)), some 46, .callv (.t 40) [.t 44, .t 45]⟩, zG 39 true 47 (.bin .eql (.t 46) (.k (.c (.lit (.int .i64 0))))), zA 48 (.pick (.t 39) (.t 47) (.k (.c (.lit (.bool false))))), zM 6 35, zM 7 48] [6, 7]) .ret)))))
theorem K.slices_BinarySearchFunc_impl_Item_string__impl_findItem_1 : chkF Go.Proofs.Tryz.prog 170 3 0 C.slices_BinarySearchFunc_impl_Item_string [.tmp 6, .tmp 7] = true := by kernel_rfl
def C.impl_findItem : ACode := (.seq (.reg [ zA 4 (.mv (.k (.c (.lit (.int .i64 0))))), zA 5 (.mv (.k (.c (.lit (.bool false)))))] [0, 1]) (.seq (.reg [ zM 6 0, zM 7 1, ⟨none, some 8, .call 170 [.t 6, .t 7, .k (.fn 171 [])]⟩, zA 9 (.extract (.t 8) 0), zA 10 (.extract (.t 8) 1), zM 4 9, zM 5 10] [4, 5]) .ret))
theorem K.impl_findItem : chkF Go.Proofs.Tryz.prog 120 2 0 C.impl_findItem [.tmp 4, .tmp 5] = true := by kernel_rfl
def C.slices_Insert_impl_Item : ACode := (.seq (.reg [ zA 6 (.mv (.k (.nsl 7)))] [0, 1, 2]) (.seq (.reg [ zM 10 0, zM 11 1, zA 12 (.sslice 7 (.t 10) (some (.t 11)) none)] [0, 1, 2]) (.seq (.reg [ zM 13 2, zA 14 (.len (.t 13)), zM 7 14] [0, 1, 2, 7]) (.seq (.seq (.reg [ zM 15 7, zA 16 (.bin .eql (.t 15) (.k (.c (.lit (.int .i64 0)))))] [0, 1, 2, 7, 16]) (.cond (.t 16) (.seq (.reg [ zM 17 0, zM 6 17] [6]) .ret) .skip)) (.seq (.reg [ zM 18 0, zA 19 (.len (.t 18)), zM 8 19] [0, 1, 2, 7, 8]) (.seq (.seq (.reg [ zM 20 1, zM 21 8, zA 22 (.bin .eql (.t 20) (.t 21))] [0, 1, 2, 7, 8, 22]) (.cond (.t 22) (.seq (.reg [ zM 23 0, zM 24 2, zA 25 (.sapp 10 7 104 (.t 23) (.t 24)), zM 6 25] [6]) .ret) .skip)) (.seq (.seq (.reg [ zM 26 8, zM 27 7, zA 28 (.bin .add (.t 26) (.t 27)), zM 29 0, zA 30 (.capo (.t 29)), zA 31 (.bin .gtr (.t 28) (.t 30))] [0, 1, 2, 7, 8, 31]) (.cond (.t 31) (.seq (.reg [ zM 32 0, zM 33 1, zA 34 (.sslice 7 (.t 32) none (some (.t 33))), zM 35 8, zM 36 7, zA 37 (.bin .add (.t 35) (.t 36)), zM 38 1, zA 39 (.bin .sub (.t 37) (.t 38)), zA 40 (.appz 11 7 104 [.str [], .lit (.int .i64 0), .lit (.int .i64 0), .lit (.int .i64 0), .str [], .sl 1 [], .sl 5 []] (.t 34) (.t 39)), zM 9 40] [0, 1, 2, 7, 9]) (.seq (.reg [ zM 41 9, zM 42 1, zA 43 (.sslice 7 (.t 41) (some (.t 42)) none), zM 44 2, zA 45 (.scpy 7 (.t 43) (.t 44))] [0, 1, 7, 9]) (.seq (.regD [ (zM 46 9, []), (zM 47 1, []), (zM 48 7, []), (zA 49 (.bin .add (.t 47) (.t 48)), [1, 2]), (zA 50 (.sslice 7 (.t 46) (some (.t 49)) none), [0, 1, 2, 3]), (zM 51 0, []), (zM 52 1, []), (zA 53 (.sslice 7 (.t 51) (some (.t 52)) none), [5, 6]), (zA 54 (.scpy 7 (.t 50) (.t 53)), [0, 1, 2, 3, 4, 5, 6, 7])] [9]) (.seq (.reg [ zM 55 9, zM 6 55] [6]) .ret)))) .skip)) (.seq (.reg [ zM 56 0, zM 57 8, zM 58 7, zA 59 (.bin .add (.t 57) (.t 58)), zA 60 (.sslice 7 (.t 56) none (some (.t 59))), zM 0 60] [0, 1, 2, 7, 8]) (.seq (.seq (.reg [ zM 61 2, zM 62 0, zM 63 1, zM 64 7, zA 65 (.bin .add (.t 63) (.t 64)), zA 66 (.sslice 7 (.t 62) (some (.t 65)) none), zA 67 (.ovl (.t 61) (.t 66)), zA 68 (.not (.t 67))] [0, 1, 2, 7, 8, 68]) (.cond (.t 68) (.seq (.regD [ (zM 69 0, []), (zM 70 1, []), (zM 71 7, []), (zA 72 (.bin .add (.t 70) (.t 71)), [1, 2]), (zA 73 (.sslice 7 (.t 69) (some (.t 72)) none), [0, 1, 2, 3]), (zM 74 0, []), (zM 75 1, []), (zA 76 (.sslice 7 (.t 74) (some (.t 75)) none), [5, 6]), (zA 77 (.scpy 7 (.t 73) (.t 76)), [0, 1, 2, 3, 4, 5, 6, 7])] [0, 1, 2]) (.seq (.reg [ zM 78 0, zM 79 1, zA 80 (.sslice 7 (.t 78) (some (.t 79)) none), zM 81 2, zA 82 (.scpy 7 (.t 80) (.t 81))] [0]) (.seq (.reg [ zM 83 0, zM 6 83] [6]) .ret))) .skip)) (.seq (.reg [ zM 84 0, zM 85 8, zA 86 (.sslice 7 (.t 84) (some (.t 85)) none), zM 87 2, zA 88 (.scpy 7 (.t 86) (.t 87))] [0, 1, 7]) (.seq (.reg [ zM 89 0, zM 90 1, zA 91 (.sslice 7 (.t 89) (some (.t 90)) none), zM 92 7, ⟨none, some 93, .call 173 [.t 91, .t 92]⟩] [0]) (.seq (.reg [ zM 94 0, zM 6 94] [6]) .ret))))))))))))
theorem K.slices_Insert_impl_Item : chkF Go.Proofs.Tryz.prog 121 3 2 C.slices_Insert_impl_Item [.tmp 6] = true := by kernel_rfl
def C.impl_putAt : ACode := (.seq (.reg [ zA 3 (.box 10 (.t 1)), zA 4 (.mv (.k (.nsl 7)))] [0, 3]) (.seq (.reg [ zM 8 0, zA 9 (.faddr 0 (.t 3)), zA 10 (.load false 1 (.t 9)), ⟨none, some 11, .call 120 [.t 8, .t 10]⟩, zM 7 11, zA 12 (.extract (.t 7) 0), zA 13 (.extract (.t 7) 1), zM 5 12, zM 6 13] [0, 3, 5, 6]) (.seq (.seq (.reg [ zM 14 6] [0, 3, 5, 14]) (.cond (.t 14) (.seq (.reg [ zM 15 0, zM 16 5, zA 17 (.load true 7 (.t 3)), zA 18 (.iaddr 7 (.t 15) (.t 16)), zS (.store true 7 (.t 18) (.t 17))] [0]) (.seq (.reg [ zM 19 0, zM 4 19] [4]) .ret)) .skip)) (.seq (.reg [ zM 20 0, zM 21 5, zA 22 (.load true 7 (.t 3)), zA 23 (.bslice 11 7 1 [.str [], .lit (.int .i64 0), .lit (.int .i64 0), .lit (.int .i64 0), .str [], .sl 1 [], .sl 5 []] [(0, .t 22)]), ⟨none, some 24, .call 121 [.t 20, .t 21, .t 23]⟩, zM 4 24] [4]) .ret))))
theorem K.impl_putAt : chkF Go.Proofs.Tryz.prog 74 2 1 C.impl_putAt [.tmp 4] = true := by kernel_rfl
def C.impl_PutItem : ACode := (.seq (.reg [ zA 3 (.box 10 (.t 0)), zA 5 (.box 11 (.t 2)), zA 6 (.alloc 12 [.nsl 7, .c (.lit (.int .i64 0))]), zA 7 (.mv (.k (.c (.lit (.bool false)))))] [1, 3, 5, 6]) (.seq (.seq (.reg [ zA 9 (.load true 2 (.t 3)), ⟨none, some 10, .call 58 [.t 9]⟩, zA 11 (.not (.t 10)), zM 12 11, zG 12 false 13 (.mv (.t 1)), ⟨(some (12, false)), some 14, .call 72 [.t 13]⟩, zG 12 false 15 (.not (.t 14)), zA 16 (.pick (.t 12) (.k (.c (.lit (.bool true)))) (.t 15)), zM 17 16, zG 17 false 18 (.load true 5 (.t 5)), ⟨(some (17, false)), some 19, .call 38 [.t 18]⟩, zG 17 false 20 (.not (.t 19)), zA 21 (.pick (.t 17) (.k (.c (.lit (.bool true)))) (.t 20))] [1, 3, 5, 6, 21]) (.cond (.t 21) (.seq (.reg [ zA 22 (.build [.nsl 7, .c (.lit (.int .i64 0))] []), zS (.store true 2 (.t 6) (.t 22)), zA 7 (.mv (.k (.c (.lit (.bool false)))))] [6, 7]) .ret) .skip)) (.seq (.reg [ zA 23 (.load true 2 (.t 3)), ⟨none, some 24, .call 73 [.t 23]⟩, zA 8 (.alloc 13 [.nsl 7, .c (.lit (.int .i64 0))]), zS (.store true 2 (.t 8) (.t 24))] [1, 5, 6, 8]) (.seq (.reg [ zA 25 (.faddr 1 (.t 8)), zA 26 (.load false 1 (.t 25)), zA 27 (.bin .add (.t 26) (.k (.c (.lit (.int .i64 1))))), zA 28 (.faddr 1 (.t 8)), zS (.store false 1 (.t 28) (.t 27))] [1, 5, 6, 8]) (.seq (.regD [ (zA 29 (.faddr 0 (.t 8)), []), (zA 30 (.load false 1 (.t 29)), [0]), (zM 31 1, []), (zA 32 (.faddr 1 (.t 8)), []), (zA 33 (.load false 1 (.t 32)), [3]), (zA 34 (.load true 5 (.t 5)), []), (⟨none, some 35, .call 61 [.t 34]⟩, [5]), (zA 36 (.build [.c (.str []), .c (.lit (.int .i64 0)), .c (.lit (.int .i64 0)), .c (.lit (.int .i64 0)), .c (.str []), .nsl 1, .nsl 5] [(0, 1, .t 31), (1, 1, .t 33), (2, 5, .t 35)]), [2, 3, 4, 5, 6]), (⟨none, some 37, .call 74 [.t 30, .t 36]⟩, [0, 1, 2, 3, 4, 5, 6, 7]), (zA 38 (.faddr 0 (.t 8)), [0, 1, 2, 3, 4, 5, 6, 7, 8]), (zS (.store false 1 (.t 38) (.t 37)), [0, 1, 2, 3, 4, 5, 6, 7, 8, 9])] [6, 8]) (.seq (.seq (.reg [ zA 39 (.load true 2 (.t 8)), ⟨none, some 40, .call 58 [.t 39]⟩, zA 41 (.not (.t 40))] [6, 8, 41]) (.cond (.t 41) (.seq (.reg [ zA 42 (.build [.nsl 7, .c (.lit (.int .i64 0))] []), zS (.store true 2 (.t 6) (.t 42)), zA 7 (.mv (.k (.c (.lit (.bool false)))))] [6, 7]) .ret) .skip)) (.seq (.reg [ zA 43 (.load true 2 (.t 8)), zS (.store true 2 (.t 6) (.t 43)), zA 7 (.mv (.k (.c (.lit (.bool true)))))] [6, 7]) .ret)))))))
theorem K.impl_PutItem : chkF Go.Proofs.Tryz.prog 34 3 0 C.impl_PutItem [.cell 6 true 2, .tmp 7] = true := by kernel_rfl
def C.laws_equalTexts : ACode := (.seq (.reg [ zA 4 (.mv (.k (.c (.lit (.bool false)))))] [0, 1]) (.seq (.seq (.reg [ zM 6 0, zA 7 (.len (.t 6)), zM 8 1, zA 9 (.len (.t 8)), zA 10 (.bin .neq (.t 7) (.t 9))] [0, 1, 10]) (.cond (.t 10) (.seq (.reg [ zA 4 (.mv (.k (.c (.lit (.bool false)))))] [4]) .ret) .skip)) (.seq (.seq (.reg [ zA 5 (.mv (.k (.c (.lit (.int .i64 0)))))] [0, 1, 5]) (.block 0 (.loop (.seq (.seq (.reg [ zM 11 5, zM 12 0, zA 13 (.len (.t 12)), zA 14 (.bin .lss (.t 11) (.t 13))] [0, 1, 5, 14]) (.cond (.t 14) .skip (.exit 0))) (.seq (.block 1 (.seq (.regD [ (zM 17 0, []), (zM 18 5, []), (zA 19 (.iaddr 1 (.t 17) (.t 18)), [0, 1]), (zA 20 (.load false 1 (.t 19)), [0, 1, 2]), (zM 21 1, []), (zM 22 5, []), (zA 23 (.iaddr 1 (.t 21) (.t 22)), [4, 5]), (zA 24 (.load false 1 (.t 23)), [4, 5, 6]), (zA 25 (.bin .neq (.t 20) (.t 24)), [0, 1, 2, 3, 4, 5, 6, 7])] [0, 1, 5, 25]) (.cond (.t 25) (.seq (.reg [ zA 4 (.mv (.k (.c (.lit (.bool false)))))] [4]) .ret) .skip))) (.reg [ zM 15 5, zA 16 (.bin .add (.t 15) (.k (.c (.lit (.int .i64 1))))), zM 5 16] [0, 1, 5])))))) (.seq (.reg [ zA 4 (.mv (.k (.c (.lit (.bool true)))))] [4]) .ret))))
theorem K.laws_equalTexts : chkF Go.Proofs.Tryz.prog 31 2 0 C.laws_equalTexts [.tmp 4] = true := by kernel_rfl
def C.laws_equalNode : ACode := (.seq (.reg [ zA 2 (.box 10 (.t 0)), zA 3 (.box 11 (.t 1)), zA 4 (.mv (.k (.c (.lit (.bool false)))))] [2, 3]) (.seq (.reg [ zA 5 (.faddr 0 (.t 2)), zA 6 (.load false 1 (.t 5)), zA 7 (.faddr 0 (.t 3)), zA 8 (.load false 1 (.t 7)), zA 9 (.bin .eql (.t 6) (.t 8)), zM 10 9, zG 10 true 11 (.faddr 1 (.t 2)), zG 10 true 12 (.load false 1 (.t 11)), zG 10 true 13 (.faddr 1 (.t 3)), zG 10 true 14 (.load false 1 (.t 13)), zG 10 true 15 (.bin .eql (.t 12) (.t 14)), zA 16 (.pick (.t 10) (.t 15) (.k (.c (.lit (.bool false))))), zM 17 16, zG 17 true 18 (.faddr 2 (.t 2)), zG 17 true 19 (.load false 1 (.t 18)), zG 17 true 20 (.faddr 2 (.t 3)), zG 17 true 21 (.load false 1 (.t 20)), zG 17 true 22 (.bin .eql (.t 19) (.t 21)), zA 23 (.pick (.t 17) (.t 22) (.k (.c (.lit (.bool false))))), zM 24 23, zG 24 true 25 (.faddr 3 (.t 2)), zG 24 true 26 (.load false 1 (.t 25)), zG 24 true 27 (.faddr 3 (.t 3)), zG 24 true 28 (.load false 1 (.t 27)), ⟨(some (24, true)), some 29, .call 31 [.t 26, .t 28]⟩, zA 30 (.pick (.t 24) (.t 29) (.k (.c (.lit (.bool false))))), zM 31 30, zG 31 true 32 (.faddr 4 (.t 2)), zG 31 true 33 (.load false 1 (.t 32)), zG 31 true 34 (.faddr 4 (.t 3)), zG 31 true 35 (.load false 1 (.t 34)), ⟨(some (31, true)), some 36, .call 42 [.t 33, .t 35]⟩, zA 37 (.pick (.t 31) (.t 36) (.k (.c (.lit (.bool false))))), zM 4 37] [4]) .ret))
theorem K.laws_equalNode : chkF Go.Proofs.Tryz.prog 16 2 0 C.laws_equalNode [.tmp 4] = true := by kernel_rfl
def C.laws_equalNodes : ACode := (.seq (.reg [ zA 4 (.mv (.k (.c (.lit (.bool false)))))] [0, 1]) (.seq (.seq (.reg [ zM 6 0, zA 7 (.len (.t 6)), zM 8 1, zA 9 (.len (.t 8)), zA 10 (.bin .neq (.t 7) (.t 9))] [0, 1, 10]) (.cond (.t 10) (.seq (.reg [ zA 4 (.mv (.k (.c (.lit (.bool false)))))] [4]) .ret) .skip)) (.seq (.seq (.reg [ zA 5 (.mv (.k (.c (.lit (.int .i64 0)))))] [0, 1, 5]) (.block 0 (.loop (.seq (.seq (.reg [ zM 11 5, zM 12 0, zA 13 (.len (.t 12)), zA 14 (.bin .lss (.t 11) (.t 13))] [0, 1, 5, 14]) (.cond (.t 14) .skip (.exit 0))) (.seq (.block 1 (.seq (.regD [ (zM 17 0, []), (zM 18 5, []), (zA 19 (.iaddr 5 (.t 17) (.t 18)), [0, 1]), (zA 20 (.load true 5 (.t 19)), [0, 1, 2]), (zM 21 1, []), (zM 22 5, []), (zA 23 (.iaddr 5 (.t 21) (.t 22)), [4, 5]), (zA 24 (.load true 5 (.t 23)), [4, 5, 6]), (⟨none, some 25, .call 16 [.t 20, .t 24]⟩, [0, 1, 2, 3, 4, 5, 6, 7]), (zA 26 (.not (.t 25)), [0, 1, 2, 3, 4, 5, 6, 7, 8])] [0, 1, 5, 26]) (.cond (.t 26) (.seq (.reg [ zA 4 (.mv (.k (.c (.lit (.bool false)))))] [4]) .ret) .skip))) (.reg [ zM 15 5, zA 16 (.bin .add (.t 15) (.k (.c (.lit (.int .i64 1))))), zM 5 16] [0, 1, 5])))))) (.seq (.reg [ zA 4 (.mv (.k (.c (.lit (.bool true)))))] [4]) .ret))))
theorem K.laws_equalNodes : chkF Go.Proofs.Tryz.prog 42 2 0 C.laws_equalNodes [.tmp 4] = true := by kernel_rfl
def C.laws_equalEntries : ACode := (.seq (.reg [ zA 4 (.mv (.k (.c (.lit (.bool false)))))] [0, 1]) (.seq (.seq (.reg [ zM 6 0, zA 7 (.len (.t 6)), zM 8 1, zA 9 (.len (.t 8)), zA 10 (.bin .neq (.t 7) (.t 9))] [0, 1, 10]) (.cond (.t 10) (.seq (.reg [ zA 4 (.mv (.k (.c (.lit (.bool false)))))] [4]) .ret) .skip)) (.seq (.seq (.reg [ zA 5 (.mv (.k (.c (.lit (.int .i64 0)))))] [0, 1, 5]) (.block 0 (.loop (.seq (.seq (.reg [ zM 11 5, zM 12 0, zA 13 (.len (.t 12)), zA 14 (.bin .lss (.t 11) (.t 13))] [0, 1, 5, 14]) (.cond (.t 14) .skip (.exit 0))) (.seq (.block 1 (.seq (.regD [ (zM 17 0, []), (zM 18 5, []), (zA 19 (.iaddr 6 (.t 17) (.t 18)), [0, 1]), (zA 20 (.faddr 5 (.t 19)), [0, 1, 2]), (zA 21 (.load false 1 (.t 20)), [0, 1, 2, 3]), (zM 22 1, []), (zM 23 5, []), (zA 24 (.iaddr 6 (.t 22) (.t 23)), [5, 6]), (zA 25 (.faddr 5 (.t 24)), [5, 6, 7]), (zA 26 (.load false 1 (.t 25)), [5, 6, 7, 8]), (zA 27 (.bin .neq (.t 21) (.t 26)), [0, 1, 2, 3, 4, 5, 6, 7, 8, 9]), (zM 28 27, [0, 1, 2, 3, 4, 5, 6, 7, 8, 9, 10]), (zG 28 false 29 (.mv (.t 0)), [0, 1, 2, 3, 4, 5, 6, 7, 8, 9, 10, 11]), (zG 28 false 30 (.mv (.t 5)), [0, 1, 2, 3, 4, 5, 6, 7, 8, 9, 10, 11]), (zG 28 false 31 (.iaddr 6 (.t 29) (.t 30)), [0, 1, 2, 3, 4, 5, 6, 7, 8, 9, 10, 11, 12, 13]), (zG 28 false 32 (.faddr 0 (.t 31)), [0, 1, 2, 3, 4, 5, 6, 7, 8, 9, 10, 11, 12, 13, 14]), (zG 28 false 33 (.load true 5 (.t 32)), [0, 1, 2, 3, 4, 5, 6, 7, 8, 9, 10, 11, 12, 13, 14, 15]), (zG 28 false 34 (.mv (.t 1)), [0, 1, 2, 3, 4, 5, 6, 7, 8, 9, 10, 11]), (zG 28 false 35 (.mv (.t 5)), [0, 1, 2, 3, 4, 5, 6, 7, 8, 9, 10, 11]), (zG 28 false 36 (.iaddr 6 (.t 34) (.t 35)), [0, 1, 2, 3, 4, 5, 6, 7, 8, 9, 10, 11, 17, 18]), (zG 28 false 37 (.faddr 0 (.t 36)), [0, 1, 2, 3, 4, 5, 6, 7, 8, 9, 10, 11, 17, 18, 19]), (zG 28 false 38 (.load true 5 (.t 37)), [0, 1, 2, 3, 4, 5, 6, 7, 8, 9, 10, 11, 17, 18, 19, 20]), (⟨(some (28, false)), some 39, .call 16 [.t 33, .t 38]⟩, [0, 1, 2, 3, 4, 5, 6, 7, 8, 9, 10, 11, 12, 13, 14, 15, 16, 17, 18, 19, 20, 21]), (zG 28 false 40 (.not (.t 39)), [0, 1, 2, 3, 4, 5, 6, 7, 8, 9, 10, 11, 12, 13, 14, 15, 16, 17, 18, 19, 20, 21, 22]), (zA 41 (.pick (.t 28) (.k (.c (.lit (.bool true)))) (.t 40)), [0, 1, 2, 3, 4, 5, 6, 7, 8, 9, 10, 11, 12, 13, 14, 15, 16, 17, 18, 19, 20, 21, 22, 23])] [0, 1, 5, 41]) (.cond (.t 41) (.seq (.reg [ zA 4 (.mv (.k (.c (.lit (.bool false)))))] [4]) .ret) .skip))) (.reg [ zM 15 5, zA 16 (.bin .add (.t 15) (.k (.c (.lit (.int .i64 1))))), zM 5 16] [0, 1, 5])))))) (.seq (.reg [ zA 4 (.mv (.k (.c (.lit (.bool true)))))] [4]) .ret))))
theorem K.laws_equalEntries : chkF Go.Proofs.Tryz.prog 27 2 0 C.laws_equalEntries [.tmp 4] = true := by kernel_rfl
def C.laws_none : ACode := (.seq (.reg [ zA 0 (.alloc 10 [.c (.lit (.int .i64 0)), .c (.lit (.int .i64 0)), .c (.str []), .nsl 1, .nsl 5])] [0]) (.seq (.reg [ zA 1 (.build [.c (.lit (.int .i64 0)), .c (.lit (.int .i64 0)), .c (.str []), .nsl 1, .nsl 5] []), zS (.store true 5 (.t 0) (.t 1))] [0]) .ret))
theorem K.laws_none : chkF Go.Proofs.Tryz.prog 35 0 0 C.laws_none [.cell 0 true 5] = true := by kernel_rfl
def C.spec_copyNode : ACode := (.seq (.reg [ zA 1 (.box 10 (.t 0)), zA 2 (.alloc 11 [.c (.lit (.int .i64 0)), .c (.lit (.int .i64 0)), .c (.str []), .nsl 1, .nsl 5])] [1, 2]) (.seq (.reg [ zA 5 (.bslice 12 5 0 [.lit (.int .i64 0), .lit (.int .i64 0), .str [], .sl 1 [], .sl 5 []] []), zM 3 5] [1, 2, 3]) (.seq (.seq (.reg [ zA 4 (.mv (.k (.c (.lit (.int .i64 0)))))] [1, 2, 3, 4]) (.block 0 (.loop (.seq (.seq (.reg [ zM 6 4, zA 7 (.faddr 4 (.t 1)), zA 8 (.load false 1 (.t 7)), zA 9 (.len (.t 8)), zA 10 (.bin .lss (.t 6) (.t 9))] [1, 2, 3, 4, 10]) (.cond (.t 10) .skip (.exit 0))) (.seq (.block 1 (.reg [ zM 13 3, zA 14 (.faddr 4 (.t 1)), zA 15 (.load false 1 (.t 14)), zM 16 4, zA 17 (.iaddr 5 (.t 15) (.t 16)), zA 18 (.load true 5 (.t 17)), ⟨none, some 19, .call 88 [.t 18]⟩, zA 20 (.bslice 13 5 1 [.lit (.int .i64 0), .lit (.int .i64 0), .str [], .sl 1 [], .sl 5 []] [(0, .t 19)]), zA 21 (.append 14 5 80 (.t 13) (.t 20)), zM 3 21] [1, 2, 3, 4])) (.reg [ zM 11 4, zA 12 (.bin .add (.t 11) (.k (.c (.lit (.int .i64 1))))), zM 4 12] [1, 2, 3, 4])))))) (.seq (.regD [ (zA 22 (.faddr 0 (.t 1)), []), (zA 23 (.load false 1 (.t 22)), [0]), (zA 24 (.faddr 1 (.t 1)), []), (zA 25 (.load false 1 (.t 24)), [2]), (zA 26 (.faddr 2 (.t 1)), []), (zA 27 (.load false 1 (.t 26)), [4]), (zA 28 (.bslice 15 1 0 [.str []] []), []), (zA 29 (.faddr 3 (.t 1)), []), (zA 30 (.load false 1 (.t 29)), [7]), (zA 31 (.append 16 1 16 (.t 28) (.t 30)), [6, 7, 8]), (zM 32 3, []), (zA 33 (.build [.c (.lit (.int .i64 0)), .c (.lit (.int .i64 0)), .c (.str []), .nsl 1, .nsl 5] [(0, 1, .t 23), (1, 1, .t 25), (2, 1, .t 27), (3, 1, .t 31), (4, 1, .t 32)]), [0, 1, 2, 3, 4, 5, 6, 7, 8, 9, 10]), (zS (.store true 5 (.t 2) (.t 33)), [0, 1, 2, 3, 4, 5, 6, 7, 8, 9, 10, 11])] [2]) .ret))))
theorem K.spec_copyNode : chkF Go.Proofs.Tryz.prog 88 1 0 C.spec_copyNode [.cell 2 true 5] = true := by kernel_rfl
def C.spec_reader_pick : ACode := (.seq (.reg [ zA 4 (.mv (.k (.c (.lit (.int .i64 0)))))] [0, 1]) (.seq (.reg [ zM 7 0, zM 8 0, zA 9 (.nilck (.t 8)), zA 10 (.faddr 1 (.t 9)), zA 11 (.load false 1 (.t 10)), zA 12 (.bin .add (.t 11) (.k (.c (.lit (.int .i64 1))))), zA 13 (.nilck (.t 7)), zA 14 (.faddr 1 (.t 13)), zS (.store false 1 (.t 14) (.t 12))] [0, 1]) (.seq (.seq (.reg [ zM 15 1, zA 16 (.bin .lss (.t 15) (.k (.c (.lit (.int .i64 1))))), zM 17 16, zG 17 false 18 (.mv (.t 0)), zG 17 false 19 (.nilck (.t 18)), zG 17 false 20 (.faddr 0 (.t 19)), zG 17 false 21 (.load false 1 (.t 20)), zG 17 false 22 (.len (.t 21)), zG 17 false 23 (.bin .eql (.t 22) (.k (.c (.lit (.int .i64 0))))), zA 24 (.pick (.t 17) (.k (.c (.lit (.bool true)))) (.t 23))] [0, 1, 24]) (.cond (.t 24) (.seq (.reg [ zA 4 (.mv (.k (.c (.lit (.int .i64 0)))))] [4]) .ret) .skip)) (.seq (.reg [ zM 25 0, zA 26 (.nilck (.t 25)), zA 27 (.faddr 1 (.t 26)), zA 28 (.load false 1 (.t 27)), zA 29 (.bin .sub (.t 28) (.k (.c (.lit (.int .i64 1))))), zM 5 29] [0, 1, 5]) (.seq (.seq (.reg [ zM 30 5, zM 31 0, zA 32 (.nilck (.t 31)), zA 33 (.faddr 0 (.t 32)), zA 34 (.load false 1 (.t 33)), zA 35 (.len (.t 34)), zA 36 (.bin .lss (.t 30) (.t 35))] [0, 1, 5, 36]) (.cond (.t 36) (.seq (.reg [ zM 37 0, zA 38 (.nilck (.t 37)), zA 39 (.faddr 0 (.t 38)), zA 40 (.load false 1 (.t 39)), zM 41 5, zA 42 (.iaddr 1 (.t 40) (.t 41)), zA 43 (.load false 1 (.t 42)), zA 44 (.cint .i64 (.t 43)), zM 45 1, zA 46 (.bin .rem (.t 44) (.t 45)), zM 4 46] [4]) .ret) .skip)) (.seq (.regD [ (zM 47 0, []), (zA 48 (.nilck (.t 47)), [0]), (zA 49 (.faddr 0 (.t 48)), [0, 1]), (zA 50 (.load false 1 (.t 49)), [0, 1, 2]), (zM 51 5, []), (zM 52 0, []), (zA 53 (.nilck (.t 52)), [5]), (zA 54 (.faddr 0 (.t 53)), [5, 6]), (zA 55 (.load false 1 (.t 54)), [5, 6, 7]), (zA 56 (.len (.t 55)), [5, 6, 7, 8]), (zA 57 (.bin .rem (.t 51) (.t 56)), [4, 5, 6, 7, 8, 9]), (zA 58 (.iaddr 1 (.t 50) (.t 57)), [0, 1, 2, 3, 4, 5, 6, 7, 8, 9, 10]), (zA 59 (.load false 1 (.t 58)), [0, 1, 2, 3, 4, 5, 6, 7, 8, 9, 10, 11]), (zA 60 (.cint .i64 (.t 59)), [0, 1, 2, 3, 4, 5, 6, 7, 8, 9, 10, 11, 12]), (zA 61 (.bin .mul (.t 60) (.k (.c (.lit (.int .i64 131))))), [0, 1, 2, 3, 4, 5, 6, 7, 8, 9, 10, 11, 12, 13]), (zM 62 0, []), (zA 63 (.nilck (.t 62)), [15]), (zA 64 (.faddr 0 (.t 63)), [15, 16]), (zA 65 (.load false 1 (.t 64)), [15, 16, 17]), (zM 66 5, []), (zA 67 (.bin .mul (.t 66) (.k (.c (.lit (.int .i64 7))))), [19]), (zA 68 (.bin .add (.t 67) (.k (.c (.lit (.int .i64 3))))), [19, 20]), (zM 69 0, []), (zA 70 (.nilck (.t 69)), [22]), (zA 71 (.faddr 0 (.t 70)), [22, 23]), (zA 72 (.load false 1 (.t 71)), [22, 23, 24]), (zA 73 (.len (.t 72)), [22, 23, 24, 25]), (zA 74 (.bin .rem (.t 68) (.t 73)), [19, 20, 21, 22, 23, 24, 25, 26]), (zA 75 (.iaddr 1 (.t 65) (.t 74)), [15, 16, 17, 18, 19, 20, 21, 22, 23, 24, 25, 26, 27]), (zA 76 (.load false 1 (.t 75)), [15, 16, 17, 18, 19, 20, 21, 22, 23, 24, 25, 26, 27, 28]), (zA 77 (.cint .i64 (.t 76)), [15, 16, 17, 18, 19, 20, 21, 22, 23, 24, 25, 26, 27, 28, 29]), (zA 78 (.bin .mul (.t 77) (.k (.c (.lit (.int .i64 1117))))), [15, 16, 17, 18, 19, 20, 21, 22, 23, 24, 25, 26, 27, 28, 29, 30]), (zA 79 (.bin .add (.t 61) (.t 78)), [0, 1, 2, 3, 4, 5, 6, 7, 8, 9, 10, 11, 12, 13, 14, 15, 16, 17, 18, 19, 20, 21, 22, 23, 24, 25, 26, 27, 28, 29, 30, 31]), (zM 80 5, []), (zA 81 (.bin .mul (.t 80) (.k (.c (.lit (.int .i64 29))))), [33]), (zA 82 (.bin .add (.t 79) (.t 81)), [0, 1, 2, 3, 4, 5, 6, 7, 8, 9, 10, 11, 12, 13, 14, 15, 16, 17, 18, 19, 20, 21, 22, 23, 24, 25, 26, 27, 28, 29, 30, 31, 32, 33, 34]), (zM 83 5, []), (zM 84 0, []), (zA 85 (.nilck (.t 84)), [37]), (zA 86 (.faddr 0 (.t 85)), [37, 38]), (zA 87 (.load false 1 (.t 86)), [37, 38, 39]), (zA 88 (.len (.t 87)), [37, 38, 39, 40]), (zA 89 (.bin .quo (.t 83) (.t 88)), [36, 37, 38, 39, 40, 41]), (zA 90 (.bin .mul (.t 89) (.k (.c (.lit (.int .i64 53))))), [36, 37, 38, 39, 40, 41, 42]), (zA 91 (.bin .add (.t 82) (.t 90)), [0, 1, 2, 3, 4, 5, 6, 7, 8, 9, 10, 11, 12, 13, 14, 15, 16, 17, 18, 19, 20, 21, 22, 23, 24, 25, 26, 27, 28, 29, 30, 31, 32, 33, 34, 35, 36, 37, 38, 39, 40, 41, 42, 43]), (zM 6 91, [0, 1, 2, 3, 4, 5, 6, 7, 8, 9, 10, 11, 12, 13, 14, 15, 16, 17, 18, 19, 20, 21, 22, 23, 24, 25, 26, 27, 28, 29, 30, 31, 32, 33, 34, 35, 36, 37, 38, 39, 40, 41, 42, 43, 44])] [1, 6]) (.seq (.reg [ zM 92 6, zM 93 6, zA 94 (.bin .quo (.t 93) (.k (.c (.lit (.int .i64 64))))), zA 95 (.bin .xor (.t 92) (.t 94)), zM 6 95] [1, 6]) (.seq (.reg [ zM 96 6, zM 97 1, zA 98 (.bin .rem (.t 96) (.t 97)), zM 4 98] [4]) .ret))))))))
theorem K.spec_reader_pick : chkF Go.Proofs.Tryz.prog 43 2 1 C.spec_reader_pick [.tmp 4] = true := by kernel_rfl
def C.spec_reader_one : ACode := (.seq (.reg [ zA 4 (.mv (.k (.c (.lit (.int .i64 0)))))] [0, 1]) (.seq (.reg [ zM 5 1, zM 6 0, zM 7 1, zA 8 (.len (.t 7)), ⟨none, some 9, .call 43 [.t 6, .t 8]⟩, zA 10 (.iaddr 1 (.t 5) (.t 9)), zA 11 (.load false 1 (.t 10)), zM 4 11] [4]) .ret))
theorem K.spec_reader_one : chkF Go.Proofs.Tryz.prog 102 2 1 C.spec_reader_one [.tmp 4] = true := by kernel_rfl
def C.spec_decimal : ACode := (.seq (.reg [ zA 2 (.mv (.k (.c (.str []))))] [0]) (.seq (.seq (.reg [ zM 3 0, zA 4 (.bin .lss (.t 3) (.k (.c (.lit (.int .i64 0))))), zM 5 4, zG 5 true 6 (.mv (.t 0)), zG 5 true 7 (.mv (.t 0)), zG 5 true 8 (.neg (.t 7)), zG 5 true 9 (.bin .eql (.t 6) (.t 8)), zA 10 (.pick (.t 5) (.t 9) (.k (.c (.lit (.bool false)))))] [0, 10]) (.cond (.t 10) (.seq (.reg [ zA 2 (.mv (.k (.c (.str [45, 57, 50, 50, 51, 51, 55, 50, 48, 51, 54, 56, 53, 52, 55, 55, 53, 56, 48, 56]))))] [2]) .ret) .skip)) (.seq (.seq (.reg [ zM 11 0, zA 12 (.bin .lss (.t 11) (.k (.c (.lit (.int .i64 0)))))] [0, 12]) (.cond (.t 12) (.seq (.reg [ zM 13 0, zA 14 (.neg (.t 13)), ⟨none, some 15, .call 135 [.t 14]⟩, zA 16 (.bin .add (.k (.c (.str [45]))) (.t 15)), zM 2 16] [2]) .ret) .skip)) (.seq (.seq (.reg [ zM 17 0, zA 18 (.bin .lss (.t 17) (.k (.c (.lit (.int .i64 10)))))] [0, 18]) (.cond (.t 18) (.seq (.reg [ zM 19 0, zA 20 (.bin .add (.k (.c (.lit (.int .i64 48)))) (.t 19)), zA 21 (.cint .u8 (.t 20)), zA 22 (.bslice 10 1 1 [.lit (.int .u8 0)] [(0, .t 21)]), zA 23 (.cstr (.t 22)), zM 2 23] [2]) .ret) .skip)) (.seq (.regD [ (zM 24 0, []), (zA 25 (.bin .quo (.t 24) (.k (.c (.lit (.int .i64 10))))), [0]), (⟨none, some 26, .call 135 [.t 25]⟩, [0, 1]), (zM 27 0, []), (zA 28 (.bin .rem (.t 27) (.k (.c (.lit (.int .i64 10))))), [3]), (zA 29 (.bin .add (.k (.c (.lit (.int .i64 48)))) (.t 28)), [3, 4]), (zA 30 (.cint .u8 (.t 29)), [3, 4, 5]), (zA 31 (.bslice 11 1 1 [.lit (.int .u8 0)] [(0, .t 30)]), [3, 4, 5, 6]), (zA 32 (.cstr (.t 31)), [3, 4, 5, 6, 7]), (zA 33 (.bin .add (.t 26) (.t 32)), [0, 1, 2, 3, 4, 5, 6, 7, 8]), (zM 2 33, [0, 1, 2, 3, 4, 5, 6, 7, 8, 9])] [2]) .ret)))))
theorem K.spec_decimal : chkF Go.Proofs.Tryz.prog 135 1 0 C.spec_decimal [.tmp 2] = true := by kernel_rfl
def C.spec_place : ACode := (.seq (.reg [ zA 2 (.box 10 (.t 0)), zA 4 (.mv (.k (.c (.lit (.int .i64 0)))))] [1, 2]) (.seq (.seq (.reg [ zA 5 (.mv (.k (.c (.lit (.int .i64 0)))))] [1, 2, 5]) (.block 0 (.loop (.seq (.seq (.reg [ zM 6 5, zA 7 (.faddr 4 (.t 2)), zA 8 (.load false 1 (.t 7)), zA 9 (.len (.t 8)), zA 10 (.bin .lss (.t 6) (.t 9))] [1, 2, 5, 10]) (.cond (.t 10) .skip (.exit 0))) (.seq (.block 1 (.seq (.reg [ zA 13 (.faddr 0 (.t 2)), zA 14 (.load false 1 (.t 13)), zA 15 (.bin .eql (.t 14) (.k (.c (.lit (.int .i64 4))))), zM 16 15, zG 16 true 17 (.faddr 3 (.t 2)), zG 16 true 18 (.load false 1 (.t 17)), zG 16 true 19 (.mv (.t 5)), zG 16 true 20 (.iaddr 1 (.t 18) (.t 19)), zG 16 true 21 (.load false 1 (.t 20)), zG 16 true 22 (.mv (.t 1)), zG 16 true 23 (.bin .eql (.t 21) (.t 22)), zA 24 (.pick (.t 16) (.t 23) (.k (.c (.lit (.bool false))))), zM 25 24, zG 25 false 26 (.faddr 0 (.t 2)), zG 25 false 27 (.load false 1 (.t 26)), zG 25 false 28 (.bin .eql (.t 27) (.k (.c (.lit (.int .i64 3))))), zG 25 false 29 (.mv (.t 28)), zG 29 true 30 (.mv (.t 5)), ⟨(some (29, true)), some 31, .call 135 [.t 30]⟩, zG 29 true 32 (.mv (.t 1)), zG 29 true 33 (.bin .eql (.t 31) (.t 32)), zG 25 false 34 (.pick (.t 29) (.t 33) (.k (.c (.lit (.bool false))))), zA 35 (.pick (.t 25) (.k (.c (.lit (.bool true)))) (.t 34))] [1, 2, 5, 35]) (.cond (.t 35) (.seq (.reg [ zM 36 5, zM 4 36] [4]) .ret) .skip))) (.reg [ zM 11 5, zA 12 (.bin .add (.t 11) (.k (.c (.lit (.int .i64 1))))), zM 5 12] [1, 2, 5])))))) (.seq (.reg [ zA 4 (.mv (.k (.c (.lit (.int .i64 (-1))))))] [4]) .ret)))
theorem K.spec_place : chkF Go.Proofs.Tryz.prog 89 2 0 C.spec_place [.tmp 4] = true := by kernel_rfl
def C.spec_slot : ACode := (.seq (.reg [ zA 2 (.box 10 (.t 0)), zA 4 (.mv (.k (.c (.lit (.int .i64 0))))), zA 5 (.mv (.k (.c (.lit (.bool false)))))] [1, 2]) (.seq (.reg [ zA 8 (.load true 5 (.t 2)), zM 9 1, ⟨none, some 10, .call 89 [.t 8, .t 9]⟩, zM 6 10] [1, 2, 6]) (.seq (.seq (.reg [ zM 11 6, zA 12 (.bin .geq (.t 11) (.k (.c (.lit (.int .i64 0)))))] [1, 2, 6, 12]) (.cond (.t 12) (.seq (.regD [ (zM 13 6, []), (zA 14 (.faddr 0 (.t 2)), []), (zA 15 (.load false 1 (.t 14)), [1]), (zA 16 (.bin .eql (.t 15) (.k (.c (.lit (.int .i64 4))))), [1, 2]), (zM 4 13, [0]), (zM 5 16, [0, 1, 2, 3, 4])] [4, 5]) .ret) .skip)) (.seq (.seq (.reg [ zA 17 (.faddr 0 (.t 2)), zA 18 (.load false 1 (.t 17)), zA 19 (.bin .eql (.t 18) (.k (.c (.lit (.int .i64 3))))), zM 20 19, zG 20 true 21 (.mv (.t 1)), zG 20 true 22 (.bin .eql (.t 21) (.k (.c (.str [45])))), zG 20 true 23 (.mv (.t 22)), zG 23 false 24 (.mv (.t 1)), zG 23 false 25 (.faddr 4 (.t 2)), zG 23 false 26 (.load false 1 (.t 25)), zG 23 false 27 (.len (.t 26)), ⟨(some (23, false)), some 28, .call 135 [.t 27]⟩, zG 23 false 29 (.bin .eql (.t 24) (.t 28)), zG 20 true 30 (.pick (.t 23) (.k (.c (.lit (.bool true)))) (.t 29)), zA 31 (.pick (.t 20) (.t 30) (.k (.c (.lit (.bool false)))))] [1, 2, 31]) (.cond (.t 31) (.seq (.reg [ zA 32 (.faddr 4 (.t 2)), zA 33 (.load false 1 (.t 32)), zA 34 (.len (.t 33)), zM 4 34, zA 5 (.mv (.k (.c (.lit (.bool false)))))] [4, 5]) .ret) .skip)) (.seq (.seq (.reg [ zA 7 (.mv (.k (.c (.lit (.int .i64 0)))))] [1, 2, 7]) (.block 0 (.loop (.seq (.seq (.reg [ zA 35 (.faddr 0 (.t 2)), zA 36 (.load false 1 (.t 35)), zA 37 (.bin .eql (.t 36) (.k (.c (.lit (.int .i64 4))))), zM 38 37, zG 38 true 39 (.mv (.t 7)), zG 38 true 40 (.faddr 4 (.t 2)), zG 38 true 41 (.load false 1 (.t 40)), zG 38 true 42 (.len (.t 41)), zG 38 true 43 (.bin .leq (.t 39) (.t 42)), zA 44 (.pick (.t 38) (.t 43) (.k (.c (.lit (.bool false)))))] [1, 2, 7, 44]) (.cond (.t 44) .skip (.exit 0))) (.seq (.block 1 (.seq (.reg [ zM 47 7, zA 48 (.faddr 4 (.t 2)), zA 49 (.load false 1 (.t 48)), zA 50 (.len (.t 49)), zA 51 (.bin .eql (.t 47) (.t 50)), zM 52 51, zG 52 false 53 (.mv (.t 1)), zG 52 false 54 (.faddr 3 (.t 2)), zG 52 false 55 (.load false 1 (.t 54)), zG 52 false 56 (.mv (.t 7)), zG 52 false 57 (.iaddr 1 (.t 55) (.t 56)), zG 52 false 58 (.load false 1 (.t 57)), zG 52 false 59 (.bin .lss (.t 53) (.t 58)), zA 60 (.pick (.t 52) (.k (.c (.lit (.bool true)))) (.t 59))] [1, 2, 7, 60]) (.cond (.t 60) (.seq (.reg [ zM 61 7, zM 4 61, zA 5 (.mv (.k (.c (.lit (.bool false)))))] [4, 5]) .ret) .skip))) (.reg [ zM 45 7, zA 46 (.bin .add (.t 45) (.k (.c (.lit (.int .i64 1))))), zM 7 46] [1, 2, 7])))))) (.seq (.reg [ zA 4 (.mv (.k (.c (.lit (.int .i64 (-1)))))), zA 5 (.mv (.k (.c (.lit (.bool false)))))] [4, 5]) .ret))))))
theorem K.spec_slot : chkF Go.Proofs.Tryz.prog 136 2 0 C.spec_slot [.tmp 4, .tmp 5] = true := by kernel_rfl
def C.spec_withKid : ACode := (.seq (.reg [ zA 3 (.box 10 (.t 0)), zA 5 (.box 11 (.t 2)), zA 6 (.alloc 12 [.c (.lit (.int .i64 0)), .c (.lit (.int .i64 0)), .c (.str []), .nsl 1, .nsl 5])] [1, 3, 5, 6]) (.seq (.reg [ zA 8 (.load true 5 (.t 3)), ⟨none, some 9, .call 88 [.t 8]⟩, zA 7 (.alloc 13 [.c (.lit (.int .i64 0)), .c (.lit (.int .i64 0)), .c (.str []), .nsl 1, .nsl 5]), zS (.store true 5 (.t 7) (.t 9))] [1, 5, 6, 7]) (.seq (.regD [ (zA 10 (.faddr 4 (.t 7)), []), (zA 11 (.load false 1 (.t 10)), [0]), (zM 12 1, []), (zA 13 (.load true 5 (.t 5)), []), (⟨none, some 14, .call 88 [.t 13]⟩, [3]), (zA 15 (.iaddr 5 (.t 11) (.t 12)), [0, 1, 2, 3, 4]), (zS (.store true 5 (.t 15) (.t 14)), [0, 1, 2, 3, 4, 5])] [6, 7]) (.seq (.reg [ zA 16 (.load true 5 (.t 7)), zS (.store true 5 (.t 6) (.t 16))] [6]) .ret))))
theorem K.spec_withKid : chkF Go.Proofs.Tryz.prog 91 3 0 C.spec_withKid [.cell 6 true 5] = true := by kernel_rfl
def C.spec_addHere : ACode := (.seq (.reg [ zA 3 (.box 10 (.t 0)), zA 5 (.box 11 (.t 2)), zA 6 (.alloc 12 [.c (.lit (.int .i64 0)), .c (.lit (.int .i64 0)), .c (.str []), .nsl 1, .nsl 5]), zA 7 (.mv (.k (.c (.lit (.bool false)))))] [1, 3, 5, 6]) (.seq (.reg [ zA 14 (.load true 5 (.t 3)), zM 15 1, ⟨none, some 16, .call 136 [.t 14, .t 15]⟩, zM 13 16, zA 17 (.extract (.t 13) 0), zA 18 (.extract (.t 13) 1), zM 8 17, zM 9 18] [1, 3, 5, 6, 8, 9]) (.seq (.seq (.reg [ zM 19 8, zA 20 (.bin .lss (.t 19) (.k (.c (.lit (.int .i64 0)))))] [1, 3, 5, 6, 8, 9, 20]) (.cond (.t 20) (.seq (.reg [ zA 21 (.build [.c (.lit (.int .i64 0)), .c (.lit (.int .i64 0)), .c (.str []), .nsl 1, .nsl 5] []), zS (.store true 5 (.t 6) (.t 21)), zA 7 (.mv (.k (.c (.lit (.bool false)))))] [6, 7]) .ret) .skip)) (.seq (.seq (.reg [ zM 22 9] [1, 3, 5, 6, 8, 22]) (.cond (.t 22) (.seq (.reg [ zA 23 (.load true 5 (.t 3)), zM 24 8, zA 25 (.load true 5 (.t 5)), ⟨none, some 26, .call 91 [.t 23, .t 24, .t 25]⟩, zS (.store true 5 (.t 6) (.t 26)), zA 7 (.mv (.k (.c (.lit (.bool true)))))] [6, 7]) .ret) .skip)) (.seq (.reg [ zA 27 (.load true 5 (.t 3)), ⟨none, some 28, .call 88 [.t 27]⟩, zA 10 (.alloc 13 [.c (.lit (.int .i64 0)), .c (.lit (.int .i64 0)), .c (.str []), .nsl 1, .nsl 5]), zS (.store true 5 (.t 10) (.t 28))] [1, 3, 5, 6, 8, 10]) (.seq (.regD [ (zA 29 (.bslice 14 5 0 [.lit (.int .i64 0), .lit (.int .i64 0), .str [], .sl 1 [], .sl 5 []] []), []), (zA 30 (.faddr 4 (.t 10)), []), (zA 31 (.load false 1 (.t 30)), [1]), (zM 32 8, []), (zA 33 (.slsl 5 (.t 31) none (some (.t 32))), [1, 2, 3]), (zA 34 (.append 15 5 80 (.t 29) (.t 33)), [0, 1, 2, 3, 4]), (zA 35 (.load true 5 (.t 5)), []), (⟨none, some 36, .call 88 [.t 35]⟩, [0, 1, 2, 3, 4, 5, 6]), (zA 37 (.bslice 16 5 1 [.lit (.int .i64 0), .lit (.int .i64 0), .str [], .sl 1 [], .sl 5 []] [(0, .t 36)]), [0, 1, 2, 3, 4, 5, 6, 7]), (zA 38 (.append 17 5 80 (.t 34) (.t 37)), [0, 1, 2, 3, 4, 5, 6, 7, 8]), (zM 11 38, [0, 1, 2, 3, 4, 5, 6, 7, 8, 9])] [1, 3, 6, 8, 10, 11]) (.seq (.reg [ zM 39 11, zA 40 (.faddr 4 (.t 10)), zA 41 (.load false 1 (.t 40)), zM 42 8, zA 43 (.slsl 5 (.t 41) (some (.t 42)) none), zA 44 (.append 18 5 80 (.t 39) (.t 43)), zM 11 44] [1, 3, 6, 8, 10, 11]) (.seq (.seq (.reg [ zA 45 (.faddr 0 (.t 3)), zA 46 (.load false 1 (.t 45)), zA 47 (.bin .eql (.t 46) (.k (.c (.lit (.int .i64 3)))))] [1, 3, 6, 8, 10, 11, 47]) (.cond (.t 47) (.seq (.reg [ zA 48 (.faddr 0 (.t 3)), zA 49 (.load false 1 (.t 48)), zA 50 (.bslice 19 1 0 [.str []] []), zM 51 11, zA 52 (.build [.c (.lit (.int .i64 0)), .c (.lit (.int .i64 0)), .c (.str []), .nsl 1, .nsl 5] [(0, 1, .t 49), (3, 1, .t 50), (4, 1, .t 51)]), zS (.store true 5 (.t 6) (.t 52)), zA 7 (.mv (.k (.c (.lit (.bool true)))))] [6, 7]) .ret) .skip)) (.seq (.reg [ zA 53 (.bslice 20 1 0 [.str []] []), zA 54 (.faddr 3 (.t 10)), zA 55 (.load false 1 (.t 54)), zM 56 8, zA 57 (.slsl 1 (.t 55) none (some (.t 56))), zA 58 (.append 21 1 16 (.t 53) (.t 57)), zM 59 1, zA 60 (.bslice 22 1 1 [.str []] [(0, .t 59)]), zA 61 (.append 23 1 16 (.t 58) (.t 60)), zM 12 61] [3, 6, 8, 10, 11, 12]) (.seq (.reg [ zM 62 12, zA 63 (.faddr 3 (.t 10)), zA 64 (.load false 1 (.t 63)), zM 65 8, zA 66 (.slsl 1 (.t 64) (some (.t 65)) none), zA 67 (.append 24 1 16 (.t 62) (.t 66)), zM 12 67] [3, 6, 11, 12]) (.seq (.reg [ zA 68 (.faddr 0 (.t 3)), zA 69 (.load false 1 (.t 68)), zM 70 12, zM 71 11, zA 72 (.build [.c (.lit (.int .i64 0)), .c (.lit (.int .i64 0)), .c (.str []), .nsl 1, .nsl 5] [(0, 1, .t 69), (3, 1, .t 70), (4, 1, .t 71)]), zS (.store true 5 (.t 6) (.t 72)), zA 7 (.mv (.k (.c (.lit (.bool true)))))] [6, 7]) .ret)))))))))))
theorem K.spec_addHere : chkF Go.Proofs.Tryz.prog 92 3 0 C.spec_addHere [.cell 6 true 5, .tmp 7] = true := by kernel_rfl
def C.spec_reader_of : ACode := (.seq (.reg [ zA 4 (.mv (.k (.c (.str []))))] [0, 1]) (.seq (.reg [ zM 5 1, zM 6 0, zM 7 1, zA 8 (.len (.t 7)), ⟨none, some 9, .call 43 [.t 6, .t 8]⟩, zA 10 (.iaddr 1 (.t 5) (.t 9)), zA 11 (.load false 1 (.t 10)), zM 4 11] [4]) .ret))
theorem K.spec_reader_of : chkF Go.Proofs.Tryz.prog 125 2 1 C.spec_reader_of [.tmp 4] = true := by kernel_rfl
def C.spec_someText : ACode := (.seq (.reg [ zA 2 (.mv (.k (.c (.str []))))] [0]) (.seq (.reg [ zM 3 0, zA 4 (.bslice 10 1 12 [.str []] [(0, .k (.c (.str [97]))), (1, .k (.c (.str [98]))), (2, .k (.c (.str []))), (3, .k (.c (.str [97, 98, 99]))), (4, .k (.c (.str [97, 47, 98]))), (5, .k (.c (.str [126]))), (6, .k (.c (.str [120, 32, 121]))), (7, .k (.c (.str [34, 113, 34]))), (8, .k (.c (.str [98, 97, 99, 107, 92, 115]))), (9, .k (.c (.str [48]))), (10, .k (.c (.str [49]))), (11, .k (.c (.str [97, 98, 99, 100, 101, 102, 103, 104, 105, 106, 107, 108])))]), ⟨none, some 5, .call 125 [.t 3, .t 4]⟩, zM 2 5] [2]) .ret))
theorem K.spec_someText : chkF Go.Proofs.Tryz.prog 175 1 1 C.spec_someText [.tmp 2] = true := by kernel_rfl
def C.spec_someName : ACode := (.seq (.reg [ zA 2 (.mv (.k (.c (.str []))))] [0]) (.seq (.reg [ zM 3 0, zA 4 (.bslice 10 1 8 [.str []] [(0, .k (.c (.str [97]))), (1, .k (.c (.str [98]))), (2, .k (.c (.str [99]))), (3, .k (.c (.str [100]))), (4, .k (.c (.str [97, 47, 98]))), (5, .k (.c (.str [126, 120]))), (6, .k (.c (.str []))), (7, .k (.c (.str [107])))]), ⟨none, some 5, .call 125 [.t 3, .t 4]⟩, zM 2 5] [2]) .ret))
theorem K.spec_someName : chkF Go.Proofs.Tryz.prog 200 1 1 C.spec_someName [.tmp 2] = true := by kernel_rfl
def C.spec_randomMap : ACode := (.seq (.reg [ zA 4 (.alloc 10 [.c (.lit (.int .i64 0)), .c (.lit (.int .i64 0)), .c (.str []), .nsl 1, .nsl 5])] [0, 1, 4]) (.seq (.reg [ zA 9 (.bslice 11 1 0 [.str []] []), zA 10 (.bslice 12 5 0 [.lit (.int .i64 0), .lit (.int .i64 0), .str [], .sl 1 [], .sl 5 []] []), zA 11 (.build [.c (.lit (.int .i64 0)), .c (.lit (.int .i64 0)), .c (.str []), .nsl 1, .nsl 5] [(0, 1, .k (.c (.lit (.int .i64 4)))), (3, 1, .t 9), (4, 1, .t 10)]), zA 5 (.alloc 13 [.c (.lit (.int .i64 0)), .c (.lit (.int .i64 0)), .c (.str []), .nsl 1, .nsl 5]), zS (.store true 5 (.t 5) (.t 11))] [0, 1, 4, 5]) (.seq (.seq (.reg [ zM 12 0, zA 13 (.bslice 14 1 5 [.lit (.int .i64 0)] [(0, .k (.c (.lit (.int .i64 2)))), (1, .k (.c (.lit (.int .i64 3)))), (2, .k (.c (.lit (.int .i64 1)))), (3, .k (.c (.lit (.int .i64 0)))), (4, .k (.c (.lit (.int .i64 4))))]), ⟨none, some 14, .call 102 [.t 12, .t 13]⟩, zM 6 14] [0, 1, 4, 5, 6]) (.block 0 (.loop (.seq (.seq (.reg [ zM 15 6, zA 16 (.bin .gtr (.t 15) (.k (.c (.lit (.int .i64 0)))))] [0, 1, 4, 5, 6, 16]) (.cond (.t 16) .skip (.exit 0))) (.seq (.block 1 (.seq (.reg [ zM 19 0, ⟨none, some 20, .call 200 [.t 19]⟩, zM 7 20] [0, 1, 4, 5, 6, 7]) (.seq (.reg [ zM 21 0, zM 22 1, zA 23 (.bin .sub (.t 22) (.k (.c (.lit (.int .i64 1))))), ⟨none, some 24, .call 126 [.t 21, .t 23]⟩, zA 8 (.alloc 15 [.c (.lit (.int .i64 0)), .c (.lit (.int .i64 0)), .c (.str []), .nsl 1, .nsl 5]), zS (.store true 5 (.t 8) (.t 24))] [0, 1, 4, 5, 6, 7, 8]) (.seq (.reg [ zA 25 (.load true 5 (.t 5)), zM 26 7, ⟨none, some 27, .call 89 [.t 25, .t 26]⟩, zA 28 (.bin .lss (.t 27) (.k (.c (.lit (.int .i64 0)))))] [0, 1, 4, 5, 6, 7, 8, 28]) (.cond (.t 28) (.reg [ zA 30 (.load true 5 (.t 5)), zM 31 7, zA 32 (.load true 5 (.t 8)), ⟨none, some 33, .call 92 [.t 30, .t 31, .t 32]⟩, zM 29 33, zA 34 (.extract (.t 29) 0), zA 35 (.extract (.t 29) 1), zS (.store true 5 (.t 5) (.t 34))] [0, 1, 4, 5, 6]) .skip))))) (.reg [ zM 17 6, zA 18 (.bin .sub (.t 17) (.k (.c (.lit (.int .i64 1))))), zM 6 18] [0, 1, 4, 5, 6])))))) (.seq (.reg [ zA 36 (.load true 5 (.t 5)), zS (.store true 5 (.t 4) (.t 36))] [4]) .ret))))
theorem K.spec_randomMap : chkF Go.Proofs.Tryz.prog 174 2 1 C.spec_randomMap [.cell 4 true 5] = true := by kernel_rfl
def C.spec_randomNode : ACode := (.seq (.reg [ zA 4 (.alloc 10 [.c (.lit (.int .i64 0)), .c (.lit (.int .i64 0)), .c (.str []), .nsl 1, .nsl 5])] [0, 1, 4]) (.seq (.reg [ zM 8 0, ⟨none, some 9, .call 43 [.t 8, .k (.c (.lit (.int .i64 5)))]⟩, zM 5 9] [0, 1, 4, 5]) (.cut (.seq (.reg [ zM 10 1, zA 11 (.bin .leq (.t 10) (.k (.c (.lit (.int .i64 1)))))] [0, 1, 4, 5, 11]) (.cond (.t 11) (.reg [ zM 12 0, ⟨none, some 13, .call 43 [.t 12, .k (.c (.lit (.int .i64 3)))]⟩, zM 5 13] [0, 1, 4, 5]) .skip)) (.seq (.seq (.reg [ zM 14 5] [0, 1, 4, 5, 14]) (.block 0 (.seq (.reg [ zA 16 (.bin .eql (.t 14) (.k (.c (.lit (.int .i64 1))))), zM 15 16] [0, 1, 4, 5, 14, 15]) (.cond (.t 15) (.seq (.reg [ zM 17 5, zM 18 0, zM 19 0, ⟨none, some 20, .call 43 [.t 19, .k (.c (.lit (.int .i64 250)))]⟩, zA 21 (.bslice 11 1 8 [.lit (.int .i64 0)] [(0, .k (.c (.lit (.int .i64 0)))), (1, .k (.c (.lit (.int .i64 1)))), (2, .k (.c (.lit (.int .i64 2)))), (3, .k (.c (.lit (.int .i64 7)))), (4, .k (.c (.lit (.int .i64 (-7))))), (5, .k (.c (.lit (.int .i64 999999)))), (6, .k (.c (.lit (.int .i64 (-999999))))), (7, .t 20)]), ⟨none, some 22, .call 102 [.t 18, .t 21]⟩, zA 23 (.build [.c (.lit (.int .i64 0)), .c (.lit (.int .i64 0)), .c (.str []), .nsl 1, .nsl 5] [(0, 1, .t 17), (1, 1, .t 22)]), zS (.store true 5 (.t 4) (.t 23))] [4]) .ret) (.seq (.reg [ zA 25 (.bin .eql (.t 14) (.k (.c (.lit (.int .i64 2))))), zM 24 25] [0, 1, 4, 5, 14, 24]) (.cond (.t 24) (.seq (.reg [ zM 26 5, zM 27 0, ⟨none, some 28, .call 175 [.t 27]⟩, zA 29 (.build [.c (.lit (.int .i64 0)), .c (.lit (.int .i64 0)), .c (.str []), .nsl 1, .nsl 5] [(0, 1, .t 26), (2, 1, .t 28)]), zS (.store true 5 (.t 4) (.t 29))] [4]) .ret) (.seq (.reg [ zA 31 (.bin .eql (.t 14) (.k (.c (.lit (.int .i64 3))))), zM 30 31] [0, 1, 4, 5, 14, 30]) (.cond (.t 30) (.seq (.reg [ zA 32 (.bslice 12 5 0 [.lit (.int .i64 0), .lit (.int .i64 0), .str [], .sl 1 [], .sl 5 []] []), zM 6 32] [0, 1, 4, 5, 6]) (.seq (.seq (.reg [ zM 33 0, ⟨none, some 34, .call 43 [.t 33, .k (.c (.lit (.int .i64 4)))]⟩, zM 7 34] [0, 1, 4, 5, 6, 7]) (.block 1 (.loop (.seq (.seq (.reg [ zM 35 7, zA 36 (.bin .gtr (.t 35) (.k (.c (.lit (.int .i64 0)))))] [0, 1, 4, 5, 6, 7, 36]) (.cond (.t 36) .skip (.exit 1))) (.seq (.block 2 (.reg [ zM 39 6, zM 40 0, zM 41 1, zA 42 (.bin .sub (.t 41) (.k (.c (.lit (.int .i64 1))))), ⟨none, some 43, .call 126 [.t 40, .t 42]⟩, zA 44 (.bslice 13 5 1 [.lit (.int .i64 0), .lit (.int .i64 0), .str [], .sl 1 [], .sl 5 []] [(0, .t 43)]), zA 45 (.append 14 5 80 (.t 39) (.t 44)), zM 6 45] [0, 1, 4, 5, 6, 7])) (.reg [ zM 37 7, zA 38 (.bin .sub (.t 37) (.k (.c (.lit (.int .i64 1))))), zM 7 38] [0, 1, 4, 5, 6, 7])))))) (.seq (.reg [ zM 46 5, zA 47 (.bslice 15 1 0 [.str []] []), zM 48 6, zA 49 (.build [.c (.lit (.int .i64 0)), .c (.lit (.int .i64 0)), .c (.str []), .nsl 1, .nsl 5] [(0, 1, .t 46), (3, 1, .t 47), (4, 1, .t 48)]), zS (.store true 5 (.t 4) (.t 49))] [4]) .ret))) (.seq (.reg [ zA 51 (.bin .eql (.t 14) (.k (.c (.lit (.int .i64 4))))), zM 50 51] [0, 1, 4, 50]) (.cond (.t 50) (.seq (.reg [ zM 52 0, zM 53 1, ⟨none, some 54, .call 174 [.t 52, .t 53]⟩, zS (.store true 5 (.t 4) (.t 54))] [4]) .ret) .skip)))))))))) (.seq (.reg [ zA 55 (.build [.c (.lit (.int .i64 0)), .c (.lit (.int .i64 0)), .c (.str []), .nsl 1, .nsl 5] []), zS (.store true 5 (.t 4) (.t 55))] [4]) .ret)))))
theorem K.spec_randomNode : chkF Go.Proofs.Tryz.prog 126 2 1 C.spec_randomNode [.cell 4 true 5] = true := by kernel_rfl
def C.spec_count : ACode := (.seq (.reg [ zA 1 (.box 10 (.t 0)), zA 2 (.mv (.k (.c (.lit (.int .i64 0)))))] [1]) (.seq (.reg [ zA 3 (.mv (.k (.c (.lit (.int .i64 1)))))] [1, 3]) (.seq (.seq (.reg [ zA 4 (.mv (.k (.c (.lit (.int .i64 0)))))] [1, 3, 4]) (.block 0 (.loop (.seq (.seq (.reg [ zM 5 4, zA 6 (.faddr 4 (.t 1)), zA 7 (.load false 1 (.t 6)), zA 8 (.len (.t 7)), zA 9 (.bin .lss (.t 5) (.t 8))] [1, 3, 4, 9]) (.cond (.t 9) .skip (.exit 0))) (.seq (.block 1 (.reg [ zM 12 3, zA 13 (.faddr 4 (.t 1)), zA 14 (.load false 1 (.t 13)), zM 15 4, zA 16 (.iaddr 5 (.t 14) (.t 15)), zA 17 (.load true 5 (.t 16)), ⟨none, some 18, .call 83 [.t 17]⟩, zA 19 (.bin .add (.t 12) (.t 18)), zM 3 19] [1, 3, 4])) (.reg [ zM 10 4, zA 11 (.bin .add (.t 10) (.k (.c (.lit (.int .i64 1))))), zM 4 11] [1, 3, 4])))))) (.seq (.reg [ zM 20 3, zM 2 20] [2]) .ret))))
theorem K.spec_count : chkF Go.Proofs.Tryz.prog 83 1 0 C.spec_count [.tmp 2] = true := by kernel_rfl
def C.spec_inRange : ACode := (.seq (.reg [ zA 6 (.mv (.k (.c (.lit (.bool false)))))] [0, 1, 2]) (.seq (.reg [ zM 7 1, zM 8 0, zA 9 (.bin .leq (.t 7) (.t 8)), zM 10 9, zG 10 true 11 (.mv (.t 0)), zG 10 true 12 (.mv (.t 2)), zG 10 true 13 (.bin .leq (.t 11) (.t 12)), zA 14 (.pick (.t 10) (.t 13) (.k (.c (.lit (.bool false))))), zM 6 14] [6]) .ret))
theorem K.spec_inRange : chkF Go.Proofs.Tryz.prog 113 3 0 C.spec_inRange [.tmp 6] = true := by kernel_rfl
def C.spec_validText : ACode := (.seq (.reg [ zA 2 (.mv (.k (.c (.lit (.bool false)))))] [0]) (.seq (.seq (.reg [ zA 3 (.mv (.k (.c (.lit (.int .i64 0)))))] [0, 3]) (.block 0 (.loop (.seq (.seq (.reg [ zM 4 3, zM 5 0, zA 6 (.lens (.t 5)), zA 7 (.bin .lss (.t 4) (.t 6))] [0, 3, 7]) (.cond (.t 7) .skip (.exit 0))) (.seq (.block 1 (.seq (.reg [ zM 10 0, zM 11 3, zA 12 (.idxs (.t 10) (.t 11)), zA 13 (.cint .i64 (.t 12)), ⟨none, some 14, .call 113 [.t 13, .k (.c (.lit (.int .i64 32))), .k (.c (.lit (.int .i64 126)))]⟩, zA 15 (.not (.t 14))] [0, 3, 15]) (.cond (.t 15) (.seq (.reg [ zA 2 (.mv (.k (.c (.lit (.bool false)))))] [2]) .ret) .skip))) (.reg [ zM 8 3, zA 9 (.bin .add (.t 8) (.k (.c (.lit (.int .i64 1))))), zM 3 9] [0, 3])))))) (.seq (.reg [ zM 16 0, zA 17 (.lens (.t 16)), zA 18 (.bin .leq (.t 17) (.k (.c (.lit (.int .i64 12))))), zM 2 18] [2]) .ret)))
theorem K.spec_validText : chkF Go.Proofs.Tryz.prog 114 1 0 C.spec_validText [.tmp 2] = true := by kernel_rfl
def C.spec_names : ACode := (.seq (.reg [ zA 2 (.mv (.k (.c (.lit (.bool false)))))] [0]) (.seq (.seq (.reg [ zA 3 (.mv (.k (.c (.lit (.int .i64 0)))))] [0, 3]) (.block 0 (.loop (.seq (.seq (.reg [ zM 4 3, zM 5 0, zA 6 (.len (.t 5)), zA 7 (.bin .lss (.t 4) (.t 6))] [0, 3, 7]) (.cond (.t 7) .skip (.exit 0))) (.seq (.block 1 (.seq (.regD [ (zM 10 0, []), (zM 11 3, []), (zA 12 (.iaddr 1 (.t 10) (.t 11)), [0, 1]), (zA 13 (.load false 1 (.t 12)), [0, 1, 2]), (⟨none, some 14, .call 114 [.t 13]⟩, [0, 1, 2, 3]), (zA 15 (.not (.t 14)), [0, 1, 2, 3, 4]), (zM 16 15, [0, 1, 2, 3, 4, 5]), (zG 16 false 17 (.mv (.t 3)), [0, 1, 2, 3, 4, 5, 6]), (zG 16 false 18 (.bin .gtr (.t 17) (.k (.c (.lit (.int .i64 0))))), [0, 1, 2, 3, 4, 5, 6, 7]), (zG 16 false 19 (.mv (.t 18)), [0, 1, 2, 3, 4, 5, 6, 7, 8]), (zG 19 true 20 (.mv (.t 0)), [0, 1, 2, 3, 4, 5, 6, 7, 8, 9]), (zG 19 true 21 (.mv (.t 3)), [0, 1, 2, 3, 4, 5, 6, 7, 8, 9]), (zG 19 true 22 (.iaddr 1 (.t 20) (.t 21)), [0, 1, 2, 3, 4, 5, 6, 7, 8, 9, 10, 11]), (zG 19 true 23 (.load false 1 (.t 22)), [0, 1, 2, 3, 4, 5, 6, 7, 8, 9, 10, 11, 12]), (zG 19 true 24 (.mv (.t 0)), [0, 1, 2, 3, 4, 5, 6, 7, 8, 9]), (zG 19 true 25 (.mv (.t 3)), [0, 1, 2, 3, 4, 5, 6, 7, 8, 9]), (zG 19 true 26 (.bin .sub (.t 25) (.k (.c (.lit (.int .i64 1))))), [0, 1, 2, 3, 4, 5, 6, 7, 8, 9, 15]), (zG 19 true 27 (.iaddr 1 (.t 24) (.t 26)), [0, 1, 2, 3, 4, 5, 6, 7, 8, 9, 14, 15, 16]), (zG 19 true 28 (.load false 1 (.t 27)), [0, 1, 2, 3, 4, 5, 6, 7, 8, 9, 14, 15, 16, 17]), (zG 19 true 29 (.bin .leq (.t 23) (.t 28)), [0, 1, 2, 3, 4, 5, 6, 7, 8, 9, 10, 11, 12, 13, 14, 15, 16, 17, 18]), (zG 16 false 30 (.pick (.t 19) (.t 29) (.k (.c (.lit (.bool false))))), [0, 1, 2, 3, 4, 5, 6, 7, 8, 9, 10, 11, 12, 13, 14, 15, 16, 17, 18, 19]), (zA 31 (.pick (.t 16) (.k (.c (.lit (.bool true)))) (.t 30)), [0, 1, 2, 3, 4, 5, 6, 7, 8, 9, 10, 11, 12, 13, 14, 15, 16, 17, 18, 19, 20])] [0, 3, 31]) (.cond (.t 31) (.seq (.reg [ zA 2 (.mv (.k (.c (.lit (.bool false)))))] [2]) .ret) .skip))) (.reg [ zM 8 3, zA 9 (.bin .add (.t 8) (.k (.c (.lit (.int .i64 1))))), zM 3 9] [0, 3])))))) (.seq (.reg [ zA 2 (.mv (.k (.c (.lit (.bool true)))))] [2]) .ret)))
theorem K.spec_names : chkF Go.Proofs.Tryz.prog 133 1 0 C.spec_names [.tmp 2] = true := by kernel_rfl
def C.spec_kids : ACode := (.seq (.reg [ zA 2 (.box 10 (.t 0)), zA 4 (.mv (.k (.c (.lit (.bool false)))))] [1, 2]) (.seq (.seq (.reg [ zA 5 (.mv (.k (.c (.lit (.int .i64 0)))))] [1, 2, 5]) (.block 0 (.loop (.seq (.seq (.reg [ zM 6 5, zA 7 (.faddr 4 (.t 2)), zA 8 (.load false 1 (.t 7)), zA 9 (.len (.t 8)), zA 10 (.bin .lss (.t 6) (.t 9))] [1, 2, 5, 10]) (.cond (.t 10) .skip (.exit 0))) (.seq (.block 1 (.seq (.reg [ zA 13 (.faddr 4 (.t 2)), zA 14 (.load false 1 (.t 13)), zM 15 5, zA 16 (.iaddr 5 (.t 14) (.t 15)), zA 17 (.load true 5 (.t 16)), zM 18 1, zA 19 (.bin .sub (.t 18) (.k (.c (.lit (.int .i64 1))))), ⟨none, some 20, .call 82 [.t 17, .t 19]⟩, zA 21 (.not (.t 20))] [1, 2, 5, 21]) (.cond (.t 21) (.seq (.reg [ zA 4 (.mv (.k (.c (.lit (.bool false)))))] [4]) .ret) .skip))) (.reg [ zM 11 5, zA 12 (.bin .add (.t 11) (.k (.c (.lit (.int .i64 1))))), zM 5 12] [1, 2, 5])))))) (.seq (.reg [ zA 4 (.mv (.k (.c (.lit (.bool true)))))] [4]) .ret)))
theorem K.spec_kids : chkF Go.Proofs.Tryz.prog 132 2 0 C.spec_kids [.tmp 4] = true := by kernel_rfl
def C.spec_shape : ACode := (.seq (.reg [ zA 2 (.box 10 (.t 0)), zA 4 (.mv (.k (.c (.lit (.bool false)))))] [1, 2]) (.cut (.seq (.reg [ zM 5 1, zA 6 (.bin .eql (.t 5) (.k (.c (.lit (.int .i64 0))))), zM 7 6, zG 7 false 8 (.faddr 4 (.t 2)), zG 7 false 9 (.load false 1 (.t 8)), zG 7 false 10 (.len (.t 9)), zG 7 false 11 (.bin .gtr (.t 10) (.k (.c (.lit (.int .i64 6))))), zA 12 (.pick (.t 7) (.k (.c (.lit (.bool true)))) (.t 11)), zM 13 12, zG 13 false 14 (.faddr 0 (.t 2)), zG 13 false 15 (.load false 1 (.t 14)), zG 13 false 16 (.bin .neq (.t 15) (.k (.c (.lit (.int .i64 1))))), zG 13 false 17 (.mv (.t 16)), zG 17 true 18 (.faddr 1 (.t 2)), zG 17 true 19 (.load false 1 (.t 18)), zG 17 true 20 (.bin .neq (.t 19) (.k (.c (.lit (.int .i64 0))))), zG 13 false 21 (.pick (.t 17) (.t 20) (.k (.c (.lit (.bool false))))), zA 22 (.pick (.t 13) (.k (.c (.lit (.bool true)))) (.t 21)), zM 23 22, zG 23 false 24 (.faddr 0 (.t 2)), zG 23 false 25 (.load false 1 (.t 24)), zG 23 false 26 (.bin .neq (.t 25) (.k (.c (.lit (.int .i64 2))))), zG 23 false 27 (.mv (.t 26)), zG 27 true 28 (.faddr 2 (.t 2)), zG 27 true 29 (.load false 1 (.t 28)), zG 27 true 30 (.bin .neq (.t 29) (.k (.c (.str [])))), zG 23 false 31 (.pick (.t 27) (.t 30) (.k (.c (.lit (.bool false))))), zA 32 (.pick (.t 23) (.k (.c (.lit (.bool true)))) (.t 31)), zM 33 32, zG 33 false 34 (.faddr 0 (.t 2)), zG 33 false 35 (.load false 1 (.t 34)), zG 33 false 36 (.bin .neq (.t 35) (.k (.c (.lit (.int .i64 4))))), zG 33 false 37 (.mv (.t 36)), zG 37 true 38 (.faddr 3 (.t 2)), zG 37 true 39 (.load false 1 (.t 38)), zG 37 true 40 (.len (.t 39)), zG 37 true 41 (.bin .gtr (.t 40) (.k (.c (.lit (.int .i64 0))))), zG 33 false 42 (.pick (.t 37) (.t 41) (.k (.c (.lit (.bool false))))), zA 43 (.pick (.t 33) (.k (.c (.lit (.bool true)))) (.t 42)), zM 44 43, zG 44 false 45 (.faddr 0 (.t 2)), zG 44 false 46 (.load false 1 (.t 45)), zG 44 false 47 (.bin .lss (.t 46) (.k (.c (.lit (.int .i64 3))))), zG 44 false 48 (.mv (.t 47)), zG 48 true 49 (.faddr 4 (.t 2)), zG 48 true 50 (.load false 1 (.t 49)), zG 48 true 51 (.len (.t 50)), zG 48 true 52 (.bin .gtr (.t 51) (.k (.c (.lit (.int .i64 0))))), zG 44 false 53 (.pick (.t 48) (.t 52) (.k (.c (.lit (.bool false))))), zA 54 (.pick (.t 44) (.k (.c (.lit (.bool true)))) (.t 53))] [1, 2, 54]) (.cond (.t 54) (.seq (.reg [ zA 4 (.mv (.k (.c (.lit (.bool false)))))] [4]) .ret) .skip)) (.seq (.seq (.reg [ zA 55 (.faddr 0 (.t 2)), zA 56 (.load false 1 (.t 55))] [1, 2, 56]) (.block 0 (.seq (.reg [ zA 58 (.bin .eql (.t 56) (.k (.c (.lit (.int .i64 1))))), zM 57 58] [1, 2, 56, 57]) (.cond (.t 57) (.seq (.reg [ zA 59 (.faddr 1 (.t 2)), zA 60 (.load false 1 (.t 59)), ⟨none, some 61, .call 113 [.t 60, .k (.c (.lit (.int .i64 (-999999)))), .k (.c (.lit (.int .i64 999999)))]⟩, zM 4 61] [4]) .ret) (.seq (.reg [ zA 63 (.bin .eql (.t 56) (.k (.c (.lit (.int .i64 2))))), zM 62 63] [1, 2, 56, 62]) (.cond (.t 62) (.seq (.reg [ zA 64 (.faddr 2 (.t 2)), zA 65 (.load false 1 (.t 64)), ⟨none, some 66, .call 114 [.t 65]⟩, zM 4 66] [4]) .ret) (.seq (.reg [ zA 68 (.bin .eql (.t 56) (.k (.c (.lit (.int .i64 3))))), zM 67 68] [1, 2, 56, 67]) (.cond (.t 67) (.seq (.reg [ zA 69 (.load true 5 (.t 2)), zM 70 1, ⟨none, some 71, .call 132 [.t 69, .t 70]⟩, zM 4 71] [4]) .ret) (.seq (.reg [ zA 73 (.bin .eql (.t 56) (.k (.c (.lit (.int .i64 4))))), zM 72 73] [1, 2, 72]) (.cond (.t 72) (.seq (.reg [ zA 74 (.faddr 3 (.t 2)), zA 75 (.load false 1 (.t 74)), zA 76 (.len (.t 75)), zA 77 (.faddr 4 (.t 2)), zA 78 (.load false 1 (.t 77)), zA 79 (.len (.t 78)), zA 80 (.bin .eql (.t 76) (.t 79)), zM 81 80, zG 81 true 82 (.faddr 3 (.t 2)), zG 81 true 83 (.load false 1 (.t 82)), ⟨(some (81, true)), some 84, .call 133 [.t 83]⟩, zA 85 (.pick (.t 81) (.t 84) (.k (.c (.lit (.bool false))))), zM 86 85, zG 86 true 87 (.load true 5 (.t 2)), zG 86 true 88 (.mv (.t 1)), ⟨(some (86, true)), some 89, .call 132 [.t 87, .t 88]⟩, zA 90 (.pick (.t 86) (.t 89) (.k (.c (.lit (.bool false))))), zM 4 90] [4]) .ret) .skip)))))))))) (.seq (.reg [ zA 91 (.faddr 0 (.t 2)), zA 92 (.load false 1 (.t 91)), zA 93 (.bin .eql (.t 92) (.k (.c (.lit (.int .i64 0))))), zM 4 93] [4]) .ret))))
theorem K.spec_shape : chkF Go.Proofs.Tryz.prog 82 2 0 C.spec_shape [.tmp 4] = true := by kernel_rfl
def C.spec_validNode : ACode := (.seq (.reg [ zA 1 (.box 10 (.t 0)), zA 2 (.mv (.k (.c (.lit (.bool false)))))] [1]) (.seq (.reg [ zA 3 (.load true 5 (.t 1)), ⟨none, some 4, .call 82 [.t 3, .k (.c (.lit (.int .i64 5)))]⟩, zM 5 4, zG 5 true 6 (.load true 5 (.t 1)), ⟨(some (5, true)), some 7, .call 83 [.t 6]⟩, zG 5 true 8 (.bin .leq (.t 7) (.k (.c (.lit (.int .i64 40))))), zA 9 (.pick (.t 5) (.t 8) (.k (.c (.lit (.bool false))))), zM 2 9] [2]) .ret))
theorem K.spec_validNode : chkF Go.Proofs.Tryz.prog 40 1 0 C.spec_validNode [.tmp 2] = true := by kernel_rfl
def C.spec_someNode : ACode := (.seq (.reg [ zA 2 (.alloc 10 [.c (.lit (.int .i64 0)), .c (.lit (.int .i64 0)), .c (.str []), .nsl 1, .nsl 5])] [0, 2]) (.seq (.reg [ zM 4 0, ⟨none, some 5, .call 126 [.t 4, .k (.c (.lit (.int .i64 3)))]⟩, zA 3 (.alloc 11 [.c (.lit (.int .i64 0)), .c (.lit (.int .i64 0)), .c (.str []), .nsl 1, .nsl 5]), zS (.store true 5 (.t 3) (.t 5))] [0, 2, 3]) (.cut (.seq (.reg [ zM 6 0, ⟨none, some 7, .call 43 [.t 6, .k (.c (.lit (.int .i64 3)))]⟩, zA 8 (.bin .gtr (.t 7) (.k (.c (.lit (.int .i64 0)))))] [0, 2, 3, 8]) (.cond (.t 8) (.reg [ zM 9 0, ⟨none, some 10, .call 174 [.t 9, .k (.c (.lit (.int .i64 3)))]⟩, zS (.store true 5 (.t 3) (.t 10))] [2, 3]) .skip)) (.seq (.seq (.reg [ zA 11 (.load true 5 (.t 3)), ⟨none, some 12, .call 40 [.t 11]⟩, zA 13 (.not (.t 12))] [2, 3, 13]) (.cond (.t 13) (.seq (.reg [ zA 14 (.build [.c (.lit (.int .i64 0)), .c (.lit (.int .i64 0)), .c (.str []), .nsl 1, .nsl 5] []), zS (.store true 5 (.t 2) (.t 14))] [2]) .ret) .skip)) (.seq (.reg [ zA 15 (.load true 5 (.t 3)), zS (.store true 5 (.t 2) (.t 15))] [2]) .ret)))))
theorem K.spec_someNode : chkF Go.Proofs.Tryz.prog 122 1 1 C.spec_someNode [.cell 2 true 5] = true := by kernel_rfl
def C.spec_anyNode : ACode := (.seq (.reg [ zA 2 (.alloc 10 [.c (.lit (.int .i64 0)), .c (.lit (.int .i64 0)), .c (.str []), .nsl 1, .nsl 5])] [0, 2]) (.seq (.reg [ zM 6 0, ⟨none, some 7, .call 122 [.t 6]⟩, zA 3 (.alloc 11 [.c (.lit (.int .i64 0)), .c (.lit (.int .i64 0)), .c (.str []), .nsl 1, .nsl 5]), zS (.store true 5 (.t 3) (.t 7))] [0, 2, 3]) (.seq (.seq (.reg [ zM 8 0, ⟨none, some 9, .call 43 [.t 8, .k (.c (.lit (.int .i64 40)))]⟩] [0, 2, 3, 9]) (.block 0 (.seq (.reg [ zA 11 (.bin .eql (.t 9) (.k (.c (.lit (.int .i64 0))))), zM 10 11] [0, 2, 3, 9, 10]) (.cond (.t 10) (.reg [ zM 12 0, zA 13 (.bslice 12 1 4 [.lit (.int .i64 0)] [(0, .k (.c (.lit (.int .i64 (-1))))), (1, .k (.c (.lit (.int .i64 5)))), (2, .k (.c (.lit (.int .i64 0)))), (3, .k (.c (.lit (.int .i64 3))))]), ⟨none, some 14, .call 102 [.t 12, .t 13]⟩, zA 15 (.faddr 0 (.t 3)), zS (.store false 1 (.t 15) (.t 14))] [2, 3]) (.seq (.reg [ zA 17 (.bin .eql (.t 9) (.k (.c (.lit (.int .i64 1))))), zM 16 17] [0, 2, 3, 9, 16]) (.cond (.t 16) (.reg [ zM 18 0, zA 19 (.bslice 13 1 2 [.lit (.int .i64 0)] [(0, .k (.c (.lit (.int .i64 1)))), (1, .k (.c (.lit (.int .i64 1000000))))]), ⟨none, some 20, .call 102 [.t 18, .t 19]⟩, zA 21 (.faddr 1 (.t 3)), zS (.store false 1 (.t 21) (.t 20))] [2, 3]) (.seq (.reg [ zA 23 (.bin .eql (.t 9) (.k (.c (.lit (.int .i64 2))))), zM 22 23] [0, 2, 3, 9, 22]) (.cond (.t 22) (.reg [ zA 24 (.faddr 2 (.t 3)), zS (.store false 1 (.t 24) (.k (.c (.str [97, 98, 99, 100, 101, 102, 103, 104, 105, 106, 107, 108, 109]))))] [2, 3]) (.seq (.reg [ zA 26 (.bin .eql (.t 9) (.k (.c (.lit (.int .i64 3))))), zM 25 26] [0, 2, 3, 9, 25]) (.cond (.t 25) (.reg [ zA 27 (.faddr 3 (.t 3)), zA 28 (.load false 1 (.t 27)), zA 29 (.bslice 14 1 1 [.str []] [(0, .k (.c (.str [])))]), zA 30 (.append 15 1 16 (.t 28) (.t 29)), zA 31 (.faddr 3 (.t 3)), zS (.store false 1 (.t 31) (.t 30))] [2, 3]) (.seq (.reg [ zA 33 (.bin .eql (.t 9) (.k (.c (.lit (.int .i64 4))))), zM 32 33] [0, 2, 3, 9, 32]) (.cond (.t 32) (.reg [ zA 34 (.load true 5 (.t 3)), zA 35 (.bslice 16 5 1 [.lit (.int .i64 0), .lit (.int .i64 0), .str [], .sl 1 [], .sl 5 []] [(0, .t 34)]), zA 36 (.build [.c (.lit (.int .i64 0)), .c (.lit (.int .i64 0)), .c (.str []), .nsl 1, .nsl 5] [(0, 1, .k (.c (.lit (.int .i64 3)))), (4, 1, .t 35)]), zA 37 (.bslice 17 5 1 [.lit (.int .i64 0), .lit (.int .i64 0), .str [], .sl 1 [], .sl 5 []] [(0, .t 36)]), zA 38 (.build [.c (.lit (.int .i64 0)), .c (.lit (.int .i64 0)), .c (.str []), .nsl 1, .nsl 5] [(0, 1, .k (.c (.lit (.int .i64 3)))), (4, 1, .t 37)]), zA 39 (.bslice 18 5 1 [.lit (.int .i64 0), .lit (.int .i64 0), .str [], .sl 1 [], .sl 5 []] [(0, .t 38)]), zA 40 (.build [.c (.lit (.int .i64 0)), .c (.lit (.int .i64 0)), .c (.str []), .nsl 1, .nsl 5] [(0, 1, .k (.c (.lit (.int .i64 3)))), (4, 1, .t 39)]), zA 41 (.bslice 19 5 1 [.lit (.int .i64 0), .lit (.int .i64 0), .str [], .sl 1 [], .sl 5 []] [(0, .t 40)]), zA 42 (.build [.c (.lit (.int .i64 0)), .c (.lit (.int .i64 0)), .c (.str []), .nsl 1, .nsl 5] [(0, 1, .k (.c (.lit (.int .i64 3)))), (4, 1, .t 41)]), zS (.store true 5 (.t 3) (.t 42))] [2, 3]) (.seq (.reg [ zA 44 (.bin .eql (.t 9) (.k (.c (.lit (.int .i64 5))))), zM 43 44] [0, 2, 3, 43]) (.cond (.t 43) (.seq (.reg [ zA 45 (.bslice 20 5 0 [.lit (.int .i64 0), .lit (.int .i64 0), .str [], .sl 1 [], .sl 5 []] []), zM 4 45] [0, 2, 3, 4]) (.seq (.seq (.reg [ zA 5 (.mv (.k (.c (.lit (.int .i64 0)))))] [0, 2, 3, 4, 5]) (.block 1 (.loop (.seq (.seq (.reg [ zM 46 5, zM 47 0, ⟨none, some 48, .call 43 [.t 47, .k (.c (.lit (.int .i64 2)))]⟩, zA 49 (.bin .add (.k (.c (.lit (.int .i64 6)))) (.t 48)), zA 50 (.bin .lss (.t 46) (.t 49))] [0, 2, 3, 4, 5, 50]) (.cond (.t 50) .skip (.exit 1))) (.seq (.block 2 (.reg [ zM 53 4, zA 54 (.load true 5 (.t 3)), ⟨none, some 55, .call 88 [.t 54]⟩, zA 56 (.bslice 21 5 1 [.lit (.int .i64 0), .lit (.int .i64 0), .str [], .sl 1 [], .sl 5 []] [(0, .t 55)]), zA 57 (.append 22 5 80 (.t 53) (.t 56)), zM 4 57] [0, 2, 3, 4, 5])) (.reg [ zM 51 5, zA 52 (.bin .add (.t 51) (.k (.c (.lit (.int .i64 1))))), zM 5 52] [0, 2, 3, 4, 5])))))) (.reg [ zM 58 4, zA 59 (.build [.c (.lit (.int .i64 0)), .c (.lit (.int .i64 0)), .c (.str []), .nsl 1, .nsl 5] [(0, 1, .k (.c (.lit (.int .i64 3)))), (4, 1, .t 58)]), zS (.store true 5 (.t 3) (.t 59))] [2, 3]))) .skip)))))))))))))) (.seq (.reg [ zA 60 (.load true 5 (.t 3)), zS (.store true 5 (.t 2) (.t 60))] [2]) .ret))))
theorem K.spec_anyNode : chkF Go.Proofs.Tryz.prog 75 1 1 C.spec_anyNode [.cell 2 true 5] = true := by kernel_rfl
def C.spec_badName : ACode := (.seq (.reg [ zA 2 (.mv (.k (.c (.str []))))] [0]) (.seq (.reg [ zM 3 0, zA 4 (.bslice 10 1 5 [.str []] [(0, .k (.c (.str []))), (1, .k (.c (.str [65]))), (2, .k (.c (.str [97, 98, 99, 100, 101, 102, 103, 104, 105]))), (3, .k (.c (.str [97, 32, 98]))), (4, .k (.c (.str [97])))]), ⟨none, some 5, .call 125 [.t 3, .t 4]⟩, zM 2 5] [2]) .ret))
theorem K.spec_badName : chkF Go.Proofs.Tryz.prog 103 1 1 C.spec_badName [.tmp 2] = true := by kernel_rfl
def C.spec_copyStore : ACode := (.seq (.reg [ zA 1 (.box 10 (.t 0)), zA 2 (.alloc 11 [.nsl 7, .c (.lit (.int .i64 0))])] [1, 2]) (.seq (.reg [ zA 5 (.bslice 12 7 0 [.str [], .lit (.int .i64 0), .lit (.int .i64 0), .lit (.int .i64 0), .str [], .sl 1 [], .sl 5 []] []), zM 3 5] [1, 2, 3]) (.seq (.seq (.reg [ zA 4 (.mv (.k (.c (.lit (.int .i64 0)))))] [1, 2, 3, 4]) (.block 0 (.loop (.seq (.seq (.reg [ zM 6 4, zA 7 (.faddr 0 (.t 1)), zA 8 (.load false 1 (.t 7)), zA 9 (.len (.t 8)), zA 10 (.bin .lss (.t 6) (.t 9))] [1, 2, 3, 4, 10]) (.cond (.t 10) .skip (.exit 0))) (.seq (.block 1 (.regD [ (zM 13 3, []), (zA 14 (.faddr 0 (.t 1)), []), (zA 15 (.load false 1 (.t 14)), [1]), (zM 16 4, []), (zA 17 (.iaddr 7 (.t 15) (.t 16)), [1, 2, 3]), (zA 18 (.faddr 0 (.t 17)), [1, 2, 3, 4]), (zA 19 (.load false 1 (.t 18)), [1, 2, 3, 4, 5]), (zA 20 (.faddr 0 (.t 1)), []), (zA 21 (.load false 1 (.t 20)), [7]), (zM 22 4, []), (zA 23 (.iaddr 7 (.t 21) (.t 22)), [7, 8, 9]), (zA 24 (.faddr 1 (.t 23)), [7, 8, 9, 10]), (zA 25 (.load false 1 (.t 24)), [7, 8, 9, 10, 11]), (zA 26 (.faddr 0 (.t 1)), []), (zA 27 (.load false 1 (.t 26)), [13]), (zM 28 4, []), (zA 29 (.iaddr 7 (.t 27) (.t 28)), [13, 14, 15]), (zA 30 (.faddr 2 (.t 29)), [13, 14, 15, 16]), (zA 31 (.load true 5 (.t 30)), [13, 14, 15, 16, 17]), (⟨none, some 32, .call 88 [.t 31]⟩, [13, 14, 15, 16, 17, 18]), (zA 33 (.build [.c (.str []), .c (.lit (.int .i64 0)), .c (.lit (.int .i64 0)), .c (.lit (.int .i64 0)), .c (.str []), .nsl 1, .nsl 5] [(0, 1, .t 19), (1, 1, .t 25), (2, 5, .t 32)]), [1, 2, 3, 4, 5, 6, 7, 8, 9, 10, 11, 12, 13, 14, 15, 16, 17, 18, 19]), (zA 34 (.bslice 13 7 1 [.str [], .lit (.int .i64 0), .lit (.int .i64 0), .lit (.int .i64 0), .str [], .sl 1 [], .sl 5 []] [(0, .t 33)]), [1, 2, 3, 4, 5, 6, 7, 8, 9, 10, 11, 12, 13, 14, 15, 16, 17, 18, 19, 20]), (zA 35 (.append 14 7 104 (.t 13) (.t 34)), [0, 1, 2, 3, 4, 5, 6, 7, 8, 9, 10, 11, 12, 13, 14, 15, 16, 17, 18, 19, 20, 21]), (zM 3 35, [0, 1, 2, 3, 4, 5, 6, 7, 8, 9, 10, 11, 12, 13, 14, 15, 16, 17, 18, 19, 20, 21, 22])] [1, 2, 3, 4])) (.reg [ zM 11 4, zA 12 (.bin .add (.t 11) (.k (.c (.lit (.int .i64 1))))), zM 4 12] [1, 2, 3, 4])))))) (.seq (.reg [ zM 36 3, zA 37 (.faddr 1 (.t 1)), zA 38 (.load false 1 (.t 37)), zA 39 (.build [.nsl 7, .c (.lit (.int .i64 0))] [(0, 1, .t 36), (1, 1, .t 38)]), zS (.store true 2 (.t 2) (.t 39))] [2]) .ret))))
theorem K.spec_copyStore_r : chkF Go.Proofs.Tryz.prog 204 1 1 C.spec_copyStore [.cell 2 true 2] = true := by kernel_rfl
def C.spec_drop : ACode := (.seq (.reg [ zA 2 (.box 10 (.t 0)), zA 4 (.alloc 11 [.nsl 7, .c (.lit (.int .i64 0))])] [1, 2, 4]) (.seq (.reg [ zA 8 (.bslice 12 7 0 [.str [], .lit (.int .i64 0), .lit (.int .i64 0), .lit (.int .i64 0), .str [], .sl 1 [], .sl 5 []] []), zM 5 8] [1, 2, 4, 5]) (.seq (.reg [ zA 9 (.load true 2 (.t 2)), ⟨none, some 10, .call 204 [.t 9]⟩, zA 11 (.field false 0 1 (.t 10)), zM 6 11] [1, 2, 4, 5, 6]) (.seq (.seq (.reg [ zA 7 (.mv (.k (.c (.lit (.int .i64 0)))))] [1, 2, 4, 5, 6, 7]) (.block 0 (.loop (.seq (.seq (.reg [ zM 12 7, zM 13 6, zA 14 (.len (.t 13)), zA 15 (.bin .lss (.t 12) (.t 14))] [1, 2, 4, 5, 6, 7, 15]) (.cond (.t 15) .skip (.exit 0))) (.seq (.block 1 (.seq (.reg [ zM 18 6, zM 19 7, zA 20 (.iaddr 7 (.t 18) (.t 19)), zA 21 (.faddr 0 (.t 20)), zA 22 (.load false 1 (.t 21)), zM 23 1, zA 24 (.bin .neq (.t 22) (.t 23))] [1, 2, 4, 5, 6, 7, 24]) (.cond (.t 24) (.reg [ zM 25 5, zM 26 6, zM 27 7, zA 28 (.iaddr 7 (.t 26) (.t 27)), zA 29 (.load true 7 (.t 28)), zA 30 (.bslice 13 7 1 [.str [], .lit (.int .i64 0), .lit (.int .i64 0), .lit (.int .i64 0), .str [], .sl 1 [], .sl 5 []] [(0, .t 29)]), zA 31 (.append 14 7 104 (.t 25) (.t 30)), zM 5 31] [1, 2, 4, 5, 6, 7]) .skip))) (.reg [ zM 16 7, zA 17 (.bin .add (.t 16) (.k (.c (.lit (.int .i64 1))))), zM 7 17] [1, 2, 4, 5, 6, 7])))))) (.seq (.reg [ zM 32 5, zA 33 (.faddr 1 (.t 2)), zA 34 (.load false 1 (.t 33)), zA 35 (.bin .add (.t 34) (.k (.c (.lit (.int .i64 1))))), zA 36 (.build [.nsl 7, .c (.lit (.int .i64 0))] [(0, 1, .t 32), (1, 1, .t 35)]), zS (.store true 2 (.t 4) (.t 36))] [4]) .ret)))))
theorem K.spec_drop_r : chkF Go.Proofs.Tryz.prog 192 2 1 C.spec_drop [.cell 4 true 2] = true := by kernel_rfl
def C.spec_find : ACode := (.seq (.reg [ zA 2 (.box 10 (.t 0)), zA 4 (.mv (.k (.c (.lit (.int .i64 0)))))] [1, 2]) (.seq (.seq (.reg [ zA 5 (.mv (.k (.c (.lit (.int .i64 0)))))] [1, 2, 5]) (.block 0 (.loop (.seq (.seq (.reg [ zM 6 5, zA 7 (.faddr 0 (.t 2)), zA 8 (.load false 1 (.t 7)), zA 9 (.len (.t 8)), zA 10 (.bin .lss (.t 6) (.t 9))] [1, 2, 5, 10]) (.cond (.t 10) .skip (.exit 0))) (.seq (.block 1 (.seq (.reg [ zA 13 (.faddr 0 (.t 2)), zA 14 (.load false 1 (.t 13)), zM 15 5, zA 16 (.iaddr 7 (.t 14) (.t 15)), zA 17 (.faddr 0 (.t 16)), zA 18 (.load false 1 (.t 17)), zM 19 1, zA 20 (.bin .eql (.t 18) (.t 19))] [1, 2, 5, 20]) (.cond (.t 20) (.seq (.reg [ zM 21 5, zM 4 21] [4]) .ret) .skip))) (.reg [ zM 11 5, zA 12 (.bin .add (.t 11) (.k (.c (.lit (.int .i64 1))))), zM 5 12] [1, 2, 5])))))) (.seq (.reg [ zA 4 (.mv (.k (.c (.lit (.int .i64 (-1))))))] [4]) .ret)))
theorem K.spec_find : chkF Go.Proofs.Tryz.prog 191 2 0 C.spec_find [.tmp 4] = true := by kernel_rfl
def C.spec_validName : ACode := (.seq (.reg [ zA 2 (.mv (.k (.c (.lit (.bool false)))))] [0]) (.seq (.seq (.reg [ zA 3 (.mv (.k (.c (.lit (.int .i64 0)))))] [0, 3]) (.block 0 (.loop (.seq (.seq (.reg [ zM 4 3, zM 5 0, zA 6 (.lens (.t 5)), zA 7 (.bin .lss (.t 4) (.t 6))] [0, 3, 7]) (.cond (.t 7) .skip (.exit 0))) (.seq (.block 1 (.seq (.reg [ zM 10 0, zM 11 3, zA 12 (.idxs (.t 10) (.t 11)), zA 13 (.cint .i64 (.t 12)), ⟨none, some 14, .call 113 [.t 13, .k (.c (.lit (.int .i64 97))), .k (.c (.lit (.int .i64 122)))]⟩, zA 15 (.not (.t 14)), zM 16 15, zG 16 true 17 (.mv (.t 0)), zG 16 true 18 (.mv (.t 3)), zG 16 true 19 (.idxs (.t 17) (.t 18)), zG 16 true 20 (.cint .i64 (.t 19)), ⟨(some (16, true)), some 21, .call 113 [.t 20, .k (.c (.lit (.int .i64 48))), .k (.c (.lit (.int .i64 57)))]⟩, zG 16 true 22 (.not (.t 21)), zA 23 (.pick (.t 16) (.t 22) (.k (.c (.lit (.bool false)))))] [0, 3, 23]) (.cond (.t 23) (.seq (.reg [ zA 2 (.mv (.k (.c (.lit (.bool false)))))] [2]) .ret) .skip))) (.reg [ zM 8 3, zA 9 (.bin .add (.t 8) (.k (.c (.lit (.int .i64 1))))), zM 3 9] [0, 3])))))) (.seq (.reg [ zM 24 0, zA 25 (.lens (.t 24)), ⟨none, some 26, .call 113 [.t 25, .k (.c (.lit (.int .i64 1))), .k (.c (.lit (.int .i64 8)))]⟩, zM 2 26] [2]) .ret)))
theorem K.spec_validName : chkF Go.Proofs.Tryz.prog 112 1 0 C.spec_validName [.tmp 2] = true := by kernel_rfl
def C.spec_validStore : ACode := (.seq (.reg [ zA 1 (.box 10 (.t 0)), zA 2 (.mv (.k (.c (.lit (.bool false)))))] [1]) (.seq (.seq (.reg [ zA 3 (.mv (.k (.c (.lit (.int .i64 0)))))] [1, 3]) (.block 0 (.loop (.seq (.seq (.reg [ zM 5 3, zA 6 (.faddr 0 (.t 1)), zA 7 (.load false 1 (.t 6)), zA 8 (.len (.t 7)), zA 9 (.bin .lss (.t 5) (.t 8))] [1, 3, 9]) (.cond (.t 9) .skip (.exit 0))) (.seq (.block 1 (.seq (.reg [ zA 12 (.faddr 0 (.t 1)), zA 13 (.load false 1 (.t 12)), zM 14 3, zA 15 (.iaddr 7 (.t 13) (.t 14)), zA 16 (.load true 7 (.t 15)), zA 4 (.alloc 11 [.c (.str []), .c (.lit (.int .i64 0)), .c (.lit (.int .i64 0)), .c (.lit (.int .i64 0)), .c (.str []), .nsl 1, .nsl 5]), zS (.store true 7 (.t 4) (.t 16))] [1, 3, 4]) (.seq (.regD [ (zA 17 (.faddr 0 (.t 4)), []), (zA 18 (.load false 1 (.t 17)), [0]), (⟨none, some 19, .call 112 [.t 18]⟩, [0, 1]), (zA 20 (.not (.t 19)), [0, 1, 2]), (zM 21 20, [0, 1, 2, 3]), (zG 21 false 22 (.faddr 2 (.t 4)), [0, 1, 2, 3, 4]), (zG 21 false 23 (.load true 5 (.t 22)), [0, 1, 2, 3, 4, 5]), (⟨(some (21, false)), some 24, .call 40 [.t 23]⟩, [0, 1, 2, 3, 4, 5, 6]), (zG 21 false 25 (.not (.t 24)), [0, 1, 2, 3, 4, 5, 6, 7]), (zA 26 (.pick (.t 21) (.k (.c (.lit (.bool true)))) (.t 25)), [0, 1, 2, 3, 4, 5, 6, 7, 8]), (zM 27 26, [0, 1, 2, 3, 4, 5, 6, 7, 8, 9]), (zG 27 false 28 (.faddr 1 (.t 4)), [0, 1, 2, 3, 4, 5, 6, 7, 8, 9, 10]), (zG 27 false 29 (.load false 1 (.t 28)), [0, 1, 2, 3, 4, 5, 6, 7, 8, 9, 10, 11]), (zG 27 false 30 (.faddr 1 (.t 1)), [0, 1, 2, 3, 4, 5, 6, 7, 8, 9, 10]), (zG 27 false 31 (.load false 1 (.t 30)), [0, 1, 2, 3, 4, 5, 6, 7, 8, 9, 10, 13]), (⟨(some (27, false)), some 32, .call 113 [.t 29, .k (.c (.lit (.int .i64 1))), .t 31]⟩, [0, 1, 2, 3, 4, 5, 6, 7, 8, 9, 10, 11, 12, 13, 14]), (zG 27 false 33 (.not (.t 32)), [0, 1, 2, 3, 4, 5, 6, 7, 8, 9, 10, 11, 12, 13, 14, 15]), (zA 34 (.pick (.t 27) (.k (.c (.lit (.bool true)))) (.t 33)), [0, 1, 2, 3, 4, 5, 6, 7, 8, 9, 10, 11, 12, 13, 14, 15, 16]), (zM 35 34, [0, 1, 2, 3, 4, 5, 6, 7, 8, 9, 10, 11, 12, 13, 14, 15, 16, 17]), (zG 35 false 36 (.mv (.t 3)), [0, 1, 2, 3, 4, 5, 6, 7, 8, 9, 10, 11, 12, 13, 14, 15, 16, 17, 18]), (zG 35 false 37 (.bin .gtr (.t 36) (.k (.c (.lit (.int .i64 0))))), [0, 1, 2, 3, 4, 5, 6, 7, 8, 9, 10, 11, 12, 13, 14, 15, 16, 17, 18, 19]), (zG 35 false 38 (.mv (.t 37)), [0, 1, 2, 3, 4, 5, 6, 7, 8, 9, 10, 11, 12, 13, 14, 15, 16, 17, 18, 19, 20]), (zG 38 true 39 (.faddr 0 (.t 4)), [0, 1, 2, 3, 4, 5, 6, 7, 8, 9, 10, 11, 12, 13, 14, 15, 16, 17, 18, 19, 20, 21]), (zG 38 true 40 (.load false 1 (.t 39)), [0, 1, 2, 3, 4, 5, 6, 7, 8, 9, 10, 11, 12, 13, 14, 15, 16, 17, 18, 19, 20, 21, 22]), (zG 38 true 41 (.faddr 0 (.t 1)), [0, 1, 2, 3, 4, 5, 6, 7, 8, 9, 10, 11, 12, 13, 14, 15, 16, 17, 18, 19, 20, 21]), (zG 38 true 42 (.load false 1 (.t 41)), [0, 1, 2, 3, 4, 5, 6, 7, 8, 9, 10, 11, 12, 13, 14, 15, 16, 17, 18, 19, 20, 21, 24]), (zG 38 true 43 (.mv (.t 3)), [0, 1, 2, 3, 4, 5, 6, 7, 8, 9, 10, 11, 12, 13, 14, 15, 16, 17, 18, 19, 20, 21]), (zG 38 true 44 (.bin .sub (.t 43) (.k (.c (.lit (.int .i64 1))))), [0, 1, 2, 3, 4, 5, 6, 7, 8, 9, 10, 11, 12, 13, 14, 15, 16, 17, 18, 19, 20, 21, 26]), (zG 38 true 45 (.iaddr 7 (.t 42) (.t 44)), [0, 1, 2, 3, 4, 5, 6, 7, 8, 9, 10, 11, 12, 13, 14, 15, 16, 17, 18, 19, 20, 21, 24, 25, 26, 27]), (zG 38 true 46 (.faddr 0 (.t 45)), [0, 1, 2, 3, 4, 5, 6, 7, 8, 9, 10, 11, 12, 13, 14, 15, 16, 17, 18, 19, 20, 21, 24, 25, 26, 27, 28]), (zG 38 true 47 (.load false 1 (.t 46)), [0, 1, 2, 3, 4, 5, 6, 7, 8, 9, 10, 11, 12, 13, 14, 15, 16, 17, 18, 19, 20, 21, 24, 25, 26, 27, 28, 29]), (zG 38 true 48 (.bin .leq (.t 40) (.t 47)), [0, 1, 2, 3, 4, 5, 6, 7, 8, 9, 10, 11, 12, 13, 14, 15, 16, 17, 18, 19, 20, 21, 22, 23, 24, 25, 26, 27, 28, 29, 30]), (zG 35 false 49 (.pick (.t 38) (.t 48) (.k (.c (.lit (.bool false))))), [0, 1, 2, 3, 4, 5, 6, 7, 8, 9, 10, 11, 12, 13, 14, 15, 16, 17, 18, 19, 20, 21, 22, 23, 24, 25, 26, 27, 28, 29, 30, 31]), (zA 50 (.pick (.t 35) (.k (.c (.lit (.bool true)))) (.t 49)), [0, 1, 2, 3, 4, 5, 6, 7, 8, 9, 10, 11, 12, 13, 14, 15, 16, 17, 18, 19, 20, 21, 22, 23, 24, 25, 26, 27, 28, 29, 30, 31, 32])] [1, 3, 50]) (.cond (.t 50) (.seq (.reg [ zA 2 (.mv (.k (.c (.lit (.bool false)))))] [2]) .ret) .skip)))) (.reg [ zM 10 3, zA 11 (.bin .add (.t 10) (.k (.c (.lit (.int .i64 1))))), zM 3 11] [1, 3])))))) (.seq (.reg [ zA 51 (.faddr 0 (.t 1)), zA 52 (.load false 1 (.t 51)), zA 53 (.len (.t 52)), zA 54 (.bin .leq (.t 53) (.k (.c (.lit (.int .i64 10))))), zM 55 54, zG 55 true 56 (.faddr 1 (.t 1)), zG 55 true 57 (.load false 1 (.t 56)), ⟨(some (55, true)), some 58, .call 113 [.t 57, .k (.c (.lit (.int .i64 0))), .k (.c (.lit (.int .i64 999)))]⟩, zA 59 (.pick (.t 55) (.t 58) (.k (.c (.lit (.bool false))))), zM 2 59] [2]) .ret)))
theorem K.spec_validStore : chkF Go.Proofs.Tryz.prog 67 1 0 C.spec_validStore [.tmp 2] = true := by kernel_rfl
def C.spec_DropItem : ACode := (.seq (.reg [ zA 2 (.box 10 (.t 0)), zA 4 (.alloc 11 [.nsl 7, .c (.lit (.int .i64 0))]), zA 5 (.mv (.k (.c (.lit (.bool false)))))] [1, 2, 4]) (.seq (.seq (.reg [ zA 6 (.load true 2 (.t 2)), ⟨none, some 7, .call 67 [.t 6]⟩, zA 8 (.not (.t 7)), zM 9 8, zG 9 false 10 (.load true 2 (.t 2)), zG 9 false 11 (.mv (.t 1)), ⟨(some (9, false)), some 12, .call 191 [.t 10, .t 11]⟩, zG 9 false 13 (.bin .lss (.t 12) (.k (.c (.lit (.int .i64 0))))), zA 14 (.pick (.t 9) (.k (.c (.lit (.bool true)))) (.t 13)), zM 15 14, zG 15 false 16 (.faddr 1 (.t 2)), zG 15 false 17 (.load false 1 (.t 16)), zG 15 false 18 (.bin .eql (.t 17) (.k (.c (.lit (.int .i64 999))))), zA 19 (.pick (.t 15) (.k (.c (.lit (.bool true)))) (.t 18))] [1, 2, 4, 19]) (.cond (.t 19) (.seq (.reg [ zA 20 (.build [.nsl 7, .c (.lit (.int .i64 0))] []), zS (.store true 2 (.t 4) (.t 20)), zA 5 (.mv (.k (.c (.lit (.bool false)))))] [4, 5]) .ret) .skip)) (.seq (.reg [ zA 21 (.load true 2 (.t 2)), zM 22 1, ⟨none, some 23, .call 192 [.t 21, .t 22]⟩, zS (.store true 2 (.t 4) (.t 23)), zA 5 (.mv (.k (.c (.lit (.bool true)))))] [4, 5]) .ret)))
theorem K.spec_DropItem_r : chkF Go.Proofs.Tryz.prog 151 2 1 C.spec_DropItem [.cell 4 true 2, .tmp 5] = true := by kernel_rfl
def C.spec_put : ACode := (.seq (.reg [ zA 3 (.box 10 (.t 0)), zA 5 (.box 11 (.t 2)), zA 6 (.alloc 12 [.nsl 7, .c (.lit (.int .i64 0))])] [1, 3, 5, 6]) (.seq (.reg [ zA 12 (.bslice 13 7 0 [.str [], .lit (.int .i64 0), .lit (.int .i64 0), .lit (.int .i64 0), .str [], .sl 1 [], .sl 5 []] []), zM 7 12] [1, 3, 5, 6, 7]) (.seq (.regD [ (zM 13 1, []), (zA 14 (.faddr 1 (.t 3)), []), (zA 15 (.load false 1 (.t 14)), [1]), (zA 16 (.bin .add (.t 15) (.k (.c (.lit (.int .i64 1))))), [1, 2]), (zA 17 (.load true 5 (.t 5)), []), (⟨none, some 18, .call 88 [.t 17]⟩, [4]), (zA 19 (.build [.c (.str []), .c (.lit (.int .i64 0)), .c (.lit (.int .i64 0)), .c (.lit (.int .i64 0)), .c (.str []), .nsl 1, .nsl 5] [(0, 1, .t 13), (1, 1, .t 16), (2, 5, .t 18)]), [0, 1, 2, 3, 4, 5]), (zA 8 (.alloc 14 [.c (.str []), .c (.lit (.int .i64 0)), .c (.lit (.int .i64 0)), .c (.lit (.int .i64 0)), .c (.str []), .nsl 1, .nsl 5]), []), (zS (.store true 7 (.t 8) (.t 19)), [0, 1, 2, 3, 4, 5, 6, 7])] [1, 3, 6, 7, 8]) (.seq (.reg [ zA 20 (.load true 2 (.t 3)), ⟨none, some 21, .call 204 [.t 20]⟩, zA 22 (.field false 0 1 (.t 21)), zM 9 22] [1, 3, 6, 7, 8, 9]) (.seq (.reg [ zA 10 (.mv (.k (.c (.lit (.bool false)))))] [1, 3, 6, 7, 8, 9, 10]) (.seq (.seq (.reg [ zA 11 (.mv (.k (.c (.lit (.int .i64 0)))))] [1, 3, 6, 7, 8, 9, 10, 11]) (.block 0 (.loop (.seq (.seq (.reg [ zM 23 11, zM 24 9, zA 25 (.len (.t 24)), zA 26 (.bin .lss (.t 23) (.t 25))] [1, 3, 6, 7, 8, 9, 10, 11, 26]) (.cond (.t 26) .skip (.exit 0))) (.seq (.block 1 (.cut (.seq (.reg [ zM 29 10, zA 30 (.not (.t 29)), zM 31 30, zG 31 true 32 (.mv (.t 9)), zG 31 true 33 (.mv (.t 11)), zG 31 true 34 (.iaddr 7 (.t 32) (.t 33)), zG 31 true 35 (.faddr 0 (.t 34)), zG 31 true 36 (.load false 1 (.t 35)), zG 31 true 37 (.mv (.t 1)), zG 31 true 38 (.bin .geq (.t 36) (.t 37)), zA 39 (.pick (.t 31) (.t 38) (.k (.c (.lit (.bool false)))))] [1, 3, 6, 7, 8, 9, 10, 11, 39]) (.cond (.t 39) (.seq (.reg [ zM 40 7, zA 41 (.load true 7 (.t 8)), zA 42 (.bslice 15 7 1 [.str [], .lit (.int .i64 0), .lit (.int .i64 0), .lit (.int .i64 0), .str [], .sl 1 [], .sl 5 []] [(0, .t 41)]), zA 43 (.append 16 7 104 (.t 40) (.t 42)), zM 7 43] [1, 3, 6, 7, 8, 9, 11]) (.reg [ zA 10 (.mv (.k (.c (.lit (.bool true)))))] [1, 3, 6, 7, 8, 9, 10, 11])) .skip)) (.seq (.reg [ zM 44 9, zM 45 11, zA 46 (.iaddr 7 (.t 44) (.t 45)), zA 47 (.faddr 0 (.t 46)), zA 48 (.load false 1 (.t 47)), zM 49 1, zA 50 (.bin .neq (.t 48) (.t 49))] [1, 3, 6, 7, 8, 9, 10, 11, 50]) (.cond (.t 50) (.reg [ zM 51 7, zM 52 9, zM 53 11, zA 54 (.iaddr 7 (.t 52) (.t 53)), zA 55 (.load true 7 (.t 54)), zA 56 (.bslice 17 7 1 [.str [], .lit (.int .i64 0), .lit (.int .i64 0), .lit (.int .i64 0), .str [], .sl 1 [], .sl 5 []] [(0, .t 55)]), zA 57 (.append 18 7 104 (.t 51) (.t 56)), zM 7 57] [1, 3, 6, 7, 8, 9, 10, 11]) .skip)))) (.reg [ zM 27 11, zA 28 (.bin .add (.t 27) (.k (.c (.lit (.int .i64 1))))), zM 11 28] [1, 3, 6, 7, 8, 9, 10, 11])))))) (.seq (.seq (.reg [ zM 58 10, zA 59 (.not (.t 58))] [3, 6, 7, 8, 59]) (.cond (.t 59) (.reg [ zM 60 7, zA 61 (.load true 7 (.t 8)), zA 62 (.bslice 19 7 1 [.str [], .lit (.int .i64 0), .lit (.int .i64 0), .lit (.int .i64 0), .str [], .sl 1 [], .sl 5 []] [(0, .t 61)]), zA 63 (.append 20 7 104 (.t 60) (.t 62)), zM 7 63] [3, 6, 7]) .skip)) (.seq (.reg [ zM 64 7, zA 65 (.faddr 1 (.t 3)), zA 66 (.load false 1 (.t 65)), zA 67 (.bin .add (.t 66) (.k (.c (.lit (.int .i64 1))))), zA 68 (.build [.nsl 7, .c (.lit (.int .i64 0))] [(0, 1, .t 64), (1, 1, .t 67)]), zS (.store true 2 (.t 6) (.t 68))] [6]) .ret))))))))
theorem K.spec_put_r : chkF Go.Proofs.Tryz.prog 190 3 1 C.spec_put [.cell 6 true 2] = true := by kernel_rfl
def C.spec_PutItem : ACode := (.seq (.reg [ zA 3 (.box 10 (.t 0)), zA 5 (.box 11 (.t 2)), zA 6 (.alloc 12 [.nsl 7, .c (.lit (.int .i64 0))]), zA 7 (.mv (.k (.c (.lit (.bool false)))))] [1, 3, 5, 6]) (.seq (.seq (.reg [ zA 9 (.load true 2 (.t 3)), ⟨none, some 10, .call 67 [.t 9]⟩, zA 11 (.not (.t 10)), zM 12 11, zG 12 false 13 (.mv (.t 1)), ⟨(some (12, false)), some 14, .call 112 [.t 13]⟩, zG 12 false 15 (.not (.t 14)), zA 16 (.pick (.t 12) (.k (.c (.lit (.bool true)))) (.t 15)), zM 17 16, zG 17 false 18 (.load true 5 (.t 5)), ⟨(some (17, false)), some 19, .call 40 [.t 18]⟩, zG 17 false 20 (.not (.t 19)), zA 21 (.pick (.t 17) (.k (.c (.lit (.bool true)))) (.t 20))] [1, 3, 5, 6, 21]) (.cond (.t 21) (.seq (.reg [ zA 22 (.build [.nsl 7, .c (.lit (.int .i64 0))] []), zS (.store true 2 (.t 6) (.t 22)), zA 7 (.mv (.k (.c (.lit (.bool false)))))] [6, 7]) .ret) .skip)) (.seq (.reg [ zA 23 (.load true 2 (.t 3)), zM 24 1, zA 25 (.load true 5 (.t 5)), ⟨none, some 26, .call 190 [.t 23, .t 24, .t 25]⟩, zA 8 (.alloc 13 [.nsl 7, .c (.lit (.int .i64 0))]), zS (.store true 2 (.t 8) (.t 26))] [6, 8]) (.seq (.seq (.reg [ zA 27 (.load true 2 (.t 8)), ⟨none, some 28, .call 67 [.t 27]⟩, zA 29 (.not (.t 28))] [6, 8, 29]) (.cond (.t 29) (.seq (.reg [ zA 30 (.build [.nsl 7, .c (.lit (.int .i64 0))] []), zS (.store true 2 (.t 6) (.t 30)), zA 7 (.mv (.k (.c (.lit (.bool false)))))] [6, 7]) .ret) .skip)) (.seq (.reg [ zA 31 (.load true 2 (.t 8)), zS (.store true 2 (.t 6) (.t 31)), zA 7 (.mv (.k (.c (.lit (.bool true)))))] [6, 7]) .ret)))))
theorem K.spec_PutItem_r : chkF Go.Proofs.Tryz.prog 149 3 1 C.spec_PutItem [.cell 6 true 2, .tmp 7] = true := by kernel_rfl
def C.spec_itemName : ACode := (.seq (.reg [ zA 2 (.mv (.k (.c (.str []))))] [0]) (.seq (.reg [ zM 3 0, zA 4 (.bslice 10 1 10 [.str []] [(0, .k (.c (.str [97]))), (1, .k (.c (.str [98]))), (2, .k (.c (.str [100, 111, 99]))), (3, .k (.c (.str [122, 122]))), (4, .k (.c (.str [97, 49]))), (5, .k (.c (.str [109]))), (6, .k (.c (.str [120, 57]))), (7, .k (.c (.str [98, 111, 111, 107]))), (8, .k (.c (.str [97, 98, 99, 100, 101, 102, 103, 104]))), (9, .k (.c (.str [113])))]), ⟨none, some 5, .call 125 [.t 3, .t 4]⟩, zM 2 5] [2]) .ret))
theorem K.spec_itemName : chkF Go.Proofs.Tryz.prog 150 1 1 C.spec_itemName [.tmp 2] = true := by kernel_rfl
def C.spec_someStore : ACode := (.seq (.reg [ zA 2 (.alloc 10 [.nsl 7, .c (.lit (.int .i64 0))])] [0, 2]) (.seq (.reg [ zA 7 (.bslice 11 7 0 [.str [], .lit (.int .i64 0), .lit (.int .i64 0), .lit (.int .i64 0), .str [], .sl 1 [], .sl 5 []] []), zA 8 (.build [.nsl 7, .c (.lit (.int .i64 0))] [(0, 1, .t 7)]), zA 3 (.alloc 12 [.nsl 7, .c (.lit (.int .i64 0))]), zS (.store true 2 (.t 3) (.t 8))] [0, 2, 3]) (.seq (.seq (.reg [ zM 9 0, zA 10 (.bslice 13 1 6 [.lit (.int .i64 0)] [(0, .k (.c (.lit (.int .i64 3)))), (1, .k (.c (.lit (.int .i64 4)))), (2, .k (.c (.lit (.int .i64 2)))), (3, .k (.c (.lit (.int .i64 5)))), (4, .k (.c (.lit (.int .i64 0)))), (5, .k (.c (.lit (.int .i64 12))))]), ⟨none, some 11, .call 102 [.t 9, .t 10]⟩, zM 4 11] [0, 2, 3, 4]) (.block 0 (.loop (.seq (.seq (.reg [ zM 12 4, zA 13 (.bin .gtr (.t 12) (.k (.c (.lit (.int .i64 0)))))] [0, 2, 3, 4, 13]) (.cond (.t 13) .skip (.exit 0))) (.seq (.block 1 (.seq (.regD [ (zA 17 (.load true 2 (.t 3)), []), (zM 18 0, []), (⟨none, some 19, .call 150 [.t 18]⟩, [1]), (zM 20 0, []), (⟨none, some 21, .call 122 [.t 20]⟩, [1, 2, 3]), (⟨none, some 22, .call 149 [.t 17, .t 19, .t 21]⟩, [0, 1, 2, 3, 4]), (zM 16 22, [0, 1, 2, 3, 4, 5]), (zA 23 (.extract (.t 16) 0), [0, 1, 2, 3, 4, 5, 6]), (zA 24 (.extract (.t 16) 1), [0, 1, 2, 3, 4, 5, 6]), (zA 5 (.alloc 14 [.nsl 7, .c (.lit (.int .i64 0))]), []), (zS (.store true 2 (.t 5) (.t 23)), [0, 1, 2, 3, 4, 5, 6, 7, 9]), (zM 6 24, [0, 1, 2, 3, 4, 5, 6, 7, 8, 9, 10])] [0, 2, 3, 4, 5, 6]) (.cut (.seq (.reg [ zM 25 0, ⟨none, some 26, .call 43 [.t 25, .k (.c (.lit (.int .i64 8)))]⟩, zA 27 (.bin .eql (.t 26) (.k (.c (.lit (.int .i64 0)))))] [0, 2, 3, 4, 5, 6, 27]) (.cond (.t 27) (.regD [ (zA 29 (.load true 2 (.t 3)), []), (zM 30 0, []), (⟨none, some 31, .call 150 [.t 30]⟩, [1]), (⟨none, some 32, .call 151 [.t 29, .t 31]⟩, [0, 1, 2]), (zM 28 32, [0, 1, 2, 3]), (zA 33 (.extract (.t 28) 0), [0, 1, 2, 3, 4]), (zA 34 (.extract (.t 28) 1), [0, 1, 2, 3, 4]), (zS (.store true 2 (.t 5) (.t 33)), [0, 1, 2, 3, 4, 5]), (zM 6 34, [0, 1, 2, 3, 4, 5, 6, 7])] [0, 2, 3, 4, 5, 6]) .skip)) (.seq (.reg [ zM 35 6] [0, 2, 3, 4, 5, 35]) (.cond (.t 35) (.reg [ zA 36 (.load true 2 (.t 5)), zS (.store true 2 (.t 3) (.t 36))] [0, 2, 3, 4]) .skip))))) (.reg [ zM 14 4, zA 15 (.bin .sub (.t 14) (.k (.c (.lit (.int .i64 1))))), zM 4 15] [0, 2, 3, 4])))))) (.seq (.reg [ zA 37 (.load true 2 (.t 3)), zS (.store true 2 (.t 2) (.t 37))] [2]) .ret))))
theorem K.spec_someStore : chkF Go.Proofs.Tryz.prog 101 1 1 C.spec_someStore [.cell 2 true 2] = true := by kernel_rfl
def C.spec_anyStore : ACode := (.seq (.reg [ zA 2 (.alloc 10 [.nsl 7, .c (.lit (.int .i64 0))])] [0, 2]) (.seq (.reg [ zM 4 0, ⟨none, some 5, .call 101 [.t 4]⟩, zA 3 (.alloc 11 [.nsl 7, .c (.lit (.int .i64 0))]), zS (.store true 2 (.t 3) (.t 5))] [0, 2, 3]) (.seq (.seq (.reg [ zM 6 0, ⟨none, some 7, .call 43 [.t 6, .k (.c (.lit (.int .i64 30)))]⟩] [0, 2, 3, 7]) (.block 0 (.seq (.reg [ zA 9 (.bin .eql (.t 7) (.k (.c (.lit (.int .i64 0))))), zM 8 9] [0, 2, 3, 7, 8]) (.cond (.t 8) (.reg [ zM 10 0, zA 11 (.bslice 12 1 4 [.lit (.int .i64 0)] [(0, .k (.c (.lit (.int .i64 0)))), (1, .k (.c (.lit (.int .i64 999)))), (2, .k (.c (.lit (.int .i64 1000)))), (3, .k (.c (.lit (.int .i64 (-1)))))]), ⟨none, some 12, .call 102 [.t 10, .t 11]⟩, zA 13 (.faddr 1 (.t 3)), zS (.store false 1 (.t 13) (.t 12))] [2, 3]) (.seq (.reg [ zA 15 (.bin .eql (.t 7) (.k (.c (.lit (.int .i64 1))))), zM 14 15] [0, 2, 3, 7, 14]) (.cond (.t 14) (.regD [ (zA 16 (.faddr 0 (.t 3)), []), (zA 17 (.load false 1 (.t 16)), [0]), (zM 18 0, []), (⟨none, some 19, .call 103 [.t 18]⟩, [2]), (zA 20 (.build [.c (.str []), .c (.lit (.int .i64 0)), .c (.lit (.int .i64 0)), .c (.lit (.int .i64 0)), .c (.str []), .nsl 1, .nsl 5] [(0, 1, .t 19), (1, 1, .k (.c (.lit (.int .i64 1))))]), [2, 3]), (zA 21 (.bslice 13 7 1 [.str [], .lit (.int .i64 0), .lit (.int .i64 0), .lit (.int .i64 0), .str [], .sl 1 [], .sl 5 []] [(0, .t 20)]), [2, 3, 4]), (zA 22 (.append 14 7 104 (.t 17) (.t 21)), [0, 1, 2, 3, 4, 5]), (zA 23 (.faddr 0 (.t 3)), [0, 1, 2, 3, 4, 5, 6]), (zS (.store false 1 (.t 23) (.t 22)), [0, 1, 2, 3, 4, 5, 6, 7])] [2, 3]) (.seq (.reg [ zA 25 (.bin .eql (.t 7) (.k (.c (.lit (.int .i64 2))))), zM 24 25] [0, 2, 3, 7, 24]) (.cond (.t 24) (.seq (.reg [ zA 26 (.faddr 0 (.t 3)), zA 27 (.load false 1 (.t 26)), zA 28 (.len (.t 27)), zA 29 (.bin .gtr (.t 28) (.k (.c (.lit (.int .i64 0)))))] [0, 2, 3, 29]) (.cond (.t 29) (.regD [ (zA 30 (.faddr 0 (.t 3)), []), (zA 31 (.load false 1 (.t 30)), [0]), (zM 32 0, []), (zA 33 (.faddr 1 (.t 3)), []), (zA 34 (.load false 1 (.t 33)), [3]), (zA 35 (.bin .add (.t 34) (.k (.c (.lit (.int .i64 1))))), [3, 4]), (zA 36 (.bslice 15 1 3 [.lit (.int .i64 0)] [(0, .k (.c (.lit (.int .i64 0)))), (1, .t 35), (2, .k (.c (.lit (.int .i64 1))))]), [3, 4, 5]), (⟨none, some 37, .call 102 [.t 32, .t 36]⟩, [2, 3, 4, 5, 6]), (zA 38 (.iaddr 7 (.t 31) (.k (.c (.lit (.int .i64 0))))), [0, 1, 2, 3, 4, 5, 6, 7]), (zA 39 (.faddr 1 (.t 38)), [0, 1, 2, 3, 4, 5, 6, 7, 8]), (zS (.store false 1 (.t 39) (.t 37)), [0, 1, 2, 3, 4, 5, 6, 7, 8, 9])] [2, 3]) .skip)) (.seq (.reg [ zA 41 (.bin .eql (.t 7) (.k (.c (.lit (.int .i64 3))))), zM 40 41] [0, 2, 3, 40]) (.cond (.t 40) (.seq (.reg [ zA 42 (.faddr 0 (.t 3)), zA 43 (.load false 1 (.t 42)), zA 44 (.len (.t 43)), zA 45 (.bin .gtr (.t 44) (.k (.c (.lit (.int .i64 0)))))] [0, 2, 3, 45]) (.cond (.t 45) (.regD [ (zA 46 (.faddr 0 (.t 3)), []), (zA 47 (.load false 1 (.t 46)), [0]), (zM 48 0, []), (⟨none, some 49, .call 75 [.t 48]⟩, [2]), (zA 50 (.iaddr 7 (.t 47) (.k (.c (.lit (.int .i64 0))))), [0, 1, 2, 3]), (zA 51 (.faddr 2 (.t 50)), [0, 1, 2, 3, 4]), (zS (.store true 5 (.t 51) (.t 49)), [0, 1, 2, 3, 4, 5])] [2, 3]) .skip)) .skip)))))))))) (.seq (.reg [ zA 52 (.load true 2 (.t 3)), zS (.store true 2 (.t 2) (.t 52))] [2]) .ret))))
theorem K.spec_anyStore : chkF Go.Proofs.Tryz.prog 56 1 1 C.spec_anyStore [.cell 2 true 2] = true := by kernel_rfl
def C.spec_newReader : ACode := (.seq (.reg [ zA 2 (.mv (.k (.c (.lit (.pointer none)))))] [0]) (.seq (.seq (.reg [ zM 3 0, zA 4 (.len (.t 3)), zA 5 (.bin .gtr (.t 4) (.k (.c (.lit (.int .i64 2000)))))] [0, 5]) (.cond (.t 5) (.reg [ zM 6 0, zA 7 (.slsl 1 (.t 6) none (some (.k (.c (.lit (.int .i64 2000)))))), zM 0 7] [0]) .skip)) (.seq (.reg [ zM 8 0, zA 9 (.build [.nsl 1, .c (.lit (.int .i64 0))] [(0, 1, .t 8)]), zA 10 (.box 10 (.t 9)), zM 2 10] [2]) .ret)))
theorem K.spec_newReader : chkF Go.Proofs.Tryz.prog 37 1 0 C.spec_newReader [.tmp 2] = true := by kernel_rfl
def C.spec_all : ACode := (.seq (.reg [ zA 1 (.box 10 (.t 0)), zA 2 (.mv (.k (.nsl 1)))] [1]) (.seq (.reg [ zA 8 (.bslice 11 1 0 [.str []] []), zA 9 (.bslice 12 1 1 [.sl 1 []] [(0, .t 8)]), zM 3 9] [1, 3]) (.seq (.seq (.reg [ zA 4 (.mv (.k (.c (.lit (.int .i64 0)))))] [1, 3, 4]) (.block 0 (.loop (.seq (.seq (.reg [ zM 10 4, zA 11 (.faddr 4 (.t 1)), zA 12 (.load false 1 (.t 11)), zA 13 (.len (.t 12)), zA 14 (.bin .lss (.t 10) (.t 13))] [1, 3, 4, 14]) (.cond (.t 14) .skip (.exit 0))) (.seq (.block 1 (.seq (.reg [ zM 17 4, ⟨none, some 18, .call 135 [.t 17]⟩, zM 5 18] [1, 3, 4, 5]) (.cut (.seq (.reg [ zA 19 (.faddr 0 (.t 1)), zA 20 (.load false 1 (.t 19)), zA 21 (.bin .eql (.t 20) (.k (.c (.lit (.int .i64 4)))))] [1, 3, 4, 5, 21]) (.cond (.t 21) (.reg [ zA 22 (.faddr 3 (.t 1)), zA 23 (.load false 1 (.t 22)), zM 24 4, zA 25 (.iaddr 1 (.t 23) (.t 24)), zA 26 (.load false 1 (.t 25)), zM 5 26] [1, 3, 4, 5]) .skip)) (.seq (.reg [ zA 27 (.faddr 4 (.t 1)), zA 28 (.load false 1 (.t 27)), zM 29 4, zA 30 (.iaddr 5 (.t 28) (.t 29)), zA 31 (.load true 5 (.t 30)), ⟨none, some 32, .call 123 [.t 31]⟩, zM 6 32] [1, 3, 4, 5, 6]) (.seq (.reg [ zA 7 (.mv (.k (.c (.lit (.int .i64 0)))))] [1, 3, 4, 5, 6, 7]) (.block 2 (.loop (.seq (.seq (.reg [ zM 33 7, zM 34 6, zA 35 (.len (.t 34)), zA 36 (.bin .lss (.t 33) (.t 35))] [1, 3, 4, 5, 6, 7, 36]) (.cond (.t 36) .skip (.exit 2))) (.seq (.block 3 (.reg [ zM 39 3, zM 40 5, zA 41 (.bslice 13 1 1 [.str []] [(0, .t 40)]), zM 42 6, zM 43 7, zA 44 (.iaddr 1 (.t 42) (.t 43)), zA 45 (.load false 1 (.t 44)), zA 46 (.append 14 1 16 (.t 41) (.t 45)), zA 47 (.bslice 15 1 1 [.sl 1 []] [(0, .t 46)]), zA 48 (.append 16 1 24 (.t 39) (.t 47)), zM 3 48] [1, 3, 4, 5, 6, 7])) (.reg [ zM 37 7, zA 38 (.bin .add (.t 37) (.k (.c (.lit (.int .i64 1))))), zM 7 38] [1, 3, 4, 5, 6, 7])))))))))) (.reg [ zM 15 4, zA 16 (.bin .add (.t 15) (.k (.c (.lit (.int .i64 1))))), zM 4 16] [1, 3, 4])))))) (.seq (.reg [ zM 49 3, zM 2 49] [2]) .ret))))
theorem K.spec_all : chkF Go.Proofs.Tryz.prog 123 1 0 C.spec_all [.tmp 2] = true := by kernel_rfl
def C.spec_AllPaths : ACode := (.seq (.reg [ zA 1 (.box 10 (.t 0)), zA 2 (.mv (.k (.nsl 1)))] [1]) (.seq (.seq (.reg [ zA 3 (.load true 5 (.t 1)), ⟨none, some 4, .call 40 [.t 3]⟩, zA 5 (.not (.t 4))] [1, 5]) (.cond (.t 5) (.seq (.reg [ zA 2 (.mv (.k (.nsl 1)))] [2]) .ret) .skip)) (.seq (.reg [ zA 6 (.load true 5 (.t 1)), ⟨none, some 7, .call 123 [.t 6]⟩, zM 2 7] [2]) .ret)))
theorem K.spec_AllPaths : chkF Go.Proofs.Tryz.prog 152 1 0 C.spec_AllPaths [.tmp 2] = true := by kernel_rfl
def C.spec_anyPath : ACode := (.seq (.reg [ zA 2 (.mv (.k (.nsl 1)))] [0]) (.seq (.reg [ zA 5 (.bslice 10 1 0 [.str []] []), zM 3 5] [0, 3]) (.seq (.seq (.reg [ zM 6 0, zA 7 (.bslice 11 1 7 [.lit (.int .i64 0)] [(0, .k (.c (.lit (.int .i64 1)))), (1, .k (.c (.lit (.int .i64 2)))), (2, .k (.c (.lit (.int .i64 1)))), (3, .k (.c (.lit (.int .i64 0)))), (4, .k (.c (.lit (.int .i64 3)))), (5, .k (.c (.lit (.int .i64 5)))), (6, .k (.c (.lit (.int .i64 6))))]), ⟨none, some 8, .call 102 [.t 6, .t 7]⟩, zM 4 8] [0, 3, 4]) (.block 0 (.loop (.seq (.seq (.reg [ zM 9 4, zA 10 (.bin .gtr (.t 9) (.k (.c (.lit (.int .i64 0)))))] [0, 3, 4, 10]) (.cond (.t 10) .skip (.exit 0))) (.seq (.block 1 (.reg [ zM 13 3, zM 14 0, zA 15 (.bslice 12 1 9 [.str []] [(0, .k (.c (.str [97]))), (1, .k (.c (.str [98]))), (2, .k (.c (.str [48]))), (3, .k (.c (.str [49]))), (4, .k (.c (.str [45]))), (5, .k (.c (.str [97, 47, 98]))), (6, .k (.c (.str [126, 120]))), (7, .k (.c (.str []))), (8, .k (.c (.str [99])))]), ⟨none, some 16, .call 125 [.t 14, .t 15]⟩, zA 17 (.bslice 13 1 1 [.str []] [(0, .t 16)]), zA 18 (.append 14 1 16 (.t 13) (.t 17)), zM 3 18] [0, 3, 4])) (.reg [ zM 11 4, zA 12 (.bin .sub (.t 11) (.k (.c (.lit (.int .i64 1))))), zM 4 12] [0, 3, 4])))))) (.seq (.seq (.reg [ zM 19 3, zA 20 (.len (.t 19)), zA 21 (.bin .gtr (.t 20) (.k (.c (.lit (.int .i64 0))))), zM 22 21, zG 22 true 23 (.mv (.t 0)), ⟨(some (22, true)), some 24, .call 43 [.t 23, .k (.c (.lit (.int .i64 20)))]⟩, zG 22 true 25 (.bin .eql (.t 24) (.k (.c (.lit (.int .i64 0))))), zA 26 (.pick (.t 22) (.t 25) (.k (.c (.lit (.bool false)))))] [0, 3, 26]) (.cond (.t 26) (.reg [ zM 27 3, zM 28 0, zA 29 (.bslice 15 1 2 [.str []] [(0, .k (.c (.str [97, 98, 99, 100, 101, 102, 103, 104, 105, 106, 107, 108, 109]))), (1, .k (.c (.str [10])))]), ⟨none, some 30, .call 125 [.t 28, .t 29]⟩, zA 31 (.iaddr 1 (.t 27) (.k (.c (.lit (.int .i64 0))))), zS (.store false 1 (.t 31) (.t 30))] [3]) .skip)) (.seq (.reg [ zM 32 3, zM 2 32] [2]) .ret)))))
theorem K.spec_anyPath : chkF Go.Proofs.Tryz.prog 153 1 1 C.spec_anyPath [.tmp 2] = true := by kernel_rfl
def C.spec_pathIn : ACode := (.seq (.reg [ zA 3 (.box 10 (.t 1)), zA 4 (.mv (.k (.nsl 1)))] [0, 3]) (.seq (.reg [ zA 6 (.load true 5 (.t 3)), ⟨none, some 7, .call 152 [.t 6]⟩, zM 5 7] [0, 5]) (.seq (.seq (.reg [ zM 8 5, zA 9 (.len (.t 8)), zA 10 (.bin .gtr (.t 9) (.k (.c (.lit (.int .i64 0))))), zM 11 10, zG 11 true 12 (.mv (.t 0)), ⟨(some (11, true)), some 13, .call 43 [.t 12, .k (.c (.lit (.int .i64 4)))]⟩, zG 11 true 14 (.bin .gtr (.t 13) (.k (.c (.lit (.int .i64 0))))), zA 15 (.pick (.t 11) (.t 14) (.k (.c (.lit (.bool false)))))] [0, 5, 15]) (.cond (.t 15) (.seq (.reg [ zM 16 5, zM 17 0, zM 18 5, zA 19 (.len (.t 18)), ⟨none, some 20, .call 43 [.t 17, .t 19]⟩, zA 21 (.iaddr 1 (.t 16) (.t 20)), zA 22 (.load false 1 (.t 21)), zM 4 22] [4]) .ret) .skip)) (.seq (.reg [ zM 23 0, ⟨none, some 24, .call 153 [.t 23]⟩, zM 4 24] [4]) .ret))))
theorem K.spec_pathIn : chkF Go.Proofs.Tryz.prog 104 2 1 C.spec_pathIn [.tmp 4] = true := by kernel_rfl
def C.spec_reader_words : ACode := (.seq (.reg [ zA 2 (.mv (.k (.nsl 1)))] [0]) (.seq (.seq (.reg [ zM 3 0, ⟨none, some 4, .call 43 [.t 3, .k (.c (.lit (.int .i64 4)))]⟩, zA 5 (.bin .eql (.t 4) (.k (.c (.lit (.int .i64 0)))))] [0, 5]) (.cond (.t 5) (.seq (.reg [ zM 6 0, ⟨none, some 7, .call 153 [.t 6]⟩, zM 2 7] [2]) .ret) .skip)) (.seq (.reg [ zM 8 0, zA 9 (.bslice 10 1 4 [.str []] [(0, .k (.c (.str [97]))), (1, .k (.c (.str [98]))), (2, .k (.c (.str [99]))), (3, .k (.c (.str [48])))]), ⟨none, some 10, .call 125 [.t 8, .t 9]⟩, zA 11 (.bslice 11 1 1 [.str []] [(0, .t 10)]), zM 2 11] [2]) .ret)))
theorem K.spec_reader_words : chkF Go.Proofs.Tryz.prog 105 1 1 C.spec_reader_words [.tmp 2] = true := by kernel_rfl
def C.spec_storePath : ACode := (.seq (.reg [ zA 3 (.box 10 (.t 1)), zA 4 (.mv (.k (.nsl 1)))] [0, 3]) (.seq (.seq (.reg [ zA 5 (.faddr 0 (.t 3)), zA 6 (.load false 1 (.t 5)), zA 7 (.len (.t 6)), zA 8 (.bin .gtr (.t 7) (.k (.c (.lit (.int .i64 0))))), zM 9 8, zG 9 true 10 (.mv (.t 0)), ⟨(some (9, true)), some 11, .call 43 [.t 10, .k (.c (.lit (.int .i64 3)))]⟩, zG 9 true 12 (.bin .gtr (.t 11) (.k (.c (.lit (.int .i64 0))))), zA 13 (.pick (.t 9) (.t 12) (.k (.c (.lit (.bool false)))))] [0, 3, 13]) (.cond (.t 13) (.seq (.regD [ (zM 14 0, []), (zA 15 (.faddr 0 (.t 3)), []), (zA 16 (.load false 1 (.t 15)), [1]), (zM 17 0, []), (zA 18 (.faddr 0 (.t 3)), []), (zA 19 (.load false 1 (.t 18)), [4]), (zA 20 (.len (.t 19)), [4, 5]), (⟨none, some 21, .call 43 [.t 17, .t 20]⟩, [3, 4, 5, 6]), (zA 22 (.iaddr 7 (.t 16) (.t 21)), [1, 2, 3, 4, 5, 6, 7]), (zA 23 (.faddr 2 (.t 22)), [1, 2, 3, 4, 5, 6, 7, 8]), (zA 24 (.load true 5 (.t 23)), [1, 2, 3, 4, 5, 6, 7, 8, 9]), (⟨none, some 25, .call 104 [.t 14, .t 24]⟩, [0, 1, 2, 3, 4, 5, 6, 7, 8, 9, 10]), (zM 4 25, [0, 1, 2, 3, 4, 5, 6, 7, 8, 9, 10, 11])] [4]) .ret) .skip)) (.seq (.reg [ zM 26 0, ⟨none, some 27, .call 105 [.t 26]⟩, zM 4 27] [4]) .ret)))
theorem K.spec_storePath : chkF Go.Proofs.Tryz.prog 57 2 1 C.spec_storePath [.tmp 4] = true := by kernel_rfl
def C.spec_DrawIndexStore : ACode := (.seq (.reg [ zA 2 (.alloc 10 [.nsl 7, .c (.lit (.int .i64 0))]), zA 3 (.mv (.k (.nsl 1)))] [0, 2]) (.seq (.reg [ zM 6 0, ⟨none, some 7, .call 37 [.t 6]⟩, zM 4 7] [2, 4]) (.seq (.reg [ zM 8 4, ⟨none, some 9, .call 56 [.t 8]⟩, zA 5 (.alloc 11 [.nsl 7, .c (.lit (.int .i64 0))]), zS (.store true 2 (.t 5) (.t 9))] [2, 4, 5]) (.seq (.regD [ (zA 10 (.load true 2 (.t 5)), []), (zM 11 4, []), (zA 12 (.load true 2 (.t 5)), []), (⟨none, some 13, .call 57 [.t 11, .t 12]⟩, [1, 2]), (zS (.store true 2 (.t 2) (.t 10)), [0, 1, 2, 3]), (zM 3 13, [0, 1, 2, 3, 4])] [2, 3]) .ret))))
theorem K.spec_DrawIndexStore : chkF Go.Proofs.Tryz.prog 25 1 0 C.spec_DrawIndexStore [.cell 2 true 2, .tmp 3] = true := by kernel_rfl
end Go.Ab
end
