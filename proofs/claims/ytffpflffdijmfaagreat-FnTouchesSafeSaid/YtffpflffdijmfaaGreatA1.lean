/- The law FnTouchesSafe of the package laws answers true for every code of bytes and leaves it as it is: the abstract interpreter of the program, the printed functions and proofs, the laws of the data, the statement (part 3 of the proof). Conditions: none but what the row lists. -/
import Derived.Test.YtffpflffdijmfaaGreatV2
set_option linter.unusedVariables false
set_option linter.unusedSimpArgs false
section
namespace Go.Ab
open Go
set_option maxRecDepth 100000
set_option maxHeartbeats 4000000
set_option linter.unusedVariables false
set_option linter.unusedSimpArgs false
structure NodeT where
  Kind : Int
  Num : Int
  Text : Txt
  Names : List Txt
  Kids : List NodeT
  deriving Inhabited
mutual
def NodeT.cells : NodeT → List Cell
  | NodeT.mk x0 x1 x2 x3 x4 => [.lit (.int .i64 x0), .lit (.int .i64 x1), .str x2, .sl 1 (List.map cS x3), .sl 5 (NodeT.cellsL x4)]
def NodeT.cellsL : List NodeT → List (List Cell)
  | [] => []
  | x :: r => x.cells :: NodeT.cellsL r
end
theorem NodeT.cellsL_eq (ks : List NodeT) : NodeT.cellsL ks = List.map NodeT.cells ks := by
  induction ks with
  | nil => rfl
  | cons x r ih => simp [NodeT.cellsL, ih]
theorem NodeT.cells_eq (n : NodeT) : n.cells = [.lit (.int .i64 n.Kind), .lit (.int .i64 n.Num), .str n.Text, .sl 1 (List.map cS n.Names), .sl 5 (List.map NodeT.cells n.Kids)] := by
  cases n
  rw [NodeT.cells, NodeT.cellsL_eq]
structure OpT where
  Kind : Int
  Path : List Txt
  From : List Txt
  Value : NodeT
  deriving Inhabited
def OpT.cells (n : OpT) : List Cell := [.lit (.int .i64 n.Kind), .sl 1 (List.map cS n.Path), .sl 1 (List.map cS n.From), .lit (.int .i64 n.Value.Kind), .lit (.int .i64 n.Value.Num), .str n.Value.Text, .sl 1 (List.map cS n.Value.Names), .sl 5 (List.map NodeT.cells n.Value.Kids)]
theorem OpT.cells_eq (n : OpT) : n.cells = [.lit (.int .i64 n.Kind), .sl 1 (List.map cS n.Path), .sl 1 (List.map cS n.From), .lit (.int .i64 n.Value.Kind), .lit (.int .i64 n.Value.Num), .str n.Value.Text, .sl 1 (List.map cS n.Value.Names), .sl 5 (List.map NodeT.cells n.Value.Kids)] := rfl
structure RequestT where
  Method : Int
  Name : Txt
  Want : List Txt
  Avoid : List Txt
  Body : NodeT
  Ops : List OpT
  deriving Inhabited
def RequestT.cells (n : RequestT) : List Cell := [.lit (.int .i64 n.Method), .str n.Name, .sl 1 (List.map cS n.Want), .sl 1 (List.map cS n.Avoid), .lit (.int .i64 n.Body.Kind), .lit (.int .i64 n.Body.Num), .str n.Body.Text, .sl 1 (List.map cS n.Body.Names), .sl 5 (List.map NodeT.cells n.Body.Kids), .sl 8 (List.map OpT.cells n.Ops)]
theorem RequestT.cells_eq (n : RequestT) : n.cells = [.lit (.int .i64 n.Method), .str n.Name, .sl 1 (List.map cS n.Want), .sl 1 (List.map cS n.Avoid), .lit (.int .i64 n.Body.Kind), .lit (.int .i64 n.Body.Num), .str n.Body.Text, .sl 1 (List.map cS n.Body.Names), .sl 5 (List.map NodeT.cells n.Body.Kids), .sl 8 (List.map OpT.cells n.Ops)] := rfl
structure ReaderT where
  b : List Int
  p : Int
  deriving Inhabited
def ReaderT.cells (n : ReaderT) : List Cell := [.sl 1 (List.map cU n.b), .lit (.int .i64 n.p)]
theorem ReaderT.cells_eq (n : ReaderT) : n.cells = [.sl 1 (List.map cU n.b), .lit (.int .i64 n.p)] := rfl
structure ItemT where
  Name : Txt
  Version : Int
  Node : NodeT
  deriving Inhabited
def ItemT.cells (n : ItemT) : List Cell := [.str n.Name, .lit (.int .i64 n.Version), .lit (.int .i64 n.Node.Kind), .lit (.int .i64 n.Node.Num), .str n.Node.Text, .sl 1 (List.map cS n.Node.Names), .sl 5 (List.map NodeT.cells n.Node.Kids)]
theorem ItemT.cells_eq (n : ItemT) : n.cells = [.str n.Name, .lit (.int .i64 n.Version), .lit (.int .i64 n.Node.Kind), .lit (.int .i64 n.Node.Num), .str n.Node.Text, .sl 1 (List.map cS n.Node.Names), .sl 5 (List.map NodeT.cells n.Node.Kids)] := rfl
structure StoreT where
  Items : List ItemT
  Clock : Int
  deriving Inhabited
def StoreT.cells (n : StoreT) : List Cell := [.sl 7 (List.map ItemT.cells n.Items), .lit (.int .i64 n.Clock)]
theorem StoreT.cells_eq (n : StoreT) : n.cells = [.sl 7 (List.map ItemT.cells n.Items), .lit (.int .i64 n.Clock)] := rfl
end Go.Ab
end
section
namespace Go.Ab
open Go
set_option maxRecDepth 100000
set_option maxHeartbeats 4000000
set_option linter.unusedVariables false
set_option linter.unusedSimpArgs false
def G.cmp_isNaN_string (f : Nat) (a_x1 : Txt) : Option (Bool) := match f with
| 0 => none
| n + 1 =>
(some ((!(a_x1 == a_x1))))
def G.cmp_Less_string (f : Nat) (a_x1 : Txt) (a_y1 : Txt) : Option (Bool) := match f with
| 0 => none
| n + 1 =>
(Option.bind (G.cmp_isNaN_string n a_x1) fun v1 =>
(cond v1
(Option.bind (G.cmp_isNaN_string n a_y1) fun v2 =>
(cond v2
(some ((Op.bytesLess a_x1 a_y1)))
(some (true))))
(some ((Op.bytesLess a_x1 a_y1)))))
def G.impl_isPlainText.L1 (f : Nat) (a_s1 : Txt) (x_i2 : Int) : Option (Bool) := match f with
| 0 => none
| n + 1 =>
(cond (decide (x_i2 < ((a_s1.length : Nat) : Int)))
(chk (0 ≤ x_i2 ∧ x_i2 < ((a_s1.length : Nat) : Int))
(cond (decide ((((a_s1.getD x_i2.toNat 0).toNat : Nat) : Int) < 32))
(some (false))
(chk (0 ≤ x_i2 ∧ x_i2 < ((a_s1.length : Nat) : Int))
(cond (decide (126 < (((a_s1.getD x_i2.toNat 0).toNat : Nat) : Int)))
(some (false))
(G.impl_isPlainText.L1 n a_s1 (IntKind.wrap .i64 (x_i2 + 1)))))))
(some (true)))
def G.impl_isPlainText (f : Nat) (a_s1 : Txt) : Option (Bool) := match f with
| 0 => none
| n + 1 =>
(cond (decide (12 < ((a_s1.length : Nat) : Int)))
(some (false))
(G.impl_isPlainText.L1 n a_s1 0))
def G.impl_areNames.L1 (f : Nat) (a_names1 : List Txt) (x_t2 : Int) : Option (Bool) := match f with
| 0 => none
| n + 1 =>
(cond (decide (x_t2 < ((a_names1.length : Nat) : Int)))
(chk (0 ≤ x_t2 ∧ x_t2 < ((a_names1.length : Nat) : Int))
(Option.bind (G.impl_isPlainText n (a_names1.getD x_t2.toNat default)) fun v3 =>
(cond v3
(cond (decide (0 < x_t2))
(chk (0 ≤ (IntKind.wrap .i64 (x_t2 - 1)) ∧ (IntKind.wrap .i64 (x_t2 - 1)) < ((a_names1.length : Nat) : Int))
(cond (Op.bytesLess (a_names1.getD (IntKind.wrap .i64 (x_t2 - 1)).toNat default) (a_names1.getD x_t2.toNat default))
(G.impl_areNames.L1 n a_names1 (IntKind.wrap .i64 (x_t2 + 1)))
(some (false))))
(G.impl_areNames.L1 n a_names1 (IntKind.wrap .i64 (x_t2 + 1))))
(some (false)))))
(some (true)))
def G.impl_areNames (f : Nat) (a_names1 : List Txt) : Option (Bool) := match f with
| 0 => none
| n + 1 =>
(cond (decide (6 < ((a_names1.length : Nat) : Int)))
(some (false))
(G.impl_areNames.L1 n a_names1 0))
def G.impl_hasValidParts.K1 (f : Nat) (a_n1 : NodeT) : Option (Bool) := match f with
| 0 => none
| n + 1 =>
(cond (a_n1.Kind != 4)
(cond (decide (0 < ((a_n1.Names.length : Nat) : Int)))
(some (false))
(cond (a_n1.Kind == 0)
(some ((((a_n1.Kids.length : Nat) : Int) == 0)))
(cond (a_n1.Kind == 1)
(cond (decide ((-999999) ≤ a_n1.Num))
(cond (decide (a_n1.Num ≤ 999999))
(some ((((a_n1.Kids.length : Nat) : Int) == 0)))
(some (false)))
(some (false)))
(cond (a_n1.Kind == 2)
(Option.bind (G.impl_isPlainText n a_n1.Text) fun v1 =>
(cond v1
(some ((((a_n1.Kids.length : Nat) : Int) == 0)))
(some (false))))
(cond (a_n1.Kind == 3)
(some ((decide (((a_n1.Kids.length : Nat) : Int) ≤ 6))))
(cond (a_n1.Kind == 4)
(Option.bind (G.impl_areNames n a_n1.Names) fun v2 =>
(cond v2
(some ((((a_n1.Kids.length : Nat) : Int) == ((a_n1.Names.length : Nat) : Int))))
(some (false))))
(some (false))))))))
(cond (a_n1.Kind == 0)
(some ((((a_n1.Kids.length : Nat) : Int) == 0)))
(cond (a_n1.Kind == 1)
(cond (decide ((-999999) ≤ a_n1.Num))
(cond (decide (a_n1.Num ≤ 999999))
(some ((((a_n1.Kids.length : Nat) : Int) == 0)))
(some (false)))
(some (false)))
(cond (a_n1.Kind == 2)
(Option.bind (G.impl_isPlainText n a_n1.Text) fun v3 =>
(cond v3
(some ((((a_n1.Kids.length : Nat) : Int) == 0)))
(some (false))))
(cond (a_n1.Kind == 3)
(some ((decide (((a_n1.Kids.length : Nat) : Int) ≤ 6))))
(cond (a_n1.Kind == 4)
(Option.bind (G.impl_areNames n a_n1.Names) fun v4 =>
(cond v4
(some ((((a_n1.Kids.length : Nat) : Int) == ((a_n1.Names.length : Nat) : Int))))
(some (false))))
(some (false))))))))
def G.impl_hasValidParts (f : Nat) (a_n1 : NodeT) : Option (Bool) := match f with
| 0 => none
| n + 1 =>
(cond (a_n1.Kind != 1)
(cond (a_n1.Num != 0)
(some (false))
(cond (a_n1.Kind != 2)
(cond (a_n1.Text == [])
(G.impl_hasValidParts.K1 n a_n1)
(some (false)))
(G.impl_hasValidParts.K1 n a_n1)))
(cond (a_n1.Kind != 2)
(cond (a_n1.Text == [])
(G.impl_hasValidParts.K1 n a_n1)
(some (false)))
(G.impl_hasValidParts.K1 n a_n1)))
mutual
def G.impl_measureNode.L1 (f : Nat) (a_n1 : NodeT) (a_level1 : Int) (x_count2 : Int) (x_depth2 : Int) (x_t2 : Int) : Option (Int × Int × Bool) := match f with
| 0 => none
| n + 1 =>
(cond (decide (x_t2 < ((a_n1.Kids.length : Nat) : Int)))
(chk (0 ≤ x_t2 ∧ x_t2 < ((a_n1.Kids.length : Nat) : Int))
(Option.bind (G.impl_measureNode n (a_n1.Kids.getD x_t2.toNat default) (IntKind.wrap .i64 (a_level1 + 1))) fun v4 =>
(cond v4.2.2
(G.impl_measureNode.L1 n a_n1 a_level1 (IntKind.wrap .i64 (x_count2 + v4.1)) (if (IntKind.wrap .i64 (v4.2.1 + 1)) > x_depth2 then (IntKind.wrap .i64 (v4.2.1 + 1)) else x_depth2) (IntKind.wrap .i64 (x_t2 + 1)))
(some (0, 0, false)))))
(some (x_count2, x_depth2, true)))
def G.impl_measureNode (f : Nat) (a_n1 : NodeT) (a_level1 : Int) : Option (Int × Int × Bool) := match f with
| 0 => none
| n + 1 =>
(cond (decide (5 < a_level1))
(some (0, 0, false))
(Option.bind (G.impl_hasValidParts n a_n1) fun v1 =>
(cond v1
(G.impl_measureNode.L1 n a_n1 a_level1 1 1 0)
(some (0, 0, false)))))
end
def G.impl_ValidNode (f : Nat) (a_n1 : NodeT) : Option (Bool) := match f with
| 0 => none
| n + 1 =>
(Option.bind (G.impl_measureNode n a_n1 1) fun v1 =>
(cond v1.2.2
(some ((decide (v1.1 ≤ 40))))
(some (false))))
def G.impl_isPath.L1 (f : Nat) (a_path1 : List Txt) (x_t2 : Int) : Option (Bool) := match f with
| 0 => none
| n + 1 =>
(cond (decide (x_t2 < ((a_path1.length : Nat) : Int)))
(chk (0 ≤ x_t2 ∧ x_t2 < ((a_path1.length : Nat) : Int))
(Option.bind (G.impl_isPlainText n (a_path1.getD x_t2.toNat default)) fun v3 =>
(cond v3
(G.impl_isPath.L1 n a_path1 (IntKind.wrap .i64 (x_t2 + 1)))
(some (false)))))
(some (true)))
def G.impl_isPath (f : Nat) (a_path1 : List Txt) : Option (Bool) := match f with
| 0 => none
| n + 1 =>
(cond (decide (5 < ((a_path1.length : Nat) : Int)))
(some (false))
(G.impl_isPath.L1 n a_path1 0))
def G.impl_isOp (f : Nat) (a_o1 : OpT) : Option (Bool) := match f with
| 0 => none
| n + 1 =>
(cond (decide (1 ≤ a_o1.Kind))
(cond (decide (a_o1.Kind ≤ 6))
(Option.bind (G.impl_isPath n a_o1.Path) fun v1 =>
(cond v1
(Option.bind (G.impl_isPath n a_o1.From) fun v2 =>
(cond v2
(Option.bind (G.impl_ValidNode n a_o1.Value) fun v3 =>
(some (v3)))
(some (false))))
(some (false))))
(some (false)))
(some (false)))
def G.impl_arePatchOps.L1 (f : Nat) (a_list1 : List OpT) (x_t2 : Int) : Option (Bool) := match f with
| 0 => none
| n + 1 =>
(cond (decide (x_t2 < ((a_list1.length : Nat) : Int)))
(chk (0 ≤ x_t2 ∧ x_t2 < ((a_list1.length : Nat) : Int))
(Option.bind (G.impl_isOp n (OpT.mk ((a_list1.getD x_t2.toNat default).Kind) ((a_list1.getD x_t2.toNat default).Path) ((a_list1.getD x_t2.toNat default).From) ((a_list1.getD x_t2.toNat default).Value))) fun v3 =>
(cond v3
(G.impl_arePatchOps.L1 n a_list1 (IntKind.wrap .i64 (x_t2 + 1)))
(some (false)))))
(some (true)))
def G.impl_arePatchOps (f : Nat) (a_list1 : List OpT) : Option (Bool) := match f with
| 0 => none
| n + 1 =>
(cond (decide (12 < ((a_list1.length : Nat) : Int)))
(some (false))
(G.impl_arePatchOps.L1 n a_list1 0))
def G.internal_stringslite_IndexByte (f : Nat) (a_s1 : Txt) (a_c1 : Int) : Option (Int) := match f with
| 0 => none
| n + 1 =>
(some ((Go.Lib.indexByte a_s1 a_c1.toNat.toUInt8)))
def G.strings_IndexByte (f : Nat) (a_s1 : Txt) (a_c1 : Int) : Option (Int) := match f with
| 0 => none
| n + 1 =>
(Option.bind (G.internal_stringslite_IndexByte n a_s1 a_c1) fun v1 =>
(some (v1)))
def G.impl_isSum.L1 (f : Nat) (a_s1 : Txt) (x_i2 : Int) : Option (Bool) := match f with
| 0 => none
| n + 1 =>
(cond (decide (x_i2 < ((a_s1.length : Nat) : Int)))
(chk (0 ≤ x_i2 ∧ x_i2 < ((a_s1.length : Nat) : Int))
(Option.bind (G.strings_IndexByte n [48, 49, 50, 51, 52, 53, 54, 55, 56, 57, 97, 98, 99, 100, 101, 102] (((a_s1.getD x_i2.toNat 0).toNat : Nat) : Int)) fun v3 =>
(cond (decide (v3 < 0))
(some (false))
(G.impl_isSum.L1 n a_s1 (IntKind.wrap .i64 (x_i2 + 1))))))
(some (true)))
def G.impl_isSum (f : Nat) (a_s1 : Txt) : Option (Bool) := match f with
| 0 => none
| n + 1 =>
(cond (((a_s1.length : Nat) : Int) != 4)
(some (false))
(G.impl_isSum.L1 n a_s1 0))
def G.impl_areTags.L1 (f : Nat) (a_list1 : List Txt) (x_t2 : Int) : Option (Bool) := match f with
| 0 => none
| n + 1 =>
(cond (decide (x_t2 < ((a_list1.length : Nat) : Int)))
(chk (0 ≤ x_t2 ∧ x_t2 < ((a_list1.length : Nat) : Int))
(cond ((a_list1.getD x_t2.toNat default) == [42])
(G.impl_areTags.L1 n a_list1 (IntKind.wrap .i64 (x_t2 + 1)))
(Option.bind (G.impl_isSum n (a_list1.getD x_t2.toNat default)) fun v3 =>
(cond v3
(G.impl_areTags.L1 n a_list1 (IntKind.wrap .i64 (x_t2 + 1)))
(some (false))))))
(some (true)))
def G.impl_areTags (f : Nat) (a_list1 : List Txt) : Option (Bool) := match f with
| 0 => none
| n + 1 =>
(cond (decide (4 < ((a_list1.length : Nat) : Int)))
(some (false))
(G.impl_areTags.L1 n a_list1 0))
def G.impl_isName.L1 (f : Nat) (a_s1 : Txt) (x_i2 : Int) : Option (Bool) := match f with
| 0 => none
| n + 1 =>
(cond (decide (x_i2 < ((a_s1.length : Nat) : Int)))
(chk (0 ≤ x_i2 ∧ x_i2 < ((a_s1.length : Nat) : Int))
(cond (decide ((((a_s1.getD x_i2.toNat 0).toNat : Nat) : Int) < 97))
(chk (0 ≤ x_i2 ∧ x_i2 < ((a_s1.length : Nat) : Int))
(cond (decide ((((a_s1.getD x_i2.toNat 0).toNat : Nat) : Int) < 48))
(some (false))
(chk (0 ≤ x_i2 ∧ x_i2 < ((a_s1.length : Nat) : Int))
(cond (decide (57 < (((a_s1.getD x_i2.toNat 0).toNat : Nat) : Int)))
(some (false))
(G.impl_isName.L1 n a_s1 (IntKind.wrap .i64 (x_i2 + 1)))))))
(chk (0 ≤ x_i2 ∧ x_i2 < ((a_s1.length : Nat) : Int))
(cond (decide (122 < (((a_s1.getD x_i2.toNat 0).toNat : Nat) : Int)))
(chk (0 ≤ x_i2 ∧ x_i2 < ((a_s1.length : Nat) : Int))
(cond (decide ((((a_s1.getD x_i2.toNat 0).toNat : Nat) : Int) < 48))
(some (false))
(chk (0 ≤ x_i2 ∧ x_i2 < ((a_s1.length : Nat) : Int))
(cond (decide (57 < (((a_s1.getD x_i2.toNat 0).toNat : Nat) : Int)))
(some (false))
(G.impl_isName.L1 n a_s1 (IntKind.wrap .i64 (x_i2 + 1)))))))
(G.impl_isName.L1 n a_s1 (IntKind.wrap .i64 (x_i2 + 1)))))))
(some (true)))
def G.impl_isName (f : Nat) (a_s1 : Txt) : Option (Bool) := match f with
| 0 => none
| n + 1 =>
(cond (a_s1 == [])
(some (false))
(cond (decide (8 < ((a_s1.length : Nat) : Int)))
(some (false))
(G.impl_isName.L1 n a_s1 0)))
def G.impl_isRequest (f : Nat) (a_q1 : RequestT) : Option (Bool) := match f with
| 0 => none
| n + 1 =>
(cond (decide (1 ≤ a_q1.Method))
(cond (decide (a_q1.Method ≤ 5))
(Option.bind (G.impl_isName n a_q1.Name) fun v1 =>
(cond v1
(Option.bind (G.impl_areTags n a_q1.Want) fun v2 =>
(cond v2
(Option.bind (G.impl_areTags n a_q1.Avoid) fun v3 =>
(cond v3
(Option.bind (G.impl_ValidNode n a_q1.Body) fun v4 =>
(cond v4
(Option.bind (G.impl_arePatchOps n a_q1.Ops) fun v5 =>
(some (v5)))
(some (false))))
(some (false))))
(some (false))))
(some (false))))
(some (false)))
(some (false)))
def G.impl_IsSafe (f : Nat) (a_q1 : RequestT) : Option (Bool) := match f with
| 0 => none
| n + 1 =>
(Option.bind (G.impl_isRequest n a_q1) fun v1 =>
(cond v1
(some ((a_q1.Method == 1)))
(some (false))))
def G.impl_areRequests.L1 (f : Nat) (a_list1 : List RequestT) (x_t2 : Int) : Option (Bool) := match f with
| 0 => none
| n + 1 =>
(cond (decide (x_t2 < ((a_list1.length : Nat) : Int)))
(chk (0 ≤ x_t2 ∧ x_t2 < ((a_list1.length : Nat) : Int))
(Option.bind (G.impl_isRequest n (RequestT.mk ((a_list1.getD x_t2.toNat default).Method) ((a_list1.getD x_t2.toNat default).Name) ((a_list1.getD x_t2.toNat default).Want) ((a_list1.getD x_t2.toNat default).Avoid) ((a_list1.getD x_t2.toNat default).Body) ((a_list1.getD x_t2.toNat default).Ops))) fun v3 =>
(cond v3
(G.impl_areRequests.L1 n a_list1 (IntKind.wrap .i64 (x_t2 + 1)))
(some (false)))))
(some (true)))
def G.impl_areRequests (f : Nat) (a_list1 : List RequestT) : Option (Bool) := match f with
| 0 => none
| n + 1 =>
(cond (decide (8 < ((a_list1.length : Nat) : Int)))
(some (false))
(G.impl_areRequests.L1 n a_list1 0))
def G.slices_Compact_string.L2 (f : Nat) (m k0 k k2 : Nat) (z : List Txt) : Option (List Txt) := match f with
| 0 => none
| n + 1 =>
(chk (z.length = m ∧ k0 ≤ m)
(cond (decide ((k2 : Int) < ((m - k0 : Nat) : Int)))
(chk (1 ≤ k2 ∧ k0 + k2 < m ∧ k0 + (k2 - 1) < m ∧ k < m ∧ IntKind.wrap .i64 ((k2 : Int) - 1) = ((k2 - 1 : Nat) : Int) ∧ IntKind.wrap .i64 ((k2 : Int) + 1) = ((k2 + 1 : Nat) : Int) ∧ IntKind.wrap .i64 ((k : Int) + 1) = ((k + 1 : Nat) : Int))
(cond (z.getD (k0 + k2) default == z.getD (k0 + (k2 - 1)) default)
(G.slices_Compact_string.L2 n m k0 k (k2 + 1) z)
(G.slices_Compact_string.L2 n m k0 (k + 1) (k2 + 1) (z.set k (z.getD (k0 + k2) default)))))
(chk (k ≤ m)
(some (z.take k)))))
def G.slices_Compact_string.L1 (f : Nat) (s : List Txt) (k : Nat) : Option (List Txt) := match f with
| 0 => none
| n + 1 =>
(cond (decide ((k : Int) < ((s.length : Nat) : Int)))
(chk (1 ≤ k ∧ k < s.length ∧ k - 1 < s.length ∧ IntKind.wrap .i64 ((k : Int) - 1) = ((k - 1 : Nat) : Int) ∧ IntKind.wrap .i64 ((k : Int) + 1) = ((k + 1 : Nat) : Int))
(cond (s.getD k default == s.getD (k - 1) default)
(G.slices_Compact_string.L2 n s.length k k 1 s)
(G.slices_Compact_string.L1 n s (k + 1))))
(some s))
def G.slices_Compact_string (f : Nat) (s : List Txt) : Option (List Txt) := match f with
| 0 => none
| n + 1 => cond (decide (((s.length : Nat) : Int) < 2)) (some s) (G.slices_Compact_string.L1 n s 1)
def G.math_bits_Len64.K2 (f : Nat) (x_x2 : Int) (x_n2 : Int) : Option (Int) := match f with
| 0 => none
| n + 1 =>
(cond (decide (256 ≤ x_x2))
(chk (0 ≤ (IntKind.wrap .u8 ((Int.fdiv x_x2 (2 ^ (min 8 (IntKind.bits .u64)))))) ∧ (IntKind.wrap .u8 ((Int.fdiv x_x2 (2 ^ (min 8 (IntKind.bits .u64)))))) < ((256 : Nat) : Int))
(some ((IntKind.wrap .i64 ((IntKind.wrap .i64 (x_n2 + 8)) + (IntKind.wrap .i64 ((((([0, 1, 2, 2, 3, 3, 3, 3, 4, 4, 4, 4, 4, 4, 4, 4, 5, 5, 5, 5, 5, 5, 5, 5, 5, 5, 5, 5, 5, 5, 5, 5, 6, 6, 6, 6, 6, 6, 6, 6, 6, 6, 6, 6, 6, 6, 6, 6, 6, 6, 6, 6, 6, 6, 6, 6, 6, 6, 6, 6, 6, 6, 6, 6, 7, 7, 7, 7, 7, 7, 7, 7, 7, 7, 7, 7, 7, 7, 7, 7, 7, 7, 7, 7, 7, 7, 7, 7, 7, 7, 7, 7, 7, 7, 7, 7, 7, 7, 7, 7, 7, 7, 7, 7, 7, 7, 7, 7, 7, 7, 7, 7, 7, 7, 7, 7, 7, 7, 7, 7, 7, 7, 7, 7, 7, 7, 7, 7, 8, 8, 8, 8, 8, 8, 8, 8, 8, 8, 8, 8, 8, 8, 8, 8, 8, 8, 8, 8, 8, 8, 8, 8, 8, 8, 8, 8, 8, 8, 8, 8, 8, 8, 8, 8, 8, 8, 8, 8, 8, 8, 8, 8, 8, 8, 8, 8, 8, 8, 8, 8, 8, 8, 8, 8, 8, 8, 8, 8, 8, 8, 8, 8, 8, 8, 8, 8, 8, 8, 8, 8, 8, 8, 8, 8, 8, 8, 8, 8, 8, 8, 8, 8, 8, 8, 8, 8, 8, 8, 8, 8, 8, 8, 8, 8, 8, 8, 8, 8, 8, 8, 8, 8, 8, 8, 8, 8, 8, 8, 8, 8, 8, 8, 8, 8, 8, 8, 8, 8, 8, 8, 8, 8, 8, 8, 8, 8] : Txt).getD (IntKind.wrap .u8 ((Int.fdiv x_x2 (2 ^ (min 8 (IntKind.bits .u64)))))).toNat 0).toNat : Nat) : Int))))))))
(chk (0 ≤ (IntKind.wrap .u8 (x_x2)) ∧ (IntKind.wrap .u8 (x_x2)) < ((256 : Nat) : Int))
(some ((IntKind.wrap .i64 (x_n2 + (IntKind.wrap .i64 ((((([0, 1, 2, 2, 3, 3, 3, 3, 4, 4, 4, 4, 4, 4, 4, 4, 5, 5, 5, 5, 5, 5, 5, 5, 5, 5, 5, 5, 5, 5, 5, 5, 6, 6, 6, 6, 6, 6, 6, 6, 6, 6, 6, 6, 6, 6, 6, 6, 6, 6, 6, 6, 6, 6, 6, 6, 6, 6, 6, 6, 6, 6, 6, 6, 7, 7, 7, 7, 7, 7, 7, 7, 7, 7, 7, 7, 7, 7, 7, 7, 7, 7, 7, 7, 7, 7, 7, 7, 7, 7, 7, 7, 7, 7, 7, 7, 7, 7, 7, 7, 7, 7, 7, 7, 7, 7, 7, 7, 7, 7, 7, 7, 7, 7, 7, 7, 7, 7, 7, 7, 7, 7, 7, 7, 7, 7, 7, 7, 8, 8, 8, 8, 8, 8, 8, 8, 8, 8, 8, 8, 8, 8, 8, 8, 8, 8, 8, 8, 8, 8, 8, 8, 8, 8, 8, 8, 8, 8, 8, 8, 8, 8, 8, 8, 8, 8, 8, 8, 8, 8, 8, 8, 8, 8, 8, 8, 8, 8, 8, 8, 8, 8, 8, 8, 8, 8, 8, 8, 8, 8, 8, 8, 8, 8, 8, 8, 8, 8, 8, 8, 8, 8, 8, 8, 8, 8, 8, 8, 8, 8, 8, 8, 8, 8, 8, 8, 8, 8, 8, 8, 8, 8, 8, 8, 8, 8, 8, 8, 8, 8, 8, 8, 8, 8, 8, 8, 8, 8, 8, 8, 8, 8, 8, 8, 8, 8, 8, 8, 8, 8, 8, 8, 8, 8, 8, 8] : Txt).getD (IntKind.wrap .u8 (x_x2)).toNat 0).toNat : Nat) : Int)))))))))
def G.math_bits_Len64.K1 (f : Nat) (x_x1 : Int) (x_n1 : Int) : Option (Int) := match f with
| 0 => none
| n + 1 =>
(cond (decide (65536 ≤ x_x1))
(G.math_bits_Len64.K2 n (Int.fdiv x_x1 (2 ^ (min 16 (IntKind.bits .u64)))) (IntKind.wrap .i64 (x_n1 + 16)))
(G.math_bits_Len64.K2 n x_x1 x_n1))
def G.math_bits_Len64 (f : Nat) (a_x1 : Int) : Option (Int) := match f with
| 0 => none
| n + 1 =>
(cond (decide (4294967296 ≤ a_x1))
(G.math_bits_Len64.K1 n (Int.fdiv a_x1 (2 ^ (min 32 (IntKind.bits .u64)))) 32)
(G.math_bits_Len64.K1 n a_x1 0))
def G.math_bits_Len (f : Nat) (a_x1 : Int) : Option (Int) := match f with
| 0 => none
| n + 1 =>
(Option.bind (G.math_bits_Len64 n a_x1) fun v1 =>
(some (v1)))
mutual
def G.slices_insertionSortOrdered_string.L4 (f : Nat) (a_a1 : Int) (a_b1 : Int) (x_i2 : Int) (x_j6 : Int) (z8 : List Txt) : Option (List Txt) := match f with
| 0 => none
| n + 1 =>
(cond (decide (a_a1 < x_j6))
(chk (0 ≤ x_j6 ∧ x_j6 < ((z8.length : Nat) : Int))
(chk (0 ≤ (IntKind.wrap .i64 (x_j6 - 1)) ∧ (IntKind.wrap .i64 (x_j6 - 1)) < ((z8.length : Nat) : Int))
(Option.bind (G.cmp_Less_string n (z8.getD x_j6.toNat default) (z8.getD (IntKind.wrap .i64 (x_j6 - 1)).toNat default)) fun v9 =>
(cond v9
(chk (0 ≤ (IntKind.wrap .i64 (x_j6 - 1)) ∧ (IntKind.wrap .i64 (x_j6 - 1)) < ((z8.length : Nat) : Int))
(chk (0 ≤ x_j6 ∧ x_j6 < ((z8.length : Nat) : Int))
(chk (0 ≤ x_j6 ∧ x_j6 < ((z8.length : Nat) : Int))
(chk (0 ≤ (IntKind.wrap .i64 (x_j6 - 1)) ∧ (IntKind.wrap .i64 (x_j6 - 1)) < ((z8.length : Nat) : Int))
(G.slices_insertionSortOrdered_string.L4 n a_a1 a_b1 x_i2 (IntKind.wrap .i64 (x_j6 - 1)) ((z8.set x_j6.toNat (z8.getD (IntKind.wrap .i64 (x_j6 - 1)).toNat default)).set ((IntKind.wrap .i64 (x_j6 - 1)).toNat) (z8.getD x_j6.toNat default)))))))
(G.slices_insertionSortOrdered_string.L3 n a_a1 a_b1 (IntKind.wrap .i64 (x_i2 + 1)) z8)))))
(G.slices_insertionSortOrdered_string.L3 n a_a1 a_b1 (IntKind.wrap .i64 (x_i2 + 1)) z8))
def G.slices_insertionSortOrdered_string.L3 (f : Nat) (a_a1 : Int) (a_b1 : Int) (x_i2 : Int) (z6 : List Txt) : Option (List Txt) := match f with
| 0 => none
| n + 1 =>
(cond (decide (x_i2 < a_b1))
(G.slices_insertionSortOrdered_string.L4 n a_a1 a_b1 x_i2 x_i2 z6)
(some (z6)))
end
def G.slices_insertionSortOrdered_string (f : Nat) (a_data1 : List Txt) (a_a1 : Int) (a_b1 : Int) : Option (List Txt) := match f with
| 0 => none
| n + 1 =>
(G.slices_insertionSortOrdered_string.L3 n a_a1 a_b1 (IntKind.wrap .i64 (a_a1 + 1)) a_data1)
mutual
def G.slices_pdqsortOrdered_string.K3 (f : Nat) : Option (List Txt) := match f with
| 0 => none
| n + 1 =>
(none)
def G.slices_pdqsortOrdered_string.L2 (f : Nat) (a_data1 : List Txt) (a_a1 : Int) (a_b1 : Int) (a_limit1 : Int) : Option (List Txt) := match f with
| 0 => none
| n + 1 =>
(cond (decide ((IntKind.wrap .i64 (a_b1 - a_a1)) ≤ 12))
(Option.bind (G.slices_insertionSortOrdered_string n a_data1 a_a1 a_b1) fun v2 =>
(chk (a_data1.length = v2.length)
(some (v2))))
(cond (a_limit1 == 0)
(none)
(G.slices_pdqsortOrdered_string.K3 n)))
def G.slices_pdqsortOrdered_string (f : Nat) (a_data1 : List Txt) (a_a1 : Int) (a_b1 : Int) (a_limit1 : Int) : Option (List Txt) := match f with
| 0 => none
| n + 1 =>
(G.slices_pdqsortOrdered_string.L2 n a_data1 a_a1 a_b1 a_limit1)
end
def G.slices_Sort_string (f : Nat) (a_x1 : List Txt) : Option (List Txt) := match f with
| 0 => none
| n + 1 =>
(Option.bind (G.math_bits_Len n (IntKind.wrap .u64 (((a_x1.length : Nat) : Int)))) fun v1 =>
(Option.bind (G.slices_pdqsortOrdered_string n a_x1 0 ((a_x1.length : Nat) : Int) v1) fun v2 =>
(chk (a_x1.length = v2.length)
(some (v2)))))
def G.impl_Touches.L1 (f : Nat) (a_list1 : List RequestT) (x_t2 : Int) (z2 : List Txt) : Option (List Txt) := match f with
| 0 => none
| n + 1 =>
(cond (decide (x_t2 < ((a_list1.length : Nat) : Int)))
(chk (0 ≤ x_t2 ∧ x_t2 < ((a_list1.length : Nat) : Int))
(Option.bind (G.impl_IsSafe n (RequestT.mk ((a_list1.getD x_t2.toNat default).Method) ((a_list1.getD x_t2.toNat default).Name) ((a_list1.getD x_t2.toNat default).Want) ((a_list1.getD x_t2.toNat default).Avoid) ((a_list1.getD x_t2.toNat default).Body) ((a_list1.getD x_t2.toNat default).Ops))) fun v4 =>
(cond v4
(G.impl_Touches.L1 n a_list1 (IntKind.wrap .i64 (x_t2 + 1)) z2)
(chk ((z2.length + 1) * 18 ≤ 2 ^ 46)
(G.impl_Touches.L1 n a_list1 (IntKind.wrap .i64 (x_t2 + 1)) (z2 ++ [(a_list1.getD x_t2.toNat default).Name]))))))
(Option.bind (G.slices_Sort_string n z2) fun v5 =>
(chk (z2.length = v5.length)
(Option.bind (G.slices_Compact_string n v5) fun v6 =>
(some (v6))))))
def G.impl_Touches (f : Nat) (a_list1 : List RequestT) : Option (List Txt) := match f with
| 0 => none
| n + 1 =>
(Option.bind (G.impl_areRequests n a_list1) fun v1 =>
(cond v1
(G.impl_Touches.L1 n a_list1 0 [])
(some ([]))))
def G.laws_equalTexts.L1 (f : Nat) (a_a1 : List Txt) (a_b1 : List Txt) (x_i2 : Int) : Option (Bool) := match f with
| 0 => none
| n + 1 =>
(cond (decide (x_i2 < ((a_a1.length : Nat) : Int)))
(chk (0 ≤ x_i2 ∧ x_i2 < ((a_a1.length : Nat) : Int))
(chk (0 ≤ x_i2 ∧ x_i2 < ((a_b1.length : Nat) : Int))
(cond ((a_a1.getD x_i2.toNat default) == (a_b1.getD x_i2.toNat default))
(G.laws_equalTexts.L1 n a_a1 a_b1 (IntKind.wrap .i64 (x_i2 + 1)))
(some (false)))))
(some (true)))
def G.laws_equalTexts (f : Nat) (a_a1 : List Txt) (a_b1 : List Txt) : Option (Bool) := match f with
| 0 => none
| n + 1 =>
(cond (((a_a1.length : Nat) : Int) != ((a_b1.length : Nat) : Int))
(some (false))
(G.laws_equalTexts.L1 n a_a1 a_b1 0))
mutual
def G.spec_copyNode.L1 (f : Nat) (a_n1 : NodeT) (x_i2 : Int) (z2 : List NodeT) : Option (NodeT) := match f with
| 0 => none
| n + 1 =>
(cond (decide (x_i2 < ((a_n1.Kids.length : Nat) : Int)))
(chk (0 ≤ x_i2 ∧ x_i2 < ((a_n1.Kids.length : Nat) : Int))
(Option.bind (G.spec_copyNode n (a_n1.Kids.getD x_i2.toNat default)) fun v3 =>
(chk ((z2.length + 1) * 86 ≤ 2 ^ 46)
(G.spec_copyNode.L1 n a_n1 (IntKind.wrap .i64 (x_i2 + 1)) (z2 ++ [v3])))))
(chk (a_n1.Names.length * 18 ≤ 2 ^ 46)
(some ((NodeT.mk a_n1.Kind a_n1.Num a_n1.Text a_n1.Names z2)))))
def G.spec_copyNode (f : Nat) (a_n1 : NodeT) : Option (NodeT) := match f with
| 0 => none
| n + 1 =>
(G.spec_copyNode.L1 n a_n1 0 [])
end
def G.spec_reader_pick (f : Nat) (p_r1 : ReaderT) (a_n1 : Int) : Option (Int × ReaderT) := match f with
| 0 => none
| n + 1 =>
(cond (decide (a_n1 < 1))
(some (0, (ReaderT.mk p_r1.b (IntKind.wrap .i64 (p_r1.p + 1)))))
(cond (((p_r1.b.length : Nat) : Int) == 0)
(some (0, (ReaderT.mk p_r1.b (IntKind.wrap .i64 (p_r1.p + 1)))))
(cond (decide ((IntKind.wrap .i64 ((IntKind.wrap .i64 (p_r1.p + 1)) - 1)) < ((p_r1.b.length : Nat) : Int)))
(chk (0 ≤ (IntKind.wrap .i64 ((IntKind.wrap .i64 (p_r1.p + 1)) - 1)) ∧ (IntKind.wrap .i64 ((IntKind.wrap .i64 (p_r1.p + 1)) - 1)) < ((p_r1.b.length : Nat) : Int))
(chk (a_n1 ≠ 0)
(some ((Int.tmod (IntKind.wrap .i64 ((p_r1.b.getD (IntKind.wrap .i64 ((IntKind.wrap .i64 (p_r1.p + 1)) - 1)).toNat default))) a_n1), (ReaderT.mk p_r1.b (IntKind.wrap .i64 (p_r1.p + 1)))))))
(chk (((p_r1.b.length : Nat) : Int) ≠ 0)
(chk (0 ≤ (Int.tmod (IntKind.wrap .i64 ((IntKind.wrap .i64 (p_r1.p + 1)) - 1)) ((p_r1.b.length : Nat) : Int)) ∧ (Int.tmod (IntKind.wrap .i64 ((IntKind.wrap .i64 (p_r1.p + 1)) - 1)) ((p_r1.b.length : Nat) : Int)) < ((p_r1.b.length : Nat) : Int))
(chk (((p_r1.b.length : Nat) : Int) ≠ 0)
(chk (0 ≤ (Int.tmod (IntKind.wrap .i64 ((IntKind.wrap .i64 ((IntKind.wrap .i64 ((IntKind.wrap .i64 (p_r1.p + 1)) - 1)) * 7)) + 3)) ((p_r1.b.length : Nat) : Int)) ∧ (Int.tmod (IntKind.wrap .i64 ((IntKind.wrap .i64 ((IntKind.wrap .i64 ((IntKind.wrap .i64 (p_r1.p + 1)) - 1)) * 7)) + 3)) ((p_r1.b.length : Nat) : Int)) < ((p_r1.b.length : Nat) : Int))
(chk (((p_r1.b.length : Nat) : Int) ≠ 0)
(chk (a_n1 ≠ 0)
(some ((Int.tmod (IntKind.wrap .i64 (((BitVec.ofInt (IntKind.bits .i64) (IntKind.wrap .i64 ((IntKind.wrap .i64 ((IntKind.wrap .i64 ((IntKind.wrap .i64 ((IntKind.wrap .i64 ((p_r1.b.getD (Int.tmod (IntKind.wrap .i64 ((IntKind.wrap .i64 (p_r1.p + 1)) - 1)) ((p_r1.b.length : Nat) : Int)).toNat default))) * 131)) + (IntKind.wrap .i64 ((IntKind.wrap .i64 ((p_r1.b.getD (Int.tmod (IntKind.wrap .i64 ((IntKind.wrap .i64 ((IntKind.wrap .i64 ((IntKind.wrap .i64 (p_r1.p + 1)) - 1)) * 7)) + 3)) ((p_r1.b.length : Nat) : Int)).toNat default))) * 1117)))) + (IntKind.wrap .i64 ((IntKind.wrap .i64 ((IntKind.wrap .i64 (p_r1.p + 1)) - 1)) * 29)))) + (IntKind.wrap .i64 ((IntKind.wrap .i64 (Int.tdiv (IntKind.wrap .i64 ((IntKind.wrap .i64 (p_r1.p + 1)) - 1)) ((p_r1.b.length : Nat) : Int))) * 53)))) ^^^ BitVec.ofInt (IntKind.bits .i64) (IntKind.wrap .i64 (Int.tdiv (IntKind.wrap .i64 ((IntKind.wrap .i64 ((IntKind.wrap .i64 ((IntKind.wrap .i64 ((IntKind.wrap .i64 ((p_r1.b.getD (Int.tmod (IntKind.wrap .i64 ((IntKind.wrap .i64 (p_r1.p + 1)) - 1)) ((p_r1.b.length : Nat) : Int)).toNat default))) * 131)) + (IntKind.wrap .i64 ((IntKind.wrap .i64 ((p_r1.b.getD (Int.tmod (IntKind.wrap .i64 ((IntKind.wrap .i64 ((IntKind.wrap .i64 ((IntKind.wrap .i64 (p_r1.p + 1)) - 1)) * 7)) + 3)) ((p_r1.b.length : Nat) : Int)).toNat default))) * 1117)))) + (IntKind.wrap .i64 ((IntKind.wrap .i64 ((IntKind.wrap .i64 (p_r1.p + 1)) - 1)) * 29)))) + (IntKind.wrap .i64 ((IntKind.wrap .i64 (Int.tdiv (IntKind.wrap .i64 ((IntKind.wrap .i64 (p_r1.p + 1)) - 1)) ((p_r1.b.length : Nat) : Int))) * 53)))) 64))).toNat : Int))) a_n1), (ReaderT.mk p_r1.b (IntKind.wrap .i64 (p_r1.p + 1))))))))))))))
def G.spec_reader_one (f : Nat) (p_r1 : ReaderT) (a_list1 : List Int) : Option (Int × ReaderT) := match f with
| 0 => none
| n + 1 =>
(Option.bind (G.spec_reader_pick n p_r1 ((a_list1.length : Nat) : Int)) fun v1 =>
(chk (0 ≤ v1.1 ∧ v1.1 < ((a_list1.length : Nat) : Int))
(some ((a_list1.getD v1.1.toNat default), v1.2))))
mutual
def G.spec_decimal (f : Nat) (a_n1 : Int) : Option (Txt) := match f with
| 0 => none
| n + 1 =>
(cond (decide (a_n1 < 0))
(cond (a_n1 == (IntKind.wrap .i64 (0 - a_n1)))
(some ([45, 57, 50, 50, 51, 51, 55, 50, 48, 51, 54, 56, 53, 52, 55, 55, 53, 56, 48, 56]))
(Option.bind (G.spec_decimal n (IntKind.wrap .i64 (0 - a_n1))) fun v1 =>
(chk (1 + v1.length ≤ maxLen)
(some (([45] ++ v1))))))
(cond (decide (a_n1 < 10))
(chk (1 ≤ maxLen)
(some ([UInt8.ofNat (IntKind.wrap .u8 ((IntKind.wrap .i64 (48 + a_n1)))).toNat])))
(Option.bind (G.spec_decimal n (IntKind.wrap .i64 (Int.tdiv a_n1 10))) fun v2 =>
(chk (1 ≤ maxLen)
(chk (v2.length + 1 ≤ maxLen)
(some ((v2 ++ [UInt8.ofNat (IntKind.wrap .u8 ((IntKind.wrap .i64 (48 + (Int.tmod a_n1 10))))).toNat]))))))))
end
def G.spec_place.L1 (f : Nat) (a_n1 : NodeT) (a_step1 : Txt) (x_i2 : Int) : Option (Int) := match f with
| 0 => none
| n + 1 =>
(cond (decide (x_i2 < ((a_n1.Kids.length : Nat) : Int)))
(cond (a_n1.Kind == 4)
(chk (0 ≤ x_i2 ∧ x_i2 < ((a_n1.Names.length : Nat) : Int))
(cond ((a_n1.Names.getD x_i2.toNat default) == a_step1)
(some (x_i2))
(cond (a_n1.Kind == 3)
(Option.bind (G.spec_decimal n x_i2) fun v5 =>
(cond (v5 == a_step1)
(some (x_i2))
(G.spec_place.L1 n a_n1 a_step1 (IntKind.wrap .i64 (x_i2 + 1)))))
(G.spec_place.L1 n a_n1 a_step1 (IntKind.wrap .i64 (x_i2 + 1))))))
(cond (a_n1.Kind == 3)
(Option.bind (G.spec_decimal n x_i2) fun v6 =>
(cond (v6 == a_step1)
(some (x_i2))
(G.spec_place.L1 n a_n1 a_step1 (IntKind.wrap .i64 (x_i2 + 1)))))
(G.spec_place.L1 n a_n1 a_step1 (IntKind.wrap .i64 (x_i2 + 1)))))
(some ((-1))))
def G.spec_place (f : Nat) (a_n1 : NodeT) (a_step1 : Txt) : Option (Int) := match f with
| 0 => none
| n + 1 =>
(G.spec_place.L1 n a_n1 a_step1 0)
def G.spec_slot.L1 (f : Nat) (a_n1 : NodeT) (a_step1 : Txt) (x_i2 : Int) : Option (Int × Bool) := match f with
| 0 => none
| n + 1 =>
(cond (a_n1.Kind == 4)
(cond (decide (x_i2 ≤ ((a_n1.Kids.length : Nat) : Int)))
(cond (x_i2 == ((a_n1.Kids.length : Nat) : Int))
(some (x_i2, false))
(chk (0 ≤ x_i2 ∧ x_i2 < ((a_n1.Names.length : Nat) : Int))
(cond (Op.bytesLess a_step1 (a_n1.Names.getD x_i2.toNat default))
(some (x_i2, false))
(G.spec_slot.L1 n a_n1 a_step1 (IntKind.wrap .i64 (x_i2 + 1))))))
(some ((-1), false)))
(some ((-1), false)))
def G.spec_slot.L2 (f : Nat) (a_n1 : NodeT) (a_step1 : Txt) (x_i4 : Int) : Option (Int × Bool) := match f with
| 0 => none
| n + 1 =>
(cond (a_n1.Kind == 4)
(cond (decide (x_i4 ≤ ((a_n1.Kids.length : Nat) : Int)))
(cond (x_i4 == ((a_n1.Kids.length : Nat) : Int))
(some (x_i4, false))
(chk (0 ≤ x_i4 ∧ x_i4 < ((a_n1.Names.length : Nat) : Int))
(cond (Op.bytesLess a_step1 (a_n1.Names.getD x_i4.toNat default))
(some (x_i4, false))
(G.spec_slot.L2 n a_n1 a_step1 (IntKind.wrap .i64 (x_i4 + 1))))))
(some ((-1), false)))
(some ((-1), false)))
def G.spec_slot (f : Nat) (a_n1 : NodeT) (a_step1 : Txt) : Option (Int × Bool) := match f with
| 0 => none
| n + 1 =>
(Option.bind (G.spec_place n a_n1 a_step1) fun v1 =>
(cond (decide (0 ≤ v1))
(some (v1, (a_n1.Kind == 4)))
(cond (a_n1.Kind == 3)
(cond (a_step1 == [45])
(some (((a_n1.Kids.length : Nat) : Int), false))
(Option.bind (G.spec_decimal n ((a_n1.Kids.length : Nat) : Int)) fun v2 =>
(cond (a_step1 == v2)
(some (((a_n1.Kids.length : Nat) : Int), false))
(G.spec_slot.L1 n a_n1 a_step1 0))))
(G.spec_slot.L2 n a_n1 a_step1 0))))
def G.spec_withKid (f : Nat) (a_n1 : NodeT) (a_k1 : Int) (a_kid1 : NodeT) : Option (NodeT) := match f with
| 0 => none
| n + 1 =>
(Option.bind (G.spec_copyNode n a_n1) fun v1 =>
(Option.bind (G.spec_copyNode n a_kid1) fun v2 =>
(chk (0 ≤ a_k1 ∧ a_k1 < ((v1.Kids.length : Nat) : Int))
(some ((NodeT.mk v1.Kind v1.Num v1.Text v1.Names (v1.Kids.set a_k1.toNat v2)))))))
def G.spec_addHere (f : Nat) (a_n1 : NodeT) (a_step1 : Txt) (a_value1 : NodeT) : Option (NodeT × Bool) := match f with
| 0 => none
| n + 1 =>
(Option.bind (G.spec_slot n a_n1 a_step1) fun v1 =>
(cond (decide (v1.1 < 0))
(some ((NodeT.mk 0 0 [] [] []), false))
(cond v1.2
(Option.bind (G.spec_withKid n a_n1 v1.1 a_value1) fun v2 =>
(some (v2, true)))
(Option.bind (G.spec_copyNode n a_n1) fun v3 =>
(chk (0 ≤ 0 ∧ 0 ≤ v1.1 ∧ v1.1 ≤ ((v3.Kids.length : Nat) : Int))
(chk (((v3.Kids.take v1.1.toNat).length) * 86 ≤ 2 ^ 46)
(Option.bind (G.spec_copyNode n a_value1) fun v4 =>
(chk (((v3.Kids.take v1.1.toNat).length + 1) * 86 ≤ 2 ^ 46)
(chk (0 ≤ v1.1 ∧ v1.1 ≤ ((v3.Kids.length : Nat) : Int) ∧ ((v3.Kids.length : Nat) : Int) ≤ ((v3.Kids.length : Nat) : Int))
(chk ((((v3.Kids.take v1.1.toNat).length + 1) + (v3.Kids.drop v1.1.toNat).length) * 86 ≤ 2 ^ 46)
(cond (a_n1.Kind == 3)
(some ((NodeT.mk a_n1.Kind 0 [] [] (((v3.Kids.take v1.1.toNat) ++ [v4]) ++ (v3.Kids.drop v1.1.toNat))), true))
(chk (0 ≤ 0 ∧ 0 ≤ v1.1 ∧ v1.1 ≤ ((v3.Names.length : Nat) : Int))
(chk (((v3.Names.take v1.1.toNat).length) * 18 ≤ 2 ^ 46)
(chk (((v3.Names.take v1.1.toNat).length + 1) * 18 ≤ 2 ^ 46)
(chk (0 ≤ v1.1 ∧ v1.1 ≤ ((v3.Names.length : Nat) : Int) ∧ ((v3.Names.length : Nat) : Int) ≤ ((v3.Names.length : Nat) : Int))
(chk ((((v3.Names.take v1.1.toNat).length + 1) + (v3.Names.drop v1.1.toNat).length) * 18 ≤ 2 ^ 46)
(some ((NodeT.mk a_n1.Kind 0 [] (((v3.Names.take v1.1.toNat) ++ [a_step1]) ++ (v3.Names.drop v1.1.toNat)) (((v3.Kids.take v1.1.toNat) ++ [v4]) ++ (v3.Kids.drop v1.1.toNat))), true))))))))))))))))))
def G.spec_reader_of (f : Nat) (p_r1 : ReaderT) (a_list1 : List Txt) : Option (Txt × ReaderT) := match f with
| 0 => none
| n + 1 =>
(Option.bind (G.spec_reader_pick n p_r1 ((a_list1.length : Nat) : Int)) fun v1 =>
(chk (0 ≤ v1.1 ∧ v1.1 < ((a_list1.length : Nat) : Int))
(some ((a_list1.getD v1.1.toNat default), v1.2))))
def G.spec_someText (f : Nat) (p_r1 : ReaderT) : Option (Txt × ReaderT) := match f with
| 0 => none
| n + 1 =>
(Option.bind (G.spec_reader_of n p_r1 [[97], [98], [], [97, 98, 99], [97, 47, 98], [126], [120, 32, 121], [34, 113, 34], [98, 97, 99, 107, 92, 115], [48], [49], [97, 98, 99, 100, 101, 102, 103, 104, 105, 106, 107, 108]]) fun v1 =>
(some (v1.1, v1.2)))
def G.spec_someName (f : Nat) (p_r1 : ReaderT) : Option (Txt × ReaderT) := match f with
| 0 => none
| n + 1 =>
(Option.bind (G.spec_reader_of n p_r1 [[97], [98], [99], [100], [97, 47, 98], [126, 120], [], [107]]) fun v1 =>
(some (v1.1, v1.2)))
mutual
def G.spec_randomMap.L1 (f : Nat) (a_depth1 : Int) (x_n2 : Int) (y8 : List Int) (y9 : Int) (y10 : Int) (y11 : Int) (y12 : Txt) (y13 : List Txt) (y14 : List NodeT) : Option (NodeT × ReaderT) := match f with
| 0 => none
| n + 1 =>
(cond (decide (0 < x_n2))
(Option.bind (G.spec_someName n (ReaderT.mk y8 y9)) fun v10 =>
(Option.bind (G.spec_randomNode n v10.2 (IntKind.wrap .i64 (a_depth1 - 1))) fun v11 =>
(Option.bind (G.spec_place n (NodeT.mk y10 y11 y12 y13 y14) v10.1) fun v12 =>
(cond (decide (v12 < 0))
(Option.bind (G.spec_addHere n (NodeT.mk y10 y11 y12 y13 y14) v10.1 v11.1) fun v13 =>
(G.spec_randomMap.L1 n a_depth1 (IntKind.wrap .i64 (x_n2 - 1)) v11.2.b v11.2.p v13.1.Kind v13.1.Num v13.1.Text v13.1.Names v13.1.Kids))
(G.spec_randomMap.L1 n a_depth1 (IntKind.wrap .i64 (x_n2 - 1)) v11.2.b v11.2.p y10 y11 y12 y13 y14)))))
(some ((NodeT.mk y10 y11 y12 y13 y14), (ReaderT.mk y8 y9))))
def G.spec_randomMap (f : Nat) (p_r1 : ReaderT) (a_depth1 : Int) : Option (NodeT × ReaderT) := match f with
| 0 => none
| n + 1 =>
(Option.bind (G.spec_reader_one n p_r1 [2, 3, 1, 0, 4]) fun v1 =>
(G.spec_randomMap.L1 n a_depth1 v1.1 v1.2.b v1.2.p 4 0 [] [] []))
def G.spec_randomNode.L2 (f : Nat) (a_depth1 : Int) (x_kind1 : Int) (x_n2 : Int) (y5 : List Int) (y6 : Int) (z2 : List NodeT) : Option (NodeT × ReaderT) := match f with
| 0 => none
| n + 1 =>
(cond (decide (0 < x_n2))
(Option.bind (G.spec_randomNode n (ReaderT.mk y5 y6) (IntKind.wrap .i64 (a_depth1 - 1))) fun v9 =>
(chk ((z2.length + 1) * 86 ≤ 2 ^ 46)
(G.spec_randomNode.L2 n a_depth1 x_kind1 (IntKind.wrap .i64 (x_n2 - 1)) v9.2.b v9.2.p (z2 ++ [v9.1]))))
(some ((NodeT.mk x_kind1 0 [] [] z2), (ReaderT.mk y5 y6))))
def G.spec_randomNode.K1 (f : Nat) (a_depth1 : Int) (x_kind1 : Int) (y1 : List Int) (y2 : Int) : Option (NodeT × ReaderT) := match f with
| 0 => none
| n + 1 =>
(cond (x_kind1 == 1)
(Option.bind (G.spec_reader_pick n (ReaderT.mk y1 y2) 250) fun v3 =>
(Option.bind (G.spec_reader_one n v3.2 [0, 1, 2, 7, (-7), 999999, (-999999), v3.1]) fun v4 =>
(some ((NodeT.mk x_kind1 v4.1 [] [] []), v4.2))))
(cond (x_kind1 == 2)
(Option.bind (G.spec_someText n (ReaderT.mk y1 y2)) fun v5 =>
(some ((NodeT.mk x_kind1 0 v5.1 [] []), v5.2)))
(cond (x_kind1 == 3)
(Option.bind (G.spec_reader_pick n (ReaderT.mk y1 y2) 4) fun v6 =>
(G.spec_randomNode.L2 n a_depth1 x_kind1 v6.1 v6.2.b v6.2.p []))
(cond (x_kind1 == 4)
(Option.bind (G.spec_randomMap n (ReaderT.mk y1 y2) a_depth1) fun v10 =>
(some (v10.1, v10.2)))
(some ((NodeT.mk 0 0 [] [] []), (ReaderT.mk y1 y2)))))))
def G.spec_randomNode (f : Nat) (p_r1 : ReaderT) (a_depth1 : Int) : Option (NodeT × ReaderT) := match f with
| 0 => none
| n + 1 =>
(Option.bind (G.spec_reader_pick n p_r1 5) fun v1 =>
(cond (decide (a_depth1 ≤ 1))
(Option.bind (G.spec_reader_pick n v1.2 3) fun v11 =>
(G.spec_randomNode.K1 n a_depth1 v11.1 v11.2.b v11.2.p))
(G.spec_randomNode.K1 n a_depth1 v1.1 v1.2.b v1.2.p)))
end
mutual
def G.spec_count.L1 (f : Nat) (a_n1 : NodeT) (x_k2 : Int) (x_i2 : Int) : Option (Int) := match f with
| 0 => none
| n + 1 =>
(cond (decide (x_i2 < ((a_n1.Kids.length : Nat) : Int)))
(chk (0 ≤ x_i2 ∧ x_i2 < ((a_n1.Kids.length : Nat) : Int))
(Option.bind (G.spec_count n (a_n1.Kids.getD x_i2.toNat default)) fun v3 =>
(G.spec_count.L1 n a_n1 (IntKind.wrap .i64 (x_k2 + v3)) (IntKind.wrap .i64 (x_i2 + 1)))))
(some (x_k2)))
def G.spec_count (f : Nat) (a_n1 : NodeT) : Option (Int) := match f with
| 0 => none
| n + 1 =>
(G.spec_count.L1 n a_n1 1 0)
end
def G.spec_inRange (f : Nat) (a_n1 : Int) (a_low1 : Int) (a_high1 : Int) : Option (Bool) := match f with
| 0 => none
| n + 1 =>
(cond (decide (a_low1 ≤ a_n1))
(some ((decide (a_n1 ≤ a_high1))))
(some (false)))
def G.spec_validText.L1 (f : Nat) (a_s1 : Txt) (x_i2 : Int) : Option (Bool) := match f with
| 0 => none
| n + 1 =>
(cond (decide (x_i2 < ((a_s1.length : Nat) : Int)))
(chk (0 ≤ x_i2 ∧ x_i2 < ((a_s1.length : Nat) : Int))
(Option.bind (G.spec_inRange n (IntKind.wrap .i64 ((((a_s1.getD x_i2.toNat 0).toNat : Nat) : Int))) 32 126) fun v3 =>
(cond v3
(G.spec_validText.L1 n a_s1 (IntKind.wrap .i64 (x_i2 + 1)))
(some (false)))))
(some ((decide (((a_s1.length : Nat) : Int) ≤ 12)))))
def G.spec_validText (f : Nat) (a_s1 : Txt) : Option (Bool) := match f with
| 0 => none
| n + 1 =>
(G.spec_validText.L1 n a_s1 0)
def G.spec_names.L1 (f : Nat) (a_list1 : List Txt) (x_i2 : Int) : Option (Bool) := match f with
| 0 => none
| n + 1 =>
(cond (decide (x_i2 < ((a_list1.length : Nat) : Int)))
(chk (0 ≤ x_i2 ∧ x_i2 < ((a_list1.length : Nat) : Int))
(Option.bind (G.spec_validText n (a_list1.getD x_i2.toNat default)) fun v3 =>
(cond v3
(cond (decide (0 < x_i2))
(chk (0 ≤ x_i2 ∧ x_i2 < ((a_list1.length : Nat) : Int))
(chk (0 ≤ (IntKind.wrap .i64 (x_i2 - 1)) ∧ (IntKind.wrap .i64 (x_i2 - 1)) < ((a_list1.length : Nat) : Int))
(cond (Op.bytesLess (a_list1.getD x_i2.toNat default) (a_list1.getD (IntKind.wrap .i64 (x_i2 - 1)).toNat default))
(some (false))
(cond ((a_list1.getD x_i2.toNat default) == (a_list1.getD (IntKind.wrap .i64 (x_i2 - 1)).toNat default))
(some (false))
(G.spec_names.L1 n a_list1 (IntKind.wrap .i64 (x_i2 + 1)))))))
(G.spec_names.L1 n a_list1 (IntKind.wrap .i64 (x_i2 + 1))))
(some (false)))))
(some (true)))
def G.spec_names (f : Nat) (a_list1 : List Txt) : Option (Bool) := match f with
| 0 => none
| n + 1 =>
(G.spec_names.L1 n a_list1 0)
mutual
def G.spec_kids.L1 (f : Nat) (a_n1 : NodeT) (a_depth1 : Int) (x_i2 : Int) : Option (Bool) := match f with
| 0 => none
| n + 1 =>
(cond (decide (x_i2 < ((a_n1.Kids.length : Nat) : Int)))
(chk (0 ≤ x_i2 ∧ x_i2 < ((a_n1.Kids.length : Nat) : Int))
(Option.bind (G.spec_shape n (a_n1.Kids.getD x_i2.toNat default) (IntKind.wrap .i64 (a_depth1 - 1))) fun v3 =>
(cond v3
(G.spec_kids.L1 n a_n1 a_depth1 (IntKind.wrap .i64 (x_i2 + 1)))
(some (false)))))
(some (true)))
def G.spec_kids (f : Nat) (a_n1 : NodeT) (a_depth1 : Int) : Option (Bool) := match f with
| 0 => none
| n + 1 =>
(G.spec_kids.L1 n a_n1 a_depth1 0)
def G.spec_shape.K1 (f : Nat) (a_n1 : NodeT) (a_depth1 : Int) : Option (Bool) := match f with
| 0 => none
| n + 1 =>
(cond (a_n1.Kind == 1)
(Option.bind (G.spec_inRange n a_n1.Num (-999999) 999999) fun v1 =>
(some (v1)))
(cond (a_n1.Kind == 2)
(Option.bind (G.spec_validText n a_n1.Text) fun v2 =>
(some (v2)))
(cond (a_n1.Kind == 3)
(Option.bind (G.spec_kids n a_n1 a_depth1) fun v3 =>
(some (v3)))
(cond (a_n1.Kind == 4)
(cond (((a_n1.Names.length : Nat) : Int) == ((a_n1.Kids.length : Nat) : Int))
(Option.bind (G.spec_names n a_n1.Names) fun v4 =>
(cond v4
(Option.bind (G.spec_kids n a_n1 a_depth1) fun v5 =>
(some (v5)))
(some (false))))
(some (false)))
(some ((a_n1.Kind == 0)))))))
def G.spec_shape (f : Nat) (a_n1 : NodeT) (a_depth1 : Int) : Option (Bool) := match f with
| 0 => none
| n + 1 =>
(cond (a_depth1 == 0)
(some (false))
(cond (decide (6 < ((a_n1.Kids.length : Nat) : Int)))
(some (false))
(cond (a_n1.Kind != 1)
(cond (a_n1.Num != 0)
(some (false))
(cond (a_n1.Kind != 2)
(cond (a_n1.Text == [])
(cond (a_n1.Kind != 4)
(cond (decide (0 < ((a_n1.Names.length : Nat) : Int)))
(some (false))
(cond (decide (a_n1.Kind < 3))
(cond (decide (0 < ((a_n1.Kids.length : Nat) : Int)))
(some (false))
(G.spec_shape.K1 n a_n1 a_depth1))
(G.spec_shape.K1 n a_n1 a_depth1)))
(cond (decide (a_n1.Kind < 3))
(cond (decide (0 < ((a_n1.Kids.length : Nat) : Int)))
(some (false))
(G.spec_shape.K1 n a_n1 a_depth1))
(G.spec_shape.K1 n a_n1 a_depth1)))
(some (false)))
(cond (a_n1.Kind != 4)
(cond (decide (0 < ((a_n1.Names.length : Nat) : Int)))
(some (false))
(cond (decide (a_n1.Kind < 3))
(cond (decide (0 < ((a_n1.Kids.length : Nat) : Int)))
(some (false))
(G.spec_shape.K1 n a_n1 a_depth1))
(G.spec_shape.K1 n a_n1 a_depth1)))
(cond (decide (a_n1.Kind < 3))
(cond (decide (0 < ((a_n1.Kids.length : Nat) : Int)))
(some (false))
(G.spec_shape.K1 n a_n1 a_depth1))
(G.spec_shape.K1 n a_n1 a_depth1)))))
(cond (a_n1.Kind != 2)
(cond (a_n1.Text == [])
(cond (a_n1.Kind != 4)
(cond (decide (0 < ((a_n1.Names.length : Nat) : Int)))
(some (false))
(cond (decide (a_n1.Kind < 3))
(cond (decide (0 < ((a_n1.Kids.length : Nat) : Int)))
(some (false))
(G.spec_shape.K1 n a_n1 a_depth1))
(G.spec_shape.K1 n a_n1 a_depth1)))
(cond (decide (a_n1.Kind < 3))
(cond (decide (0 < ((a_n1.Kids.length : Nat) : Int)))
(some (false))
(G.spec_shape.K1 n a_n1 a_depth1))
(G.spec_shape.K1 n a_n1 a_depth1)))
(some (false)))
(cond (a_n1.Kind != 4)
(cond (decide (0 < ((a_n1.Names.length : Nat) : Int)))
(some (false))
(cond (decide (a_n1.Kind < 3))
(cond (decide (0 < ((a_n1.Kids.length : Nat) : Int)))
(some (false))
(G.spec_shape.K1 n a_n1 a_depth1))
(G.spec_shape.K1 n a_n1 a_depth1)))
(cond (decide (a_n1.Kind < 3))
(cond (decide (0 < ((a_n1.Kids.length : Nat) : Int)))
(some (false))
(G.spec_shape.K1 n a_n1 a_depth1))
(G.spec_shape.K1 n a_n1 a_depth1)))))))
end
def G.spec_validNode (f : Nat) (a_n1 : NodeT) : Option (Bool) := match f with
| 0 => none
| n + 1 =>
(Option.bind (G.spec_shape n a_n1 5) fun v1 =>
(cond v1
(Option.bind (G.spec_count n a_n1) fun v2 =>
(some ((decide (v2 ≤ 40)))))
(some (false))))
def G.spec_someNode.K1 (f : Nat) (y1 : List Int) (y2 : Int) (y3 : Int) (y4 : Int) (y5 : Txt) (y6 : List Txt) (y7 : List NodeT) : Option (NodeT × ReaderT) := match f with
| 0 => none
| n + 1 =>
(Option.bind (G.spec_validNode n (NodeT.mk y3 y4 y5 y6 y7)) fun v4 =>
(cond v4
(some ((NodeT.mk y3 y4 y5 y6 y7), (ReaderT.mk y1 y2)))
(some ((NodeT.mk 0 0 [] [] []), (ReaderT.mk y1 y2)))))
def G.spec_someNode (f : Nat) (p_r1 : ReaderT) : Option (NodeT × ReaderT) := match f with
| 0 => none
| n + 1 =>
(Option.bind (G.spec_randomNode n p_r1 3) fun v1 =>
(Option.bind (G.spec_reader_pick n v1.2 3) fun v5 =>
(cond (decide (0 < v5.1))
(Option.bind (G.spec_randomMap n v5.2 3) fun v6 =>
(G.spec_someNode.K1 n v6.2.b v6.2.p v6.1.Kind v6.1.Num v6.1.Text v6.1.Names v6.1.Kids))
(G.spec_someNode.K1 n v5.2.b v5.2.p v1.1.Kind v1.1.Num v1.1.Text v1.1.Names v1.1.Kids))))
def G.spec_anyNode.L1 (f : Nat) (v1 : NodeT × ReaderT) (x_i2 : Int) (y3 : List Int) (y4 : Int) (z2 : List NodeT) : Option (NodeT × ReaderT) := match f with
| 0 => none
| n + 1 =>
(Option.bind (G.spec_reader_pick n (ReaderT.mk y3 y4) 2) fun v9 =>
(cond (decide (x_i2 < (IntKind.wrap .i64 (6 + v9.1))))
(Option.bind (G.spec_copyNode n v1.1) fun v10 =>
(chk ((z2.length + 1) * 86 ≤ 2 ^ 46)
(G.spec_anyNode.L1 n v1 (IntKind.wrap .i64 (x_i2 + 1)) v9.2.b v9.2.p (z2 ++ [v10]))))
(some ((NodeT.mk 3 0 [] [] z2), v9.2))))
def G.spec_anyNode (f : Nat) (p_r1 : ReaderT) : Option (NodeT × ReaderT) := match f with
| 0 => none
| n + 1 =>
(Option.bind (G.spec_someNode n p_r1) fun v1 =>
(Option.bind (G.spec_reader_pick n v1.2 40) fun v2 =>
(cond (v2.1 == 0)
(Option.bind (G.spec_reader_one n v2.2 [(-1), 5, 0, 3]) fun v3 =>
(some ((NodeT.mk v3.1 v1.1.Num v1.1.Text v1.1.Names v1.1.Kids), v3.2)))
(cond (v2.1 == 1)
(Option.bind (G.spec_reader_one n v2.2 [1, 1000000]) fun v4 =>
(some ((NodeT.mk v1.1.Kind v4.1 v1.1.Text v1.1.Names v1.1.Kids), v4.2)))
(cond (v2.1 == 2)
(some ((NodeT.mk v1.1.Kind v1.1.Num [97, 98, 99, 100, 101, 102, 103, 104, 105, 106, 107, 108, 109] v1.1.Names v1.1.Kids), v2.2))
(cond (v2.1 == 3)
(chk ((v1.1.Names.length + 1) * 18 ≤ 2 ^ 46)
(some ((NodeT.mk v1.1.Kind v1.1.Num v1.1.Text (v1.1.Names ++ [[]]) v1.1.Kids), v2.2)))
(cond (v2.1 == 4)
(some ((NodeT.mk 3 0 [] [] [(NodeT.mk 3 0 [] [] [(NodeT.mk 3 0 [] [] [(NodeT.mk 3 0 [] [] [v1.1])])])]), v2.2))
(cond (v2.1 == 5)
(G.spec_anyNode.L1 n v1 0 v2.2.b v2.2.p [])
(some (v1.1, v2.2))))))))))
def G.spec_badName (f : Nat) (p_r1 : ReaderT) : Option (Txt × ReaderT) := match f with
| 0 => none
| n + 1 =>
(Option.bind (G.spec_reader_of n p_r1 [[], [65], [97, 98, 99, 100, 101, 102, 103, 104, 105], [97, 32, 98], [97]]) fun v1 =>
(some (v1.1, v1.2)))
def G.spec_copyStore.L1 (f : Nat) (a_s1 : StoreT) (x_i2 : Int) (z2 : List ItemT) : Option (StoreT) := match f with
| 0 => none
| n + 1 =>
(cond (decide (x_i2 < ((a_s1.Items.length : Nat) : Int)))
(chk (0 ≤ x_i2 ∧ x_i2 < ((a_s1.Items.length : Nat) : Int))
(chk (0 ≤ x_i2 ∧ x_i2 < ((a_s1.Items.length : Nat) : Int))
(chk (0 ≤ x_i2 ∧ x_i2 < ((a_s1.Items.length : Nat) : Int))
(Option.bind (G.spec_copyNode n ((a_s1.Items.getD x_i2.toNat default).Node)) fun v3 =>
(chk ((z2.length + 1) * 112 ≤ 2 ^ 46)
(G.spec_copyStore.L1 n a_s1 (IntKind.wrap .i64 (x_i2 + 1)) (z2 ++ [(ItemT.mk ((a_s1.Items.getD x_i2.toNat default).Name) ((a_s1.Items.getD x_i2.toNat default).Version) v3)])))))))
(some ((StoreT.mk z2 a_s1.Clock))))
def G.spec_copyStore (f : Nat) (a_s1 : StoreT) : Option (StoreT) := match f with
| 0 => none
| n + 1 =>
(G.spec_copyStore.L1 n a_s1 0 [])
def G.spec_find.L1 (f : Nat) (a_s1 : StoreT) (a_name1 : Txt) (x_i2 : Int) : Option (Int) := match f with
| 0 => none
| n + 1 =>
(cond (decide (x_i2 < ((a_s1.Items.length : Nat) : Int)))
(chk (0 ≤ x_i2 ∧ x_i2 < ((a_s1.Items.length : Nat) : Int))
(cond ((a_s1.Items.getD x_i2.toNat default).Name == a_name1)
(some (x_i2))
(G.spec_find.L1 n a_s1 a_name1 (IntKind.wrap .i64 (x_i2 + 1)))))
(some ((-1))))
def G.spec_find (f : Nat) (a_s1 : StoreT) (a_name1 : Txt) : Option (Int) := match f with
| 0 => none
| n + 1 =>
(G.spec_find.L1 n a_s1 a_name1 0)
def G.spec_validName.L1 (f : Nat) (a_s1 : Txt) (x_i2 : Int) : Option (Bool) := match f with
| 0 => none
| n + 1 =>
(cond (decide (x_i2 < ((a_s1.length : Nat) : Int)))
(chk (0 ≤ x_i2 ∧ x_i2 < ((a_s1.length : Nat) : Int))
(Option.bind (G.spec_inRange n (IntKind.wrap .i64 ((((a_s1.getD x_i2.toNat 0).toNat : Nat) : Int))) 97 122) fun v5 =>
(cond v5
(G.spec_validName.L1 n a_s1 (IntKind.wrap .i64 (x_i2 + 1)))
(chk (0 ≤ x_i2 ∧ x_i2 < ((a_s1.length : Nat) : Int))
(Option.bind (G.spec_inRange n (IntKind.wrap .i64 ((((a_s1.getD x_i2.toNat 0).toNat : Nat) : Int))) 48 57) fun v6 =>
(cond v6
(G.spec_validName.L1 n a_s1 (IntKind.wrap .i64 (x_i2 + 1)))
(some (false))))))))
(Option.bind (G.spec_inRange n ((a_s1.length : Nat) : Int) 1 8) fun v7 =>
(some (v7))))
def G.spec_validName (f : Nat) (a_s1 : Txt) : Option (Bool) := match f with
| 0 => none
| n + 1 =>
(G.spec_validName.L1 n a_s1 0)
def G.spec_validStore.L1 (f : Nat) (a_s1 : StoreT) (x_i2 : Int) : Option (Bool) := match f with
| 0 => none
| n + 1 =>
(cond (decide (x_i2 < ((a_s1.Items.length : Nat) : Int)))
(chk (0 ≤ x_i2 ∧ x_i2 < ((a_s1.Items.length : Nat) : Int))
(Option.bind (G.spec_validName n ((a_s1.Items.getD x_i2.toNat default).Name)) fun v7 =>
(cond v7
(Option.bind (G.spec_validNode n ((a_s1.Items.getD x_i2.toNat default).Node)) fun v8 =>
(cond v8
(Option.bind (G.spec_inRange n ((a_s1.Items.getD x_i2.toNat default).Version) 1 a_s1.Clock) fun v9 =>
(cond v9
(cond (decide (0 < x_i2))
(chk (0 ≤ (IntKind.wrap .i64 (x_i2 - 1)) ∧ (IntKind.wrap .i64 (x_i2 - 1)) < ((a_s1.Items.length : Nat) : Int))
(cond (Op.bytesLess ((a_s1.Items.getD x_i2.toNat default).Name) ((a_s1.Items.getD (IntKind.wrap .i64 (x_i2 - 1)).toNat default).Name))
(some (false))
(cond ((a_s1.Items.getD x_i2.toNat default).Name == (a_s1.Items.getD (IntKind.wrap .i64 (x_i2 - 1)).toNat default).Name)
(some (false))
(G.spec_validStore.L1 n a_s1 (IntKind.wrap .i64 (x_i2 + 1))))))
(G.spec_validStore.L1 n a_s1 (IntKind.wrap .i64 (x_i2 + 1))))
(some (false))))
(some (false))))
(some (false)))))
(cond (decide (((a_s1.Items.length : Nat) : Int) ≤ 10))
(Option.bind (G.spec_inRange n a_s1.Clock 0 999) fun v10 =>
(some (v10)))
(some (false))))
def G.spec_validStore (f : Nat) (a_s1 : StoreT) : Option (Bool) := match f with
| 0 => none
| n + 1 =>
(G.spec_validStore.L1 n a_s1 0)
def G.spec_GetItem (f : Nat) (a_s1 : StoreT) (a_name1 : Txt) : Option (ItemT × Bool) := match f with
| 0 => none
| n + 1 =>
(Option.bind (G.spec_validStore n a_s1) fun v1 =>
(cond v1
(Option.bind (G.spec_find n a_s1 a_name1) fun v2 =>
(cond (decide (v2 < 0))
(some ((ItemT.mk [] 0 (NodeT.mk 0 0 [] [] [])), false))
(Option.bind (G.spec_copyStore n a_s1) fun v3 =>
(Option.bind (G.spec_find n a_s1 a_name1) fun v4 =>
(chk (0 ≤ v4 ∧ v4 < ((v3.Items.length : Nat) : Int))
(some ((ItemT.mk ((v3.Items.getD v4.toNat default).Name) ((v3.Items.getD v4.toNat default).Version) ((v3.Items.getD v4.toNat default).Node)), true)))))))
(some ((ItemT.mk [] 0 (NodeT.mk 0 0 [] [] [])), false))))
def G.spec_quote.L1 (f : Nat) (a_s1 : Txt) (x_out2 : Txt) (x_i2 : Int) : Option (Txt) := match f with
| 0 => none
| n + 1 =>
(cond (decide (x_i2 < ((a_s1.length : Nat) : Int)))
(chk (0 ≤ x_i2 ∧ x_i2 < ((a_s1.length : Nat) : Int))
(cond ((((a_s1.getD x_i2.toNat 0).toNat : Nat) : Int) == 34)
(chk (x_out2.length + 1 ≤ maxLen)
(chk (0 ≤ x_i2 ∧ x_i2 ≤ (IntKind.wrap .i64 (x_i2 + 1)) ∧ (IntKind.wrap .i64 (x_i2 + 1)) ≤ ((a_s1.length : Nat) : Int))
(chk ((x_out2.length + 1) + ((a_s1.take ((IntKind.wrap .i64 (x_i2 + 1)).toNat)).drop x_i2.toNat).length ≤ maxLen)
(G.spec_quote.L1 n a_s1 ((x_out2 ++ [92]) ++ ((a_s1.take ((IntKind.wrap .i64 (x_i2 + 1)).toNat)).drop x_i2.toNat)) (IntKind.wrap .i64 (x_i2 + 1))))))
(chk (0 ≤ x_i2 ∧ x_i2 < ((a_s1.length : Nat) : Int))
(cond ((((a_s1.getD x_i2.toNat 0).toNat : Nat) : Int) == 92)
(chk (x_out2.length + 1 ≤ maxLen)
(chk (0 ≤ x_i2 ∧ x_i2 ≤ (IntKind.wrap .i64 (x_i2 + 1)) ∧ (IntKind.wrap .i64 (x_i2 + 1)) ≤ ((a_s1.length : Nat) : Int))
(chk ((x_out2.length + 1) + ((a_s1.take ((IntKind.wrap .i64 (x_i2 + 1)).toNat)).drop x_i2.toNat).length ≤ maxLen)
(G.spec_quote.L1 n a_s1 ((x_out2 ++ [92]) ++ ((a_s1.take ((IntKind.wrap .i64 (x_i2 + 1)).toNat)).drop x_i2.toNat)) (IntKind.wrap .i64 (x_i2 + 1))))))
(chk (0 ≤ x_i2 ∧ x_i2 ≤ (IntKind.wrap .i64 (x_i2 + 1)) ∧ (IntKind.wrap .i64 (x_i2 + 1)) ≤ ((a_s1.length : Nat) : Int))
(chk (x_out2.length + ((a_s1.take ((IntKind.wrap .i64 (x_i2 + 1)).toNat)).drop x_i2.toNat).length ≤ maxLen)
(G.spec_quote.L1 n a_s1 (x_out2 ++ ((a_s1.take ((IntKind.wrap .i64 (x_i2 + 1)).toNat)).drop x_i2.toNat)) (IntKind.wrap .i64 (x_i2 + 1)))))))))
(chk (x_out2.length + 1 ≤ maxLen)
(some ((x_out2 ++ [34])))))
def G.spec_quote (f : Nat) (a_s1 : Txt) : Option (Txt) := match f with
| 0 => none
| n + 1 =>
(G.spec_quote.L1 n a_s1 [34] 0)
mutual
def G.spec_format.K7 (f : Nat) (a_n1 : NodeT) (x_i2 : Int) (x_out7 : Txt) : Option (Txt) := match f with
| 0 => none
| n + 1 =>
(chk (0 ≤ x_i2 ∧ x_i2 < ((a_n1.Kids.length : Nat) : Int))
(Option.bind (G.spec_format n (a_n1.Kids.getD x_i2.toNat default)) fun v10 =>
(chk (x_out7.length + v10.length ≤ maxLen)
(G.spec_format.L5 n a_n1 (x_out7 ++ v10) (IntKind.wrap .i64 (x_i2 + 1))))))
def G.spec_format.K6 (f : Nat) (a_n1 : NodeT) (x_i2 : Int) (x_out6 : Txt) : Option (Txt) := match f with
| 0 => none
| n + 1 =>
(cond (a_n1.Kind == 4)
(chk (0 ≤ x_i2 ∧ x_i2 < ((a_n1.Names.length : Nat) : Int))
(Option.bind (G.spec_quote n (a_n1.Names.getD x_i2.toNat default)) fun v11 =>
(chk (x_out6.length + v11.length ≤ maxLen)
(chk ((x_out6.length + v11.length) + 1 ≤ maxLen)
(G.spec_format.K7 n a_n1 x_i2 ((x_out6 ++ v11) ++ [58]))))))
(G.spec_format.K7 n a_n1 x_i2 x_out6))
def G.spec_format.L5 (f : Nat) (a_n1 : NodeT) (x_out5 : Txt) (x_i2 : Int) : Option (Txt) := match f with
| 0 => none
| n + 1 =>
(cond (decide (x_i2 < ((a_n1.Kids.length : Nat) : Int)))
(cond (decide (0 < x_i2))
(chk (x_out5.length + 1 ≤ maxLen)
(G.spec_format.K6 n a_n1 x_i2 (x_out5 ++ [44])))
(G.spec_format.K6 n a_n1 x_i2 x_out5))
(cond (a_n1.Kind == 4)
(chk (1 + x_out5.length ≤ maxLen)
(chk ((1 + x_out5.length) + 1 ≤ maxLen)
(some ((([123] ++ x_out5) ++ [125])))))
(chk (1 + x_out5.length ≤ maxLen)
(chk ((1 + x_out5.length) + 1 ≤ maxLen)
(some ((([91] ++ x_out5) ++ [93])))))))
def G.spec_format (f : Nat) (a_n1 : NodeT) : Option (Txt) := match f with
| 0 => none
| n + 1 =>
(cond (a_n1.Kind == 1)
(Option.bind (G.spec_decimal n a_n1.Num) fun v1 =>
(some (v1)))
(cond (a_n1.Kind == 2)
(Option.bind (G.spec_quote n a_n1.Text) fun v2 =>
(some (v2)))
(cond (a_n1.Kind == 0)
(some ([110, 117, 108, 108]))
(G.spec_format.L5 n a_n1 [] 0))))
end
def G.spec_hex (f : Nat) (a_n1 : Int) : Option (Txt) := match f with
| 0 => none
| n + 1 =>
(chk (0 ≤ (IntKind.wrap .i64 (Int.tdiv a_n1 4096)) ∧ (IntKind.wrap .i64 (Int.tdiv a_n1 4096)) < ((16 : Nat) : Int))
(chk (0 ≤ (Int.tmod (IntKind.wrap .i64 (Int.tdiv a_n1 256)) 16) ∧ (Int.tmod (IntKind.wrap .i64 (Int.tdiv a_n1 256)) 16) < ((16 : Nat) : Int))
(chk (0 ≤ (Int.tmod (IntKind.wrap .i64 (Int.tdiv a_n1 16)) 16) ∧ (Int.tmod (IntKind.wrap .i64 (Int.tdiv a_n1 16)) 16) < ((16 : Nat) : Int))
(chk (0 ≤ (Int.tmod a_n1 16) ∧ (Int.tmod a_n1 16) < ((16 : Nat) : Int))
(chk (4 ≤ maxLen)
(some ([UInt8.ofNat ((([48, 49, 50, 51, 52, 53, 54, 55, 56, 57, 97, 98, 99, 100, 101, 102] : Txt).getD (IntKind.wrap .i64 (Int.tdiv a_n1 4096)).toNat 0).toNat), UInt8.ofNat ((([48, 49, 50, 51, 52, 53, 54, 55, 56, 57, 97, 98, 99, 100, 101, 102] : Txt).getD (Int.tmod (IntKind.wrap .i64 (Int.tdiv a_n1 256)) 16).toNat 0).toNat), UInt8.ofNat ((([48, 49, 50, 51, 52, 53, 54, 55, 56, 57, 97, 98, 99, 100, 101, 102] : Txt).getD (Int.tmod (IntKind.wrap .i64 (Int.tdiv a_n1 16)) 16).toNat 0).toNat), UInt8.ofNat ((([48, 49, 50, 51, 52, 53, 54, 55, 56, 57, 97, 98, 99, 100, 101, 102] : Txt).getD (Int.tmod a_n1 16).toNat 0).toNat)])))))))
def G.spec_sumOf.L1 (f : Nat) (a_s1 : Txt) (x_n2 : Int) (x_i2 : Int) : Option (Int) := match f with
| 0 => none
| n + 1 =>
(cond (decide (x_i2 < ((a_s1.length : Nat) : Int)))
(chk (0 ≤ x_i2 ∧ x_i2 < ((a_s1.length : Nat) : Int))
(G.spec_sumOf.L1 n a_s1 (Int.tmod (IntKind.wrap .i64 ((IntKind.wrap .i64 (131 * x_n2)) + (IntKind.wrap .i64 ((((a_s1.getD x_i2.toNat 0).toNat : Nat) : Int))))) 65521) (IntKind.wrap .i64 (x_i2 + 1))))
(some (x_n2)))
def G.spec_sumOf (f : Nat) (a_s1 : Txt) : Option (Int) := match f with
| 0 => none
| n + 1 =>
(G.spec_sumOf.L1 n a_s1 17 0)
def G.spec_TagOf (f : Nat) (a_n1 : NodeT) : Option (Txt) := match f with
| 0 => none
| n + 1 =>
(Option.bind (G.spec_validNode n a_n1) fun v1 =>
(cond v1
(Option.bind (G.spec_format n a_n1) fun v2 =>
(Option.bind (G.spec_sumOf n v2) fun v3 =>
(Option.bind (G.spec_hex n v3) fun v4 =>
(some (v4)))))
(some ([]))))
def G.spec_anyTags.L1 (f : Nat) (a_tag1 : Txt) (x_n2 : Int) (y3 : List Int) (y4 : Int) (z2 : List Txt) : Option (List Txt × ReaderT) := match f with
| 0 => none
| n + 1 =>
(cond (decide (0 < x_n2))
(Option.bind (G.spec_reader_of n (ReaderT.mk y3 y4) [[42], [48, 48, 48, 48], [49, 50, 97, 98], [102, 102, 102, 102], a_tag1, a_tag1]) fun v4 =>
(chk ((z2.length + 1) * 18 ≤ 2 ^ 46)
(G.spec_anyTags.L1 n a_tag1 (IntKind.wrap .i64 (x_n2 - 1)) v4.2.b v4.2.p (z2 ++ [v4.1]))))
(cond (decide (0 < ((z2.length : Nat) : Int)))
(Option.bind (G.spec_reader_pick n (ReaderT.mk y3 y4) 20) fun v5 =>
(cond (v5.1 == 0)
(Option.bind (G.spec_reader_of n v5.2 [[], [49, 50, 97, 66], [49, 50, 51], [49, 50, 51, 52, 53]]) fun v6 =>
(chk (0 ≤ 0 ∧ 0 < ((z2.length : Nat) : Int))
(some ((z2.set 0 v6.1), v6.2))))
(some (z2, v5.2))))
(some (z2, (ReaderT.mk y3 y4)))))
def G.spec_anyTags (f : Nat) (p_r1 : ReaderT) (a_tag1 : Txt) : Option (List Txt × ReaderT) := match f with
| 0 => none
| n + 1 =>
(Option.bind (G.spec_reader_one n p_r1 [0, 1, 0, 2, 0, 4, 5]) fun v1 =>
(G.spec_anyTags.L1 n a_tag1 v1.1 v1.2.b v1.2.p []))
def G.spec_itemName (f : Nat) (p_r1 : ReaderT) : Option (Txt × ReaderT) := match f with
| 0 => none
| n + 1 =>
(Option.bind (G.spec_reader_of n p_r1 [[97], [98], [100, 111, 99], [122, 122], [97, 49], [109], [120, 57], [98, 111, 111, 107], [97, 98, 99, 100, 101, 102, 103, 104], [113]]) fun v1 =>
(some (v1.1, v1.2)))
def G.spec_nameIn (f : Nat) (p_r1 : ReaderT) (a_s1 : StoreT) : Option (Txt × ReaderT) := match f with
| 0 => none
| n + 1 =>
(cond (decide (0 < ((a_s1.Items.length : Nat) : Int)))
(Option.bind (G.spec_reader_pick n p_r1 4) fun v1 =>
(cond (decide (0 < v1.1))
(Option.bind (G.spec_reader_pick n v1.2 ((a_s1.Items.length : Nat) : Int)) fun v2 =>
(chk (0 ≤ v2.1 ∧ v2.1 < ((a_s1.Items.length : Nat) : Int))
(some ((a_s1.Items.getD v2.1.toNat default).Name, v2.2))))
(Option.bind (G.spec_reader_pick n v1.2 12) fun v3 =>
(cond (v3.1 == 0)
(Option.bind (G.spec_badName n v3.2) fun v4 =>
(some (v4.1, v4.2)))
(Option.bind (G.spec_itemName n v3.2) fun v5 =>
(some (v5.1, v5.2)))))))
(Option.bind (G.spec_reader_pick n p_r1 12) fun v6 =>
(cond (v6.1 == 0)
(Option.bind (G.spec_badName n v6.2) fun v7 =>
(some (v7.1, v7.2)))
(Option.bind (G.spec_itemName n v6.2) fun v8 =>
(some (v8.1, v8.2))))))
def G.spec_at.L1 (f : Nat) (a_path1 : List Txt) (x_i2 : Int) (y6 : Int) (y7 : Int) (y8 : Txt) (y9 : List Txt) (y10 : List NodeT) : Option (NodeT × Bool) := match f with
| 0 => none
| n + 1 =>
(cond (decide (x_i2 < ((a_path1.length : Nat) : Int)))
(chk (0 ≤ x_i2 ∧ x_i2 < ((a_path1.length : Nat) : Int))
(Option.bind (G.spec_place n (NodeT.mk y6 y7 y8 y9 y10) (a_path1.getD x_i2.toNat default)) fun v3 =>
(cond (decide (v3 < 0))
(some ((NodeT.mk 0 0 [] [] []), false))
(chk (0 ≤ v3 ∧ v3 < ((y10.length : Nat) : Int))
(G.spec_at.L1 n a_path1 (IntKind.wrap .i64 (x_i2 + 1)) ((y10.getD v3.toNat default).Kind) ((y10.getD v3.toNat default).Num) ((y10.getD v3.toNat default).Text) ((y10.getD v3.toNat default).Names) ((y10.getD v3.toNat default).Kids))))))
(Option.bind (G.spec_copyNode n (NodeT.mk y6 y7 y8 y9 y10)) fun v4 =>
(some (v4, true))))
def G.spec_at (f : Nat) (a_n1 : NodeT) (a_path1 : List Txt) : Option (NodeT × Bool) := match f with
| 0 => none
| n + 1 =>
(G.spec_at.L1 n a_path1 0 a_n1.Kind a_n1.Num a_n1.Text a_n1.Names a_n1.Kids)
mutual
def G.spec_setAt (f : Nat) (a_n1 : NodeT) (a_path1 : List Txt) (a_value1 : NodeT) : Option (NodeT × Bool) := match f with
| 0 => none
| n + 1 =>
(cond (((a_path1.length : Nat) : Int) == 0)
(Option.bind (G.spec_copyNode n a_value1) fun v1 =>
(some (v1, true)))
(chk (0 ≤ 0 ∧ 0 < ((a_path1.length : Nat) : Int))
(Option.bind (G.spec_place n a_n1 (a_path1.getD 0 default)) fun v2 =>
(cond (decide (v2 < 0))
(some ((NodeT.mk 0 0 [] [] []), false))
(chk (0 ≤ v2 ∧ v2 < ((a_n1.Kids.length : Nat) : Int))
(chk (0 ≤ 1 ∧ 1 ≤ ((a_path1.length : Nat) : Int) ∧ ((a_path1.length : Nat) : Int) ≤ ((a_path1.length : Nat) : Int))
(Option.bind (G.spec_setAt n (a_n1.Kids.getD v2.toNat default) (a_path1.drop 1) a_value1) fun v3 =>
(cond v3.2
(Option.bind (G.spec_withKid n a_n1 v2 v3.1) fun v4 =>
(some (v4, true)))
(some ((NodeT.mk 0 0 [] [] []), false))))))))))
end
def G.spec_addAt (f : Nat) (a_n1 : NodeT) (a_path1 : List Txt) (a_value1 : NodeT) : Option (NodeT × Bool) := match f with
| 0 => none
| n + 1 =>
(cond (((a_path1.length : Nat) : Int) == 0)
(Option.bind (G.spec_copyNode n a_value1) fun v1 =>
(some (v1, true)))
(chk (0 ≤ 0 ∧ 0 ≤ (IntKind.wrap .i64 (((a_path1.length : Nat) : Int) - 1)) ∧ (IntKind.wrap .i64 (((a_path1.length : Nat) : Int) - 1)) ≤ ((a_path1.length : Nat) : Int))
(Option.bind (G.spec_at n a_n1 (a_path1.take ((IntKind.wrap .i64 (((a_path1.length : Nat) : Int) - 1)).toNat))) fun v2 =>
(cond v2.2
(chk (0 ≤ (IntKind.wrap .i64 (((a_path1.length : Nat) : Int) - 1)) ∧ (IntKind.wrap .i64 (((a_path1.length : Nat) : Int) - 1)) < ((a_path1.length : Nat) : Int))
(Option.bind (G.spec_addHere n v2.1 (a_path1.getD (IntKind.wrap .i64 (((a_path1.length : Nat) : Int) - 1)).toNat default) a_value1) fun v3 =>
(cond v3.2
(chk (0 ≤ 0 ∧ 0 ≤ (IntKind.wrap .i64 (((a_path1.length : Nat) : Int) - 1)) ∧ (IntKind.wrap .i64 (((a_path1.length : Nat) : Int) - 1)) ≤ ((a_path1.length : Nat) : Int))
(Option.bind (G.spec_setAt n a_n1 (a_path1.take ((IntKind.wrap .i64 (((a_path1.length : Nat) : Int) - 1)).toNat)) v3.1) fun v4 =>
(some (v4.1, v4.2))))
(some ((NodeT.mk 0 0 [] [] []), false)))))
(some ((NodeT.mk 0 0 [] [] []), false))))))
mutual
def G.spec_all.L7 (f : Nat) (a_n1 : NodeT) (x_i2 : Int) (x_step3 : Txt) (v6 : List (List Txt)) (x_k6 : Int) (z8 : List (List Txt)) : Option (List (List Txt)) := match f with
| 0 => none
| n + 1 =>
(cond (decide (x_k6 < ((v6.length : Nat) : Int)))
(chk (0 ≤ x_k6 ∧ x_k6 < ((v6.length : Nat) : Int))
(chk ((1 + (v6.getD x_k6.toNat default).length) * 18 ≤ 2 ^ 46)
(chk ((z8.length + 1) * 26 ≤ 2 ^ 46)
(G.spec_all.L7 n a_n1 x_i2 x_step3 v6 (IntKind.wrap .i64 (x_k6 + 1)) (z8 ++ [([x_step3] ++ (v6.getD x_k6.toNat default))])))))
(G.spec_all.L5 n a_n1 (IntKind.wrap .i64 (x_i2 + 1)) z8))
def G.spec_all.K6 (f : Nat) (a_n1 : NodeT) (x_i2 : Int) (z6 : List (List Txt)) (x_step3 : Txt) : Option (List (List Txt)) := match f with
| 0 => none
| n + 1 =>
(chk (0 ≤ x_i2 ∧ x_i2 < ((a_n1.Kids.length : Nat) : Int))
(Option.bind (G.spec_all n (a_n1.Kids.getD x_i2.toNat default)) fun v6 =>
(G.spec_all.L7 n a_n1 x_i2 x_step3 v6 0 z6)))
def G.spec_all.L5 (f : Nat) (a_n1 : NodeT) (x_i2 : Int) (z6 : List (List Txt)) : Option (List (List Txt)) := match f with
| 0 => none
| n + 1 =>
(cond (decide (x_i2 < ((a_n1.Kids.length : Nat) : Int)))
(Option.bind (G.spec_decimal n x_i2) fun v5 =>
(cond (a_n1.Kind == 4)
(chk (0 ≤ x_i2 ∧ x_i2 < ((a_n1.Names.length : Nat) : Int))
(G.spec_all.K6 n a_n1 x_i2 z6 (a_n1.Names.getD x_i2.toNat default)))
(G.spec_all.K6 n a_n1 x_i2 z6 v5)))
(some (z6)))
def G.spec_all (f : Nat) (a_n1 : NodeT) : Option (List (List Txt)) := match f with
| 0 => none
| n + 1 =>
(G.spec_all.L5 n a_n1 0 [[]])
end
def G.spec_removeAt.K1 (f : Nat) (a_n1 : NodeT) (a_path1 : List Txt) (v1 : NodeT × Bool) (z1 : List NodeT) (z2 : List Txt) : Option (NodeT × Bool) := match f with
| 0 => none
| n + 1 =>
(chk (0 ≤ 0 ∧ 0 ≤ (IntKind.wrap .i64 (((a_path1.length : Nat) : Int) - 1)) ∧ (IntKind.wrap .i64 (((a_path1.length : Nat) : Int) - 1)) ≤ ((a_path1.length : Nat) : Int))
(Option.bind (G.spec_setAt n a_n1 (a_path1.take ((IntKind.wrap .i64 (((a_path1.length : Nat) : Int) - 1)).toNat)) (NodeT.mk v1.1.Kind 0 [] z2 z1)) fun v3 =>
(some (v3.1, v3.2))))
def G.spec_removeAt (f : Nat) (a_n1 : NodeT) (a_path1 : List Txt) : Option (NodeT × Bool) := match f with
| 0 => none
| n + 1 =>
(cond (decide ((IntKind.wrap .i64 (((a_path1.length : Nat) : Int) - 1)) < 0))
(some ((NodeT.mk 0 0 [] [] []), false))
(chk (0 ≤ 0 ∧ 0 ≤ (IntKind.wrap .i64 (((a_path1.length : Nat) : Int) - 1)) ∧ (IntKind.wrap .i64 (((a_path1.length : Nat) : Int) - 1)) ≤ ((a_path1.length : Nat) : Int))
(Option.bind (G.spec_at n a_n1 (a_path1.take ((IntKind.wrap .i64 (((a_path1.length : Nat) : Int) - 1)).toNat))) fun v1 =>
(cond v1.2
(chk (0 ≤ (IntKind.wrap .i64 (((a_path1.length : Nat) : Int) - 1)) ∧ (IntKind.wrap .i64 (((a_path1.length : Nat) : Int) - 1)) < ((a_path1.length : Nat) : Int))
(Option.bind (G.spec_place n v1.1 (a_path1.getD (IntKind.wrap .i64 (((a_path1.length : Nat) : Int) - 1)).toNat default)) fun v2 =>
(cond (decide (v2 < 0))
(some ((NodeT.mk 0 0 [] [] []), false))
(chk (0 ≤ 0 ∧ 0 ≤ v2 ∧ v2 ≤ ((v1.1.Kids.length : Nat) : Int))
(chk (((v1.1.Kids.take v2.toNat).length) * 86 ≤ 2 ^ 46)
(chk (0 ≤ (IntKind.wrap .i64 (v2 + 1)) ∧ (IntKind.wrap .i64 (v2 + 1)) ≤ ((v1.1.Kids.length : Nat) : Int) ∧ ((v1.1.Kids.length : Nat) : Int) ≤ ((v1.1.Kids.length : Nat) : Int))
(chk (((v1.1.Kids.take v2.toNat).length + (v1.1.Kids.drop ((IntKind.wrap .i64 (v2 + 1)).toNat)).length) * 86 ≤ 2 ^ 46)
(cond (v1.1.Kind == 4)
(chk (0 ≤ 0 ∧ 0 ≤ v2 ∧ v2 ≤ ((v1.1.Names.length : Nat) : Int))
(chk (((v1.1.Names.take v2.toNat).length) * 18 ≤ 2 ^ 46)
(chk (0 ≤ (IntKind.wrap .i64 (v2 + 1)) ∧ (IntKind.wrap .i64 (v2 + 1)) ≤ ((v1.1.Names.length : Nat) : Int) ∧ ((v1.1.Names.length : Nat) : Int) ≤ ((v1.1.Names.length : Nat) : Int))
(chk (((v1.1.Names.take v2.toNat).length + (v1.1.Names.drop ((IntKind.wrap .i64 (v2 + 1)).toNat)).length) * 18 ≤ 2 ^ 46)
(G.spec_removeAt.K1 n a_n1 a_path1 v1 ((v1.1.Kids.take v2.toNat) ++ (v1.1.Kids.drop ((IntKind.wrap .i64 (v2 + 1)).toNat))) ((v1.1.Names.take v2.toNat) ++ (v1.1.Names.drop ((IntKind.wrap .i64 (v2 + 1)).toNat))))))))
(G.spec_removeAt.K1 n a_n1 a_path1 v1 ((v1.1.Kids.take v2.toNat) ++ (v1.1.Kids.drop ((IntKind.wrap .i64 (v2 + 1)).toNat))) [])))))))))
(some ((NodeT.mk 0 0 [] [] []), false))))))
def G.spec_nearNode.K1 (f : Nat) (a_n1 : NodeT) (x_ok1 : Bool) (y1 : List Int) (y2 : Int) (y3 : Int) (y4 : Int) (y5 : Txt) (y6 : List Txt) (y7 : List NodeT) : Option (NodeT × ReaderT) := match f with
| 0 => none
| n + 1 =>
(cond x_ok1
(Option.bind (G.spec_validNode n (NodeT.mk y3 y4 y5 y6 y7)) fun v12 =>
(cond v12
(some ((NodeT.mk y3 y4 y5 y6 y7), (ReaderT.mk y1 y2)))
(Option.bind (G.spec_copyNode n a_n1) fun v13 =>
(some (v13, (ReaderT.mk y1 y2))))))
(Option.bind (G.spec_copyNode n a_n1) fun v14 =>
(some (v14, (ReaderT.mk y1 y2)))))
def G.spec_nearNode (f : Nat) (p_r1 : ReaderT) (a_n1 : NodeT) : Option (NodeT × ReaderT) := match f with
| 0 => none
| n + 1 =>
(Option.bind (G.spec_all n a_n1) fun v1 =>
(Option.bind (G.spec_reader_pick n p_r1 ((v1.length : Nat) : Int)) fun v2 =>
(chk (0 ≤ v2.1 ∧ v2.1 < ((v1.length : Nat) : Int))
(Option.bind (G.spec_copyNode n a_n1) fun v3 =>
(Option.bind (G.spec_reader_pick n v2.2 5) fun v15 =>
(cond (v15.1 == 0)
(Option.bind (G.spec_removeAt n a_n1 (v1.getD v2.1.toNat default)) fun v16 =>
(G.spec_nearNode.K1 n a_n1 v16.2 v15.2.b v15.2.p v16.1.Kind v16.1.Num v16.1.Text v16.1.Names v16.1.Kids))
(cond (v15.1 == 1)
(chk (((v1.getD v2.1.toNat default).length) * 18 ≤ 2 ^ 46)
(Option.bind (G.spec_reader_of n v15.2 [[97], [48], [45], [122]]) fun v17 =>
(chk (((v1.getD v2.1.toNat default).length + 1) * 18 ≤ 2 ^ 46)
(Option.bind (G.spec_randomNode n v17.2 2) fun v18 =>
(Option.bind (G.spec_addAt n a_n1 ((v1.getD v2.1.toNat default) ++ [v17.1]) v18.1) fun v19 =>
(G.spec_nearNode.K1 n a_n1 v19.2 v18.2.b v18.2.p v19.1.Kind v19.1.Num v19.1.Text v19.1.Names v19.1.Kids))))))
(cond (v15.1 == 2)
(Option.bind (G.spec_randomNode n v15.2 2) fun v20 =>
(Option.bind (G.spec_setAt n a_n1 (v1.getD v2.1.toNat default) v20.1) fun v21 =>
(G.spec_nearNode.K1 n a_n1 v21.2 v20.2.b v20.2.p v21.1.Kind v21.1.Num v21.1.Text v21.1.Names v21.1.Kids)))
(cond (v15.1 == 3)
(Option.bind (G.spec_someNode n v15.2) fun v22 =>
(some (v22.1, v22.2)))
(G.spec_nearNode.K1 n a_n1 true v15.2.b v15.2.p v3.Kind v3.Num v3.Text v3.Names v3.Kids))))))))))
def G.spec_AllPaths (f : Nat) (a_n1 : NodeT) : Option (List (List Txt)) := match f with
| 0 => none
| n + 1 =>
(Option.bind (G.spec_validNode n a_n1) fun v1 =>
(cond v1
(Option.bind (G.spec_all n a_n1) fun v2 =>
(some (v2)))
(some ([]))))
def G.spec_anyPath.L1 (f : Nat) (x_n2 : Int) (y3 : List Int) (y4 : Int) (z2 : List Txt) : Option (List Txt × ReaderT) := match f with
| 0 => none
| n + 1 =>
(cond (decide (0 < x_n2))
(Option.bind (G.spec_reader_of n (ReaderT.mk y3 y4) [[97], [98], [48], [49], [45], [97, 47, 98], [126, 120], [], [99]]) fun v4 =>
(chk ((z2.length + 1) * 18 ≤ 2 ^ 46)
(G.spec_anyPath.L1 n (IntKind.wrap .i64 (x_n2 - 1)) v4.2.b v4.2.p (z2 ++ [v4.1]))))
(cond (decide (0 < ((z2.length : Nat) : Int)))
(Option.bind (G.spec_reader_pick n (ReaderT.mk y3 y4) 20) fun v5 =>
(cond (v5.1 == 0)
(Option.bind (G.spec_reader_of n v5.2 [[97, 98, 99, 100, 101, 102, 103, 104, 105, 106, 107, 108, 109], [10]]) fun v6 =>
(chk (0 ≤ 0 ∧ 0 < ((z2.length : Nat) : Int))
(some ((z2.set 0 v6.1), v6.2))))
(some (z2, v5.2))))
(some (z2, (ReaderT.mk y3 y4)))))
def G.spec_anyPath (f : Nat) (p_r1 : ReaderT) : Option (List Txt × ReaderT) := match f with
| 0 => none
| n + 1 =>
(Option.bind (G.spec_reader_one n p_r1 [1, 2, 1, 0, 3, 5, 6]) fun v1 =>
(G.spec_anyPath.L1 n v1.1 v1.2.b v1.2.p []))
def G.spec_pathIn (f : Nat) (p_r1 : ReaderT) (a_n1 : NodeT) : Option (List Txt × ReaderT) := match f with
| 0 => none
| n + 1 =>
(Option.bind (G.spec_AllPaths n a_n1) fun v1 =>
(cond (decide (0 < ((v1.length : Nat) : Int)))
(Option.bind (G.spec_reader_pick n p_r1 4) fun v2 =>
(cond (decide (0 < v2.1))
(Option.bind (G.spec_reader_pick n v2.2 ((v1.length : Nat) : Int)) fun v3 =>
(chk (0 ≤ v3.1 ∧ v3.1 < ((v1.length : Nat) : Int))
(some ((v1.getD v3.1.toNat default), v3.2))))
(Option.bind (G.spec_anyPath n v2.2) fun v4 =>
(some (v4.1, v4.2)))))
(Option.bind (G.spec_anyPath n p_r1) fun v5 =>
(some (v5.1, v5.2)))))
def G.spec_someOp.K4 (f : Nat) (v1 : Int × ReaderT) (v2 : List Txt × ReaderT) (y3 : List Txt) (y4 : Int) (y5 : Int) (y6 : Txt) (y7 : List Txt) (y8 : List NodeT) (x_t3 : Bool) (y9 : List Int) (y10 : Int) : Option (OpT × ReaderT) := match f with
| 0 => none
| n + 1 =>
(cond x_t3
(chk (v2.1.length * 18 ≤ 2 ^ 46)
(Option.bind (G.spec_reader_of n (ReaderT.mk y9 y10) [[122], [45], [48], [101]]) fun v10 =>
(chk ((v2.1.length + 1) * 18 ≤ 2 ^ 46)
(some ((OpT.mk (IntKind.wrap .i64 (1 + v1.1)) (v2.1 ++ [v10.1]) y3 (NodeT.mk y4 y5 y6 y7 y8)), v10.2)))))
(some ((OpT.mk (IntKind.wrap .i64 (1 + v1.1)) v2.1 y3 (NodeT.mk y4 y5 y6 y7 y8)), (ReaderT.mk y9 y10))))
def G.spec_someOp.K3 (f : Nat) (v1 : Int × ReaderT) (v2 : List Txt × ReaderT) (y1 : List Int) (y2 : Int) (y3 : List Txt) (y4 : Int) (y5 : Int) (y6 : Txt) (y7 : List Txt) (y8 : List NodeT) : Option (OpT × ReaderT) := match f with
| 0 => none
| n + 1 =>
(cond (decide (((v2.1.length : Nat) : Int) < 4))
(cond ((IntKind.wrap .i64 (1 + v1.1)) == 1)
(Option.bind (G.spec_reader_pick n (ReaderT.mk y1 y2) 2) fun v11 =>
(G.spec_someOp.K4 n v1 v2 y3 y4 y5 y6 y7 y8 (v11.1 == 0) v11.2.b v11.2.p))
(cond ((IntKind.wrap .i64 (1 + v1.1)) == 4)
(Option.bind (G.spec_reader_pick n (ReaderT.mk y1 y2) 2) fun v12 =>
(G.spec_someOp.K4 n v1 v2 y3 y4 y5 y6 y7 y8 (v12.1 == 0) v12.2.b v12.2.p))
(cond ((IntKind.wrap .i64 (1 + v1.1)) == 5)
(Option.bind (G.spec_reader_pick n (ReaderT.mk y1 y2) 2) fun v13 =>
(G.spec_someOp.K4 n v1 v2 y3 y4 y5 y6 y7 y8 (v13.1 == 0) v13.2.b v13.2.p))
(G.spec_someOp.K4 n v1 v2 y3 y4 y5 y6 y7 y8 false y1 y2))))
(G.spec_someOp.K4 n v1 v2 y3 y4 y5 y6 y7 y8 false y1 y2))
def G.spec_someOp.K6 (f : Nat) (a_n1 : NodeT) (v1 : Int × ReaderT) (v2 : List Txt × ReaderT) (x_t5 : Bool) : Option (OpT × ReaderT) := match f with
| 0 => none
| n + 1 =>
(cond x_t5
(Option.bind (G.spec_pathIn n v2.2 a_n1) fun v17 =>
(G.spec_someOp.K3 n v1 v2 v17.2.b v17.2.p v17.1 0 0 [] [] []))
(G.spec_someOp.K3 n v1 v2 v2.2.b v2.2.p [] 0 0 [] [] []))
def G.spec_someOp.K5 (f : Nat) (a_n1 : NodeT) (v1 : Int × ReaderT) (v2 : List Txt × ReaderT) (x_t4 : Bool) : Option (OpT × ReaderT) := match f with
| 0 => none
| n + 1 =>
(cond x_t4
(Option.bind (G.spec_randomNode n v2.2 2) fun v14 =>
(G.spec_someOp.K3 n v1 v2 v14.2.b v14.2.p [] v14.1.Kind v14.1.Num v14.1.Text v14.1.Names v14.1.Kids))
(cond ((IntKind.wrap .i64 (1 + v1.1)) == 6)
(Option.bind (G.spec_at n a_n1 v2.1) fun v15 =>
(cond v15.2
(Option.bind (G.spec_reader_pick n v2.2 3) fun v16 =>
(cond (decide (0 < v16.1))
(G.spec_someOp.K3 n v1 v2 v16.2.b v16.2.p [] v15.1.Kind v15.1.Num v15.1.Text v15.1.Names v15.1.Kids)
(G.spec_someOp.K3 n v1 v2 v16.2.b v16.2.p [] 0 0 [] [] [])))
(G.spec_someOp.K3 n v1 v2 v2.2.b v2.2.p [] 0 0 [] [] [])))
(cond ((IntKind.wrap .i64 (1 + v1.1)) == 4)
(G.spec_someOp.K6 n a_n1 v1 v2 true)
(G.spec_someOp.K6 n a_n1 v1 v2 ((IntKind.wrap .i64 (1 + v1.1)) == 5)))))
def G.spec_someOp (f : Nat) (p_r1 : ReaderT) (a_n1 : NodeT) : Option (OpT × ReaderT) := match f with
| 0 => none
| n + 1 =>
(Option.bind (G.spec_reader_pick n p_r1 6) fun v1 =>
(Option.bind (G.spec_pathIn n v1.2 a_n1) fun v2 =>
(cond ((IntKind.wrap .i64 (1 + v1.1)) == 1)
(G.spec_someOp.K5 n a_n1 v1 v2 true)
(G.spec_someOp.K5 n a_n1 v1 v2 ((IntKind.wrap .i64 (1 + v1.1)) == 3)))))
def G.spec_someRequest.K4 (f : Nat) (v1 : Txt × ReaderT) (v2 : ItemT × Bool) (v3 : Int × ReaderT) (y3 : List Txt) (y6 : List Txt) (y11 : List Int) (y12 : Int) (y13 : Int) (y14 : Int) (y15 : Txt) (y16 : List Txt) (y17 : List NodeT) (z3 : List OpT) : Option (RequestT × ReaderT) := match f with
| 0 => none
| n + 1 =>
(cond v2.2
(some ((RequestT.mk (IntKind.wrap .i64 (1 + v3.1)) v1.1 y3 y6 (NodeT.mk y13 y14 y15 y16 y17) z3), (ReaderT.mk y11 y12)))
(Option.bind (G.spec_reader_pick n (ReaderT.mk y11 y12) 2) fun v16 =>
(cond (v16.1 == 0)
(some ((RequestT.mk 2 v1.1 y3 y6 (NodeT.mk y13 y14 y15 y16 y17) z3), v16.2))
(some ((RequestT.mk (IntKind.wrap .i64 (1 + v3.1)) v1.1 y3 y6 (NodeT.mk y13 y14 y15 y16 y17) z3), v16.2)))))
def G.spec_someRequest.L5 (f : Nat) (v1 : Txt × ReaderT) (v2 : ItemT × Bool) (v3 : Int × ReaderT) (y3 : List Txt) (y6 : List Txt) (x_n4 : Int) (y20 : List Int) (y21 : Int) (z5 : List OpT) : Option (RequestT × ReaderT) := match f with
| 0 => none
| n + 1 =>
(cond (decide (0 < x_n4))
(Option.bind (G.spec_someOp n (ReaderT.mk y20 y21) v2.1.Node) fun v22 =>
(chk ((z5.length + 1) * 145 ≤ 2 ^ 46)
(G.spec_someRequest.L5 n v1 v2 v3 y3 y6 (IntKind.wrap .i64 (x_n4 - 1)) v22.2.b v22.2.p (z5 ++ [v22.1]))))
(G.spec_someRequest.K4 n v1 v2 v3 y3 y6 y20 y21 0 0 [] [] [] z5))
def G.spec_someRequest.K2 (f : Nat) (v1 : Txt × ReaderT) (v2 : ItemT × Bool) (v3 : Int × ReaderT) (y3 : List Txt) (y4 : List Int) (y5 : Int) (y6 : List Txt) : Option (RequestT × ReaderT) := match f with
| 0 => none
| n + 1 =>
(cond ((IntKind.wrap .i64 (1 + v3.1)) == 2)
(Option.bind (G.spec_someNode n (ReaderT.mk y4 y5)) fun v17 =>
(G.spec_someRequest.K4 n v1 v2 v3 y3 y6 v17.2.b v17.2.p v17.1.Kind v17.1.Num v17.1.Text v17.1.Names v17.1.Kids []))
(cond ((IntKind.wrap .i64 (1 + v3.1)) == 5)
(Option.bind (G.spec_nearNode n (ReaderT.mk y4 y5) v2.1.Node) fun v18 =>
(G.spec_someRequest.K4 n v1 v2 v3 y3 y6 v18.2.b v18.2.p v18.1.Kind v18.1.Num v18.1.Text v18.1.Names v18.1.Kids []))
(cond ((IntKind.wrap .i64 (1 + v3.1)) == 4)
(Option.bind (G.spec_reader_pick n (ReaderT.mk y4 y5) 3) fun v19 =>
(G.spec_someRequest.L5 n v1 v2 v3 y3 y6 v19.1 v19.2.b v19.2.p []))
(G.spec_someRequest.K4 n v1 v2 v3 y3 y6 y4 y5 0 0 [] [] [] []))))
def G.spec_someRequest.K1 (f : Nat) (v1 : Txt × ReaderT) (v2 : ItemT × Bool) (v3 : Int × ReaderT) (y1 : List Int) (y2 : Int) (y3 : List Txt) : Option (RequestT × ReaderT) := match f with
| 0 => none
| n + 1 =>
(Option.bind (G.spec_reader_pick n (ReaderT.mk y1 y2) 4) fun v23 =>
(cond (v23.1 == 0)
(Option.bind (G.spec_TagOf n v2.1.Node) fun v24 =>
(Option.bind (G.spec_anyTags n v23.2 v24) fun v25 =>
(G.spec_someRequest.K2 n v1 v2 v3 y3 v25.2.b v25.2.p v25.1)))
(G.spec_someRequest.K2 n v1 v2 v3 y3 v23.2.b v23.2.p [])))
def G.spec_someRequest (f : Nat) (p_r1 : ReaderT) (a_s1 : StoreT) : Option (RequestT × ReaderT) := match f with
| 0 => none
| n + 1 =>
(Option.bind (G.spec_nameIn n p_r1 a_s1) fun v1 =>
(Option.bind (G.spec_GetItem n a_s1 v1.1) fun v2 =>
(Option.bind (G.spec_reader_pick n v1.2 5) fun v3 =>
(Option.bind (G.spec_reader_pick n v3.2 3) fun v26 =>
(cond (v26.1 == 0)
(Option.bind (G.spec_TagOf n v2.1.Node) fun v27 =>
(Option.bind (G.spec_anyTags n v26.2 v27) fun v28 =>
(G.spec_someRequest.K1 n v1 v2 v3 v28.2.b v28.2.p v28.1)))
(G.spec_someRequest.K1 n v1 v2 v3 v26.2.b v26.2.p []))))))
def G.spec_anyRequest (f : Nat) (p_r1 : ReaderT) (a_s1 : StoreT) : Option (RequestT × ReaderT) := match f with
| 0 => none
| n + 1 =>
(Option.bind (G.spec_someRequest n p_r1 a_s1) fun v1 =>
(Option.bind (G.spec_reader_pick n v1.2 30) fun v2 =>
(cond (v2.1 == 0)
(Option.bind (G.spec_reader_one n v2.2 [0, 6]) fun v3 =>
(some ((RequestT.mk v3.1 v1.1.Name v1.1.Want v1.1.Avoid v1.1.Body v1.1.Ops), v3.2)))
(cond (v2.1 == 1)
(Option.bind (G.spec_badName n v2.2) fun v4 =>
(some ((RequestT.mk v1.1.Method v4.1 v1.1.Want v1.1.Avoid v1.1.Body v1.1.Ops), v4.2)))
(cond (v2.1 == 2)
(Option.bind (G.spec_anyNode n v2.2) fun v5 =>
(some ((RequestT.mk v1.1.Method v1.1.Name v1.1.Want v1.1.Avoid v5.1 v1.1.Ops), v5.2)))
(some (v1.1, v2.2)))))))
def G.spec_drop.L1 (f : Nat) (a_s1 : StoreT) (a_name1 : Txt) (v1 : StoreT) (x_i2 : Int) (z2 : List ItemT) : Option (StoreT) := match f with
| 0 => none
| n + 1 =>
(cond (decide (x_i2 < ((v1.Items.length : Nat) : Int)))
(chk (0 ≤ x_i2 ∧ x_i2 < ((v1.Items.length : Nat) : Int))
(cond ((v1.Items.getD x_i2.toNat default).Name == a_name1)
(G.spec_drop.L1 n a_s1 a_name1 v1 (IntKind.wrap .i64 (x_i2 + 1)) z2)
(chk (0 ≤ x_i2 ∧ x_i2 < ((v1.Items.length : Nat) : Int))
(chk ((z2.length + 1) * 112 ≤ 2 ^ 46)
(G.spec_drop.L1 n a_s1 a_name1 v1 (IntKind.wrap .i64 (x_i2 + 1)) (z2 ++ [(ItemT.mk ((v1.Items.getD x_i2.toNat default).Name) ((v1.Items.getD x_i2.toNat default).Version) ((v1.Items.getD x_i2.toNat default).Node))]))))))
(some ((StoreT.mk z2 (IntKind.wrap .i64 (a_s1.Clock + 1))))))
def G.spec_drop (f : Nat) (a_s1 : StoreT) (a_name1 : Txt) : Option (StoreT) := match f with
| 0 => none
| n + 1 =>
(Option.bind (G.spec_copyStore n a_s1) fun v1 =>
(G.spec_drop.L1 n a_s1 a_name1 v1 0 []))
def G.spec_DropItem (f : Nat) (a_s1 : StoreT) (a_name1 : Txt) : Option (StoreT × Bool) := match f with
| 0 => none
| n + 1 =>
(Option.bind (G.spec_validStore n a_s1) fun v1 =>
(cond v1
(Option.bind (G.spec_find n a_s1 a_name1) fun v2 =>
(cond (decide (v2 < 0))
(some ((StoreT.mk [] 0), false))
(cond (a_s1.Clock == 999)
(some ((StoreT.mk [] 0), false))
(Option.bind (G.spec_drop n a_s1 a_name1) fun v3 =>
(some (v3, true))))))
(some ((StoreT.mk [] 0), false))))
mutual
def G.spec_put.K4 (f : Nat) (a_s1 : StoreT) (a_name1 : Txt) (v1 : NodeT) (v2 : StoreT) (x_i2 : Int) (x_done5 : Bool) (z5 : List ItemT) : Option (StoreT) := match f with
| 0 => none
| n + 1 =>
(chk (0 ≤ x_i2 ∧ x_i2 < ((v2.Items.length : Nat) : Int))
(cond ((v2.Items.getD x_i2.toNat default).Name == a_name1)
(G.spec_put.L3 n a_s1 a_name1 v1 v2 x_done5 (IntKind.wrap .i64 (x_i2 + 1)) z5)
(chk (0 ≤ x_i2 ∧ x_i2 < ((v2.Items.length : Nat) : Int))
(chk ((z5.length + 1) * 112 ≤ 2 ^ 46)
(G.spec_put.L3 n a_s1 a_name1 v1 v2 x_done5 (IntKind.wrap .i64 (x_i2 + 1)) (z5 ++ [(ItemT.mk ((v2.Items.getD x_i2.toNat default).Name) ((v2.Items.getD x_i2.toNat default).Version) ((v2.Items.getD x_i2.toNat default).Node))]))))))
def G.spec_put.L3 (f : Nat) (a_s1 : StoreT) (a_name1 : Txt) (v1 : NodeT) (v2 : StoreT) (x_done4 : Bool) (x_i2 : Int) (z4 : List ItemT) : Option (StoreT) := match f with
| 0 => none
| n + 1 =>
(cond (decide (x_i2 < ((v2.Items.length : Nat) : Int)))
(cond x_done4
(G.spec_put.K4 n a_s1 a_name1 v1 v2 x_i2 true z4)
(chk (0 ≤ x_i2 ∧ x_i2 < ((v2.Items.length : Nat) : Int))
(cond (Op.bytesLess ((v2.Items.getD x_i2.toNat default).Name) a_name1)
(G.spec_put.K4 n a_s1 a_name1 v1 v2 x_i2 false z4)
(chk ((z4.length + 1) * 112 ≤ 2 ^ 46)
(G.spec_put.K4 n a_s1 a_name1 v1 v2 x_i2 true (z4 ++ [(ItemT.mk a_name1 (IntKind.wrap .i64 (a_s1.Clock + 1)) v1)]))))))
(cond x_done4
(some ((StoreT.mk z4 (IntKind.wrap .i64 (a_s1.Clock + 1)))))
(chk ((z4.length + 1) * 112 ≤ 2 ^ 46)
(some ((StoreT.mk (z4 ++ [(ItemT.mk a_name1 (IntKind.wrap .i64 (a_s1.Clock + 1)) v1)]) (IntKind.wrap .i64 (a_s1.Clock + 1))))))))
end
def G.spec_put (f : Nat) (a_s1 : StoreT) (a_name1 : Txt) (a_n1 : NodeT) : Option (StoreT) := match f with
| 0 => none
| n + 1 =>
(Option.bind (G.spec_copyNode n a_n1) fun v1 =>
(Option.bind (G.spec_copyStore n a_s1) fun v2 =>
(G.spec_put.L3 n a_s1 a_name1 v1 v2 false 0 [])))
def G.spec_PutItem (f : Nat) (a_s1 : StoreT) (a_name1 : Txt) (a_n1 : NodeT) : Option (StoreT × Bool) := match f with
| 0 => none
| n + 1 =>
(Option.bind (G.spec_validStore n a_s1) fun v1 =>
(cond v1
(Option.bind (G.spec_validName n a_name1) fun v2 =>
(cond v2
(Option.bind (G.spec_validNode n a_n1) fun v3 =>
(cond v3
(Option.bind (G.spec_put n a_s1 a_name1 a_n1) fun v4 =>
(Option.bind (G.spec_validStore n v4) fun v5 =>
(cond v5
(some (v4, true))
(some ((StoreT.mk [] 0), false)))))
(some ((StoreT.mk [] 0), false))))
(some ((StoreT.mk [] 0), false))))
(some ((StoreT.mk [] 0), false))))
mutual
def G.spec_someStore.K4 (f : Nat) (x_n2 : Int) (y15 : List ItemT) (y16 : Int) (x_ok3 : Bool) (y17 : List Int) (y18 : Int) (y19 : List ItemT) (y20 : Int) : Option (StoreT × ReaderT) := match f with
| 0 => none
| n + 1 =>
(cond x_ok3
(G.spec_someStore.L3 n (IntKind.wrap .i64 (x_n2 - 1)) y17 y18 y19 y20)
(G.spec_someStore.L3 n (IntKind.wrap .i64 (x_n2 - 1)) y17 y18 y15 y16))
def G.spec_someStore.L3 (f : Nat) (x_n2 : Int) (y13 : List Int) (y14 : Int) (y15 : List ItemT) (y16 : Int) : Option (StoreT × ReaderT) := match f with
| 0 => none
| n + 1 =>
(cond (decide (0 < x_n2))
(Option.bind (G.spec_itemName n (ReaderT.mk y13 y14)) fun v20 =>
(Option.bind (G.spec_someNode n v20.2) fun v21 =>
(Option.bind (G.spec_PutItem n (StoreT.mk y15 y16) v20.1 v21.1) fun v22 =>
(Option.bind (G.spec_reader_pick n v21.2 8) fun v26 =>
(cond (v26.1 == 0)
(Option.bind (G.spec_itemName n v26.2) fun v27 =>
(Option.bind (G.spec_DropItem n (StoreT.mk y15 y16) v27.1) fun v28 =>
(G.spec_someStore.K4 n x_n2 y15 y16 v28.2 v27.2.b v27.2.p v28.1.Items v28.1.Clock)))
(G.spec_someStore.K4 n x_n2 y15 y16 v22.2 v26.2.b v26.2.p v22.1.Items v22.1.Clock))))))
(some ((StoreT.mk y15 y16), (ReaderT.mk y13 y14))))
end
def G.spec_someStore (f : Nat) (p_r1 : ReaderT) : Option (StoreT × ReaderT) := match f with
| 0 => none
| n + 1 =>
(Option.bind (G.spec_reader_one n p_r1 [3, 4, 2, 5, 0, 12]) fun v1 =>
(G.spec_someStore.L3 n v1.1 v1.2.b v1.2.p [] 0))
def G.spec_anyStore (f : Nat) (p_r1 : ReaderT) : Option (StoreT × ReaderT) := match f with
| 0 => none
| n + 1 =>
(Option.bind (G.spec_someStore n p_r1) fun v1 =>
(Option.bind (G.spec_reader_pick n v1.2 30) fun v2 =>
(cond (v2.1 == 0)
(Option.bind (G.spec_reader_one n v2.2 [0, 999, 1000, (-1)]) fun v3 =>
(some ((StoreT.mk v1.1.Items v3.1), v3.2)))
(cond (v2.1 == 1)
(Option.bind (G.spec_badName n v2.2) fun v4 =>
(chk ((v1.1.Items.length + 1) * 112 ≤ 2 ^ 46)
(some ((StoreT.mk (v1.1.Items ++ [(ItemT.mk v4.1 1 (NodeT.mk 0 0 [] [] []))]) v1.1.Clock), v4.2))))
(cond (v2.1 == 2)
(cond (decide (0 < ((v1.1.Items.length : Nat) : Int)))
(Option.bind (G.spec_reader_one n v2.2 [0, (IntKind.wrap .i64 (v1.1.Clock + 1)), 1]) fun v5 =>
(chk (0 ≤ 0 ∧ 0 < ((v1.1.Items.length : Nat) : Int))
(some ((StoreT.mk (v1.1.Items.set 0 (ItemT.mk ((v1.1.Items.getD 0 default).Name) v5.1 ((v1.1.Items.getD 0 default).Node))) v1.1.Clock), v5.2))))
(some (v1.1, v2.2)))
(cond (v2.1 == 3)
(cond (decide (0 < ((v1.1.Items.length : Nat) : Int)))
(Option.bind (G.spec_anyNode n v2.2) fun v6 =>
(chk (0 ≤ 0 ∧ 0 < ((v1.1.Items.length : Nat) : Int))
(some ((StoreT.mk (v1.1.Items.set 0 (ItemT.mk ((v1.1.Items.getD 0 default).Name) ((v1.1.Items.getD 0 default).Version) v6.1)) v1.1.Clock), v6.2))))
(some (v1.1, v2.2)))
(some (v1.1, v2.2))))))))
def G.spec_anyBatch.L2 (f : Nat) (v1 : StoreT × ReaderT) (y7 : List Int) (y8 : Int) (z4 : List RequestT) : Option (StoreT × List RequestT × ReaderT) := match f with
| 0 => none
| n + 1 =>
(cond (decide (((z4.length : Nat) : Int) < 9))
(Option.bind (G.spec_someRequest n (ReaderT.mk y7 y8) v1.1) fun v9 =>
(chk ((z4.length + 1) * 187 ≤ 2 ^ 46)
(G.spec_anyBatch.L2 n v1 v9.2.b v9.2.p (z4 ++ [v9.1]))))
(some (v1.1, z4, (ReaderT.mk y7 y8))))
def G.spec_anyBatch.L1 (f : Nat) (v1 : StoreT × ReaderT) (x_n2 : Int) (y3 : List Int) (y4 : Int) (z2 : List RequestT) : Option (StoreT × List RequestT × ReaderT) := match f with
| 0 => none
| n + 1 =>
(cond (decide (0 < x_n2))
(Option.bind (G.spec_anyRequest n (ReaderT.mk y3 y4) v1.1) fun v5 =>
(chk ((z2.length + 1) * 187 ≤ 2 ^ 46)
(G.spec_anyBatch.L1 n v1 (IntKind.wrap .i64 (x_n2 - 1)) v5.2.b v5.2.p (z2 ++ [v5.1]))))
(Option.bind (G.spec_reader_pick n (ReaderT.mk y3 y4) 30) fun v6 =>
(cond (v6.1 == 0)
(G.spec_anyBatch.L2 n v1 v6.2.b v6.2.p z2)
(some (v1.1, z2, v6.2)))))
def G.spec_anyBatch (f : Nat) (p_r1 : ReaderT) : Option (StoreT × List RequestT × ReaderT) := match f with
| 0 => none
| n + 1 =>
(Option.bind (G.spec_anyStore n p_r1) fun v1 =>
(Option.bind (G.spec_reader_one n v1.2 [2, 3, 1, 4, 0, 8]) fun v2 =>
(G.spec_anyBatch.L1 n v1 v2.1 v2.2.b v2.2.p [])))
def G.spec_newReader (f : Nat) (a_code1 : List Int) : Option (ReaderT) := match f with
| 0 => none
| n + 1 =>
(cond (decide (2000 < ((a_code1.length : Nat) : Int)))
(chk (0 ≤ 0 ∧ 0 ≤ 2000 ∧ 2000 ≤ ((a_code1.length : Nat) : Int))
(some ((ReaderT.mk (a_code1.take 2000) 0))))
(some ((ReaderT.mk a_code1 0))))
def G.spec_DrawTouches (f : Nat) (a_code1 : List Int) : Option (List RequestT) := match f with
| 0 => none
| n + 1 =>
(Option.bind (G.spec_newReader n a_code1) fun v1 =>
(Option.bind (G.spec_anyBatch n v1) fun v2 =>
(some (v2.2.1))))
def G.spec_nameUnion.L1 (f : Nat) (a_a1 : List Txt) (a_b1 : List Txt) (x_i2 : Int) (x_k2 : Int) (z2 : List Txt) : Option (List Txt) := match f with
| 0 => none
| n + 1 =>
(cond (decide (x_i2 < ((a_a1.length : Nat) : Int)))
(cond (x_k2 == ((a_b1.length : Nat) : Int))
(chk (0 ≤ x_i2 ∧ x_i2 < ((a_a1.length : Nat) : Int))
(chk ((z2.length + 1) * 18 ≤ 2 ^ 46)
(G.spec_nameUnion.L1 n a_a1 a_b1 (IntKind.wrap .i64 (x_i2 + 1)) x_k2 (z2 ++ [(a_a1.getD x_i2.toNat default)]))))
(chk (0 ≤ x_i2 ∧ x_i2 < ((a_a1.length : Nat) : Int))
(chk (0 ≤ x_k2 ∧ x_k2 < ((a_b1.length : Nat) : Int))
(cond (Op.bytesLess (a_a1.getD x_i2.toNat default) (a_b1.getD x_k2.toNat default))
(chk (0 ≤ x_i2 ∧ x_i2 < ((a_a1.length : Nat) : Int))
(chk ((z2.length + 1) * 18 ≤ 2 ^ 46)
(G.spec_nameUnion.L1 n a_a1 a_b1 (IntKind.wrap .i64 (x_i2 + 1)) x_k2 (z2 ++ [(a_a1.getD x_i2.toNat default)]))))
(cond (x_i2 == ((a_a1.length : Nat) : Int))
(chk (0 ≤ x_k2 ∧ x_k2 < ((a_b1.length : Nat) : Int))
(chk ((z2.length + 1) * 18 ≤ 2 ^ 46)
(G.spec_nameUnion.L1 n a_a1 a_b1 x_i2 (IntKind.wrap .i64 (x_k2 + 1)) (z2 ++ [(a_b1.getD x_k2.toNat default)]))))
(chk (0 ≤ x_k2 ∧ x_k2 < ((a_b1.length : Nat) : Int))
(chk (0 ≤ x_i2 ∧ x_i2 < ((a_a1.length : Nat) : Int))
(cond (Op.bytesLess (a_b1.getD x_k2.toNat default) (a_a1.getD x_i2.toNat default))
(chk (0 ≤ x_k2 ∧ x_k2 < ((a_b1.length : Nat) : Int))
(chk ((z2.length + 1) * 18 ≤ 2 ^ 46)
(G.spec_nameUnion.L1 n a_a1 a_b1 x_i2 (IntKind.wrap .i64 (x_k2 + 1)) (z2 ++ [(a_b1.getD x_k2.toNat default)]))))
(chk (0 ≤ x_i2 ∧ x_i2 < ((a_a1.length : Nat) : Int))
(chk ((z2.length + 1) * 18 ≤ 2 ^ 46)
(G.spec_nameUnion.L1 n a_a1 a_b1 (IntKind.wrap .i64 (x_i2 + 1)) (IntKind.wrap .i64 (x_k2 + 1)) (z2 ++ [(a_a1.getD x_i2.toNat default)]))))))))))))
(cond (decide (x_k2 < ((a_b1.length : Nat) : Int)))
(cond (x_k2 == ((a_b1.length : Nat) : Int))
(chk (0 ≤ x_i2 ∧ x_i2 < ((a_a1.length : Nat) : Int))
(chk ((z2.length + 1) * 18 ≤ 2 ^ 46)
(G.spec_nameUnion.L1 n a_a1 a_b1 (IntKind.wrap .i64 (x_i2 + 1)) x_k2 (z2 ++ [(a_a1.getD x_i2.toNat default)]))))
(cond (x_i2 == ((a_a1.length : Nat) : Int))
(chk (0 ≤ x_k2 ∧ x_k2 < ((a_b1.length : Nat) : Int))
(chk ((z2.length + 1) * 18 ≤ 2 ^ 46)
(G.spec_nameUnion.L1 n a_a1 a_b1 x_i2 (IntKind.wrap .i64 (x_k2 + 1)) (z2 ++ [(a_b1.getD x_k2.toNat default)]))))
(chk (0 ≤ x_k2 ∧ x_k2 < ((a_b1.length : Nat) : Int))
(chk (0 ≤ x_i2 ∧ x_i2 < ((a_a1.length : Nat) : Int))
(cond (Op.bytesLess (a_b1.getD x_k2.toNat default) (a_a1.getD x_i2.toNat default))
(chk (0 ≤ x_k2 ∧ x_k2 < ((a_b1.length : Nat) : Int))
(chk ((z2.length + 1) * 18 ≤ 2 ^ 46)
(G.spec_nameUnion.L1 n a_a1 a_b1 x_i2 (IntKind.wrap .i64 (x_k2 + 1)) (z2 ++ [(a_b1.getD x_k2.toNat default)]))))
(chk (0 ≤ x_i2 ∧ x_i2 < ((a_a1.length : Nat) : Int))
(chk ((z2.length + 1) * 18 ≤ 2 ^ 46)
(G.spec_nameUnion.L1 n a_a1 a_b1 (IntKind.wrap .i64 (x_i2 + 1)) (IntKind.wrap .i64 (x_k2 + 1)) (z2 ++ [(a_a1.getD x_i2.toNat default)])))))))))
(some (z2))))
def G.spec_nameUnion (f : Nat) (a_a1 : List Txt) (a_b1 : List Txt) : Option (List Txt) := match f with
| 0 => none
| n + 1 =>
(G.spec_nameUnion.L1 n a_a1 a_b1 0 0 [])
def G.spec_validPath.L1 (f : Nat) (a_path1 : List Txt) (x_i2 : Int) : Option (Bool) := match f with
| 0 => none
| n + 1 =>
(cond (decide (x_i2 < ((a_path1.length : Nat) : Int)))
(chk (0 ≤ x_i2 ∧ x_i2 < ((a_path1.length : Nat) : Int))
(Option.bind (G.spec_validText n (a_path1.getD x_i2.toNat default)) fun v3 =>
(cond v3
(G.spec_validPath.L1 n a_path1 (IntKind.wrap .i64 (x_i2 + 1)))
(some (false)))))
(some ((decide (((a_path1.length : Nat) : Int) ≤ 5)))))
def G.spec_validPath (f : Nat) (a_path1 : List Txt) : Option (Bool) := match f with
| 0 => none
| n + 1 =>
(G.spec_validPath.L1 n a_path1 0)
def G.spec_validOp (f : Nat) (a_o1 : OpT) : Option (Bool) := match f with
| 0 => none
| n + 1 =>
(Option.bind (G.spec_inRange n a_o1.Kind 1 6) fun v1 =>
(cond v1
(Option.bind (G.spec_validPath n a_o1.Path) fun v2 =>
(cond v2
(Option.bind (G.spec_validPath n a_o1.From) fun v3 =>
(cond v3
(Option.bind (G.spec_validNode n a_o1.Value) fun v4 =>
(some (v4)))
(some (false))))
(some (false))))
(some (false))))
def G.spec_validPatch.L1 (f : Nat) (a_list1 : List OpT) (x_i2 : Int) : Option (Bool) := match f with
| 0 => none
| n + 1 =>
(cond (decide (x_i2 < ((a_list1.length : Nat) : Int)))
(chk (0 ≤ x_i2 ∧ x_i2 < ((a_list1.length : Nat) : Int))
(Option.bind (G.spec_validOp n (OpT.mk ((a_list1.getD x_i2.toNat default).Kind) ((a_list1.getD x_i2.toNat default).Path) ((a_list1.getD x_i2.toNat default).From) ((a_list1.getD x_i2.toNat default).Value))) fun v3 =>
(cond v3
(G.spec_validPatch.L1 n a_list1 (IntKind.wrap .i64 (x_i2 + 1)))
(some (false)))))
(some ((decide (((a_list1.length : Nat) : Int) ≤ 12)))))
def G.spec_validPatch (f : Nat) (a_list1 : List OpT) : Option (Bool) := match f with
| 0 => none
| n + 1 =>
(G.spec_validPatch.L1 n a_list1 0)
def G.spec_validTag.L1 (f : Nat) (a_s1 : Txt) (x_i2 : Int) : Option (Bool) := match f with
| 0 => none
| n + 1 =>
(cond (decide (x_i2 < ((a_s1.length : Nat) : Int)))
(chk (0 ≤ x_i2 ∧ x_i2 < ((a_s1.length : Nat) : Int))
(Option.bind (G.spec_inRange n (IntKind.wrap .i64 ((((a_s1.getD x_i2.toNat 0).toNat : Nat) : Int))) 48 57) fun v5 =>
(cond v5
(G.spec_validTag.L1 n a_s1 (IntKind.wrap .i64 (x_i2 + 1)))
(chk (0 ≤ x_i2 ∧ x_i2 < ((a_s1.length : Nat) : Int))
(Option.bind (G.spec_inRange n (IntKind.wrap .i64 ((((a_s1.getD x_i2.toNat 0).toNat : Nat) : Int))) 97 102) fun v6 =>
(cond v6
(G.spec_validTag.L1 n a_s1 (IntKind.wrap .i64 (x_i2 + 1)))
(some (false))))))))
(some ((((a_s1.length : Nat) : Int) == 4))))
def G.spec_validTag (f : Nat) (a_s1 : Txt) : Option (Bool) := match f with
| 0 => none
| n + 1 =>
(G.spec_validTag.L1 n a_s1 0)
def G.spec_validTags.L1 (f : Nat) (a_list1 : List Txt) (x_i2 : Int) : Option (Bool) := match f with
| 0 => none
| n + 1 =>
(cond (decide (x_i2 < ((a_list1.length : Nat) : Int)))
(chk (0 ≤ x_i2 ∧ x_i2 < ((a_list1.length : Nat) : Int))
(cond ((a_list1.getD x_i2.toNat default) == [42])
(G.spec_validTags.L1 n a_list1 (IntKind.wrap .i64 (x_i2 + 1)))
(chk (0 ≤ x_i2 ∧ x_i2 < ((a_list1.length : Nat) : Int))
(Option.bind (G.spec_validTag n (a_list1.getD x_i2.toNat default)) fun v3 =>
(cond v3
(G.spec_validTags.L1 n a_list1 (IntKind.wrap .i64 (x_i2 + 1)))
(some (false)))))))
(some ((decide (((a_list1.length : Nat) : Int) ≤ 4)))))
def G.spec_validTags (f : Nat) (a_list1 : List Txt) : Option (Bool) := match f with
| 0 => none
| n + 1 =>
(G.spec_validTags.L1 n a_list1 0)
def G.spec_validRequest (f : Nat) (a_q1 : RequestT) : Option (Bool) := match f with
| 0 => none
| n + 1 =>
(Option.bind (G.spec_inRange n a_q1.Method 1 5) fun v1 =>
(cond v1
(Option.bind (G.spec_validName n a_q1.Name) fun v2 =>
(cond v2
(Option.bind (G.spec_validTags n a_q1.Want) fun v3 =>
(cond v3
(Option.bind (G.spec_validTags n a_q1.Avoid) fun v4 =>
(cond v4
(Option.bind (G.spec_validNode n a_q1.Body) fun v5 =>
(cond v5
(Option.bind (G.spec_validPatch n a_q1.Ops) fun v6 =>
(some (v6)))
(some (false))))
(some (false))))
(some (false))))
(some (false))))
(some (false))))
def G.spec_validBatch.L1 (f : Nat) (a_list1 : List RequestT) (x_i2 : Int) : Option (Bool) := match f with
| 0 => none
| n + 1 =>
(cond (decide (x_i2 < ((a_list1.length : Nat) : Int)))
(chk (0 ≤ x_i2 ∧ x_i2 < ((a_list1.length : Nat) : Int))
(Option.bind (G.spec_validRequest n (RequestT.mk ((a_list1.getD x_i2.toNat default).Method) ((a_list1.getD x_i2.toNat default).Name) ((a_list1.getD x_i2.toNat default).Want) ((a_list1.getD x_i2.toNat default).Avoid) ((a_list1.getD x_i2.toNat default).Body) ((a_list1.getD x_i2.toNat default).Ops))) fun v3 =>
(cond v3
(G.spec_validBatch.L1 n a_list1 (IntKind.wrap .i64 (x_i2 + 1)))
(some (false)))))
(some ((decide (((a_list1.length : Nat) : Int) ≤ 8)))))
def G.spec_validBatch (f : Nat) (a_list1 : List RequestT) : Option (Bool) := match f with
| 0 => none
| n + 1 =>
(G.spec_validBatch.L1 n a_list1 0)
def G.spec_Touches.L1 (f : Nat) (a_list1 : List RequestT) (x_out2 : List Txt) (x_i2 : Int) : Option (List Txt) := match f with
| 0 => none
| n + 1 =>
(cond (decide (x_i2 < ((a_list1.length : Nat) : Int)))
(chk (0 ≤ x_i2 ∧ x_i2 < ((a_list1.length : Nat) : Int))
(cond ((a_list1.getD x_i2.toNat default).Method != 1)
(chk (0 ≤ x_i2 ∧ x_i2 < ((a_list1.length : Nat) : Int))
(Option.bind (G.spec_nameUnion n x_out2 [(a_list1.getD x_i2.toNat default).Name]) fun v4 =>
(G.spec_Touches.L1 n a_list1 v4 (IntKind.wrap .i64 (x_i2 + 1)))))
(G.spec_Touches.L1 n a_list1 x_out2 (IntKind.wrap .i64 (x_i2 + 1)))))
(some (x_out2)))
def G.spec_Touches (f : Nat) (a_list1 : List RequestT) : Option (List Txt) := match f with
| 0 => none
| n + 1 =>
(Option.bind (G.spec_validBatch n a_list1) fun v1 =>
(cond v1
(G.spec_Touches.L1 n a_list1 [] 0)
(some ([]))))
def G.laws_FnTouchesSafe (f : Nat) (a_code1 : List Int) : Option (Bool) := match f with
| 0 => none
| n + 1 =>
(cond (decide (1048576 < ((a_code1.length : Nat) : Int)))
(some (true))
(Option.bind (G.spec_DrawTouches n a_code1) fun v1 =>
(Option.bind (G.impl_Touches n v1) fun v2 =>
(Option.bind (G.spec_Touches n v1) fun v3 =>
(Option.bind (G.laws_equalTexts n v2 v3) fun v4 =>
(cond v4
(Option.bind (G.impl_Touches n [(RequestT.mk 3 [97] [] [] (NodeT.mk 0 0 [] [] []) [])]) fun v5 =>
(Option.bind (G.impl_Touches n [(RequestT.mk 1 [97] [] [] (NodeT.mk 0 0 [] [] []) []), (RequestT.mk 1 [98] [] [] (NodeT.mk 0 0 [] [] []) [])]) fun v6 =>
(Option.bind (G.laws_equalTexts n v5 [[97]]) fun v7 =>
(cond v7
(some ((((v6.length : Nat) : Int) == 0)))
(some (false))))))
(some (false))))))))
end Go.Ab
end
section
namespace Go.Ab
open Go
set_option maxRecDepth 100000
set_option linter.defProp false
theorem mapTakeS {α β : Type} (f : α → β) (l : List α) (n : Nat) : List.take n (List.map f l) = List.map f (List.take n l) := List.map_take.symm
theorem mapDropS {α β : Type} (f : α → β) (l : List α) (n : Nat) : List.drop n (List.map f l) = List.map f (List.drop n l) := List.map_drop.symm
theorem kq1 {i : Int} {m : Nat} [inst : Decidable (0 ≤ i ∧ i < (m : Int))] {α : Type} {k : Option α} {r : α} (h : chk (0 ≤ i ∧ i < (m : Int)) k = some r) : (0 ≤ i ∧ i < (m : Int)) ∧ i.toNat < m ∧ k = some r := by
  obtain ⟨h1, h2⟩ := chk_some.1 h
  exact ⟨h1, by omega, h2⟩
inductive Mk : Nat → Prop
  | mk (n : Nat) : Mk n
theorem kq0 {m : Nat} [inst : Decidable ((0 : Nat) ≤ 0 ∧ (0 : Int) < (m : Int))] {α : Type} {k : Option α} {r : α} (h : chk ((0 : Nat) ≤ 0 ∧ (0 : Int) < (m : Int)) k = some r) : (0 : Int) < (m : Int) ∧ 0 < m ∧ k = some r := by
  obtain ⟨h1, h2⟩ := chk_some.1 h
  exact ⟨h1.2, by omega, h2⟩
theorem kq {c : Prop} [Decidable c] {α : Type} {k : Option α} {r : α} (h : chk c k = some r) : c ∧ k = some r := chk_some.1 h
theorem bq {α β : Type} {x : Option α} {f : α → Option β} {r : β} (h : Option.bind x f = some r) : ∃ a, x = some a ∧ f a = some r := Option.bind_eq_some_iff.1 h
section
variable {P : Program} {Q : AQ} {st : ASt}
theorem isCall {f : FuncId} {avs : List AV} {p : Bool} {d : Option Nat} {K : List Nat → List Nat → ASt → Prop} {du : DU K} (k : TCallK P f avs p d st K du) : TCallK P f avs p d st K du := k
theorem isLoop {a : AQ → ASt → Prop} {d1 : DU a} {d2 : DU Q} (k : WLoopK a Q st d1 d2) : WLoopK a Q st d1 d2 := k
theorem isCut {a b : AQ → ASt → Prop} {d1 : DU a} {d2 : DU b} {d3 : DU Q} (k : WCutK a b Q st d1 d2 d3) : WCutK a b Q st d1 d2 d3 := k
theorem isEx {X : Type} {p : X → Prop} (k : ∃ x, p x) : ∃ x, p x := k
theorem isEnd {rs : List ARes} {r : AV} (k : PEnd rs r st) : PEnd rs r st := k
theorem isRet {rs : List ARes} {m : Nat} {post : AV → List Box → Prop} (k : RetOK rs m post st) : RetOK rs m post st := k
end
theorem sq {α : Type} {x r : α} (h : some x = some r) : r = x := (Option.some.inj h).symm
theorem cq {b : Bool} {α : Type} {x y : Option α} {r : α} (h : cond b x y = some r) : (b = true ∧ x = some r) ∨ (b = false ∧ y = some r) := cond_some.1 h
def egD := And.intro @wpCK_skip (And.intro @wpCK_reg (And.intro @wpCK_regD (And.intro @wpCK_seq (And.intro @wpCK_cut (And.intro @wpCK_loop (And.intro @wpCK_block (And.intro @wpCK_exit (And.intro @wpCK_ret (And.intro @wpCK_cond (And.intro @condK_t (And.intro @condK_f (And.intro @QK_then_n (And.intro @QK_then_e (And.intro @QK_then_r (And.intro @QK_next_n (And.intro @QK_next_e (And.intro @QK_next_r (And.intro @QK_block_n (And.intro @QK_block_e (And.intro @QK_block_r (And.intro @QK_QP_n (And.intro @QK_QP_r (And.intro @QK_QF_n (And.intro @QK_QF_r (And.intro @wpOpsK_nil (And.intro @wpOpsK_cons (And.intro @wpDK_nil (And.intro @wpDK_cons (And.intro @TK_op' (And.intro @TGK_t (And.intro @TGK_f (And.intro @TOpV_m (And.intro @TK_call (And.intro @TK_callv (And.intro @TCallV_eq (And.intro @TCallV_f (And.intro @slots0.eq_1 (And.intro @slots0.eq_2 (And.intro @boxes0.eq_1 (And.intro @boxes0.eq_2 (And.intro @st0.eq_1 (And.intro @guardVC.eq_1 (And.intro @guardVC.eq_2 (And.intro @guardV.eq_1 (And.intro @guardV.eq_2 (And.intro @AOp.valid.eq_1 (And.intro @AOp.valid.eq_2 (And.intro @avOf.eq_1 (And.intro @ev_t (And.intro @ev_k (And.intro @g_v (And.intro @x_v (And.intro @of_tm (And.intro @of_bx (And.intro @of_put (And.intro @of_setb (And.intro @of_keep (And.intro @lookT.eq_1 (And.intro @lookT.eq_2 (And.intro @lookB.eq_1 (And.intro @lookB.eq_2 (And.intro @keepL.eq_1 (And.intro @keepL.eq_2 (And.intro @setB.eq_1 (And.intro @setB.eq_2 (And.intro @putO_none (And.intro @putO_some (And.intro @setbs_nil (And.intro @setbs_cons (And.intro @FR.ok.eq_1 (And.intro @binV.eq_1 (And.intro @binV.eq_2 (And.intro @binV.eq_3 (And.intro @AV.flat.eq_1 (And.intro @AV.flat.eq_2 (And.intro @AV.cells.eq_1 (And.intro @AV.cells.eq_2 (And.intro @AV.cells.eq_3 (And.intro @loadV.eq_1 (And.intro @loadV.eq_2 (And.intro @loadV.eq_3 (And.intro @loadV.eq_4 (And.intro @partOK.eq_1 (And.intro @fillV.eq_1 (And.intro @fillV.eq_2 (And.intro @splice.eq_1 (And.intro @Box.arr.eq_1 (And.intro @Box.arr.eq_2 (And.intro @Box.arr.eq_3 (And.intro @dataOf.eq_1 (And.intro @dataOf.eq_2 (And.intro @dataOf.eq_3 (And.intro @dataOf.eq_4 (And.intro @datas.eq_1 (And.intro @datas.eq_2 (And.intro @bnd.eq_1 (And.intro @bnd.eq_2 (And.intro @pickV.eq_1 (And.intro @pickV.eq_2 (And.intro @logOK_nn (And.intro @logOK_n0 (And.intro @vStr.eq_1 (And.intro @vInt.eq_1 (And.intro @vBool.eq_1 (And.intro @vSl.eq_1 (And.intro @lendA.eq_1 (And.intro @lendA.eq_2 (And.intro @lendA.eq_3 (And.intro @lendC.eq_1 (And.intro @lendC.eq_2 (And.intro @lendC.eq_3 (And.intro @lendOKs.eq_1 (And.intro @lendOKs.eq_2 (And.intro @lendOKs.eq_3 (And.intro @lendOK.eq_1 (And.intro @lendOK.eq_2 (And.intro @lendOK.eq_3 (And.intro @AV.owns.eq_1 (And.intro @AV.owns.eq_2 (And.intro @AV.owns.eq_3 (And.intro @ownsOf.eq_1 (And.intro @ownsOf.eq_2 (And.intro @ownsOf.eq_3 (And.intro @AC.isData.eq_1 (And.intro @AC.isData.eq_2 (And.intro @AC.isLit.eq_1 (And.intro @AC.isLit.eq_2 (And.intro @AV.all.eq_1 (And.intro @AV.all.eq_2 (And.intro @AV.all.eq_3 (And.intro @Cell.isLit.eq_1 (And.intro @Cell.isLit.eq_2 (And.intro @List.mem_cons.{0} (And.intro @List.not_mem_nil.{0} (And.intro @or_false (And.intro @false_or (And.intro @or_true (And.intro @true_or (And.intro @forall_eq.{1} (And.intro @forall_eq_or_imp.{1} (And.intro @true_and (And.intro @and_true (And.intro @true_implies (And.intro @false_implies (And.intro @implies_true.{1} (And.intro @if_true.{1} (And.intro @if_false.{1} (And.intro @Bool.false_eq_true (And.intro @Bool.true_eq_false (And.intro @imp_self (And.intro @and_self (And.intro @cond_true.{1} (And.intro @cond_false.{1} (And.intro @List.map_cons.{0,0} (And.intro @List.map_nil.{0,0} (And.intro @List.take_succ_cons.{0} (And.intro @List.take_zero.{0} (And.intro @List.drop_succ_cons.{0} (And.intro @List.drop_zero.{0} (And.intro @List.take_nil.{0} (And.intro @List.drop_nil.{0} (And.intro @List.cons_append.{0} (And.intro @List.nil_append.{0} (And.intro @List.append_nil.{0} (And.intro @List.length_cons.{0} (And.intro @List.length_nil.{0} (And.intro @List.getElem?_cons_zero.{0} (And.intro @List.getElem?_cons_succ.{0} (And.intro @List.length_map.{0,0} (And.intro @List.length_replicate.{0} (And.intro @List.length_append.{0} (And.intro @List.map_append.{0,0} (And.intro @List.flatMap_cons.{0,0} (And.intro @List.flatMap_nil.{0,0} (And.intro @List.all_cons.{0} (And.intro @List.all_nil.{0} (And.intro @List.contains_cons.{0} (And.intro @List.contains_nil.{0} (And.intro @Bool.and_true (And.intro @Bool.or_false (And.intro @Bool.false_or (And.intro @Bool.true_or (And.intro @Bool.or_true (And.intro @Bool.and_self (And.intro @Bool.not_false (And.intro @Bool.not_true (And.intro @Bool.true_and (And.intro @Bool.false_and (And.intro @Bool.and_false (And.intro @Nat.zero_lt_succ (And.intro @Nat.zero_le (And.intro @Nat.zero_add (And.intro @Nat.le_refl (And.intro @Nat.min_self (And.intro @bq_t (And.intro @bq_f (And.intro @decide_true (And.intro @decide_false (And.intro @beqV.eq_1 (And.intro @beqV.eq_2 (And.intro @shfV.eq_1 (And.intro @shfV.eq_2 (And.intro @capV.eq_1 (And.intro @capV.eq_2 (And.intro @capV.eq_3 (And.intro @cmpsV.eq_1 (And.intro @cmpsV.eq_2 (And.intro @idxbV.eq_1 (And.intro @idxbV.eq_2 (And.intro @ovlV.eq_1 (And.intro @asSub.eq_1 (And.intro @asSub.eq_2 (And.intro @asSub.eq_3 (And.intro @cI.eq_1 (And.intro @cU.eq_1 (And.intro @cB.eq_1 (And.intro @cS.eq_1 (And.intro @cL.eq_1 (And.intro @cK.eq_1 (And.intro @NodeT.cells_eq (And.intro @OpT.cells_eq (And.intro @RequestT.cells_eq (And.intro @ReaderT.cells_eq (And.intro @StoreT.cells_eq (And.intro @ItemT.cells_eq (And.intro @List.getD_cons_zero.{0} (And.intro @List.getD_cons_succ.{0} (And.intro @List.map_set.{0,0} (And.intro @List.length_set.{0} (And.intro @getD_mapL (And.intro @take_len (And.intro @take_c1 (And.intro @take_c2 (And.intro @of_frzL (And.intro @frzL.eq_1 (And.intro @frzL.eq_2 (And.intro @frzL_nil (And.intro @frzB.eq_1 (And.intro @frzB.eq_2 (And.intro @bytesOf_cU (And.intro @bytesTxt_length (And.intro @bytesOf_nil (And.intro @bytesOf_one (And.intro @Option.map_some.{0,0} (And.intro @Int.toNat_natCast (And.intro @Int.toNat_zero (And.intro @mapTakeS (And.intro @mapDropS (And.intro @bne_self_eq_false.{0} (And.intro @Bool.bne_true (And.intro @Bool.bne_false (And.intro @List.drop_replicate.{0} (And.intro @Nat.sub_self (And.intro @capsOf.eq_1 (And.intro @capsOf.eq_2 (And.intro @capsOf.eq_3 (And.intro @Option.toList_none.{0} (And.intro @Option.toList_some.{0} (And.intro @frzs.eq_1 (And.intro @partOwns.eq_1 (And.intro @partOwns.eq_2 (And.intro @partLend.eq_1 (And.intro @partLend.eq_2 (And.intro @eq_self.{1} (And.intro @List.replicate_zero.{0} (And.intro @List.replicate_succ.{0} (And.intro @fillE.eq_1 (And.intro @fillE.eq_2 (And.intro @datParts.eq_1 (And.intro @datParts.eq_2 (And.intro @List.set_cons_zero.{0} (And.intro @List.set_cons_succ.{0} (And.intro @drop1S (And.intro @renB.eq_1 (And.intro @renB.eq_2 (And.intro @renA.eq_1 (And.intro @renA.eq_2 (And.intro @renA.eq_3 (And.intro @List.zip_cons_cons.{0,0} (And.intro @List.zip_nil_right.{0,0} (And.intro @List.zip_nil_left.{0,0} (And.intro @beq_self_eq_true.{0} @Nat.add_zero))))))))))))))))))))))))))))))))))))))))))))))))))))))))))))))))))))))))))))))))))))))))))))))))))))))))))))))))))))))))))))))))))))))))))))))))))))))))))))))))))))))))))))))))))))))))))))))))))))))))))))))))))))))))))))))))))))))))))))))))))))))))))))))))))))))))))))))))))))))))))
theorem egR : type_of% egD := egD
def wkD := And.intro @wkBs.eq_1 (And.intro @wkBs.eq_2 (And.intro @wkTs.eq_1 (And.intro @wkTs.eq_2 (And.intro @wkSl.eq_1 (And.intro @wkSl.eq_2 (And.intro @wkSl.eq_3 (And.intro @wkV.eq_1 (And.intro @wkV.eq_2 (And.intro @wkV.eq_3 (And.intro @wkV.eq_4 (And.intro @wkCs.eq_1 (And.intro @wkCs.eq_2 (And.intro @wkCs.eq_3 (And.intro @piL.eq_1 (And.intro @piL.eq_2 (And.intro @lookT.eq_1 (And.intro @lookT.eq_2 (And.intro @lookB.eq_1 (And.intro @lookB.eq_2 (And.intro @true_and (And.intro @and_true (And.intro @implies_true.{1} (And.intro @List.mem_cons.{0} (And.intro @List.not_mem_nil.{0} (And.intro @or_false (And.intro @or_true (And.intro @true_or (And.intro @Box.arr.eq_1 (And.intro @Box.arr.eq_2 (And.intro @Box.arr.eq_3 (And.intro @vStr.eq_1 (And.intro @vInt.eq_1 (And.intro @vBool.eq_1 (And.intro @vSl.eq_1 (And.intro @not_false_eq_true (And.intro @false_or (And.intro @Option.some.injEq.{0} (And.intro @true_implies (And.intro @cI.eq_1 (And.intro @cU.eq_1 (And.intro @cB.eq_1 (And.intro @cS.eq_1 (And.intro @cL.eq_1 (And.intro @cK.eq_1 (And.intro @NodeT.cells_eq (And.intro @OpT.cells_eq (And.intro @RequestT.cells_eq (And.intro @ReaderT.cells_eq (And.intro @StoreT.cells_eq (And.intro @ItemT.cells_eq (And.intro @List.map_append.{0,0} (And.intro @List.map_cons.{0,0} (And.intro @List.map_nil.{0,0} (And.intro @List.map_set.{0,0} (And.intro @List.map_take.{0,0} (And.intro @List.map_drop.{0,0} (And.intro @List.map_replicate.{0,0} (And.intro @List.length_append.{0} (And.intro @List.length_cons.{0} (And.intro @List.length_nil.{0} (And.intro @List.length_map.{0,0} (And.intro @List.length_set.{0} (And.intro @List.length_replicate.{0} (And.intro @Nat.zero_add (And.intro @Nat.add_zero (And.intro @List.nil_append.{0} (And.intro @List.cons_append.{0} (And.intro @List.append_nil.{0} (And.intro @take_len (And.intro @take_c1 (And.intro @take_c2 @and_self)))))))))))))))))))))))))))))))))))))))))))))))))))))))))))))))))))))))
theorem wkR : type_of% wkD := wkD
def peD := And.intro @PEnd.eq_1 (And.intro @resOKs.eq_1 (And.intro @resOKs.eq_2 (And.intro @ARes.ok.eq_1 (And.intro @ARes.ok.eq_2 (And.intro @ARes.val.eq_1 (And.intro @ARes.val.eq_2 (And.intro @retV.eq_1 (And.intro @retV.eq_2 (And.intro @resParts.eq_1 (And.intro @resParts.eq_2 (And.intro @partOf.eq_1 (And.intro @partOf.eq_2 (And.intro @partOf.eq_3 (And.intro @of_tm (And.intro @of_bx (And.intro @of_bx' (And.intro @g_v (And.intro @x_v (And.intro @AV.flat.eq_1 (And.intro @AV.flat.eq_2 (And.intro @loadV.eq_1 (And.intro @loadV.eq_2 (And.intro @loadV.eq_3 (And.intro @loadV.eq_4 (And.intro @lookT.eq_1 (And.intro @lookT.eq_2 (And.intro @lookB.eq_1 (And.intro @lookB.eq_2 (And.intro @dV.eq_1 (And.intro @dV.eq_2 (And.intro @dV.eq_3 (And.intro @dV.eq_4 (And.intro @dC.eq_1 (And.intro @dC.eq_2 (And.intro @dC.eq_3 (And.intro @dC.eq_4 (And.intro @dCs.eq_1 (And.intro @dCs.eq_2 (And.intro @dCs.eq_3 (And.intro @dPs.eq_1 (And.intro @dPs.eq_2 (And.intro @dPs.eq_3 (And.intro @Box.arr.eq_1 (And.intro @Box.arr.eq_2 (And.intro @Box.arr.eq_3 (And.intro @List.take_succ_cons.{0} (And.intro @List.take_zero.{0} (And.intro @List.drop_zero.{0} (And.intro @List.drop_succ_cons.{0} (And.intro @List.length_cons.{0} (And.intro @List.length_nil.{0} (And.intro @List.getElem?_cons_zero.{0} (And.intro @List.getElem?_cons_succ.{0} (And.intro @true_and (And.intro @and_true (And.intro @Nat.zero_add (And.intro @vInt.eq_1 (And.intro @vBool.eq_1 (And.intro @vStr.eq_1 (And.intro @vSl.eq_1 (And.intro @FR.ok.eq_1 (And.intro @cI.eq_1 (And.intro @cU.eq_1 (And.intro @cB.eq_1 (And.intro @cS.eq_1 (And.intro @cL.eq_1 (And.intro @cK.eq_1 (And.intro @NodeT.cells_eq (And.intro @OpT.cells_eq (And.intro @RequestT.cells_eq (And.intro @ReaderT.cells_eq (And.intro @StoreT.cells_eq (And.intro @ItemT.cells_eq (And.intro @List.map_append.{0,0} (And.intro @List.map_cons.{0,0} (And.intro @List.map_nil.{0,0} (And.intro @List.map_set.{0,0} (And.intro @List.map_take.{0,0} (And.intro @List.map_drop.{0,0} (And.intro @List.map_replicate.{0,0} (And.intro @List.length_append.{0} (And.intro @List.length_map.{0,0} (And.intro @List.length_set.{0} (And.intro @List.length_replicate.{0} (And.intro @Nat.add_zero (And.intro @List.nil_append.{0} (And.intro @List.cons_append.{0} (And.intro @List.append_nil.{0} (And.intro @take_len (And.intro @take_c1 (And.intro @take_c2 (And.intro @and_self @bytesTxt_length))))))))))))))))))))))))))))))))))))))))))))))))))))))))))))))))))))))))))))))))))))))))))))
theorem peR : type_of% peD := peD
def rwD := And.intro @wkBs.eq_1 (And.intro @wkBs.eq_2 (And.intro @wkTs.eq_1 (And.intro @wkTs.eq_2 (And.intro @wkSl.eq_1 (And.intro @wkSl.eq_2 (And.intro @wkSl.eq_3 (And.intro @wkV.eq_1 (And.intro @wkV.eq_2 (And.intro @wkV.eq_3 (And.intro @wkV.eq_4 (And.intro @wkCs.eq_1 (And.intro @wkCs.eq_2 (And.intro @wkCs.eq_3 (And.intro @piL.eq_1 (And.intro @piL.eq_2 (And.intro @lookT.eq_1 (And.intro @lookT.eq_2 (And.intro @lookB.eq_1 (And.intro @lookB.eq_2 (And.intro @true_and (And.intro @and_true (And.intro @implies_true.{1} (And.intro @List.mem_cons.{0} (And.intro @List.not_mem_nil.{0} (And.intro @or_false (And.intro @or_true (And.intro @true_or (And.intro @Box.arr.eq_1 (And.intro @Box.arr.eq_2 (And.intro @Box.arr.eq_3 (And.intro @vStr.eq_1 (And.intro @vInt.eq_1 (And.intro @vBool.eq_1 (And.intro @vSl.eq_1 (And.intro @not_false_eq_true (And.intro @false_or (And.intro @Option.some.injEq.{0} (And.intro @true_implies (And.intro @cI.eq_1 (And.intro @cU.eq_1 (And.intro @cB.eq_1 (And.intro @cS.eq_1 (And.intro @cL.eq_1 (And.intro @cK.eq_1 (And.intro @NodeT.cells_eq (And.intro @OpT.cells_eq (And.intro @RequestT.cells_eq (And.intro @ReaderT.cells_eq (And.intro @StoreT.cells_eq (And.intro @ItemT.cells_eq (And.intro @List.map_append.{0,0} (And.intro @List.map_cons.{0,0} (And.intro @List.map_nil.{0,0} (And.intro @List.map_set.{0,0} (And.intro @List.map_take.{0,0} (And.intro @List.map_drop.{0,0} (And.intro @List.map_replicate.{0,0} (And.intro @List.length_append.{0} (And.intro @List.length_cons.{0} (And.intro @List.length_nil.{0} (And.intro @List.length_map.{0,0} (And.intro @List.length_set.{0} (And.intro @List.length_replicate.{0} (And.intro @Nat.zero_add (And.intro @Nat.add_zero (And.intro @List.nil_append.{0} (And.intro @List.cons_append.{0} (And.intro @List.append_nil.{0} (And.intro @take_len (And.intro @take_c1 (And.intro @take_c2 (And.intro @and_self (And.intro @boxes0.eq_1 (And.intro @boxes0.eq_2 (And.intro @wkPs.eq_1 (And.intro @wkPs.eq_2 (And.intro @wkPs.eq_3 (And.intro @PEnd.eq_1 (And.intro @resOKs.eq_1 (And.intro @resOKs.eq_2 (And.intro @ARes.ok.eq_1 (And.intro @ARes.ok.eq_2 (And.intro @ARes.val.eq_1 (And.intro @ARes.val.eq_2 (And.intro @retV.eq_1 (And.intro @retV.eq_2 (And.intro @resParts.eq_1 (And.intro @resParts.eq_2 (And.intro @partOf.eq_1 (And.intro @partOf.eq_2 (And.intro @partOf.eq_3 (And.intro @of_tm (And.intro @of_bx (And.intro @of_bx' (And.intro @g_v (And.intro @x_v (And.intro @AV.flat.eq_1 (And.intro @AV.flat.eq_2 (And.intro @loadV.eq_1 (And.intro @loadV.eq_2 (And.intro @loadV.eq_3 (And.intro @loadV.eq_4 (And.intro @dV.eq_1 (And.intro @dV.eq_2 (And.intro @dV.eq_3 (And.intro @dV.eq_4 (And.intro @dC.eq_1 (And.intro @dC.eq_2 (And.intro @dC.eq_3 (And.intro @dC.eq_4 (And.intro @dCs.eq_1 (And.intro @dCs.eq_2 (And.intro @dCs.eq_3 (And.intro @dPs.eq_1 (And.intro @dPs.eq_2 (And.intro @dPs.eq_3 (And.intro @List.take_succ_cons.{0} (And.intro @List.take_zero.{0} (And.intro @List.drop_zero.{0} (And.intro @List.drop_succ_cons.{0} (And.intro @List.getElem?_cons_zero.{0} (And.intro @List.getElem?_cons_succ.{0} (And.intro @FR.ok.eq_1 @bytesTxt_length)))))))))))))))))))))))))))))))))))))))))))))))))))))))))))))))))))))))))))))))))))))))))))))))))))))))))))))))))))))))))))
theorem rwR : type_of% rwD := rwD
def lnD := And.intro @lendA.eq_1 (And.intro @lendA.eq_2 (And.intro @lendA.eq_3 (And.intro @lendC.eq_1 (And.intro @lendC.eq_2 (And.intro @lendC.eq_3 (And.intro @lendOKs.eq_1 (And.intro @lendOKs.eq_2 (And.intro @lendOKs.eq_3 (And.intro @lendOK.eq_1 (And.intro @lendOK.eq_2 (And.intro @lendOK.eq_3 (And.intro @of_bx (And.intro @lookB.eq_1 (And.intro @lookB.eq_2 (And.intro @Box.arr.eq_1 (And.intro @Box.arr.eq_2 (And.intro @Box.arr.eq_3 (And.intro @AV.cells.eq_1 (And.intro @AV.cells.eq_2 (And.intro @AV.cells.eq_3 (And.intro @List.map_cons.{0,0} (And.intro @List.map_nil.{0,0} (And.intro @List.length_map.{0,0} (And.intro @List.length_append.{0} (And.intro @List.length_cons.{0} (And.intro @List.length_nil.{0} (And.intro @List.length_replicate.{0} (And.intro @List.length_set.{0} (And.intro @take_len (And.intro @take_c1 (And.intro @take_c2 (And.intro @true_and (And.intro @and_true (And.intro @and_self (And.intro @Nat.le_refl (And.intro @Nat.zero_add (And.intro @Nat.add_zero (And.intro @vInt.eq_1 (And.intro @vBool.eq_1 (And.intro @vStr.eq_1 (And.intro @vSl.eq_1 (And.intro @cI.eq_1 (And.intro @cU.eq_1 (And.intro @cB.eq_1 (And.intro @cS.eq_1 (And.intro @cL.eq_1 (And.intro @cK.eq_1 (And.intro @List.map_append.{0,0} (And.intro @List.cons_append.{0} (And.intro @List.nil_append.{0} (And.intro @NodeT.cells_eq (And.intro @OpT.cells_eq (And.intro @RequestT.cells_eq (And.intro @ReaderT.cells_eq (And.intro @StoreT.cells_eq @ItemT.cells_eq)))))))))))))))))))))))))))))))))))))))))))))))))))))))
theorem lnR : type_of% lnD := lnD
def ggD := And.intro @sgOK.eq_1 (And.intro @sgOK.eq_2 (And.intro @nuOK.eq_1 (And.intro @nuOK.eq_2 (And.intro @of_bx (And.intro @lookB.eq_1 (And.intro @lookB.eq_2 (And.intro @renB.eq_1 (And.intro @renB.eq_2 (And.intro @List.getD_cons_zero.{0} (And.intro @List.getD_cons_succ.{0} (And.intro @List.cons_append.{0} (And.intro @List.nil_append.{0} (And.intro @List.append_nil.{0} (And.intro @List.map_cons.{0,0} (And.intro @List.map_nil.{0,0} (And.intro @List.map_append.{0,0} (And.intro @List.map_set.{0,0} (And.intro @List.length_append.{0} (And.intro @List.length_cons.{0} (And.intro @List.length_nil.{0} (And.intro @List.length_map.{0,0} (And.intro @List.length_set.{0} (And.intro @List.length_replicate.{0} (And.intro @List.replicate_zero.{0} (And.intro @List.replicate_succ.{0} (And.intro @List.map_replicate.{0,0} (And.intro @Nat.zero_add (And.intro @Nat.add_zero (And.intro @renA.eq_1 (And.intro @renA.eq_2 (And.intro @renA.eq_3 (And.intro @and_self (And.intro @and_true (And.intro @true_and (And.intro @cI.eq_1 (And.intro @cU.eq_1 (And.intro @cB.eq_1 (And.intro @cS.eq_1 (And.intro @cL.eq_1 (And.intro @cK.eq_1 (And.intro @NodeT.cells_eq (And.intro @OpT.cells_eq (And.intro @RequestT.cells_eq (And.intro @ReaderT.cells_eq (And.intro @StoreT.cells_eq @ItemT.cells_eq)))))))))))))))))))))))))))))))))))))))))))))
theorem ggR : type_of% ggD := ggD
def ghD := And.intro @sgOK.eq_1 (And.intro @sgOK.eq_2 (And.intro @nuOK.eq_1 (And.intro @nuOK.eq_2 (And.intro @of_bx (And.intro @lookB.eq_1 (And.intro @lookB.eq_2 (And.intro @renB.eq_1 (And.intro @renB.eq_2 (And.intro @List.getD_cons_zero.{0} (And.intro @List.getD_cons_succ.{0} (And.intro @List.cons_append.{0} (And.intro @List.nil_append.{0} (And.intro @List.append_nil.{0} (And.intro @List.map_cons.{0,0} (And.intro @List.map_nil.{0,0} (And.intro @List.map_append.{0,0} (And.intro @List.map_set.{0,0} (And.intro @List.length_append.{0} (And.intro @List.length_cons.{0} (And.intro @List.length_nil.{0} (And.intro @List.length_map.{0,0} (And.intro @List.length_set.{0} (And.intro @List.length_replicate.{0} (And.intro @List.replicate_zero.{0} (And.intro @List.replicate_succ.{0} (And.intro @List.map_replicate.{0,0} (And.intro @Nat.zero_add (And.intro @Nat.add_zero (And.intro @renA.eq_1 (And.intro @renA.eq_2 (And.intro @renA.eq_3 (And.intro @and_self (And.intro @and_true (And.intro @true_and (And.intro @cI.eq_1 (And.intro @cU.eq_1 (And.intro @cB.eq_1 (And.intro @cS.eq_1 (And.intro @cL.eq_1 (And.intro @cK.eq_1 (And.intro @NodeT.cells_eq (And.intro @OpT.cells_eq (And.intro @RequestT.cells_eq (And.intro @ReaderT.cells_eq (And.intro @StoreT.cells_eq (And.intro @ItemT.cells_eq (And.intro @of_frzL (And.intro @frzL.eq_1 (And.intro @frzL.eq_2 (And.intro @frzB.eq_1 (And.intro @frzB.eq_2 (And.intro @List.flatMap_cons.{0,0} (And.intro @List.flatMap_nil.{0,0} (And.intro @AV.owns.eq_1 (And.intro @AV.owns.eq_2 (And.intro @AV.owns.eq_3 (And.intro @ownsOf.eq_1 (And.intro @ownsOf.eq_2 (And.intro @ownsOf.eq_3 (And.intro @List.contains_cons.{0} (And.intro @List.contains_nil.{0} (And.intro @Bool.or_false (And.intro @Bool.or_true (And.intro @Bool.false_or (And.intro @if_true.{1} (And.intro @if_false.{1} (And.intro @Bool.false_eq_true (And.intro @lendA.eq_1 (And.intro @lendA.eq_2 (And.intro @lendA.eq_3 (And.intro @lendC.eq_1 (And.intro @lendC.eq_2 (And.intro @lendC.eq_3 (And.intro @lendOKs.eq_1 (And.intro @lendOKs.eq_2 (And.intro @lendOKs.eq_3 (And.intro @lendOK.eq_1 (And.intro @lendOK.eq_2 (And.intro @lendOK.eq_3 (And.intro @Box.arr.eq_1 (And.intro @Box.arr.eq_2 (And.intro @Box.arr.eq_3 (And.intro @AV.cells.eq_1 (And.intro @AV.cells.eq_2 (And.intro @AV.cells.eq_3 (And.intro @Nat.le_refl (And.intro @take_len (And.intro @take_c1 (And.intro @take_c2 (And.intro @vInt.eq_1 (And.intro @vBool.eq_1 (And.intro @vStr.eq_1 @vSl.eq_1))))))))))))))))))))))))))))))))))))))))))))))))))))))))))))))))))))))))))))))))))))))))))))
theorem ghR : type_of% ghD := ghD
end Go.Ab
end
section
namespace Go.Ab
open Go
set_option maxRecDepth 100000
set_option linter.unusedVariables false
def pp {α : Sort _} {β : Sort _} (a : α) (b : β) : PProd α β := ⟨a, b⟩
theorem ihL {n : Nat} {A B : Nat → Prop} (h : ∀ m, m < n → A m ∧ B m) : ∀ m, m < n → A m := fun m hm => (h m hm).1
theorem ihR {n : Nat} {A B : Nat → Prop} (h : ∀ m, m < n → A m ∧ B m) : ∀ m, m < n → B m := fun m hm => (h m hm).2
theorem weakX (zs : List Nat) (pi : List (Nat × Nat)) (vs : List Nat) {m : Nat} {ts0 ts : List (Nat × Slot)} {bs0 bs : List (Nat × Box)} (hk : keysOK m bs0 bs pi vs = true)
    (hb : wkBs zs (lookB bs0) (piL pi) vs bs) (ht : wkTs zs (lookB bs0) (piL pi) vs ts0 ts) : Weak m (ASt.of ts0 bs0) (ASt.of ts bs) := weak_of zs pi vs hk hb ht
theorem retX (zs : List Nat) (pi : List (Nat × Nat)) (vs : List Nat) {rs : List ARes} {ts : List (Nat × Slot)} {bs0 : List (Nat × Box)} {m : Nat} {r : AV} {bs : List Box} (hk : keysOK m bs0 (boxes0 bs 0) pi vs = true)
    (hok : resOKs (ASt.of ts bs0) rs) (hb : wkBs zs (lookB bs0) (piL pi) vs (boxes0 bs 0)) (hv : wkV zs (lookB bs0) (piL pi) vs (retV (ASt.of ts bs0) rs) r) :
    RetOK rs m (fun r1 b1 => r1 = r ∧ b1 = bs) (ASt.of ts bs0) := ret_of zs pi vs hk hok hb hv
section
variable {P : Program} {f : FuncId} {avs : List AV} {d : Option Nat} {st : ASt} {K : List Nat → List Nat → ASt → Prop} {du : DU K} {Q : AQ}
theorem cG (sg nu : List Nat) {P : Program} {f : FuncId} {avs : List AV} {d : Option Nat} {st : ASt} {K : List Nat → List Nat → ASt → Prop} {du : DU K} {ds : List AV} {fp bs0 : List Box} {r0 : AV} (h : ACalls P f ds fp (fun r bs => r = r0 ∧ bs = bs0)) (hl : sg.length = fp.length) (hn : nodupB (sg ++ nu) = true) (hf : sgOK st (sg ++ nu) fp 0) (hv : nuOK st nu)
    (hra : (ds.all fun x => x.all (AC.refsLt fp.length)) = true) (hrf : fp.all (Box.refsLt fp.length) = true) (ha : avs = ds.map (renA fun b => (sg ++ nu).getD b 0)) (hb : bs0.length = (sg ++ nu).length)
    (k : K (sg ++ nu) (sg ++ nu) ((st.setbs ((sg ++ nu).zip (bs0.map (renB fun b => (sg ++ nu).getD b 0)))).putO d (.v true (renA (fun b => (sg ++ nu).getD b 0) r0)))) : TCallK P f avs true d st K du := callG sg nu h hl hn hf hv hra hrf ha hb k
theorem cH (sg nu : List Nat) {P : Program} {f : FuncId} {avs : List AV} {d : Option Nat} {st : ASt} {K : List Nat → List Nat → ASt → Prop} {du : DU K} {ds : List AV} {fp bs0 : List Box} {r0 : AV} (h : ACalls P f ds fp (fun r bs => r = r0 ∧ bs = bs0)) (he : avs.map (lendA st.bx) = ds.map (renA fun b => (sg ++ nu).getD b 0)) (hlo : lendOKs st.bx avs)
    (hl : sg.length = fp.length) (hn : nodupB (sg ++ nu) = true) (hf : sgOK (st.frz (avs.flatMap AV.owns)) (sg ++ nu) fp 0) (hv : nuOK st nu)
    (hra : (ds.all fun x => x.all (AC.refsLt fp.length)) = true) (hrf : fp.all (Box.refsLt fp.length) = true) (hb : bs0.length = (sg ++ nu).length)
    (k : K (avs.flatMap AV.owns ++ (sg ++ nu)) (avs.flatMap AV.owns ++ (sg ++ nu)) (((st.frz (avs.flatMap AV.owns)).setbs ((sg ++ nu).zip (bs0.map (renB fun b => (sg ++ nu).getD b 0)))).putO d (.v true (renA (fun b => (sg ++ nu).getD b 0) r0)))) : TCallK P f avs true d st K du := callH sg nu h he hlo hl hn hf hv hra hrf hb k
theorem cutX (X : Type) (R : Type) (g : Nat → X → Option R) (r : R) (S : X → ASt) (N : Nat) {P : Program} {st : ASt} {Q : AQ} {a b : ACode} {d1 : DU (wpC P a)} {d2 : DU (wpC P b)} {d3 : DU Q}
    (h1 : wpCK P a (AExit.then (fun st' => ∃ x m, (g m x = some r ∧ m ≤ N) ∧ Weak 10 st' (S x)) Q) st .mk .mk) (h2 : ∀ n x, n ≤ N → g n x = some r → wpCK P b Q (S x) .mk .mk) : WCutK (wpC P a) (wpC P b) Q st d1 d2 d3 := by
  refine cutK (X := X × Nat) (fun p => g p.2 p.1 = some r ∧ p.2 ≤ N) (fun p => S p.1) (wpC_mono (fun e st h => ?_) h1) (fun p hp => h2 p.2 p.1 hp.2 hp.1)
  cases e with
  | normal => obtain ⟨x, m, h, hw⟩ := h; exact ⟨(x, m), h, hw⟩
  | _ => exact h
theorem lopX (X : Type) (R : Type) (g : Nat → X → Option R) (r : R) (S : X → ASt) (N : Nat) {P : Program} {st : ASt} {Q : AQ} {a : ACode} {d1 : DU (wpC P a)} {d2 : DU Q} (h0 : ∃ x m, (g m x = some r ∧ m ≤ N) ∧ Weak 10 st (S x))
    (h : ∀ n x, n ≤ N → g n x = some r → wpCK P a (AExit.then (fun st' => ∃ x' m, (g m x' = some r ∧ m ≤ N ∧ m < n) ∧ Weak 10 st' (S x')) Q) (S x) .mk .mk) : WLoopK (wpC P a) Q st d1 d2 := by
  obtain ⟨x, m, h0, hw⟩ := h0
  refine loopK (X := X × Nat) (fun p => g p.2 p.1 = some r ∧ p.2 ≤ N) (fun p => S p.1) (fun p => p.2) (x, m) h0 hw (fun p hp => wpC_mono (fun e st h => ?_) (h p.2 p.1 hp.2 hp.1))
  cases e with
  | normal => obtain ⟨x, m, h, hw⟩ := h; exact ⟨(x, m), ⟨⟨h.1, h.2.1⟩, h.2.2⟩, hw⟩
  | _ => exact h
end
theorem tWK {p : Prop} (x : p := by simp -dsimp only [wkR, wkB, wkC, reduceIte, Nat.reduceEqDiff, reduceCtorEq] <;> simp [List.take_of_length_le] <;> fail) : p := x
theorem tPE {p : Prop} (x : p := by (simp -dsimp only [peR, reduceIte, Nat.reduceEqDiff, Nat.reduceAdd, Nat.reduceLeDiff, reduceCtorEq] <;> first | (simp [List.take_of_length_le]; done) | ((try simp only [List.map_take, List.map_drop, List.map_append, List.map_cons, List.map_nil]) <;> (repeat' apply And.intro) <;> first | rfl | (simp; done) | (simp <;> omega; done) | (congr 1; exact (List.take_of_length_le (by simp <;> omega)).symm)))) : p := x
theorem tRE {p : Prop} (x : p := by (simp -dsimp only [rwR, wkB, wkC, reduceIte, Nat.reduceEqDiff, reduceCtorEq, Nat.reduceAdd, Nat.reduceLeDiff] <;> first | (simp [List.take_of_length_le]; done) | ((try simp only [List.map_take, List.map_drop, List.map_append, List.map_cons, List.map_nil]) <;> (repeat' apply And.intro) <;> first | rfl | (simp; done) | (simp <;> omega; done) | (congr 1; exact (List.take_of_length_le (by simp <;> omega)).symm)))) : p := x
theorem tLN {p : Prop} (x : p := by (simp only [lnR, reduceIte, Nat.reduceEqDiff] <;> omega)) : p := x
theorem tGG {p : Prop} (x : p := by (simp only [ggR, renC, reduceIte, Nat.reduceEqDiff, Nat.reduceLeDiff, Nat.reduceAdd] <;> omega)) : p := x
theorem tGR {p : Prop} (x : p := by first | rfl | (simp only [ggR, renC, reduceIte, Nat.reduceEqDiff, Nat.reduceLeDiff, Nat.reduceAdd] <;> omega)) : p := x
theorem tGH {p : Prop} (x : p := by (simp only [ghR, renC, reduceIte, Nat.reduceEqDiff, Nat.reduceLeDiff, Nat.reduceAdd, Nat.reduceBEq] <;> omega)) : p := x
theorem tFIT {p : Prop} (x : p := by ((try simp only [Prod.exists]); (first | refine ⟨_, _, ⟨h, ?_⟩, ?_⟩ | refine ⟨_, _, _, ⟨h, ?_⟩, ?_⟩ | refine ⟨_, _, _, _, ⟨h, ?_⟩, ?_⟩ | refine ⟨_, _, _, _, _, ⟨h, ?_⟩, ?_⟩ | refine ⟨_, _, _, _, _, _, ⟨h, ?_⟩, ?_⟩ | refine ⟨_, _, _, _, _, _, _, ⟨h, ?_⟩, ?_⟩ | refine ⟨_, _, _, _, _, _, _, _, ⟨h, ?_⟩, ?_⟩ | refine ⟨_, _, _, _, _, _, _, _, _, ⟨h, ?_⟩, ?_⟩ | refine ⟨_, _, _, _, _, _, _, _, _, _, ⟨h, ?_⟩, ?_⟩ | refine ⟨_, _, _, _, _, _, _, _, _, _, _, ⟨h, ?_⟩, ?_⟩ | refine ⟨_, _, _, _, _, _, _, _, _, _, _, _, ⟨h, ?_⟩, ?_⟩ | refine ⟨_, _, _, _, _, _, _, _, _, _, _, _, _, ⟨h, ?_⟩, ?_⟩ | refine ⟨_, _, _, _, _, _, _, _, _, _, _, _, _, _, ⟨h, ?_⟩, ?_⟩ | refine ⟨_, _, _, _, _, _, _, _, _, _, _, _, _, _, _, ⟨h, ?_⟩, ?_⟩ | refine ⟨_, _, _, _, _, _, _, _, _, _, _, _, _, _, _, _, ⟨h, ?_⟩, ?_⟩ | refine ⟨_, _, _, _, _, _, _, _, _, _, _, _, _, _, _, _, _, ⟨h, ?_⟩, ?_⟩ | refine ⟨_, _, _, _, _, _, _, _, _, _, _, _, _, _, _, _, _, _, ⟨h, ?_⟩, ?_⟩ | refine ⟨_, _, _, _, _, _, _, _, _, _, _, _, _, _, _, _, _, _, _, ⟨h, ?_⟩, ?_⟩ | refine ⟨_, _, _, _, _, _, _, _, _, _, _, _, _, _, _, _, _, _, _, _, ⟨h, ?_⟩, ?_⟩ | refine ⟨_, _, _, _, _, _, _, _, _, _, _, _, _, _, _, _, _, _, _, _, _, ⟨h, ?_⟩, ?_⟩ | refine ⟨_, _, _, _, _, _, _, _, _, _, _, _, _, _, _, _, _, _, _, _, _, _, ⟨h, ?_⟩, ?_⟩ | refine ⟨_, _, _, _, _, _, _, _, _, _, _, _, _, _, _, _, _, _, _, _, _, _, _, ⟨h, ?_⟩, ?_⟩ | refine ⟨_, _, _, _, _, _, _, _, _, _, _, _, _, _, _, _, _, _, _, _, _, _, _, _, ⟨h, ?_⟩, ?_⟩ | refine ⟨(), _, ⟨h, ?_⟩, ?_⟩); (focus omega); first | exact zj.1 (by rfl) tWK tWK | exact zj.2.1 (by rfl) tWK tWK | exact zj.2.2.1 (by rfl) tWK tWK | exact zj.2.2.2.1 (by rfl) tWK tWK | exact zj.2.2.2.2.1 (by rfl) tWK tWK | exact zj.2.2.2.2.2.1 (by rfl) tWK tWK | exact zj.2.2.2.2.2.2.1 (by rfl) tWK tWK | exact zj.2.2.2.2.2.2.2.1 (by rfl) tWK tWK | exact zj.2.2.2.2.2.2.2.2.1 (by rfl) tWK tWK | exact zj.2.2.2.2.2.2.2.2.2.1 (by rfl) tWK tWK | exact zj.2.2.2.2.2.2.2.2.2.2.1 (by rfl) tWK tWK | exact zj.2.2.2.2.2.2.2.2.2.2.2.1 (by rfl) tWK tWK | exact zj.2.2.2.2.2.2.2.2.2.2.2.2.1 (by rfl) tWK tWK | exact zj.2.2.2.2.2.2.2.2.2.2.2.2.2.1 (by rfl) tWK tWK)) : p := x
theorem drv {p : Prop} (x : p := by
  repeat' first
  | (clear h; (with_reducible intro n x hn h); rcases n with _ | n <;> simp only [ze.1, reduceCtorEq] at h)
  | (simp only [reduceCtorEq] at h; done)
  | ((with_reducible replace h := kq0 h); obtain ⟨_, _, h⟩ := h)
  | ((with_reducible replace h := kq1 h); obtain ⟨_, _, h⟩ := h)
  | ((with_reducible replace h := kq h); obtain ⟨_, h⟩ := h)
  | ((with_reducible replace h := sq h); subst h; have h := True.intro)
  | (try simp -dsimp only [egR, AOp.opds, AOp.f, AOp.rd, intBin, storeV, lvl, srcOf, reduceIte, Nat.reduceEqDiff, Nat.reduceAdd, Nat.reduceLeDiff, Nat.reduceBEq, reduceCtorEq, Int.reduceBNe, Int.reduceBEq, Int.reduceLT, Int.reduceLE, Int.reduceNeg, Nat.reduceLT, strBin, Int.reduceToNat, renC, *]
     repeat ((with_reducible refine And.intro ?_ ?_); focus first | (show logOK _ _ _ _ = true; kernel_rfl) | (show callOK _ _ = true; kernel_rfl) | omega | assumption | (show _ ≤ maxLen; decide))
     first
     | with_reducible refine callN ?_
     | ((with_reducible refine isCut ?_); with_reducible refine zu.1 n ?_ ?_)
     | ((with_reducible refine isLoop ?_); first | ((with_reducible refine zk.1 n ?_ ?_); (focus exact tFIT)) | ((with_reducible refine zk.2.1 n ?_ ?_); (focus exact tFIT)) | ((with_reducible refine zk.2.2.1 n ?_ ?_); (focus exact tFIT)) | ((with_reducible refine zk.2.2.2.1 n ?_ ?_); (focus exact tFIT)) | ((with_reducible refine zk.2.2.2.2.1 n ?_ ?_); (focus exact tFIT)) | ((with_reducible refine zk.2.2.2.2.2.1 n ?_ ?_); (focus exact tFIT)))
     | ((with_reducible refine isCall ?_); (with_reducible replace h := bq h); obtain ⟨_, hv, h⟩ := h; first | ((first | with_reducible have hc := zc.1 hv | with_reducible have hc := zc.1 _ (by omega) hv | with_reducible have hc := zc.2.1 hv | with_reducible have hc := zc.2.1 _ (by omega) hv | with_reducible have hc := zc.2.2.1 hv | with_reducible have hc := zc.2.2.1 _ (by omega) hv | with_reducible have hc := zc.2.2.2.1 hv | with_reducible have hc := zc.2.2.2.2.1 hv | with_reducible have hc := zc.2.2.2.2.2.1 hv | with_reducible have hc := zc.2.2.2.2.2.2.1 hv | with_reducible have hc := zc.2.2.2.2.2.2.2.1 hv | with_reducible have hc := zc.2.2.2.2.2.2.2.2.1 hv | with_reducible have hc := zc.2.2.2.2.2.2.2.2.2.1 hv | with_reducible have hc := zc.2.2.2.2.2.2.2.2.2.2.1 hv | with_reducible have hc := zc.2.2.2.2.2.2.2.2.2.2.2.1 hv | with_reducible have hc := zc.2.2.2.2.2.2.2.2.2.2.2.2.1 hv | with_reducible have hc := zc.2.2.2.2.2.2.2.2.2.2.2.2.2.1 hv | with_reducible have hc := zc.2.2.2.2.2.2.2.2.2.2.2.2.2.2.1 hv | with_reducible have hc := zc.2.2.2.2.2.2.2.2.2.2.2.2.2.2.2.1 hv | with_reducible have hc := zc.2.2.2.2.2.2.2.2.2.2.2.2.2.2.2.2.1 hv | with_reducible have hc := zc.2.2.2.2.2.2.2.2.2.2.2.2.2.2.2.2.2.1 hv | with_reducible have hc := zc.2.2.2.2.2.2.2.2.2.2.2.2.2.2.2.2.2.2.1 hv | with_reducible have hc := zc.2.2.2.2.2.2.2.2.2.2.2.2.2.2.2.2.2.2.2.1 hv | with_reducible have hc := zc.2.2.2.2.2.2.2.2.2.2.2.2.2.2.2.2.2.2.2.2.1 hv | with_reducible have hc := zc.2.2.2.2.2.2.2.2.2.2.2.2.2.2.2.2.2.2.2.2.2.1 hv); (first | refine callL (fun _ => hc) rfl rfl ?_ | refine callP hc rfl rfl ?_ | refine callE hc tLN tLN rfl rfl ?_ | refine callD hc tLN tLN rfl rfl ?_)) | ((first | with_reducible have hc := zg.1.1 hv | with_reducible have hc := zg.1.1 _ (by omega) hv); (first | refine zg.1.2 hc rfl rfl tGG tGG rfl rfl tGR rfl ?_ | refine zg.1.2 hc tGH tGH rfl rfl tGH tGH rfl rfl rfl ?_)) | ((first | with_reducible have hc := zg.2.1.1 hv | with_reducible have hc := zg.2.1.1 _ (by omega) hv); (first | refine zg.2.1.2 hc rfl rfl tGG tGG rfl rfl tGR rfl ?_ | refine zg.2.1.2 hc tGH tGH rfl rfl tGH tGH rfl rfl rfl ?_)) | ((first | with_reducible have hc := zg.2.2.1.1 hv | with_reducible have hc := zg.2.2.1.1 _ (by omega) hv); (first | refine zg.2.2.1.2 hc rfl rfl tGG tGG rfl rfl tGR rfl ?_ | refine zg.2.2.1.2 hc tGH tGH rfl rfl tGH tGH rfl rfl rfl ?_)) | ((with_reducible have hc := zg.2.2.2.1.1 hv); (first | refine zg.2.2.2.1.2 hc rfl rfl tGG tGG rfl rfl tGR rfl ?_ | refine zg.2.2.2.1.2 hc tGH tGH rfl rfl tGH tGH rfl rfl rfl ?_)) | ((with_reducible have hc := zg.2.2.2.2.1.1 hv); (first | refine zg.2.2.2.2.1.2 hc rfl rfl tGG tGG rfl rfl tGR rfl ?_ | refine zg.2.2.2.2.1.2 hc tGH tGH rfl rfl tGH tGH rfl rfl rfl ?_)) | ((with_reducible have hc := zg.2.2.2.2.2.1.1 hv); (first | refine zg.2.2.2.2.2.1.2 hc rfl rfl tGG tGG rfl rfl tGR rfl ?_ | refine zg.2.2.2.2.2.1.2 hc tGH tGH rfl rfl tGH tGH rfl rfl rfl ?_)) | ((with_reducible have hc := zg.2.2.2.2.2.2.1.1 hv); (first | refine zg.2.2.2.2.2.2.1.2 hc rfl rfl tGG tGG rfl rfl tGR rfl ?_ | refine zg.2.2.2.2.2.2.1.2 hc tGH tGH rfl rfl tGH tGH rfl rfl rfl ?_)) | ((with_reducible have hc := zg.2.2.2.2.2.2.2.1.1 hv); (first | refine zg.2.2.2.2.2.2.2.1.2 hc rfl rfl tGG tGG rfl rfl tGR rfl ?_ | refine zg.2.2.2.2.2.2.2.1.2 hc tGH tGH rfl rfl tGH tGH rfl rfl rfl ?_)) | ((with_reducible have hc := zg.2.2.2.2.2.2.2.2.1.1 hv); (first | refine zg.2.2.2.2.2.2.2.2.1.2 hc rfl rfl tGG tGG rfl rfl tGR rfl ?_ | refine zg.2.2.2.2.2.2.2.2.1.2 hc tGH tGH rfl rfl tGH tGH rfl rfl rfl ?_)) | ((with_reducible have hc := zg.2.2.2.2.2.2.2.2.2.1.1 hv); (first | refine zg.2.2.2.2.2.2.2.2.2.1.2 hc rfl rfl tGG tGG rfl rfl tGR rfl ?_ | refine zg.2.2.2.2.2.2.2.2.2.1.2 hc tGH tGH rfl rfl tGH tGH rfl rfl rfl ?_)) | ((with_reducible have hc := zg.2.2.2.2.2.2.2.2.2.2.1.1 hv); (first | refine zg.2.2.2.2.2.2.2.2.2.2.1.2 hc rfl rfl tGG tGG rfl rfl tGR rfl ?_ | refine zg.2.2.2.2.2.2.2.2.2.2.1.2 hc tGH tGH rfl rfl tGH tGH rfl rfl rfl ?_)) | ((with_reducible have hc := zg.2.2.2.2.2.2.2.2.2.2.2.1.1 hv); (first | refine zg.2.2.2.2.2.2.2.2.2.2.2.1.2 hc rfl rfl tGG tGG rfl rfl tGR rfl ?_ | refine zg.2.2.2.2.2.2.2.2.2.2.2.1.2 hc tGH tGH rfl rfl tGH tGH rfl rfl rfl ?_)))
     | ((with_reducible replace h := cq h); rcases h with ⟨c, h⟩ | ⟨c, h⟩ <;> try (simp only [*, Bool.false_eq_true, reduceCtorEq] at c; done))
     | ((with_reducible refine isEx ?_); exact tFIT)
     | ((with_reducible refine isEnd ?_); exact tPE)
     | ((with_reducible refine isRet ?_); first | exact zt.1 (by rfl) tRE tRE tRE | exact zt.2.1 (by rfl) tRE tRE tRE | exact zt.2.2.1 (by rfl) tRE tRE tRE | exact zt.2.2.2.1 (by rfl) tRE tRE tRE | exact zt.2.2.2.2.1 (by rfl) tRE tRE tRE | exact zt.2.2.2.2.2.1 (by rfl) tRE tRE tRE | exact zt.2.2.2.2.2.2.1 (by rfl) tRE tRE tRE | exact zt.2.2.2.2.2.2.2.1 (by rfl) tRE tRE tRE | exact zt.2.2.2.2.2.2.2.2.1 (by rfl) tRE tRE tRE | exact zt.2.2.2.2.2.2.2.2.2.1 (by rfl) tRE tRE tRE | exact zt.2.2.2.2.2.2.2.2.2.2.1 (by rfl) tRE tRE tRE | exact zt.2.2.2.2.2.2.2.2.2.2.2.1 (by rfl) tRE tRE tRE)
     | (cases h; done))) : p := x
theorem drvM {p : Prop} (x : p := by
  repeat' first
  | (clear h; (with_reducible intro n x hn h); rcases n with _ | n <;> simp only [ze.1, reduceCtorEq] at h)
  | (simp only [reduceCtorEq] at h; done)
  | ((with_reducible replace h := kq0 h); obtain ⟨_, _, h⟩ := h)
  | ((with_reducible replace h := kq1 h); obtain ⟨_, _, h⟩ := h)
  | ((with_reducible replace h := kq h); obtain ⟨_, h⟩ := h)
  | ((with_reducible replace h := sq h); subst h; have h := True.intro)
  | (try simp -dsimp only [egR, AOp.opds, AOp.f, AOp.rd, intBin, storeV, lvl, srcOf, reduceIte, Nat.reduceEqDiff, Nat.reduceAdd, Nat.reduceLeDiff, Nat.reduceBEq, reduceCtorEq, Int.reduceBNe, Int.reduceBEq, Int.reduceLT, Int.reduceLE, Int.reduceNeg, Nat.reduceLT, strBin, Int.reduceToNat, renC, *]
     repeat ((with_reducible refine And.intro ?_ ?_); focus first | (show logOK _ _ _ _ = true; kernel_rfl) | (show callOK _ _ = true; kernel_rfl) | omega | assumption | (show _ ≤ maxLen; decide))
     first
     | with_reducible refine callN ?_
     | ((with_reducible refine isCut ?_); first | (rename Mk 1 => tk; clear tk; have : True := (by (first | rewrite [zq.1.1] at h | rewrite [zq.1.2.1] at h | rewrite [zq.1.2.2.1] at h | rewrite [zq.1.2.2.2.1] at h | rewrite [zq.1.2.2.2.2.1] at h | rewrite [zq.1.2.2.2.2.2.1] at h | rewrite [zq.1.2.2.2.2.2.2.1] at h | rewrite [zq.1.2.2.2.2.2.2.2.1] at h); exact True.intro); with_reducible refine zu.1 n ?_ ?_) | (rename Mk 2 => tk; clear tk; have : True := (by (first | rewrite [zq.2.1.1] at h | rewrite [zq.2.1.2.1] at h | rewrite [zq.2.1.2.2.1] at h | rewrite [zq.2.1.2.2.2.1] at h | rewrite [zq.2.1.2.2.2.2.1] at h | rewrite [zq.2.1.2.2.2.2.2.1] at h | rewrite [zq.2.1.2.2.2.2.2.2.1] at h | rewrite [zq.2.1.2.2.2.2.2.2.2.1] at h); exact True.intro); with_reducible refine zu.2.1 n ?_ ?_) | (rename Mk 3 => tk; clear tk; have : True := (by (first | rewrite [zq.2.2.1.1] at h | rewrite [zq.2.2.1.2.1] at h | rewrite [zq.2.2.1.2.2.1] at h | rewrite [zq.2.2.1.2.2.2.1] at h | rewrite [zq.2.2.1.2.2.2.2.1] at h | rewrite [zq.2.2.1.2.2.2.2.2.1] at h | rewrite [zq.2.2.1.2.2.2.2.2.2.1] at h | rewrite [zq.2.2.1.2.2.2.2.2.2.2.1] at h); exact True.intro); with_reducible refine zu.2.2.1 n ?_ ?_) | (rename Mk 4 => tk; clear tk; have : True := (by (first | rewrite [zq.2.2.2.1.1] at h | rewrite [zq.2.2.2.1.2.1] at h | rewrite [zq.2.2.2.1.2.2.1] at h | rewrite [zq.2.2.2.1.2.2.2.1] at h | rewrite [zq.2.2.2.1.2.2.2.2.1] at h | rewrite [zq.2.2.2.1.2.2.2.2.2.1] at h | rewrite [zq.2.2.2.1.2.2.2.2.2.2.1] at h | rewrite [zq.2.2.2.1.2.2.2.2.2.2.2.1] at h); exact True.intro); with_reducible refine zu.2.2.2.1 n ?_ ?_) | (rename Mk 5 => tk; clear tk; have : True := (by (first | rewrite [zq.2.2.2.2.1.1] at h | rewrite [zq.2.2.2.2.1.2.1] at h | rewrite [zq.2.2.2.2.1.2.2.1] at h | rewrite [zq.2.2.2.2.1.2.2.2.1] at h | rewrite [zq.2.2.2.2.1.2.2.2.2.1] at h | rewrite [zq.2.2.2.2.1.2.2.2.2.2.1] at h | rewrite [zq.2.2.2.2.1.2.2.2.2.2.2.1] at h | rewrite [zq.2.2.2.2.1.2.2.2.2.2.2.2.1] at h); exact True.intro); with_reducible refine zu.2.2.2.2.1 n ?_ ?_) | (rename Mk 6 => tk; clear tk; have : True := (by (first | rewrite [zq.2.2.2.2.2.1.1] at h | rewrite [zq.2.2.2.2.2.1.2.1] at h | rewrite [zq.2.2.2.2.2.1.2.2.1] at h | rewrite [zq.2.2.2.2.2.1.2.2.2.1] at h | rewrite [zq.2.2.2.2.2.1.2.2.2.2.1] at h | rewrite [zq.2.2.2.2.2.1.2.2.2.2.2.1] at h | rewrite [zq.2.2.2.2.2.1.2.2.2.2.2.2.1] at h | rewrite [zq.2.2.2.2.2.1.2.2.2.2.2.2.2.1] at h); exact True.intro); with_reducible refine zu.2.2.2.2.2.1 n ?_ ?_))
     | ((with_reducible refine isLoop ?_); first | ((with_reducible refine zk.1 n ?_ ?_); (focus exact tFIT)) | ((with_reducible refine zk.2.1 n ?_ ?_); (focus exact tFIT)) | ((with_reducible refine zk.2.2.1 n ?_ ?_); (focus exact tFIT)) | ((with_reducible refine zk.2.2.2.1 n ?_ ?_); (focus exact tFIT)) | ((with_reducible refine zk.2.2.2.2.1 n ?_ ?_); (focus exact tFIT)) | ((with_reducible refine zk.2.2.2.2.2.1 n ?_ ?_); (focus exact tFIT)))
     | ((with_reducible refine isCall ?_); (with_reducible replace h := bq h); obtain ⟨_, hv, h⟩ := h; first | ((first | with_reducible have hc := zc.1 hv | with_reducible have hc := zc.1 _ (by omega) hv | with_reducible have hc := zc.2.1 hv | with_reducible have hc := zc.2.1 _ (by omega) hv | with_reducible have hc := zc.2.2.1 hv | with_reducible have hc := zc.2.2.1 _ (by omega) hv | with_reducible have hc := zc.2.2.2.1 hv | with_reducible have hc := zc.2.2.2.2.1 hv | with_reducible have hc := zc.2.2.2.2.2.1 hv | with_reducible have hc := zc.2.2.2.2.2.2.1 hv | with_reducible have hc := zc.2.2.2.2.2.2.2.1 hv | with_reducible have hc := zc.2.2.2.2.2.2.2.2.1 hv | with_reducible have hc := zc.2.2.2.2.2.2.2.2.2.1 hv | with_reducible have hc := zc.2.2.2.2.2.2.2.2.2.2.1 hv | with_reducible have hc := zc.2.2.2.2.2.2.2.2.2.2.2.1 hv | with_reducible have hc := zc.2.2.2.2.2.2.2.2.2.2.2.2.1 hv | with_reducible have hc := zc.2.2.2.2.2.2.2.2.2.2.2.2.2.1 hv | with_reducible have hc := zc.2.2.2.2.2.2.2.2.2.2.2.2.2.2.1 hv | with_reducible have hc := zc.2.2.2.2.2.2.2.2.2.2.2.2.2.2.2.1 hv | with_reducible have hc := zc.2.2.2.2.2.2.2.2.2.2.2.2.2.2.2.2.1 hv | with_reducible have hc := zc.2.2.2.2.2.2.2.2.2.2.2.2.2.2.2.2.2.1 hv | with_reducible have hc := zc.2.2.2.2.2.2.2.2.2.2.2.2.2.2.2.2.2.2.1 hv | with_reducible have hc := zc.2.2.2.2.2.2.2.2.2.2.2.2.2.2.2.2.2.2.2.1 hv | with_reducible have hc := zc.2.2.2.2.2.2.2.2.2.2.2.2.2.2.2.2.2.2.2.2.1 hv | with_reducible have hc := zc.2.2.2.2.2.2.2.2.2.2.2.2.2.2.2.2.2.2.2.2.2.1 hv); (first | refine callL (fun _ => hc) rfl rfl ?_ | refine callP hc rfl rfl ?_ | refine callE hc tLN tLN rfl rfl ?_ | refine callD hc tLN tLN rfl rfl ?_)) | ((first | with_reducible have hc := zg.1.1 hv | with_reducible have hc := zg.1.1 _ (by omega) hv); (first | refine zg.1.2 hc rfl rfl tGG tGG rfl rfl tGR rfl ?_ | refine zg.1.2 hc tGH tGH rfl rfl tGH tGH rfl rfl rfl ?_)) | ((first | with_reducible have hc := zg.2.1.1 hv | with_reducible have hc := zg.2.1.1 _ (by omega) hv); (first | refine zg.2.1.2 hc rfl rfl tGG tGG rfl rfl tGR rfl ?_ | refine zg.2.1.2 hc tGH tGH rfl rfl tGH tGH rfl rfl rfl ?_)) | ((first | with_reducible have hc := zg.2.2.1.1 hv | with_reducible have hc := zg.2.2.1.1 _ (by omega) hv); (first | refine zg.2.2.1.2 hc rfl rfl tGG tGG rfl rfl tGR rfl ?_ | refine zg.2.2.1.2 hc tGH tGH rfl rfl tGH tGH rfl rfl rfl ?_)) | ((with_reducible have hc := zg.2.2.2.1.1 hv); (first | refine zg.2.2.2.1.2 hc rfl rfl tGG tGG rfl rfl tGR rfl ?_ | refine zg.2.2.2.1.2 hc tGH tGH rfl rfl tGH tGH rfl rfl rfl ?_)) | ((with_reducible have hc := zg.2.2.2.2.1.1 hv); (first | refine zg.2.2.2.2.1.2 hc rfl rfl tGG tGG rfl rfl tGR rfl ?_ | refine zg.2.2.2.2.1.2 hc tGH tGH rfl rfl tGH tGH rfl rfl rfl ?_)) | ((with_reducible have hc := zg.2.2.2.2.2.1.1 hv); (first | refine zg.2.2.2.2.2.1.2 hc rfl rfl tGG tGG rfl rfl tGR rfl ?_ | refine zg.2.2.2.2.2.1.2 hc tGH tGH rfl rfl tGH tGH rfl rfl rfl ?_)) | ((with_reducible have hc := zg.2.2.2.2.2.2.1.1 hv); (first | refine zg.2.2.2.2.2.2.1.2 hc rfl rfl tGG tGG rfl rfl tGR rfl ?_ | refine zg.2.2.2.2.2.2.1.2 hc tGH tGH rfl rfl tGH tGH rfl rfl rfl ?_)) | ((with_reducible have hc := zg.2.2.2.2.2.2.2.1.1 hv); (first | refine zg.2.2.2.2.2.2.2.1.2 hc rfl rfl tGG tGG rfl rfl tGR rfl ?_ | refine zg.2.2.2.2.2.2.2.1.2 hc tGH tGH rfl rfl tGH tGH rfl rfl rfl ?_)) | ((with_reducible have hc := zg.2.2.2.2.2.2.2.2.1.1 hv); (first | refine zg.2.2.2.2.2.2.2.2.1.2 hc rfl rfl tGG tGG rfl rfl tGR rfl ?_ | refine zg.2.2.2.2.2.2.2.2.1.2 hc tGH tGH rfl rfl tGH tGH rfl rfl rfl ?_)) | ((with_reducible have hc := zg.2.2.2.2.2.2.2.2.2.1.1 hv); (first | refine zg.2.2.2.2.2.2.2.2.2.1.2 hc rfl rfl tGG tGG rfl rfl tGR rfl ?_ | refine zg.2.2.2.2.2.2.2.2.2.1.2 hc tGH tGH rfl rfl tGH tGH rfl rfl rfl ?_)) | ((with_reducible have hc := zg.2.2.2.2.2.2.2.2.2.2.1.1 hv); (first | refine zg.2.2.2.2.2.2.2.2.2.2.1.2 hc rfl rfl tGG tGG rfl rfl tGR rfl ?_ | refine zg.2.2.2.2.2.2.2.2.2.2.1.2 hc tGH tGH rfl rfl tGH tGH rfl rfl rfl ?_)) | ((with_reducible have hc := zg.2.2.2.2.2.2.2.2.2.2.2.1.1 hv); (first | refine zg.2.2.2.2.2.2.2.2.2.2.2.1.2 hc rfl rfl tGG tGG rfl rfl tGR rfl ?_ | refine zg.2.2.2.2.2.2.2.2.2.2.2.1.2 hc tGH tGH rfl rfl tGH tGH rfl rfl rfl ?_)))
     | ((with_reducible replace h := cq h); rcases h with ⟨c, h⟩ | ⟨c, h⟩ <;> try (simp only [*, Bool.false_eq_true, reduceCtorEq] at c; done))
     | ((with_reducible refine isEx ?_); exact tFIT)
     | ((with_reducible refine isEnd ?_); exact tPE)
     | ((with_reducible refine isRet ?_); first | exact zt.1 (by rfl) tRE tRE tRE | exact zt.2.1 (by rfl) tRE tRE tRE | exact zt.2.2.1 (by rfl) tRE tRE tRE | exact zt.2.2.2.1 (by rfl) tRE tRE tRE | exact zt.2.2.2.2.1 (by rfl) tRE tRE tRE | exact zt.2.2.2.2.2.1 (by rfl) tRE tRE tRE | exact zt.2.2.2.2.2.2.1 (by rfl) tRE tRE tRE | exact zt.2.2.2.2.2.2.2.1 (by rfl) tRE tRE tRE | exact zt.2.2.2.2.2.2.2.2.1 (by rfl) tRE tRE tRE | exact zt.2.2.2.2.2.2.2.2.2.1 (by rfl) tRE tRE tRE | exact zt.2.2.2.2.2.2.2.2.2.2.1 (by rfl) tRE tRE tRE | exact zt.2.2.2.2.2.2.2.2.2.2.2.1 (by rfl) tRE tRE tRE)
     | (cases h; done))) : p := x
theorem drvS {p : Prop} (x : p := by
  repeat' first
  | (clear h; (with_reducible intro n x hn h); rcases n with _ | n <;> simp only [ze.1, reduceCtorEq] at h)
  | (simp only [reduceCtorEq] at h; done)
  | ((with_reducible replace h := kq0 h); obtain ⟨_, _, h⟩ := h)
  | ((with_reducible replace h := kq1 h); obtain ⟨_, _, h⟩ := h)
  | ((with_reducible replace h := kq h); obtain ⟨_, h⟩ := h)
  | ((with_reducible replace h := sq h); subst h; have h := True.intro)
  | (try simp -dsimp only [egR, AOp.opds, AOp.f, AOp.rd, intBin, storeV, lvl, srcOf, reduceIte, Nat.reduceEqDiff, Nat.reduceAdd, Nat.reduceLeDiff, Nat.reduceBEq, reduceCtorEq, Int.reduceBNe, Int.reduceBEq, Int.reduceLT, Int.reduceLE, Int.reduceNeg, Nat.reduceLT, strBin, Int.reduceToNat, renC, ssliceV, sl3V, sappV, scpyV, appzV, sclrV, truncS, Option.map_none, Int.sub_zero, Nat.sub_zero, Int.toNat_sub, Int.ofNat_zero, List.drop_zero, List.take_length, Nat.add_sub_cancel, *]
     repeat ((with_reducible refine And.intro ?_ ?_); focus first | (show logOK _ _ _ _ = true; kernel_rfl) | (show callOK _ _ = true; kernel_rfl) | omega | assumption | (show _ ≤ maxLen; decide))
     first
     | with_reducible refine callN ?_
     | ((with_reducible refine isLoop ?_); first | ((with_reducible refine zk.1 n ?_ ?_); (focus exact tFIT)) | ((with_reducible refine zk.2.1 n ?_ ?_); (focus exact tFIT)) | ((with_reducible refine zk.2.2.1 n ?_ ?_); (focus exact tFIT)) | ((with_reducible refine zk.2.2.2.1 n ?_ ?_); (focus exact tFIT)) | ((with_reducible refine zk.2.2.2.2.1 n ?_ ?_); (focus exact tFIT)) | ((with_reducible refine zk.2.2.2.2.2.1 n ?_ ?_); (focus exact tFIT)))
     | ((with_reducible replace h := cq h); rcases h with ⟨c, h⟩ | ⟨c, h⟩ <;> try (simp only [*, Bool.false_eq_true, reduceCtorEq] at c; done))
     | ((with_reducible refine isEx ?_); exact tFIT)
     | ((with_reducible refine isEnd ?_); exact tPE)
     | ((with_reducible refine isRet ?_); first | exact zt.1 (by rfl) tRE tRE tRE | exact zt.2.1 (by rfl) tRE tRE tRE | exact zt.2.2.1 (by rfl) tRE tRE tRE)
     | (cases h; done))) : p := x
end Go.Ab
end
section
namespace Go.Ab
open Go
set_option maxRecDepth 100000
set_option maxHeartbeats 4000000
set_option linter.unusedVariables false
set_option linter.unusedSimpArgs false
abbrev zA (d : Nat) (x : AOp) : AOper := ⟨none, some d, .op x⟩
abbrev zM (d s : Nat) : AOper := ⟨none, some d, .op (.mv (.t s))⟩
abbrev zS (x : AOp) : AOper := ⟨none, none, .op x⟩
abbrev zG (g : Nat) (b : Bool) (d : Nat) (x : AOp) : AOper := ⟨some (g, b), some d, .op x⟩
def C.cmp_isNaN_string : ACode := (.seq (.reg [ zA 2 (.mv (.k (.c (.lit (.bool false)))))] [0]) (.seq (.reg [ zM 3 0, zM 4 0, zA 5 (.bin .neq (.t 3) (.t 4)), zM 2 5] [2]) .ret))
theorem K.cmp_isNaN_string : chkF Go.Proofs.Tryz.prog 84 1 0 C.cmp_isNaN_string [.tmp 2] = true := by kernel_rfl
def C.cmp_Less_string : ACode := (.seq (.reg [ zA 4 (.mv (.k (.c (.lit (.bool false)))))] [0, 1]) (.seq (.reg [ zM 5 0, ⟨none, some 6, .call 84 [.t 5]⟩, zM 7 6, zG 7 true 8 (.mv (.t 1)), ⟨(some (7, true)), some 9, .call 84 [.t 8]⟩, zG 7 true 10 (.not (.t 9)), zA 11 (.pick (.t 7) (.t 10) (.k (.c (.lit (.bool false))))), zM 12 11, zG 12 false 13 (.mv (.t 0)), zG 12 false 14 (.mv (.t 1)), zG 12 false 15 (.bin .lss (.t 13) (.t 14)), zA 16 (.pick (.t 12) (.k (.c (.lit (.bool true)))) (.t 15)), zM 4 16] [4]) .ret))
theorem K.cmp_Less_string : chkF Go.Proofs.Tryz.prog 47 2 0 C.cmp_Less_string [.tmp 4] = true := by kernel_rfl
def C.impl_isPlainText : ACode := (.seq (.reg [ zA 2 (.mv (.k (.c (.lit (.bool false)))))] [0]) (.seq (.seq (.reg [ zM 4 0, zA 5 (.lens (.t 4)), zA 6 (.bin .gtr (.t 5) (.k (.c (.lit (.int .i64 12)))))] [0, 6]) (.cond (.t 6) (.seq (.reg [ zA 2 (.mv (.k (.c (.lit (.bool false)))))] [2]) .ret) .skip)) (.seq (.seq (.reg [ zA 3 (.mv (.k (.c (.lit (.int .i64 0)))))] [0, 3]) (.block 0 (.loop (.seq (.seq (.reg [ zM 7 3, zM 8 0, zA 9 (.lens (.t 8)), zA 10 (.bin .lss (.t 7) (.t 9))] [0, 3, 10]) (.cond (.t 10) .skip (.exit 0))) (.seq (.block 1 (.seq (.reg [ zM 13 0, zM 14 3, zA 15 (.idxs (.t 13) (.t 14)), zA 16 (.bin .lss (.t 15) (.k (.c (.lit (.int .u8 32))))), zM 17 16, zG 17 false 18 (.mv (.t 0)), zG 17 false 19 (.mv (.t 3)), zG 17 false 20 (.idxs (.t 18) (.t 19)), zG 17 false 21 (.bin .gtr (.t 20) (.k (.c (.lit (.int .u8 126))))), zA 22 (.pick (.t 17) (.k (.c (.lit (.bool true)))) (.t 21))] [0, 3, 22]) (.cond (.t 22) (.seq (.reg [ zA 2 (.mv (.k (.c (.lit (.bool false)))))] [2]) .ret) .skip))) (.reg [ zM 11 3, zA 12 (.bin .add (.t 11) (.k (.c (.lit (.int .i64 1))))), zM 3 12] [0, 3])))))) (.seq (.reg [ zA 2 (.mv (.k (.c (.lit (.bool true)))))] [2]) .ret))))
theorem K.impl_isPlainText : chkF Go.Proofs.Tryz.prog 109 1 0 C.impl_isPlainText [.tmp 2] = true := by kernel_rfl
def C.impl_areNames : ACode := (.seq (.reg [ zA 2 (.mv (.k (.c (.lit (.bool false)))))] [0]) (.seq (.seq (.reg [ zM 5 0, zA 6 (.len (.t 5)), zA 7 (.bin .gtr (.t 6) (.k (.c (.lit (.int .i64 6)))))] [0, 7]) (.cond (.t 7) (.seq (.reg [ zA 2 (.mv (.k (.c (.lit (.bool false)))))] [2]) .ret) .skip)) (.seq (.seq (.reg [ zM 8 0, zA 9 (.len (.t 8)), zA 10 (.mv (.k (.c (.lit (.int .i64 0)))))] [0, 8, 9, 10]) (.block 0 (.loop (.seq (.reg [ zA 11 (.bin .lss (.t 10) (.t 9))] [0, 8, 9, 10, 11]) (.seq (.cond (.t 11) .skip (.exit 0)) (.seq (.block 1 (.seq (.reg [ zM 12 10, zA 13 (.iaddr 1 (.t 8) (.t 10)), zA 14 (.load false 1 (.t 13)), zM 3 12, zM 4 14] [0, 3, 4, 8, 9, 10]) (.seq (.reg [ zM 15 4, ⟨none, some 16, .call 109 [.t 15]⟩, zA 17 (.not (.t 16)), zM 18 17, zG 18 false 19 (.mv (.t 3)), zG 18 false 20 (.bin .gtr (.t 19) (.k (.c (.lit (.int .i64 0))))), zG 18 false 21 (.mv (.t 20)), zG 21 true 22 (.mv (.t 0)), zG 21 true 23 (.mv (.t 3)), zG 21 true 24 (.bin .sub (.t 23) (.k (.c (.lit (.int .i64 1))))), zG 21 true 25 (.iaddr 1 (.t 22) (.t 24)), zG 21 true 26 (.load false 1 (.t 25)), zG 21 true 27 (.mv (.t 4)), zG 21 true 28 (.bin .geq (.t 26) (.t 27)), zG 18 false 29 (.pick (.t 21) (.t 28) (.k (.c (.lit (.bool false))))), zA 30 (.pick (.t 18) (.k (.c (.lit (.bool true)))) (.t 29))] [0, 8, 9, 10, 30]) (.cond (.t 30) (.seq (.reg [ zA 2 (.mv (.k (.c (.lit (.bool false)))))] [2]) .ret) .skip)))) (.reg [ zA 31 (.bin .add (.t 10) (.k (.c (.lit (.int .i64 1))))), zM 10 31] [0, 8, 9, 10]))))))) (.seq (.reg [ zA 2 (.mv (.k (.c (.lit (.bool true)))))] [2]) .ret))))
theorem K.impl_areNames : chkF Go.Proofs.Tryz.prog 110 1 0 C.impl_areNames [.tmp 2] = true := by kernel_rfl
def C.impl_hasValidParts : ACode := (.seq (.reg [ zA 1 (.box 10 (.t 0)), zA 2 (.mv (.k (.c (.lit (.bool false)))))] [1]) (.cut (.seq (.reg [ zA 3 (.faddr 0 (.t 1)), zA 4 (.load false 1 (.t 3)), zA 5 (.bin .neq (.t 4) (.k (.c (.lit (.int .i64 1))))), zM 6 5, zG 6 true 7 (.faddr 1 (.t 1)), zG 6 true 8 (.load false 1 (.t 7)), zG 6 true 9 (.bin .neq (.t 8) (.k (.c (.lit (.int .i64 0))))), zA 10 (.pick (.t 6) (.t 9) (.k (.c (.lit (.bool false))))), zM 11 10, zG 11 false 12 (.faddr 0 (.t 1)), zG 11 false 13 (.load false 1 (.t 12)), zG 11 false 14 (.bin .neq (.t 13) (.k (.c (.lit (.int .i64 2))))), zG 11 false 15 (.mv (.t 14)), zG 15 true 16 (.faddr 2 (.t 1)), zG 15 true 17 (.load false 1 (.t 16)), zG 15 true 18 (.bin .neq (.t 17) (.k (.c (.str [])))), zG 11 false 19 (.pick (.t 15) (.t 18) (.k (.c (.lit (.bool false))))), zA 20 (.pick (.t 11) (.k (.c (.lit (.bool true)))) (.t 19))] [1, 20]) (.cond (.t 20) (.seq (.reg [ zA 2 (.mv (.k (.c (.lit (.bool false)))))] [2]) .ret) .skip)) (.seq (.seq (.reg [ zA 21 (.faddr 0 (.t 1)), zA 22 (.load false 1 (.t 21)), zA 23 (.bin .neq (.t 22) (.k (.c (.lit (.int .i64 4))))), zM 24 23, zG 24 true 25 (.faddr 3 (.t 1)), zG 24 true 26 (.load false 1 (.t 25)), zG 24 true 27 (.len (.t 26)), zG 24 true 28 (.bin .gtr (.t 27) (.k (.c (.lit (.int .i64 0))))), zA 29 (.pick (.t 24) (.t 28) (.k (.c (.lit (.bool false)))))] [1, 29]) (.cond (.t 29) (.seq (.reg [ zA 2 (.mv (.k (.c (.lit (.bool false)))))] [2]) .ret) .skip)) (.seq (.seq (.reg [ zA 30 (.faddr 0 (.t 1)), zA 31 (.load false 1 (.t 30))] [1, 31]) (.block 0 (.seq (.reg [ zA 33 (.bin .eql (.t 31) (.k (.c (.lit (.int .i64 0))))), zM 32 33] [1, 31, 32]) (.cond (.t 32) (.seq (.reg [ zA 34 (.faddr 4 (.t 1)), zA 35 (.load false 1 (.t 34)), zA 36 (.len (.t 35)), zA 37 (.bin .eql (.t 36) (.k (.c (.lit (.int .i64 0))))), zM 2 37] [2]) .ret) (.seq (.reg [ zA 39 (.bin .eql (.t 31) (.k (.c (.lit (.int .i64 1))))), zM 38 39] [1, 31, 38]) (.cond (.t 38) (.seq (.reg [ zA 40 (.faddr 1 (.t 1)), zA 41 (.load false 1 (.t 40)), zA 42 (.bin .geq (.t 41) (.k (.c (.lit (.int .i64 (-999999)))))), zM 43 42, zG 43 true 44 (.faddr 1 (.t 1)), zG 43 true 45 (.load false 1 (.t 44)), zG 43 true 46 (.bin .leq (.t 45) (.k (.c (.lit (.int .i64 999999))))), zA 47 (.pick (.t 43) (.t 46) (.k (.c (.lit (.bool false))))), zM 48 47, zG 48 true 49 (.faddr 4 (.t 1)), zG 48 true 50 (.load false 1 (.t 49)), zG 48 true 51 (.len (.t 50)), zG 48 true 52 (.bin .eql (.t 51) (.k (.c (.lit (.int .i64 0))))), zA 53 (.pick (.t 48) (.t 52) (.k (.c (.lit (.bool false))))), zM 2 53] [2]) .ret) (.seq (.reg [ zA 55 (.bin .eql (.t 31) (.k (.c (.lit (.int .i64 2))))), zM 54 55] [1, 31, 54]) (.cond (.t 54) (.seq (.reg [ zA 56 (.faddr 2 (.t 1)), zA 57 (.load false 1 (.t 56)), ⟨none, some 58, .call 109 [.t 57]⟩, zM 59 58, zG 59 true 60 (.faddr 4 (.t 1)), zG 59 true 61 (.load false 1 (.t 60)), zG 59 true 62 (.len (.t 61)), zG 59 true 63 (.bin .eql (.t 62) (.k (.c (.lit (.int .i64 0))))), zA 64 (.pick (.t 59) (.t 63) (.k (.c (.lit (.bool false))))), zM 2 64] [2]) .ret) (.seq (.reg [ zA 66 (.bin .eql (.t 31) (.k (.c (.lit (.int .i64 3))))), zM 65 66] [1, 31, 65]) (.cond (.t 65) (.seq (.reg [ zA 67 (.faddr 4 (.t 1)), zA 68 (.load false 1 (.t 67)), zA 69 (.len (.t 68)), zA 70 (.bin .leq (.t 69) (.k (.c (.lit (.int .i64 6))))), zM 2 70] [2]) .ret) (.seq (.reg [ zA 72 (.bin .eql (.t 31) (.k (.c (.lit (.int .i64 4))))), zM 71 72] [1, 71]) (.cond (.t 71) (.seq (.reg [ zA 73 (.faddr 3 (.t 1)), zA 74 (.load false 1 (.t 73)), ⟨none, some 75, .call 110 [.t 74]⟩, zM 76 75, zG 76 true 77 (.faddr 4 (.t 1)), zG 76 true 78 (.load false 1 (.t 77)), zG 76 true 79 (.len (.t 78)), zG 76 true 80 (.faddr 3 (.t 1)), zG 76 true 81 (.load false 1 (.t 80)), zG 76 true 82 (.len (.t 81)), zG 76 true 83 (.bin .eql (.t 79) (.t 82)), zA 84 (.pick (.t 76) (.t 83) (.k (.c (.lit (.bool false))))), zM 2 84] [2]) .ret) .skip)))))))))))) (.seq (.reg [ zA 2 (.mv (.k (.c (.lit (.bool false)))))] [2]) .ret)))))
theorem K.impl_hasValidParts : chkF Go.Proofs.Tryz.prog 90 1 0 C.impl_hasValidParts [.tmp 2] = true := by kernel_rfl
def C.impl_measureNode : ACode := (.seq (.reg [ zA 2 (.box 10 (.t 0)), zA 4 (.mv (.k (.c (.lit (.int .i64 0))))), zA 5 (.mv (.k (.c (.lit (.int .i64 0))))), zA 6 (.mv (.k (.c (.lit (.bool false)))))] [1, 2]) (.seq (.seq (.reg [ zM 12 1, zA 13 (.bin .gtr (.t 12) (.k (.c (.lit (.int .i64 5))))), zM 14 13, zG 14 false 15 (.load true 5 (.t 2)), ⟨(some (14, false)), some 16, .call 90 [.t 15]⟩, zG 14 false 17 (.not (.t 16)), zA 18 (.pick (.t 14) (.k (.c (.lit (.bool true)))) (.t 17))] [1, 2, 18]) (.cond (.t 18) (.seq (.reg [ zA 4 (.mv (.k (.c (.lit (.int .i64 0))))), zA 5 (.mv (.k (.c (.lit (.int .i64 0))))), zA 6 (.mv (.k (.c (.lit (.bool false)))))] [4, 5, 6]) .ret) .skip)) (.seq (.reg [ zA 4 (.mv (.k (.c (.lit (.int .i64 1))))), zA 5 (.mv (.k (.c (.lit (.int .i64 1)))))] [1, 2, 4, 5]) (.seq (.seq (.reg [ zA 19 (.faddr 4 (.t 2)), zA 20 (.load false 1 (.t 19)), zA 21 (.len (.t 20)), zA 22 (.mv (.k (.c (.lit (.int .i64 0)))))] [1, 4, 5, 20, 21, 22]) (.block 0 (.loop (.seq (.reg [ zA 23 (.bin .lss (.t 22) (.t 21))] [1, 4, 5, 20, 21, 22, 23]) (.seq (.cond (.t 23) .skip (.exit 0)) (.seq (.block 1 (.seq (.reg [ zA 24 (.iaddr 5 (.t 20) (.t 22)), zA 25 (.load true 5 (.t 24)), zA 8 (.alloc 11 [.c (.lit (.int .i64 0)), .c (.lit (.int .i64 0)), .c (.str []), .nsl 1, .nsl 5]), zS (.store true 5 (.t 8) (.t 25))] [1, 4, 5, 8, 20, 21, 22]) (.seq (.reg [ zA 27 (.load true 5 (.t 8)), zM 28 1, zA 29 (.bin .add (.t 28) (.k (.c (.lit (.int .i64 1))))), ⟨none, some 30, .call 58 [.t 27, .t 29]⟩, zM 26 30, zA 31 (.extract (.t 26) 0), zA 32 (.extract (.t 26) 1), zA 33 (.extract (.t 26) 2), zM 9 31, zM 10 32, zM 11 33] [1, 4, 5, 9, 10, 11, 20, 21, 22]) (.seq (.seq (.reg [ zM 34 11, zA 35 (.not (.t 34))] [1, 4, 5, 9, 10, 20, 21, 22, 35]) (.cond (.t 35) (.seq (.reg [ zA 4 (.mv (.k (.c (.lit (.int .i64 0))))), zA 5 (.mv (.k (.c (.lit (.int .i64 0))))), zA 6 (.mv (.k (.c (.lit (.bool false)))))] [4, 5, 6]) .ret) .skip)) (.seq (.reg [ zM 36 4, zM 37 9, zA 38 (.bin .add (.t 36) (.t 37)), zM 4 38] [1, 4, 5, 10, 20, 21, 22]) (.reg [ zM 39 5, zM 40 10, zA 41 (.bin .add (.t 40) (.k (.c (.lit (.int .i64 1))))), zA 42 (.max (.t 39) (.t 41)), zM 5 42] [1, 4, 5, 20, 21, 22])))))) (.reg [ zA 43 (.bin .add (.t 22) (.k (.c (.lit (.int .i64 1))))), zM 22 43] [1, 4, 5, 20, 21, 22]))))))) (.seq (.reg [ zM 44 4, zM 45 5, zM 4 44, zM 5 45, zA 6 (.mv (.k (.c (.lit (.bool true)))))] [4, 5, 6]) .ret)))))
theorem K.impl_measureNode : chkF Go.Proofs.Tryz.prog 58 2 0 C.impl_measureNode [.tmp 4, .tmp 5, .tmp 6] = true := by kernel_rfl
def C.impl_ValidNode : ACode := (.seq (.reg [ zA 1 (.box 10 (.t 0)), zA 2 (.mv (.k (.c (.lit (.bool false)))))] [1]) (.seq (.reg [ zA 7 (.load true 5 (.t 1)), ⟨none, some 8, .call 58 [.t 7, .k (.c (.lit (.int .i64 1)))]⟩, zM 6 8, zA 9 (.extract (.t 6) 0), zA 10 (.extract (.t 6) 1), zA 11 (.extract (.t 6) 2), zM 3 9, zM 4 10, zM 5 11] [3, 5]) (.seq (.reg [ zM 12 5, zM 13 12, zG 13 true 14 (.mv (.t 3)), zG 13 true 15 (.bin .leq (.t 14) (.k (.c (.lit (.int .i64 40))))), zA 16 (.pick (.t 13) (.t 15) (.k (.c (.lit (.bool false))))), zM 2 16] [2]) .ret)))
theorem K.impl_ValidNode : chkF Go.Proofs.Tryz.prog 29 1 0 C.impl_ValidNode [.tmp 2] = true := by kernel_rfl
def C.impl_isPath : ACode := (.seq (.reg [ zA 2 (.mv (.k (.c (.lit (.bool false)))))] [0]) (.seq (.seq (.reg [ zM 5 0, zA 6 (.len (.t 5)), zA 7 (.bin .gtr (.t 6) (.k (.c (.lit (.int .i64 5)))))] [0, 7]) (.cond (.t 7) (.seq (.reg [ zA 2 (.mv (.k (.c (.lit (.bool false)))))] [2]) .ret) .skip)) (.seq (.seq (.reg [ zM 8 0, zA 9 (.len (.t 8)), zA 10 (.mv (.k (.c (.lit (.int .i64 0)))))] [8, 9, 10]) (.block 0 (.loop (.seq (.reg [ zA 11 (.bin .lss (.t 10) (.t 9))] [8, 9, 10, 11]) (.seq (.cond (.t 11) .skip (.exit 0)) (.seq (.block 1 (.seq (.reg [ zA 12 (.iaddr 1 (.t 8) (.t 10)), zA 13 (.load false 1 (.t 12)), zM 4 13] [4, 8, 9, 10]) (.seq (.reg [ zM 14 4, ⟨none, some 15, .call 109 [.t 14]⟩, zA 16 (.not (.t 15))] [8, 9, 10, 16]) (.cond (.t 16) (.seq (.reg [ zA 2 (.mv (.k (.c (.lit (.bool false)))))] [2]) .ret) .skip)))) (.reg [ zA 17 (.bin .add (.t 10) (.k (.c (.lit (.int .i64 1))))), zM 10 17] [8, 9, 10]))))))) (.seq (.reg [ zA 2 (.mv (.k (.c (.lit (.bool true)))))] [2]) .ret))))
theorem K.impl_isPath : chkF Go.Proofs.Tryz.prog 91 1 0 C.impl_isPath [.tmp 2] = true := by kernel_rfl
def C.impl_isOp : ACode := (.seq (.reg [ zA 1 (.box 10 (.t 0)), zA 2 (.mv (.k (.c (.lit (.bool false)))))] [1]) (.seq (.reg [ zA 3 (.faddr 0 (.t 1)), zA 4 (.load false 1 (.t 3)), zA 5 (.bin .geq (.t 4) (.k (.c (.lit (.int .i64 1))))), zM 6 5, zG 6 true 7 (.faddr 0 (.t 1)), zG 6 true 8 (.load false 1 (.t 7)), zG 6 true 9 (.bin .leq (.t 8) (.k (.c (.lit (.int .i64 6))))), zA 10 (.pick (.t 6) (.t 9) (.k (.c (.lit (.bool false))))), zM 11 10, zG 11 true 12 (.faddr 1 (.t 1)), zG 11 true 13 (.load false 1 (.t 12)), ⟨(some (11, true)), some 14, .call 91 [.t 13]⟩, zA 15 (.pick (.t 11) (.t 14) (.k (.c (.lit (.bool false))))), zM 16 15, zG 16 true 17 (.faddr 2 (.t 1)), zG 16 true 18 (.load false 1 (.t 17)), ⟨(some (16, true)), some 19, .call 91 [.t 18]⟩, zA 20 (.pick (.t 16) (.t 19) (.k (.c (.lit (.bool false))))), zM 21 20, zG 21 true 22 (.faddr 3 (.t 1)), zG 21 true 23 (.load true 5 (.t 22)), ⟨(some (21, true)), some 24, .call 29 [.t 23]⟩, zA 25 (.pick (.t 21) (.t 24) (.k (.c (.lit (.bool false))))), zM 2 25] [2]) .ret))
theorem K.impl_isOp : chkF Go.Proofs.Tryz.prog 59 1 0 C.impl_isOp [.tmp 2] = true := by kernel_rfl
def C.impl_arePatchOps : ACode := (.seq (.reg [ zA 2 (.mv (.k (.c (.lit (.bool false)))))] [0]) (.seq (.seq (.reg [ zM 5 0, zA 6 (.len (.t 5)), zA 7 (.bin .gtr (.t 6) (.k (.c (.lit (.int .i64 12)))))] [0, 7]) (.cond (.t 7) (.seq (.reg [ zA 2 (.mv (.k (.c (.lit (.bool false)))))] [2]) .ret) .skip)) (.seq (.seq (.reg [ zM 8 0, zA 9 (.len (.t 8)), zA 10 (.mv (.k (.c (.lit (.int .i64 0)))))] [8, 9, 10]) (.block 0 (.loop (.seq (.reg [ zA 11 (.bin .lss (.t 10) (.t 9))] [8, 9, 10, 11]) (.seq (.cond (.t 11) .skip (.exit 0)) (.seq (.block 1 (.seq (.reg [ zA 12 (.iaddr 8 (.t 8) (.t 10)), zA 13 (.load true 8 (.t 12)), zA 4 (.alloc 10 [.c (.lit (.int .i64 0)), .nsl 1, .nsl 1, .c (.lit (.int .i64 0)), .c (.lit (.int .i64 0)), .c (.str []), .nsl 1, .nsl 5]), zS (.store true 8 (.t 4) (.t 13))] [4, 8, 9, 10]) (.seq (.reg [ zA 14 (.load true 8 (.t 4)), ⟨none, some 15, .call 59 [.t 14]⟩, zA 16 (.not (.t 15))] [8, 9, 10, 16]) (.cond (.t 16) (.seq (.reg [ zA 2 (.mv (.k (.c (.lit (.bool false)))))] [2]) .ret) .skip)))) (.reg [ zA 17 (.bin .add (.t 10) (.k (.c (.lit (.int .i64 1))))), zM 10 17] [8, 9, 10]))))))) (.seq (.reg [ zA 2 (.mv (.k (.c (.lit (.bool true)))))] [2]) .ret))))
theorem K.impl_arePatchOps : chkF Go.Proofs.Tryz.prog 30 1 0 C.impl_arePatchOps [.tmp 2] = true := by kernel_rfl
def C.internal_stringslite_IndexByte : ACode := (.seq (.reg [ zA 4 (.mv (.k (.c (.lit (.int .i64 0)))))] [0, 1]) (.seq (.reg [ zM 5 0, zM 6 1, zA 7 (.idxb (.t 5) (.t 6)), zM 4 7] [4]) .ret))
theorem K.internal_stringslite_IndexByte : chkF Go.Proofs.Tryz.prog 108 2 0 C.internal_stringslite_IndexByte [.tmp 4] = true := by kernel_rfl
def C.strings_IndexByte : ACode := (.seq (.reg [ zA 4 (.mv (.k (.c (.lit (.int .i64 0)))))] [0, 1]) (.seq (.reg [ zM 5 0, zM 6 1, ⟨none, some 7, .call 108 [.t 5, .t 6]⟩, zM 4 7] [4]) .ret))
theorem K.strings_IndexByte : chkF Go.Proofs.Tryz.prog 89 2 0 C.strings_IndexByte [.tmp 4] = true := by kernel_rfl
def C.impl_isSum : ACode := (.seq (.reg [ zA 2 (.mv (.k (.c (.lit (.bool false)))))] [0]) (.seq (.seq (.reg [ zM 4 0, zA 5 (.lens (.t 4)), zA 6 (.bin .neq (.t 5) (.k (.c (.lit (.int .i64 4)))))] [0, 6]) (.cond (.t 6) (.seq (.reg [ zA 2 (.mv (.k (.c (.lit (.bool false)))))] [2]) .ret) .skip)) (.seq (.seq (.reg [ zA 3 (.mv (.k (.c (.lit (.int .i64 0)))))] [0, 3]) (.block 0 (.loop (.seq (.seq (.reg [ zM 7 3, zM 8 0, zA 9 (.lens (.t 8)), zA 10 (.bin .lss (.t 7) (.t 9))] [0, 3, 10]) (.cond (.t 10) .skip (.exit 0))) (.seq (.block 1 (.seq (.reg [ zM 13 0, zM 14 3, zA 15 (.idxs (.t 13) (.t 14)), ⟨none, some 16, .call 89 [.k (.c (.str [48, 49, 50, 51, 52, 53, 54, 55, 56, 57, 97, 98, 99, 100, 101, 102])), .t 15]⟩, zA 17 (.bin .lss (.t 16) (.k (.c (.lit (.int .i64 0)))))] [0, 3, 17]) (.cond (.t 17) (.seq (.reg [ zA 2 (.mv (.k (.c (.lit (.bool false)))))] [2]) .ret) .skip))) (.reg [ zM 11 3, zA 12 (.bin .add (.t 11) (.k (.c (.lit (.int .i64 1))))), zM 3 12] [0, 3])))))) (.seq (.reg [ zA 2 (.mv (.k (.c (.lit (.bool true)))))] [2]) .ret))))
theorem K.impl_isSum : chkF Go.Proofs.Tryz.prog 57 1 0 C.impl_isSum [.tmp 2] = true := by kernel_rfl
def C.impl_areTags : ACode := (.seq (.reg [ zA 2 (.mv (.k (.c (.lit (.bool false)))))] [0]) (.seq (.seq (.reg [ zM 5 0, zA 6 (.len (.t 5)), zA 7 (.bin .gtr (.t 6) (.k (.c (.lit (.int .i64 4)))))] [0, 7]) (.cond (.t 7) (.seq (.reg [ zA 2 (.mv (.k (.c (.lit (.bool false)))))] [2]) .ret) .skip)) (.seq (.seq (.reg [ zM 8 0, zA 9 (.len (.t 8)), zA 10 (.mv (.k (.c (.lit (.int .i64 0)))))] [8, 9, 10]) (.block 0 (.loop (.seq (.reg [ zA 11 (.bin .lss (.t 10) (.t 9))] [8, 9, 10, 11]) (.seq (.cond (.t 11) .skip (.exit 0)) (.seq (.block 1 (.seq (.reg [ zA 12 (.iaddr 1 (.t 8) (.t 10)), zA 13 (.load false 1 (.t 12)), zM 4 13] [4, 8, 9, 10]) (.seq (.reg [ zM 14 4, zA 15 (.bin .neq (.t 14) (.k (.c (.str [42])))), zM 16 15, zG 16 true 17 (.mv (.t 4)), ⟨(some (16, true)), some 18, .call 57 [.t 17]⟩, zG 16 true 19 (.not (.t 18)), zA 20 (.pick (.t 16) (.t 19) (.k (.c (.lit (.bool false)))))] [8, 9, 10, 20]) (.cond (.t 20) (.seq (.reg [ zA 2 (.mv (.k (.c (.lit (.bool false)))))] [2]) .ret) .skip)))) (.reg [ zA 21 (.bin .add (.t 10) (.k (.c (.lit (.int .i64 1))))), zM 10 21] [8, 9, 10]))))))) (.seq (.reg [ zA 2 (.mv (.k (.c (.lit (.bool true)))))] [2]) .ret))))
theorem K.impl_areTags : chkF Go.Proofs.Tryz.prog 28 1 0 C.impl_areTags [.tmp 2] = true := by kernel_rfl
def C.impl_isName : ACode := (.seq (.reg [ zA 2 (.mv (.k (.c (.lit (.bool false)))))] [0]) (.seq (.seq (.reg [ zM 4 0, zA 5 (.bin .eql (.t 4) (.k (.c (.str [])))), zM 6 5, zG 6 false 7 (.mv (.t 0)), zG 6 false 8 (.lens (.t 7)), zG 6 false 9 (.bin .gtr (.t 8) (.k (.c (.lit (.int .i64 8))))), zA 10 (.pick (.t 6) (.k (.c (.lit (.bool true)))) (.t 9))] [0, 10]) (.cond (.t 10) (.seq (.reg [ zA 2 (.mv (.k (.c (.lit (.bool false)))))] [2]) .ret) .skip)) (.seq (.seq (.reg [ zA 3 (.mv (.k (.c (.lit (.int .i64 0)))))] [0, 3]) (.block 0 (.loop (.seq (.seq (.reg [ zM 11 3, zM 12 0, zA 13 (.lens (.t 12)), zA 14 (.bin .lss (.t 11) (.t 13))] [0, 3, 14]) (.cond (.t 14) .skip (.exit 0))) (.seq (.block 1 (.seq (.reg [ zM 17 0, zM 18 3, zA 19 (.idxs (.t 17) (.t 18)), zA 20 (.bin .lss (.t 19) (.k (.c (.lit (.int .u8 97))))), zM 21 20, zG 21 false 22 (.mv (.t 0)), zG 21 false 23 (.mv (.t 3)), zG 21 false 24 (.idxs (.t 22) (.t 23)), zG 21 false 25 (.bin .gtr (.t 24) (.k (.c (.lit (.int .u8 122))))), zA 26 (.pick (.t 21) (.k (.c (.lit (.bool true)))) (.t 25)), zM 27 26, zG 27 true 28 (.mv (.t 0)), zG 27 true 29 (.mv (.t 3)), zG 27 true 30 (.idxs (.t 28) (.t 29)), zG 27 true 31 (.bin .lss (.t 30) (.k (.c (.lit (.int .u8 48))))), zG 27 true 32 (.mv (.t 31)), zG 32 false 33 (.mv (.t 0)), zG 32 false 34 (.mv (.t 3)), zG 32 false 35 (.idxs (.t 33) (.t 34)), zG 32 false 36 (.bin .gtr (.t 35) (.k (.c (.lit (.int .u8 57))))), zG 27 true 37 (.pick (.t 32) (.k (.c (.lit (.bool true)))) (.t 36)), zA 38 (.pick (.t 27) (.t 37) (.k (.c (.lit (.bool false)))))] [0, 3, 38]) (.cond (.t 38) (.seq (.reg [ zA 2 (.mv (.k (.c (.lit (.bool false)))))] [2]) .ret) .skip))) (.reg [ zM 15 3, zA 16 (.bin .add (.t 15) (.k (.c (.lit (.int .i64 1))))), zM 3 16] [0, 3])))))) (.seq (.reg [ zA 2 (.mv (.k (.c (.lit (.bool true)))))] [2]) .ret))))
theorem K.impl_isName : chkF Go.Proofs.Tryz.prog 27 1 0 C.impl_isName [.tmp 2] = true := by kernel_rfl
def C.impl_isRequest : ACode := (.seq (.reg [ zA 1 (.box 10 (.t 0)), zA 2 (.mv (.k (.c (.lit (.bool false)))))] [1]) (.seq (.reg [ zA 3 (.faddr 0 (.t 1)), zA 4 (.load false 1 (.t 3)), zA 5 (.bin .geq (.t 4) (.k (.c (.lit (.int .i64 1))))), zM 6 5, zG 6 true 7 (.faddr 0 (.t 1)), zG 6 true 8 (.load false 1 (.t 7)), zG 6 true 9 (.bin .leq (.t 8) (.k (.c (.lit (.int .i64 5))))), zA 10 (.pick (.t 6) (.t 9) (.k (.c (.lit (.bool false))))), zM 11 10, zG 11 true 12 (.faddr 1 (.t 1)), zG 11 true 13 (.load false 1 (.t 12)), ⟨(some (11, true)), some 14, .call 27 [.t 13]⟩, zA 15 (.pick (.t 11) (.t 14) (.k (.c (.lit (.bool false))))), zM 16 15, zG 16 true 17 (.faddr 2 (.t 1)), zG 16 true 18 (.load false 1 (.t 17)), ⟨(some (16, true)), some 19, .call 28 [.t 18]⟩, zA 20 (.pick (.t 16) (.t 19) (.k (.c (.lit (.bool false))))), zM 21 20, zG 21 true 22 (.faddr 3 (.t 1)), zG 21 true 23 (.load false 1 (.t 22)), ⟨(some (21, true)), some 24, .call 28 [.t 23]⟩, zA 25 (.pick (.t 21) (.t 24) (.k (.c (.lit (.bool false))))), zM 26 25, zG 26 true 27 (.faddr 4 (.t 1)), zG 26 true 28 (.load true 5 (.t 27)), ⟨(some (26, true)), some 29, .call 29 [.t 28]⟩, zA 30 (.pick (.t 26) (.t 29) (.k (.c (.lit (.bool false))))), zM 31 30, zG 31 true 32 (.faddr 9 (.t 1)), zG 31 true 33 (.load false 1 (.t 32)), ⟨(some (31, true)), some 34, .call 30 [.t 33]⟩, zA 35 (.pick (.t 31) (.t 34) (.k (.c (.lit (.bool false))))), zM 2 35] [2]) .ret))
theorem K.impl_isRequest : chkF Go.Proofs.Tryz.prog 18 1 0 C.impl_isRequest [.tmp 2] = true := by kernel_rfl
def C.impl_IsSafe : ACode := (.seq (.reg [ zA 1 (.box 10 (.t 0)), zA 2 (.mv (.k (.c (.lit (.bool false)))))] [1]) (.seq (.reg [ zA 3 (.load true 10 (.t 1)), ⟨none, some 4, .call 18 [.t 3]⟩, zM 5 4, zG 5 true 6 (.faddr 0 (.t 1)), zG 5 true 7 (.load false 1 (.t 6)), zG 5 true 8 (.bin .eql (.t 7) (.k (.c (.lit (.int .i64 1))))), zA 9 (.pick (.t 5) (.t 8) (.k (.c (.lit (.bool false))))), zM 2 9] [2]) .ret))
theorem K.impl_IsSafe : chkF Go.Proofs.Tryz.prog 9 1 0 C.impl_IsSafe [.tmp 2] = true := by kernel_rfl
def C.impl_areRequests : ACode := (.seq (.reg [ zA 2 (.mv (.k (.c (.lit (.bool false)))))] [0]) (.seq (.seq (.reg [ zM 5 0, zA 6 (.len (.t 5)), zA 7 (.bin .gtr (.t 6) (.k (.c (.lit (.int .i64 8)))))] [0, 7]) (.cond (.t 7) (.seq (.reg [ zA 2 (.mv (.k (.c (.lit (.bool false)))))] [2]) .ret) .skip)) (.seq (.seq (.reg [ zM 8 0, zA 9 (.len (.t 8)), zA 10 (.mv (.k (.c (.lit (.int .i64 0)))))] [8, 9, 10]) (.block 0 (.loop (.seq (.reg [ zA 11 (.bin .lss (.t 10) (.t 9))] [8, 9, 10, 11]) (.seq (.cond (.t 11) .skip (.exit 0)) (.seq (.block 1 (.seq (.reg [ zA 12 (.iaddr 10 (.t 8) (.t 10)), zA 13 (.load true 10 (.t 12)), zA 4 (.alloc 10 [.c (.lit (.int .i64 0)), .c (.str []), .nsl 1, .nsl 1, .c (.lit (.int .i64 0)), .c (.lit (.int .i64 0)), .c (.str []), .nsl 1, .nsl 5, .nsl 8]), zS (.store true 10 (.t 4) (.t 13))] [4, 8, 9, 10]) (.seq (.reg [ zA 14 (.load true 10 (.t 4)), ⟨none, some 15, .call 18 [.t 14]⟩, zA 16 (.not (.t 15))] [8, 9, 10, 16]) (.cond (.t 16) (.seq (.reg [ zA 2 (.mv (.k (.c (.lit (.bool false)))))] [2]) .ret) .skip)))) (.reg [ zA 17 (.bin .add (.t 10) (.k (.c (.lit (.int .i64 1))))), zM 10 17] [8, 9, 10]))))))) (.seq (.reg [ zA 2 (.mv (.k (.c (.lit (.bool true)))))] [2]) .ret))))
theorem K.impl_areRequests : chkF Go.Proofs.Tryz.prog 13 1 0 C.impl_areRequests [.tmp 2] = true := by kernel_rfl
def C.slices_Compact_string : ACode := (.seq (.reg [ zA 2 (.mv (.k (.nsl 1)))] [0]) (.seq (.seq (.reg [ zM 6 0, zA 7 (.len (.t 6)), zA 8 (.bin .lss (.t 7) (.k (.c (.lit (.int .i64 2)))))] [0, 8]) (.cond (.t 8) (.seq (.reg [ zM 9 0, zM 2 9] [2]) .ret) .skip)) (.seq (.seq (.reg [ zA 3 (.mv (.k (.c (.lit (.int .i64 1)))))] [0, 3]) (.block 0 (.loop (.seq (.seq (.reg [ zM 10 3, zM 11 0, zA 12 (.len (.t 11)), zA 13 (.bin .lss (.t 10) (.t 12))] [0, 3, 13]) (.cond (.t 13) .skip (.exit 0))) (.seq (.block 1 (.seq (.regD [ (zM 16 0, []), (zM 17 3, []), (zA 18 (.iaddr 1 (.t 16) (.t 17)), [0, 1]), (zA 19 (.load false 1 (.t 18)), [0, 1, 2]), (zM 20 0, []), (zM 21 3, []), (zA 22 (.bin .sub (.t 21) (.k (.c (.lit (.int .i64 1))))), [5]), (zA 23 (.iaddr 1 (.t 20) (.t 22)), [4, 5, 6]), (zA 24 (.load false 1 (.t 23)), [4, 5, 6, 7]), (zA 25 (.bin .eql (.t 19) (.t 24)), [0, 1, 2, 3, 4, 5, 6, 7, 8])] [0, 3, 25]) (.cond (.t 25) (.seq (.reg [ zM 26 0, zM 27 3, zA 28 (.sslice 1 (.t 26) (some (.t 27)) none), zM 4 28] [0, 3, 4]) (.seq (.seq (.reg [ zA 5 (.mv (.k (.c (.lit (.int .i64 1)))))] [0, 3, 4, 5]) (.block 2 (.loop (.seq (.seq (.reg [ zM 29 5, zM 30 4, zA 31 (.len (.t 30)), zA 32 (.bin .lss (.t 29) (.t 31))] [0, 3, 4, 5, 32]) (.cond (.t 32) .skip (.exit 2))) (.seq (.block 3 (.seq (.regD [ (zM 35 4, []), (zM 36 5, []), (zA 37 (.iaddr 1 (.t 35) (.t 36)), [0, 1]), (zA 38 (.load false 1 (.t 37)), [0, 1, 2]), (zM 39 4, []), (zM 40 5, []), (zA 41 (.bin .sub (.t 40) (.k (.c (.lit (.int .i64 1))))), [5]), (zA 42 (.iaddr 1 (.t 39) (.t 41)), [4, 5, 6]), (zA 43 (.load false 1 (.t 42)), [4, 5, 6, 7]), (zA 44 (.bin .neq (.t 38) (.t 43)), [0, 1, 2, 3, 4, 5, 6, 7, 8])] [0, 3, 4, 5, 44]) (.cond (.t 44) (.seq (.reg [ zM 45 0, zM 46 3, zM 47 4, zM 48 5, zA 49 (.iaddr 1 (.t 47) (.t 48)), zA 50 (.load false 1 (.t 49)), zA 51 (.iaddr 1 (.t 45) (.t 46)), zS (.store false 1 (.t 51) (.t 50))] [0, 3, 4, 5]) (.reg [ zM 52 3, zA 53 (.bin .add (.t 52) (.k (.c (.lit (.int .i64 1))))), zM 3 53] [0, 3, 4, 5])) .skip))) (.reg [ zM 33 5, zA 34 (.bin .add (.t 33) (.k (.c (.lit (.int .i64 1))))), zM 5 34] [0, 3, 4, 5])))))) (.seq (.reg [ zM 54 0, zM 55 3, zA 56 (.sslice 1 (.t 54) (some (.t 55)) none), zS (.sclr 1 [.str []] (.t 56))] [0, 3]) (.seq (.reg [ zM 57 0, zM 58 3, zA 59 (.sslice 1 (.t 57) none (some (.t 58))), zM 2 59] [2]) .ret)))) .skip))) (.reg [ zM 14 3, zA 15 (.bin .add (.t 14) (.k (.c (.lit (.int .i64 1))))), zM 3 15] [0, 3])))))) (.seq (.reg [ zM 60 0, zM 2 60] [2]) .ret))))
theorem K.slices_Compact_string : chkF Go.Proofs.Tryz.prog 15 1 1 C.slices_Compact_string [.tmp 2] = true := by kernel_rfl
def C.math_bits_Len64 : ACode := (.seq (.reg [ zA 2 (.mv (.k (.c (.lit (.int .i64 0)))))] [0, 2]) (.cut (.seq (.reg [ zM 3 0, zA 4 (.bin .geq (.t 3) (.k (.c (.lit (.int .u64 4294967296)))))] [0, 2, 4]) (.cond (.t 4) (.seq (.reg [ zM 5 0, zA 6 (.shf false (.t 5) (.k (.c (.lit (.int .u64 32))))), zM 0 6] [0]) (.reg [ zA 2 (.mv (.k (.c (.lit (.int .i64 32)))))] [0, 2])) .skip)) (.cut (.seq (.reg [ zM 7 0, zA 8 (.bin .geq (.t 7) (.k (.c (.lit (.int .u64 65536)))))] [0, 2, 8]) (.cond (.t 8) (.seq (.reg [ zM 9 0, zA 10 (.shf false (.t 9) (.k (.c (.lit (.int .u64 16))))), zM 0 10] [0, 2]) (.reg [ zM 11 2, zA 12 (.bin .add (.t 11) (.k (.c (.lit (.int .i64 16))))), zM 2 12] [0, 2])) .skip)) (.seq (.seq (.reg [ zM 13 0, zA 14 (.bin .geq (.t 13) (.k (.c (.lit (.int .u64 256)))))] [0, 2, 14]) (.cond (.t 14) (.seq (.reg [ zM 15 0, zA 16 (.shf false (.t 15) (.k (.c (.lit (.int .u64 8))))), zM 0 16] [0, 2]) (.reg [ zM 17 2, zA 18 (.bin .add (.t 17) (.k (.c (.lit (.int .i64 8))))), zM 2 18] [0, 2])) .skip)) (.seq (.reg [ zM 19 2, zM 20 0, zA 21 (.cint .u8 (.t 20)), zA 22 (.idxs (.k (.c (.str [0, 1, 2, 2, 3, 3, 3, 3, 4, 4, 4, 4, 4, 4, 4, 4, 5, 5, 5, 5, 5, 5, 5, 5, 5, 5, 5, 5, 5, 5, 5, 5, 6, 6, 6, 6, 6, 6, 6, 6, 6, 6, 6, 6, 6, 6, 6, 6, 6, 6, 6, 6, 6, 6, 6, 6, 6, 6, 6, 6, 6, 6, 6, 6, 7, 7, 7, 7, 7, 7, 7, 7, 7, 7, 7, 7, 7, 7, 7, 7, 7, 7, 7, 7, 7, 7, 7, 7, 7, 7, 7, 7, 7, 7, 7, 7, 7, 7, 7, 7, 7, 7, 7, 7, 7, 7, 7, 7, 7, 7, 7, 7, 7, 7, 7, 7, 7, 7, 7, 7, 7, 7, 7, 7, 7, 7, 7, 7, 8, 8, 8, 8, 8, 8, 8, 8, 8, 8, 8, 8, 8, 8, 8, 8, 8, 8, 8, 8, 8, 8, 8, 8, 8, 8, 8, 8, 8, 8, 8, 8, 8, 8, 8, 8, 8, 8, 8, 8, 8, 8, 8, 8, 8, 8, 8, 8, 8, 8, 8, 8, 8, 8, 8, 8, 8, 8, 8, 8, 8, 8, 8, 8, 8, 8, 8, 8, 8, 8, 8, 8, 8, 8, 8, 8, 8, 8, 8, 8, 8, 8, 8, 8, 8, 8, 8, 8, 8, 8, 8, 8, 8, 8, 8, 8, 8, 8, 8, 8, 8, 8, 8, 8, 8, 8, 8, 8, 8, 8, 8, 8, 8, 8, 8, 8, 8, 8, 8, 8, 8, 8, 8, 8, 8, 8, 8, 8]))) (.t 21)), zA 23 (.cint .i64 (.t 22)), zA 24 (.bin .add (.t 19) (.t 23)), zM 2 24] [2]) .ret)))))
theorem K.math_bits_Len64 : chkF Go.Proofs.Tryz.prog 51 1 0 C.math_bits_Len64 [.tmp 2] = true := by kernel_rfl
def C.math_bits_Len : ACode := (.seq (.reg [ zA 2 (.mv (.k (.c (.lit (.int .i64 0)))))] [0]) (.seq (.cond (.k (.c (.lit (.bool false)))) (.seq (.reg [ zM 3 0, zA 4 (.cint .u32 (.t 3)), ⟨none, some 5, .call 50 [.t 4]⟩, zM 2 5] [2]) .ret) .skip) (.seq (.reg [ zM 6 0, ⟨none, some 7, .call 51 [.t 6]⟩, zM 2 7] [2]) .ret)))
theorem K.math_bits_Len : chkF Go.Proofs.Tryz.prog 25 1 0 C.math_bits_Len [.tmp 2] = true := by kernel_rfl
def C.slices_insertionSortOrdered_string : ACode := (.seq (.reg [ zM 8 1, zA 9 (.bin .add (.t 8) (.k (.c (.lit (.int .i64 1))))), zM 6 9] [0, 1, 2, 6]) (.block 0 (.loop (.seq (.seq (.reg [ zM 10 6, zM 11 2, zA 12 (.bin .lss (.t 10) (.t 11))] [0, 1, 2, 6, 12]) (.cond (.t 12) .skip (.exit 0))) (.seq (.block 1 (.seq (.reg [ zM 15 6, zM 7 15] [0, 1, 2, 6, 7]) (.block 2 (.loop (.seq (.seq (.regD [ (zM 16 7, []), (zM 17 1, []), (zA 18 (.bin .gtr (.t 16) (.t 17)), [0, 1]), (zM 19 18, [0, 1, 2]), (zG 19 true 20 (.mv (.t 0)), [0, 1, 2, 3]), (zG 19 true 21 (.mv (.t 7)), [0, 1, 2, 3]), (zG 19 true 22 (.iaddr 1 (.t 20) (.t 21)), [0, 1, 2, 3, 4, 5]), (zG 19 true 23 (.load false 1 (.t 22)), [0, 1, 2, 3, 4, 5, 6]), (zG 19 true 24 (.mv (.t 0)), [0, 1, 2, 3]), (zG 19 true 25 (.mv (.t 7)), [0, 1, 2, 3]), (zG 19 true 26 (.bin .sub (.t 25) (.k (.c (.lit (.int .i64 1))))), [0, 1, 2, 3, 9]), (zG 19 true 27 (.iaddr 1 (.t 24) (.t 26)), [0, 1, 2, 3, 8, 9, 10]), (zG 19 true 28 (.load false 1 (.t 27)), [0, 1, 2, 3, 8, 9, 10, 11]), (⟨(some (19, true)), some 29, .call 47 [.t 23, .t 28]⟩, [0, 1, 2, 3, 4, 5, 6, 7, 8, 9, 10, 11, 12]), (zA 30 (.pick (.t 19) (.t 29) (.k (.c (.lit (.bool false))))), [0, 1, 2, 3, 4, 5, 6, 7, 8, 9, 10, 11, 12, 13])] [0, 1, 2, 6, 7, 30]) (.cond (.t 30) .skip (.exit 2))) (.seq (.block 3 (.regD [ (zM 33 0, []), (zM 34 7, []), (zM 35 0, []), (zM 36 7, []), (zA 37 (.bin .sub (.t 36) (.k (.c (.lit (.int .i64 1))))), [3]), (zM 38 0, []), (zM 39 7, []), (zA 40 (.bin .sub (.t 39) (.k (.c (.lit (.int .i64 1))))), [6]), (zA 41 (.iaddr 1 (.t 38) (.t 40)), [5, 6, 7]), (zA 42 (.load false 1 (.t 41)), [5, 6, 7, 8]), (zM 43 0, []), (zM 44 7, []), (zA 45 (.iaddr 1 (.t 43) (.t 44)), [10, 11]), (zA 46 (.load false 1 (.t 45)), [10, 11, 12]), (zA 47 (.iaddr 1 (.t 33) (.t 34)), [0, 1, 5, 6, 7, 8, 9, 10, 11, 12, 13]), (zS (.store false 1 (.t 47) (.t 42)), [0, 1, 5, 6, 7, 8, 9, 10, 11, 12, 13, 14]), (zA 48 (.iaddr 1 (.t 35) (.t 37)), [0, 1, 2, 3, 4, 5, 6, 7, 8, 9, 10, 11, 12, 13, 14, 15]), (zS (.store false 1 (.t 48) (.t 46)), [0, 1, 2, 3, 4, 5, 6, 7, 8, 9, 10, 11, 12, 13, 14, 15, 16])] [0, 1, 2, 6, 7])) (.reg [ zM 31 7, zA 32 (.bin .sub (.t 31) (.k (.c (.lit (.int .i64 1))))), zM 7 32] [0, 1, 2, 6, 7]))))))) (.reg [ zM 13 6, zA 14 (.bin .add (.t 13) (.k (.c (.lit (.int .i64 1))))), zM 6 14] [0, 1, 2, 6]))))))
theorem K.slices_insertionSortOrdered_string : chkF Go.Proofs.Tryz.prog 41 3 1 C.slices_insertionSortOrdered_string [] = true := by kernel_rfl
def C.slices_pdqsortOrdered_string : ACode := (.seq (.reg [ zA 8 (.mv (.k (.c (.lit (.bool true)))))] [0, 1, 2, 3, 8]) (.seq (.reg [ zA 9 (.mv (.k (.c (.lit (.bool true)))))] [0, 1, 2, 3, 8, 9]) (.block 0 (.loop (.block 1 (.seq (.reg [ zM 19 2, zM 20 1, zA 21 (.bin .sub (.t 19) (.t 20)), zM 10 21] [0, 1, 2, 3, 8, 9, 10]) (.seq (.seq (.reg [ zM 22 10, zA 23 (.bin .leq (.t 22) (.k (.c (.lit (.int .i64 12)))))] [0, 1, 2, 3, 8, 9, 10, 23]) (.cond (.t 23) (.seq (.reg [ zM 24 0, zM 25 1, zM 26 2, ⟨none, some 27, .call 41 [.t 24, .t 25, .t 26]⟩] []) .ret) .skip)) (.seq (.seq (.reg [ zM 28 3, zA 29 (.bin .eql (.t 28) (.k (.c (.lit (.int .i64 0)))))] [0, 1, 2, 3, 8, 9, 10, 29]) (.cond (.t 29) (.seq (.reg [ zM 30 0, zM 31 1, zM 32 2, ⟨none, some 33, .call 42 [.t 30, .t 31, .t 32]⟩] []) .ret) .skip)) (.cut (.seq (.reg [ zM 34 8, zA 35 (.not (.t 34))] [0, 1, 2, 3, 8, 9, 10, 35]) (.cond (.t 35) (.seq (.reg [ zM 36 0, zM 37 1, zM 38 2, ⟨none, some 39, .call 43 [.t 36, .t 37, .t 38]⟩] [0, 1, 2, 3, 8, 9, 10]) (.reg [ zM 40 3, zA 41 (.bin .sub (.t 40) (.k (.c (.lit (.int .i64 1))))), zM 3 41] [0, 1, 2, 3, 8, 9, 10])) .skip)) (.seq (.reg [ zM 43 0, zM 44 1, zM 45 2, ⟨none, some 46, .call 44 [.t 43, .t 44, .t 45]⟩, zM 42 46, zA 47 (.extract (.t 42) 0), zA 48 (.extract (.t 42) 1), zM 11 47, zM 12 48] [0, 1, 2, 3, 8, 9, 10, 11, 12]) (.cut (.seq (.reg [ zM 49 12, zA 50 (.bin .eql (.t 49) (.k (.c (.lit (.int .i64 2)))))] [0, 1, 2, 3, 8, 9, 10, 11, 12, 50]) (.cond (.t 50) (.seq (.reg [ zM 51 0, zM 52 1, zM 53 2, ⟨none, some 54, .call 45 [.t 51, .t 52, .t 53]⟩] [0, 1, 2, 3, 8, 9, 10, 11]) (.seq (.reg [ zM 55 2, zA 56 (.bin .sub (.t 55) (.k (.c (.lit (.int .i64 1))))), zM 57 11, zM 58 1, zA 59 (.bin .sub (.t 57) (.t 58)), zA 60 (.bin .sub (.t 56) (.t 59)), zM 11 60] [0, 1, 2, 3, 8, 9, 10, 11]) (.reg [ zA 12 (.mv (.k (.c (.lit (.int .i64 1)))))] [0, 1, 2, 3, 8, 9, 10, 11, 12]))) .skip)) (.cut (.seq (.reg [ zM 61 8, zM 62 61, zG 62 true 63 (.mv (.t 9)), zA 64 (.pick (.t 62) (.t 63) (.k (.c (.lit (.bool false))))), zM 65 64, zG 65 true 66 (.mv (.t 12)), zG 65 true 67 (.bin .eql (.t 66) (.k (.c (.lit (.int .i64 1))))), zA 68 (.pick (.t 65) (.t 67) (.k (.c (.lit (.bool false)))))] [0, 1, 2, 3, 8, 9, 10, 11, 68]) (.cond (.t 68) (.seq (.reg [ zM 69 0, zM 70 1, zM 71 2, ⟨none, some 72, .call 46 [.t 69, .t 70, .t 71]⟩] [0, 1, 2, 3, 8, 9, 10, 11, 72]) (.cond (.t 72) .ret .skip)) .skip)) (.seq (.seq (.regD [ (zM 73 1, []), (zA 74 (.bin .gtr (.t 73) (.k (.c (.lit (.int .i64 0))))), [0]), (zM 75 74, [0, 1]), (zG 75 true 76 (.mv (.t 0)), [0, 1, 2]), (zG 75 true 77 (.mv (.t 1)), [0, 1, 2]), (zG 75 true 78 (.bin .sub (.t 77) (.k (.c (.lit (.int .i64 1))))), [0, 1, 2, 4]), (zG 75 true 79 (.iaddr 1 (.t 76) (.t 78)), [0, 1, 2, 3, 4, 5]), (zG 75 true 80 (.load false 1 (.t 79)), [0, 1, 2, 3, 4, 5, 6]), (zG 75 true 81 (.mv (.t 0)), [0, 1, 2]), (zG 75 true 82 (.mv (.t 11)), [0, 1, 2]), (zG 75 true 83 (.iaddr 1 (.t 81) (.t 82)), [0, 1, 2, 8, 9]), (zG 75 true 84 (.load false 1 (.t 83)), [0, 1, 2, 8, 9, 10]), (⟨(some (75, true)), some 85, .call 47 [.t 80, .t 84]⟩, [0, 1, 2, 3, 4, 5, 6, 7, 8, 9, 10, 11]), (zG 75 true 86 (.not (.t 85)), [0, 1, 2, 3, 4, 5, 6, 7, 8, 9, 10, 11, 12]), (zA 87 (.pick (.t 75) (.t 86) (.k (.c (.lit (.bool false))))), [0, 1, 2, 3, 4, 5, 6, 7, 8, 9, 10, 11, 12, 13])] [0, 1, 2, 3, 8, 9, 10, 11, 87]) (.cond (.t 87) (.seq (.reg [ zM 88 0, zM 89 1, zM 90 2, zM 91 11, ⟨none, some 92, .call 48 [.t 88, .t 89, .t 90, .t 91]⟩, zM 13 92] [0, 2, 3, 8, 9, 13]) (.seq (.reg [ zM 93 13, zM 1 93] [0, 1, 2, 3, 8, 9]) (.exit 1))) .skip)) (.seq (.reg [ zM 95 0, zM 96 1, zM 97 2, zM 98 11, ⟨none, some 99, .call 49 [.t 95, .t 96, .t 97, .t 98]⟩, zM 94 99, zA 100 (.extract (.t 94) 0), zA 101 (.extract (.t 94) 1), zM 14 100, zM 15 101] [0, 1, 2, 3, 10, 14, 15]) (.seq (.reg [ zM 102 15, zM 9 102] [0, 1, 2, 3, 9, 10, 14]) (.seq (.reg [ zM 103 14, zM 104 1, zA 105 (.bin .sub (.t 103) (.t 104)), zM 106 2, zM 107 14, zA 108 (.bin .sub (.t 106) (.t 107)), zM 16 105, zM 17 108] [0, 1, 2, 3, 9, 10, 14, 16, 17]) (.seq (.reg [ zM 109 10, zA 110 (.bin .quo (.t 109) (.k (.c (.lit (.int .i64 8))))), zM 18 110] [0, 1, 2, 3, 9, 14, 16, 17, 18]) (.seq (.reg [ zM 111 16, zM 112 17, zA 113 (.bin .lss (.t 111) (.t 112))] [0, 1, 2, 3, 9, 14, 16, 17, 18, 113]) (.cond (.t 113) (.seq (.reg [ zM 114 16, zM 115 18, zA 116 (.bin .geq (.t 114) (.t 115)), zM 8 116] [0, 1, 2, 3, 8, 9, 14]) (.seq (.reg [ zM 117 0, zM 118 1, zM 119 14, zM 120 3, ⟨none, some 121, .call 24 [.t 117, .t 118, .t 119, .t 120]⟩] [0, 2, 3, 8, 9, 14]) (.reg [ zM 122 14, zA 123 (.bin .add (.t 122) (.k (.c (.lit (.int .i64 1))))), zM 1 123] [0, 1, 2, 3, 8, 9]))) (.seq (.reg [ zM 124 17, zM 125 18, zA 126 (.bin .geq (.t 124) (.t 125)), zM 8 126] [0, 1, 2, 3, 8, 9, 14]) (.seq (.reg [ zM 127 0, zM 128 14, zA 129 (.bin .add (.t 128) (.k (.c (.lit (.int .i64 1))))), zM 130 2, zM 131 3, ⟨none, some 132, .call 24 [.t 127, .t 129, .t 130, .t 131]⟩] [0, 1, 3, 8, 9, 14]) (.reg [ zM 133 14, zM 2 133] [0, 1, 2, 3, 8, 9]))))))))))))))))))))))
theorem K.slices_pdqsortOrdered_string : chkF Go.Proofs.Tryz.prog 24 4 1 C.slices_pdqsortOrdered_string [] = true := by kernel_rfl
def C.slices_Sort_string : ACode := (.seq (.reg [ zM 3 0, zA 4 (.len (.t 3)), zM 2 4] [0, 2]) (.reg [ zM 5 0, zM 6 2, zM 7 2, zA 8 (.cint .u64 (.t 7)), ⟨none, some 9, .call 25 [.t 8]⟩, ⟨none, some 10, .call 24 [.t 5, .k (.c (.lit (.int .i64 0))), .t 6, .t 9]⟩] []))
theorem K.slices_Sort_string : chkF Go.Proofs.Tryz.prog 14 1 1 C.slices_Sort_string [] = true := by kernel_rfl
def C.impl_Touches : ACode := (.seq (.reg [ zA 2 (.mv (.k (.nsl 1)))] [0]) (.seq (.seq (.reg [ zM 6 0, ⟨none, some 7, .call 13 [.t 6]⟩, zA 8 (.not (.t 7))] [0, 8]) (.cond (.t 8) (.seq (.reg [ zA 2 (.mv (.k (.nsl 1)))] [2]) .ret) .skip)) (.seq (.reg [ zA 3 (.mv (.k (.nsl 1)))] [0, 3]) (.seq (.seq (.reg [ zM 9 0, zA 10 (.len (.t 9)), zA 11 (.mv (.k (.c (.lit (.int .i64 0)))))] [3, 9, 10, 11]) (.block 0 (.loop (.seq (.reg [ zA 12 (.bin .lss (.t 11) (.t 10))] [3, 9, 10, 11, 12]) (.seq (.cond (.t 12) .skip (.exit 0)) (.seq (.block 1 (.seq (.reg [ zA 13 (.iaddr 10 (.t 9) (.t 11)), zA 14 (.load true 10 (.t 13)), zA 5 (.alloc 10 [.c (.lit (.int .i64 0)), .c (.str []), .nsl 1, .nsl 1, .c (.lit (.int .i64 0)), .c (.lit (.int .i64 0)), .c (.str []), .nsl 1, .nsl 5, .nsl 8]), zS (.store true 10 (.t 5) (.t 14))] [3, 5, 9, 10, 11]) (.seq (.reg [ zA 15 (.load true 10 (.t 5)), ⟨none, some 16, .call 9 [.t 15]⟩, zA 17 (.not (.t 16))] [3, 5, 9, 10, 11, 17]) (.cond (.t 17) (.reg [ zM 18 3, zA 19 (.faddr 1 (.t 5)), zA 20 (.load false 1 (.t 19)), zA 21 (.bslice 11 1 1 [.str []] [(0, .t 20)]), zA 22 (.append 12 1 16 (.t 18) (.t 21)), zM 3 22] [3, 9, 10, 11]) .skip)))) (.reg [ zA 23 (.bin .add (.t 11) (.k (.c (.lit (.int .i64 1))))), zM 11 23] [3, 9, 10, 11]))))))) (.seq (.reg [ zM 24 3, ⟨none, some 25, .call 14 [.t 24]⟩] [3]) (.seq (.reg [ zM 26 3, ⟨none, some 27, .call 15 [.t 26]⟩, zM 2 27] [2]) .ret))))))
theorem K.impl_Touches : chkF Go.Proofs.Tryz.prog 6 1 0 C.impl_Touches [.tmp 2] = true := by kernel_rfl
def C.laws_equalTexts : ACode := (.seq (.reg [ zA 4 (.mv (.k (.c (.lit (.bool false)))))] [0, 1]) (.seq (.seq (.reg [ zM 6 0, zA 7 (.len (.t 6)), zM 8 1, zA 9 (.len (.t 8)), zA 10 (.bin .neq (.t 7) (.t 9))] [0, 1, 10]) (.cond (.t 10) (.seq (.reg [ zA 4 (.mv (.k (.c (.lit (.bool false)))))] [4]) .ret) .skip)) (.seq (.seq (.reg [ zA 5 (.mv (.k (.c (.lit (.int .i64 0)))))] [0, 1, 5]) (.block 0 (.loop (.seq (.seq (.reg [ zM 11 5, zM 12 0, zA 13 (.len (.t 12)), zA 14 (.bin .lss (.t 11) (.t 13))] [0, 1, 5, 14]) (.cond (.t 14) .skip (.exit 0))) (.seq (.block 1 (.seq (.regD [ (zM 17 0, []), (zM 18 5, []), (zA 19 (.iaddr 1 (.t 17) (.t 18)), [0, 1]), (zA 20 (.load false 1 (.t 19)), [0, 1, 2]), (zM 21 1, []), (zM 22 5, []), (zA 23 (.iaddr 1 (.t 21) (.t 22)), [4, 5]), (zA 24 (.load false 1 (.t 23)), [4, 5, 6]), (zA 25 (.bin .neq (.t 20) (.t 24)), [0, 1, 2, 3, 4, 5, 6, 7])] [0, 1, 5, 25]) (.cond (.t 25) (.seq (.reg [ zA 4 (.mv (.k (.c (.lit (.bool false)))))] [4]) .ret) .skip))) (.reg [ zM 15 5, zA 16 (.bin .add (.t 15) (.k (.c (.lit (.int .i64 1))))), zM 5 16] [0, 1, 5])))))) (.seq (.reg [ zA 4 (.mv (.k (.c (.lit (.bool true)))))] [4]) .ret))))
theorem K.laws_equalTexts : chkF Go.Proofs.Tryz.prog 7 2 0 C.laws_equalTexts [.tmp 4] = true := by kernel_rfl
def C.spec_copyNode : ACode := (.seq (.reg [ zA 1 (.box 10 (.t 0)), zA 2 (.alloc 11 [.c (.lit (.int .i64 0)), .c (.lit (.int .i64 0)), .c (.str []), .nsl 1, .nsl 5])] [1, 2]) (.seq (.reg [ zA 5 (.bslice 12 5 0 [.lit (.int .i64 0), .lit (.int .i64 0), .str [], .sl 1 [], .sl 5 []] []), zM 3 5] [1, 2, 3]) (.seq (.seq (.reg [ zA 4 (.mv (.k (.c (.lit (.int .i64 0)))))] [1, 2, 3, 4]) (.block 0 (.loop (.seq (.seq (.reg [ zM 6 4, zA 7 (.faddr 4 (.t 1)), zA 8 (.load false 1 (.t 7)), zA 9 (.len (.t 8)), zA 10 (.bin .lss (.t 6) (.t 9))] [1, 2, 3, 4, 10]) (.cond (.t 10) .skip (.exit 0))) (.seq (.block 1 (.reg [ zM 13 3, zA 14 (.faddr 4 (.t 1)), zA 15 (.load false 1 (.t 14)), zM 16 4, zA 17 (.iaddr 5 (.t 15) (.t 16)), zA 18 (.load true 5 (.t 17)), ⟨none, some 19, .call 64 [.t 18]⟩, zA 20 (.bslice 13 5 1 [.lit (.int .i64 0), .lit (.int .i64 0), .str [], .sl 1 [], .sl 5 []] [(0, .t 19)]), zA 21 (.append 14 5 80 (.t 13) (.t 20)), zM 3 21] [1, 2, 3, 4])) (.reg [ zM 11 4, zA 12 (.bin .add (.t 11) (.k (.c (.lit (.int .i64 1))))), zM 4 12] [1, 2, 3, 4])))))) (.seq (.regD [ (zA 22 (.faddr 0 (.t 1)), []), (zA 23 (.load false 1 (.t 22)), [0]), (zA 24 (.faddr 1 (.t 1)), []), (zA 25 (.load false 1 (.t 24)), [2]), (zA 26 (.faddr 2 (.t 1)), []), (zA 27 (.load false 1 (.t 26)), [4]), (zA 28 (.bslice 15 1 0 [.str []] []), []), (zA 29 (.faddr 3 (.t 1)), []), (zA 30 (.load false 1 (.t 29)), [7]), (zA 31 (.append 16 1 16 (.t 28) (.t 30)), [6, 7, 8]), (zM 32 3, []), (zA 33 (.build [.c (.lit (.int .i64 0)), .c (.lit (.int .i64 0)), .c (.str []), .nsl 1, .nsl 5] [(0, 1, .t 23), (1, 1, .t 25), (2, 1, .t 27), (3, 1, .t 31), (4, 1, .t 32)]), [0, 1, 2, 3, 4, 5, 6, 7, 8, 9, 10]), (zS (.store true 5 (.t 2) (.t 33)), [0, 1, 2, 3, 4, 5, 6, 7, 8, 9, 10, 11])] [2]) .ret))))
theorem K.spec_copyNode : chkF Go.Proofs.Tryz.prog 64 1 0 C.spec_copyNode [.cell 2 true 5] = true := by kernel_rfl
def C.spec_reader_pick : ACode := (.seq (.reg [ zA 4 (.mv (.k (.c (.lit (.int .i64 0)))))] [0, 1]) (.seq (.reg [ zM 7 0, zM 8 0, zA 9 (.nilck (.t 8)), zA 10 (.faddr 1 (.t 9)), zA 11 (.load false 1 (.t 10)), zA 12 (.bin .add (.t 11) (.k (.c (.lit (.int .i64 1))))), zA 13 (.nilck (.t 7)), zA 14 (.faddr 1 (.t 13)), zS (.store false 1 (.t 14) (.t 12))] [0, 1]) (.seq (.seq (.reg [ zM 15 1, zA 16 (.bin .lss (.t 15) (.k (.c (.lit (.int .i64 1))))), zM 17 16, zG 17 false 18 (.mv (.t 0)), zG 17 false 19 (.nilck (.t 18)), zG 17 false 20 (.faddr 0 (.t 19)), zG 17 false 21 (.load false 1 (.t 20)), zG 17 false 22 (.len (.t 21)), zG 17 false 23 (.bin .eql (.t 22) (.k (.c (.lit (.int .i64 0))))), zA 24 (.pick (.t 17) (.k (.c (.lit (.bool true)))) (.t 23))] [0, 1, 24]) (.cond (.t 24) (.seq (.reg [ zA 4 (.mv (.k (.c (.lit (.int .i64 0)))))] [4]) .ret) .skip)) (.seq (.reg [ zM 25 0, zA 26 (.nilck (.t 25)), zA 27 (.faddr 1 (.t 26)), zA 28 (.load false 1 (.t 27)), zA 29 (.bin .sub (.t 28) (.k (.c (.lit (.int .i64 1))))), zM 5 29] [0, 1, 5]) (.seq (.seq (.reg [ zM 30 5, zM 31 0, zA 32 (.nilck (.t 31)), zA 33 (.faddr 0 (.t 32)), zA 34 (.load false 1 (.t 33)), zA 35 (.len (.t 34)), zA 36 (.bin .lss (.t 30) (.t 35))] [0, 1, 5, 36]) (.cond (.t 36) (.seq (.reg [ zM 37 0, zA 38 (.nilck (.t 37)), zA 39 (.faddr 0 (.t 38)), zA 40 (.load false 1 (.t 39)), zM 41 5, zA 42 (.iaddr 1 (.t 40) (.t 41)), zA 43 (.load false 1 (.t 42)), zA 44 (.cint .i64 (.t 43)), zM 45 1, zA 46 (.bin .rem (.t 44) (.t 45)), zM 4 46] [4]) .ret) .skip)) (.seq (.regD [ (zM 47 0, []), (zA 48 (.nilck (.t 47)), [0]), (zA 49 (.faddr 0 (.t 48)), [0, 1]), (zA 50 (.load false 1 (.t 49)), [0, 1, 2]), (zM 51 5, []), (zM 52 0, []), (zA 53 (.nilck (.t 52)), [5]), (zA 54 (.faddr 0 (.t 53)), [5, 6]), (zA 55 (.load false 1 (.t 54)), [5, 6, 7]), (zA 56 (.len (.t 55)), [5, 6, 7, 8]), (zA 57 (.bin .rem (.t 51) (.t 56)), [4, 5, 6, 7, 8, 9]), (zA 58 (.iaddr 1 (.t 50) (.t 57)), [0, 1, 2, 3, 4, 5, 6, 7, 8, 9, 10]), (zA 59 (.load false 1 (.t 58)), [0, 1, 2, 3, 4, 5, 6, 7, 8, 9, 10, 11]), (zA 60 (.cint .i64 (.t 59)), [0, 1, 2, 3, 4, 5, 6, 7, 8, 9, 10, 11, 12]), (zA 61 (.bin .mul (.t 60) (.k (.c (.lit (.int .i64 131))))), [0, 1, 2, 3, 4, 5, 6, 7, 8, 9, 10, 11, 12, 13]), (zM 62 0, []), (zA 63 (.nilck (.t 62)), [15]), (zA 64 (.faddr 0 (.t 63)), [15, 16]), (zA 65 (.load false 1 (.t 64)), [15, 16, 17]), (zM 66 5, []), (zA 67 (.bin .mul (.t 66) (.k (.c (.lit (.int .i64 7))))), [19]), (zA 68 (.bin .add (.t 67) (.k (.c (.lit (.int .i64 3))))), [19, 20]), (zM 69 0, []), (zA 70 (.nilck (.t 69)), [22]), (zA 71 (.faddr 0 (.t 70)), [22, 23]), (zA 72 (.load false 1 (.t 71)), [22, 23, 24]), (zA 73 (.len (.t 72)), [22, 23, 24, 25]), (zA 74 (.bin .rem (.t 68) (.t 73)), [19, 20, 21, 22, 23, 24, 25, 26]), (zA 75 (.iaddr 1 (.t 65) (.t 74)), [15, 16, 17, 18, 19, 20, 21, 22, 23, 24, 25, 26, 27]), (zA 76 (.load false 1 (.t 75)), [15, 16, 17, 18, 19, 20, 21, 22, 23, 24, 25, 26, 27, 28]), (zA 77 (.cint .i64 (.t 76)), [15, 16, 17, 18, 19, 20, 21, 22, 23, 24, 25, 26, 27, 28, 29]), (zA 78 (.bin .mul (.t 77) (.k (.c (.lit (.int .i64 1117))))), [15, 16, 17, 18, 19, 20, 21, 22, 23, 24, 25, 26, 27, 28, 29, 30]), (zA 79 (.bin .add (.t 61) (.t 78)), [0, 1, 2, 3, 4, 5, 6, 7, 8, 9, 10, 11, 12, 13, 14, 15, 16, 17, 18, 19, 20, 21, 22, 23, 24, 25, 26, 27, 28, 29, 30, 31]), (zM 80 5, []), (zA 81 (.bin .mul (.t 80) (.k (.c (.lit (.int .i64 29))))), [33]), (zA 82 (.bin .add (.t 79) (.t 81)), [0, 1, 2, 3, 4, 5, 6, 7, 8, 9, 10, 11, 12, 13, 14, 15, 16, 17, 18, 19, 20, 21, 22, 23, 24, 25, 26, 27, 28, 29, 30, 31, 32, 33, 34]), (zM 83 5, []), (zM 84 0, []), (zA 85 (.nilck (.t 84)), [37]), (zA 86 (.faddr 0 (.t 85)), [37, 38]), (zA 87 (.load false 1 (.t 86)), [37, 38, 39]), (zA 88 (.len (.t 87)), [37, 38, 39, 40]), (zA 89 (.bin .quo (.t 83) (.t 88)), [36, 37, 38, 39, 40, 41]), (zA 90 (.bin .mul (.t 89) (.k (.c (.lit (.int .i64 53))))), [36, 37, 38, 39, 40, 41, 42]), (zA 91 (.bin .add (.t 82) (.t 90)), [0, 1, 2, 3, 4, 5, 6, 7, 8, 9, 10, 11, 12, 13, 14, 15, 16, 17, 18, 19, 20, 21, 22, 23, 24, 25, 26, 27, 28, 29, 30, 31, 32, 33, 34, 35, 36, 37, 38, 39, 40, 41, 42, 43]), (zM 6 91, [0, 1, 2, 3, 4, 5, 6, 7, 8, 9, 10, 11, 12, 13, 14, 15, 16, 17, 18, 19, 20, 21, 22, 23, 24, 25, 26, 27, 28, 29, 30, 31, 32, 33, 34, 35, 36, 37, 38, 39, 40, 41, 42, 43, 44])] [1, 6]) (.seq (.reg [ zM 92 6, zM 93 6, zA 94 (.bin .quo (.t 93) (.k (.c (.lit (.int .i64 64))))), zA 95 (.bin .xor (.t 92) (.t 94)), zM 6 95] [1, 6]) (.seq (.reg [ zM 96 6, zM 97 1, zA 98 (.bin .rem (.t 96) (.t 97)), zM 4 98] [4]) .ret))))))))
theorem K.spec_reader_pick : chkF Go.Proofs.Tryz.prog 22 2 1 C.spec_reader_pick [.tmp 4] = true := by kernel_rfl
def C.spec_reader_one : ACode := (.seq (.reg [ zA 4 (.mv (.k (.c (.lit (.int .i64 0)))))] [0, 1]) (.seq (.reg [ zM 5 1, zM 6 0, zM 7 1, zA 8 (.len (.t 7)), ⟨none, some 9, .call 22 [.t 6, .t 8]⟩, zA 10 (.iaddr 1 (.t 5) (.t 9)), zA 11 (.load false 1 (.t 10)), zM 4 11] [4]) .ret))
theorem K.spec_reader_one : chkF Go.Proofs.Tryz.prog 20 2 1 C.spec_reader_one [.tmp 4] = true := by kernel_rfl
def C.spec_decimal : ACode := (.seq (.reg [ zA 2 (.mv (.k (.c (.str []))))] [0]) (.seq (.seq (.reg [ zM 3 0, zA 4 (.bin .lss (.t 3) (.k (.c (.lit (.int .i64 0))))), zM 5 4, zG 5 true 6 (.mv (.t 0)), zG 5 true 7 (.mv (.t 0)), zG 5 true 8 (.neg (.t 7)), zG 5 true 9 (.bin .eql (.t 6) (.t 8)), zA 10 (.pick (.t 5) (.t 9) (.k (.c (.lit (.bool false)))))] [0, 10]) (.cond (.t 10) (.seq (.reg [ zA 2 (.mv (.k (.c (.str [45, 57, 50, 50, 51, 51, 55, 50, 48, 51, 54, 56, 53, 52, 55, 55, 53, 56, 48, 56]))))] [2]) .ret) .skip)) (.seq (.seq (.reg [ zM 11 0, zA 12 (.bin .lss (.t 11) (.k (.c (.lit (.int .i64 0)))))] [0, 12]) (.cond (.t 12) (.seq (.reg [ zM 13 0, zA 14 (.neg (.t 13)), ⟨none, some 15, .call 94 [.t 14]⟩, zA 16 (.bin .add (.k (.c (.str [45]))) (.t 15)), zM 2 16] [2]) .ret) .skip)) (.seq (.seq (.reg [ zM 17 0, zA 18 (.bin .lss (.t 17) (.k (.c (.lit (.int .i64 10)))))] [0, 18]) (.cond (.t 18) (.seq (.reg [ zM 19 0, zA 20 (.bin .add (.k (.c (.lit (.int .i64 48)))) (.t 19)), zA 21 (.cint .u8 (.t 20)), zA 22 (.bslice 10 1 1 [.lit (.int .u8 0)] [(0, .t 21)]), zA 23 (.cstr (.t 22)), zM 2 23] [2]) .ret) .skip)) (.seq (.regD [ (zM 24 0, []), (zA 25 (.bin .quo (.t 24) (.k (.c (.lit (.int .i64 10))))), [0]), (⟨none, some 26, .call 94 [.t 25]⟩, [0, 1]), (zM 27 0, []), (zA 28 (.bin .rem (.t 27) (.k (.c (.lit (.int .i64 10))))), [3]), (zA 29 (.bin .add (.k (.c (.lit (.int .i64 48)))) (.t 28)), [3, 4]), (zA 30 (.cint .u8 (.t 29)), [3, 4, 5]), (zA 31 (.bslice 11 1 1 [.lit (.int .u8 0)] [(0, .t 30)]), [3, 4, 5, 6]), (zA 32 (.cstr (.t 31)), [3, 4, 5, 6, 7]), (zA 33 (.bin .add (.t 26) (.t 32)), [0, 1, 2, 3, 4, 5, 6, 7, 8]), (zM 2 33, [0, 1, 2, 3, 4, 5, 6, 7, 8, 9])] [2]) .ret)))))
theorem K.spec_decimal : chkF Go.Proofs.Tryz.prog 94 1 0 C.spec_decimal [.tmp 2] = true := by kernel_rfl
def C.spec_place : ACode := (.seq (.reg [ zA 2 (.box 10 (.t 0)), zA 4 (.mv (.k (.c (.lit (.int .i64 0)))))] [1, 2]) (.seq (.seq (.reg [ zA 5 (.mv (.k (.c (.lit (.int .i64 0)))))] [1, 2, 5]) (.block 0 (.loop (.seq (.seq (.reg [ zM 6 5, zA 7 (.faddr 4 (.t 2)), zA 8 (.load false 1 (.t 7)), zA 9 (.len (.t 8)), zA 10 (.bin .lss (.t 6) (.t 9))] [1, 2, 5, 10]) (.cond (.t 10) .skip (.exit 0))) (.seq (.block 1 (.seq (.reg [ zA 13 (.faddr 0 (.t 2)), zA 14 (.load false 1 (.t 13)), zA 15 (.bin .eql (.t 14) (.k (.c (.lit (.int .i64 4))))), zM 16 15, zG 16 true 17 (.faddr 3 (.t 2)), zG 16 true 18 (.load false 1 (.t 17)), zG 16 true 19 (.mv (.t 5)), zG 16 true 20 (.iaddr 1 (.t 18) (.t 19)), zG 16 true 21 (.load false 1 (.t 20)), zG 16 true 22 (.mv (.t 1)), zG 16 true 23 (.bin .eql (.t 21) (.t 22)), zA 24 (.pick (.t 16) (.t 23) (.k (.c (.lit (.bool false))))), zM 25 24, zG 25 false 26 (.faddr 0 (.t 2)), zG 25 false 27 (.load false 1 (.t 26)), zG 25 false 28 (.bin .eql (.t 27) (.k (.c (.lit (.int .i64 3))))), zG 25 false 29 (.mv (.t 28)), zG 29 true 30 (.mv (.t 5)), ⟨(some (29, true)), some 31, .call 94 [.t 30]⟩, zG 29 true 32 (.mv (.t 1)), zG 29 true 33 (.bin .eql (.t 31) (.t 32)), zG 25 false 34 (.pick (.t 29) (.t 33) (.k (.c (.lit (.bool false))))), zA 35 (.pick (.t 25) (.k (.c (.lit (.bool true)))) (.t 34))] [1, 2, 5, 35]) (.cond (.t 35) (.seq (.reg [ zM 36 5, zM 4 36] [4]) .ret) .skip))) (.reg [ zM 11 5, zA 12 (.bin .add (.t 11) (.k (.c (.lit (.int .i64 1))))), zM 5 12] [1, 2, 5])))))) (.seq (.reg [ zA 4 (.mv (.k (.c (.lit (.int .i64 (-1))))))] [4]) .ret)))
theorem K.spec_place : chkF Go.Proofs.Tryz.prog 98 2 0 C.spec_place [.tmp 4] = true := by kernel_rfl
def C.spec_slot : ACode := (.seq (.reg [ zA 2 (.box 10 (.t 0)), zA 4 (.mv (.k (.c (.lit (.int .i64 0))))), zA 5 (.mv (.k (.c (.lit (.bool false)))))] [1, 2]) (.seq (.reg [ zA 8 (.load true 5 (.t 2)), zM 9 1, ⟨none, some 10, .call 98 [.t 8, .t 9]⟩, zM 6 10] [1, 2, 6]) (.seq (.seq (.reg [ zM 11 6, zA 12 (.bin .geq (.t 11) (.k (.c (.lit (.int .i64 0)))))] [1, 2, 6, 12]) (.cond (.t 12) (.seq (.regD [ (zM 13 6, []), (zA 14 (.faddr 0 (.t 2)), []), (zA 15 (.load false 1 (.t 14)), [1]), (zA 16 (.bin .eql (.t 15) (.k (.c (.lit (.int .i64 4))))), [1, 2]), (zM 4 13, [0]), (zM 5 16, [0, 1, 2, 3, 4])] [4, 5]) .ret) .skip)) (.seq (.seq (.reg [ zA 17 (.faddr 0 (.t 2)), zA 18 (.load false 1 (.t 17)), zA 19 (.bin .eql (.t 18) (.k (.c (.lit (.int .i64 3))))), zM 20 19, zG 20 true 21 (.mv (.t 1)), zG 20 true 22 (.bin .eql (.t 21) (.k (.c (.str [45])))), zG 20 true 23 (.mv (.t 22)), zG 23 false 24 (.mv (.t 1)), zG 23 false 25 (.faddr 4 (.t 2)), zG 23 false 26 (.load false 1 (.t 25)), zG 23 false 27 (.len (.t 26)), ⟨(some (23, false)), some 28, .call 94 [.t 27]⟩, zG 23 false 29 (.bin .eql (.t 24) (.t 28)), zG 20 true 30 (.pick (.t 23) (.k (.c (.lit (.bool true)))) (.t 29)), zA 31 (.pick (.t 20) (.t 30) (.k (.c (.lit (.bool false)))))] [1, 2, 31]) (.cond (.t 31) (.seq (.reg [ zA 32 (.faddr 4 (.t 2)), zA 33 (.load false 1 (.t 32)), zA 34 (.len (.t 33)), zM 4 34, zA 5 (.mv (.k (.c (.lit (.bool false)))))] [4, 5]) .ret) .skip)) (.seq (.seq (.reg [ zA 7 (.mv (.k (.c (.lit (.int .i64 0)))))] [1, 2, 7]) (.block 0 (.loop (.seq (.seq (.reg [ zA 35 (.faddr 0 (.t 2)), zA 36 (.load false 1 (.t 35)), zA 37 (.bin .eql (.t 36) (.k (.c (.lit (.int .i64 4))))), zM 38 37, zG 38 true 39 (.mv (.t 7)), zG 38 true 40 (.faddr 4 (.t 2)), zG 38 true 41 (.load false 1 (.t 40)), zG 38 true 42 (.len (.t 41)), zG 38 true 43 (.bin .leq (.t 39) (.t 42)), zA 44 (.pick (.t 38) (.t 43) (.k (.c (.lit (.bool false)))))] [1, 2, 7, 44]) (.cond (.t 44) .skip (.exit 0))) (.seq (.block 1 (.seq (.reg [ zM 47 7, zA 48 (.faddr 4 (.t 2)), zA 49 (.load false 1 (.t 48)), zA 50 (.len (.t 49)), zA 51 (.bin .eql (.t 47) (.t 50)), zM 52 51, zG 52 false 53 (.mv (.t 1)), zG 52 false 54 (.faddr 3 (.t 2)), zG 52 false 55 (.load false 1 (.t 54)), zG 52 false 56 (.mv (.t 7)), zG 52 false 57 (.iaddr 1 (.t 55) (.t 56)), zG 52 false 58 (.load false 1 (.t 57)), zG 52 false 59 (.bin .lss (.t 53) (.t 58)), zA 60 (.pick (.t 52) (.k (.c (.lit (.bool true)))) (.t 59))] [1, 2, 7, 60]) (.cond (.t 60) (.seq (.reg [ zM 61 7, zM 4 61, zA 5 (.mv (.k (.c (.lit (.bool false)))))] [4, 5]) .ret) .skip))) (.reg [ zM 45 7, zA 46 (.bin .add (.t 45) (.k (.c (.lit (.int .i64 1))))), zM 7 46] [1, 2, 7])))))) (.seq (.reg [ zA 4 (.mv (.k (.c (.lit (.int .i64 (-1)))))), zA 5 (.mv (.k (.c (.lit (.bool false)))))] [4, 5]) .ret))))))
theorem K.spec_slot : chkF Go.Proofs.Tryz.prog 111 2 0 C.spec_slot [.tmp 4, .tmp 5] = true := by kernel_rfl
def C.spec_withKid : ACode := (.seq (.reg [ zA 3 (.box 10 (.t 0)), zA 5 (.box 11 (.t 2)), zA 6 (.alloc 12 [.c (.lit (.int .i64 0)), .c (.lit (.int .i64 0)), .c (.str []), .nsl 1, .nsl 5])] [1, 3, 5, 6]) (.seq (.reg [ zA 8 (.load true 5 (.t 3)), ⟨none, some 9, .call 64 [.t 8]⟩, zA 7 (.alloc 13 [.c (.lit (.int .i64 0)), .c (.lit (.int .i64 0)), .c (.str []), .nsl 1, .nsl 5]), zS (.store true 5 (.t 7) (.t 9))] [1, 5, 6, 7]) (.seq (.regD [ (zA 10 (.faddr 4 (.t 7)), []), (zA 11 (.load false 1 (.t 10)), [0]), (zM 12 1, []), (zA 13 (.load true 5 (.t 5)), []), (⟨none, some 14, .call 64 [.t 13]⟩, [3]), (zA 15 (.iaddr 5 (.t 11) (.t 12)), [0, 1, 2, 3, 4]), (zS (.store true 5 (.t 15) (.t 14)), [0, 1, 2, 3, 4, 5])] [6, 7]) (.seq (.reg [ zA 16 (.load true 5 (.t 7)), zS (.store true 5 (.t 6) (.t 16))] [6]) .ret))))
theorem K.spec_withKid : chkF Go.Proofs.Tryz.prog 100 3 0 C.spec_withKid [.cell 6 true 5] = true := by kernel_rfl
def C.spec_addHere : ACode := (.seq (.reg [ zA 3 (.box 10 (.t 0)), zA 5 (.box 11 (.t 2)), zA 6 (.alloc 12 [.c (.lit (.int .i64 0)), .c (.lit (.int .i64 0)), .c (.str []), .nsl 1, .nsl 5]), zA 7 (.mv (.k (.c (.lit (.bool false)))))] [1, 3, 5, 6]) (.seq (.reg [ zA 14 (.load true 5 (.t 3)), zM 15 1, ⟨none, some 16, .call 111 [.t 14, .t 15]⟩, zM 13 16, zA 17 (.extract (.t 13) 0), zA 18 (.extract (.t 13) 1), zM 8 17, zM 9 18] [1, 3, 5, 6, 8, 9]) (.seq (.seq (.reg [ zM 19 8, zA 20 (.bin .lss (.t 19) (.k (.c (.lit (.int .i64 0)))))] [1, 3, 5, 6, 8, 9, 20]) (.cond (.t 20) (.seq (.reg [ zA 21 (.build [.c (.lit (.int .i64 0)), .c (.lit (.int .i64 0)), .c (.str []), .nsl 1, .nsl 5] []), zS (.store true 5 (.t 6) (.t 21)), zA 7 (.mv (.k (.c (.lit (.bool false)))))] [6, 7]) .ret) .skip)) (.seq (.seq (.reg [ zM 22 9] [1, 3, 5, 6, 8, 22]) (.cond (.t 22) (.seq (.reg [ zA 23 (.load true 5 (.t 3)), zM 24 8, zA 25 (.load true 5 (.t 5)), ⟨none, some 26, .call 100 [.t 23, .t 24, .t 25]⟩, zS (.store true 5 (.t 6) (.t 26)), zA 7 (.mv (.k (.c (.lit (.bool true)))))] [6, 7]) .ret) .skip)) (.seq (.reg [ zA 27 (.load true 5 (.t 3)), ⟨none, some 28, .call 64 [.t 27]⟩, zA 10 (.alloc 13 [.c (.lit (.int .i64 0)), .c (.lit (.int .i64 0)), .c (.str []), .nsl 1, .nsl 5]), zS (.store true 5 (.t 10) (.t 28))] [1, 3, 5, 6, 8, 10]) (.seq (.regD [ (zA 29 (.bslice 14 5 0 [.lit (.int .i64 0), .lit (.int .i64 0), .str [], .sl 1 [], .sl 5 []] []), []), (zA 30 (.faddr 4 (.t 10)), []), (zA 31 (.load false 1 (.t 30)), [1]), (zM 32 8, []), (zA 33 (.slsl 5 (.t 31) none (some (.t 32))), [1, 2, 3]), (zA 34 (.append 15 5 80 (.t 29) (.t 33)), [0, 1, 2, 3, 4]), (zA 35 (.load true 5 (.t 5)), []), (⟨none, some 36, .call 64 [.t 35]⟩, [0, 1, 2, 3, 4, 5, 6]), (zA 37 (.bslice 16 5 1 [.lit (.int .i64 0), .lit (.int .i64 0), .str [], .sl 1 [], .sl 5 []] [(0, .t 36)]), [0, 1, 2, 3, 4, 5, 6, 7]), (zA 38 (.append 17 5 80 (.t 34) (.t 37)), [0, 1, 2, 3, 4, 5, 6, 7, 8]), (zM 11 38, [0, 1, 2, 3, 4, 5, 6, 7, 8, 9])] [1, 3, 6, 8, 10, 11]) (.seq (.reg [ zM 39 11, zA 40 (.faddr 4 (.t 10)), zA 41 (.load false 1 (.t 40)), zM 42 8, zA 43 (.slsl 5 (.t 41) (some (.t 42)) none), zA 44 (.append 18 5 80 (.t 39) (.t 43)), zM 11 44] [1, 3, 6, 8, 10, 11]) (.seq (.seq (.reg [ zA 45 (.faddr 0 (.t 3)), zA 46 (.load false 1 (.t 45)), zA 47 (.bin .eql (.t 46) (.k (.c (.lit (.int .i64 3)))))] [1, 3, 6, 8, 10, 11, 47]) (.cond (.t 47) (.seq (.reg [ zA 48 (.faddr 0 (.t 3)), zA 49 (.load false 1 (.t 48)), zA 50 (.bslice 19 1 0 [.str []] []), zM 51 11, zA 52 (.build [.c (.lit (.int .i64 0)), .c (.lit (.int .i64 0)), .c (.str []), .nsl 1, .nsl 5] [(0, 1, .t 49), (3, 1, .t 50), (4, 1, .t 51)]), zS (.store true 5 (.t 6) (.t 52)), zA 7 (.mv (.k (.c (.lit (.bool true)))))] [6, 7]) .ret) .skip)) (.seq (.reg [ zA 53 (.bslice 20 1 0 [.str []] []), zA 54 (.faddr 3 (.t 10)), zA 55 (.load false 1 (.t 54)), zM 56 8, zA 57 (.slsl 1 (.t 55) none (some (.t 56))), zA 58 (.append 21 1 16 (.t 53) (.t 57)), zM 59 1, zA 60 (.bslice 22 1 1 [.str []] [(0, .t 59)]), zA 61 (.append 23 1 16 (.t 58) (.t 60)), zM 12 61] [3, 6, 8, 10, 11, 12]) (.seq (.reg [ zM 62 12, zA 63 (.faddr 3 (.t 10)), zA 64 (.load false 1 (.t 63)), zM 65 8, zA 66 (.slsl 1 (.t 64) (some (.t 65)) none), zA 67 (.append 24 1 16 (.t 62) (.t 66)), zM 12 67] [3, 6, 11, 12]) (.seq (.reg [ zA 68 (.faddr 0 (.t 3)), zA 69 (.load false 1 (.t 68)), zM 70 12, zM 71 11, zA 72 (.build [.c (.lit (.int .i64 0)), .c (.lit (.int .i64 0)), .c (.str []), .nsl 1, .nsl 5] [(0, 1, .t 69), (3, 1, .t 70), (4, 1, .t 71)]), zS (.store true 5 (.t 6) (.t 72)), zA 7 (.mv (.k (.c (.lit (.bool true)))))] [6, 7]) .ret)))))))))))
theorem K.spec_addHere : chkF Go.Proofs.Tryz.prog 99 3 0 C.spec_addHere [.cell 6 true 5, .tmp 7] = true := by kernel_rfl
def C.spec_reader_of : ACode := (.seq (.reg [ zA 4 (.mv (.k (.c (.str []))))] [0, 1]) (.seq (.reg [ zM 5 1, zM 6 0, zM 7 1, zA 8 (.len (.t 7)), ⟨none, some 9, .call 22 [.t 6, .t 8]⟩, zA 10 (.iaddr 1 (.t 5) (.t 9)), zA 11 (.load false 1 (.t 10)), zM 4 11] [4]) .ret))
theorem K.spec_reader_of : chkF Go.Proofs.Tryz.prog 63 2 1 C.spec_reader_of [.tmp 4] = true := by kernel_rfl
def C.spec_someText : ACode := (.seq (.reg [ zA 2 (.mv (.k (.c (.str []))))] [0]) (.seq (.reg [ zM 3 0, zA 4 (.bslice 10 1 12 [.str []] [(0, .k (.c (.str [97]))), (1, .k (.c (.str [98]))), (2, .k (.c (.str []))), (3, .k (.c (.str [97, 98, 99]))), (4, .k (.c (.str [97, 47, 98]))), (5, .k (.c (.str [126]))), (6, .k (.c (.str [120, 32, 121]))), (7, .k (.c (.str [34, 113, 34]))), (8, .k (.c (.str [98, 97, 99, 107, 92, 115]))), (9, .k (.c (.str [48]))), (10, .k (.c (.str [49]))), (11, .k (.c (.str [97, 98, 99, 100, 101, 102, 103, 104, 105, 106, 107, 108])))]), ⟨none, some 5, .call 63 [.t 3, .t 4]⟩, zM 2 5] [2]) .ret))
theorem K.spec_someText : chkF Go.Proofs.Tryz.prog 96 1 1 C.spec_someText [.tmp 2] = true := by kernel_rfl
def C.spec_someName : ACode := (.seq (.reg [ zA 2 (.mv (.k (.c (.str []))))] [0]) (.seq (.reg [ zM 3 0, zA 4 (.bslice 10 1 8 [.str []] [(0, .k (.c (.str [97]))), (1, .k (.c (.str [98]))), (2, .k (.c (.str [99]))), (3, .k (.c (.str [100]))), (4, .k (.c (.str [97, 47, 98]))), (5, .k (.c (.str [126, 120]))), (6, .k (.c (.str []))), (7, .k (.c (.str [107])))]), ⟨none, some 5, .call 63 [.t 3, .t 4]⟩, zM 2 5] [2]) .ret))
theorem K.spec_someName : chkF Go.Proofs.Tryz.prog 97 1 1 C.spec_someName [.tmp 2] = true := by kernel_rfl
def C.spec_randomMap : ACode := (.seq (.reg [ zA 4 (.alloc 10 [.c (.lit (.int .i64 0)), .c (.lit (.int .i64 0)), .c (.str []), .nsl 1, .nsl 5])] [0, 1, 4]) (.seq (.reg [ zA 9 (.bslice 11 1 0 [.str []] []), zA 10 (.bslice 12 5 0 [.lit (.int .i64 0), .lit (.int .i64 0), .str [], .sl 1 [], .sl 5 []] []), zA 11 (.build [.c (.lit (.int .i64 0)), .c (.lit (.int .i64 0)), .c (.str []), .nsl 1, .nsl 5] [(0, 1, .k (.c (.lit (.int .i64 4)))), (3, 1, .t 9), (4, 1, .t 10)]), zA 5 (.alloc 13 [.c (.lit (.int .i64 0)), .c (.lit (.int .i64 0)), .c (.str []), .nsl 1, .nsl 5]), zS (.store true 5 (.t 5) (.t 11))] [0, 1, 4, 5]) (.seq (.seq (.reg [ zM 12 0, zA 13 (.bslice 14 1 5 [.lit (.int .i64 0)] [(0, .k (.c (.lit (.int .i64 2)))), (1, .k (.c (.lit (.int .i64 3)))), (2, .k (.c (.lit (.int .i64 1)))), (3, .k (.c (.lit (.int .i64 0)))), (4, .k (.c (.lit (.int .i64 4))))]), ⟨none, some 14, .call 20 [.t 12, .t 13]⟩, zM 6 14] [0, 1, 4, 5, 6]) (.block 0 (.loop (.seq (.seq (.reg [ zM 15 6, zA 16 (.bin .gtr (.t 15) (.k (.c (.lit (.int .i64 0)))))] [0, 1, 4, 5, 6, 16]) (.cond (.t 16) .skip (.exit 0))) (.seq (.block 1 (.seq (.reg [ zM 19 0, ⟨none, some 20, .call 97 [.t 19]⟩, zM 7 20] [0, 1, 4, 5, 6, 7]) (.seq (.reg [ zM 21 0, zM 22 1, zA 23 (.bin .sub (.t 22) (.k (.c (.lit (.int .i64 1))))), ⟨none, some 24, .call 71 [.t 21, .t 23]⟩, zA 8 (.alloc 15 [.c (.lit (.int .i64 0)), .c (.lit (.int .i64 0)), .c (.str []), .nsl 1, .nsl 5]), zS (.store true 5 (.t 8) (.t 24))] [0, 1, 4, 5, 6, 7, 8]) (.seq (.reg [ zA 25 (.load true 5 (.t 5)), zM 26 7, ⟨none, some 27, .call 98 [.t 25, .t 26]⟩, zA 28 (.bin .lss (.t 27) (.k (.c (.lit (.int .i64 0)))))] [0, 1, 4, 5, 6, 7, 8, 28]) (.cond (.t 28) (.reg [ zA 30 (.load true 5 (.t 5)), zM 31 7, zA 32 (.load true 5 (.t 8)), ⟨none, some 33, .call 99 [.t 30, .t 31, .t 32]⟩, zM 29 33, zA 34 (.extract (.t 29) 0), zA 35 (.extract (.t 29) 1), zS (.store true 5 (.t 5) (.t 34))] [0, 1, 4, 5, 6]) .skip))))) (.reg [ zM 17 6, zA 18 (.bin .sub (.t 17) (.k (.c (.lit (.int .i64 1))))), zM 6 18] [0, 1, 4, 5, 6])))))) (.seq (.reg [ zA 36 (.load true 5 (.t 5)), zS (.store true 5 (.t 4) (.t 36))] [4]) .ret))))
theorem K.spec_randomMap : chkF Go.Proofs.Tryz.prog 72 2 1 C.spec_randomMap [.cell 4 true 5] = true := by kernel_rfl
def C.spec_randomNode : ACode := (.seq (.reg [ zA 4 (.alloc 10 [.c (.lit (.int .i64 0)), .c (.lit (.int .i64 0)), .c (.str []), .nsl 1, .nsl 5])] [0, 1, 4]) (.seq (.reg [ zM 8 0, ⟨none, some 9, .call 22 [.t 8, .k (.c (.lit (.int .i64 5)))]⟩, zM 5 9] [0, 1, 4, 5]) (.cut (.seq (.reg [ zM 10 1, zA 11 (.bin .leq (.t 10) (.k (.c (.lit (.int .i64 1)))))] [0, 1, 4, 5, 11]) (.cond (.t 11) (.reg [ zM 12 0, ⟨none, some 13, .call 22 [.t 12, .k (.c (.lit (.int .i64 3)))]⟩, zM 5 13] [0, 1, 4, 5]) .skip)) (.seq (.seq (.reg [ zM 14 5] [0, 1, 4, 5, 14]) (.block 0 (.seq (.reg [ zA 16 (.bin .eql (.t 14) (.k (.c (.lit (.int .i64 1))))), zM 15 16] [0, 1, 4, 5, 14, 15]) (.cond (.t 15) (.seq (.reg [ zM 17 5, zM 18 0, zM 19 0, ⟨none, some 20, .call 22 [.t 19, .k (.c (.lit (.int .i64 250)))]⟩, zA 21 (.bslice 11 1 8 [.lit (.int .i64 0)] [(0, .k (.c (.lit (.int .i64 0)))), (1, .k (.c (.lit (.int .i64 1)))), (2, .k (.c (.lit (.int .i64 2)))), (3, .k (.c (.lit (.int .i64 7)))), (4, .k (.c (.lit (.int .i64 (-7))))), (5, .k (.c (.lit (.int .i64 999999)))), (6, .k (.c (.lit (.int .i64 (-999999))))), (7, .t 20)]), ⟨none, some 22, .call 20 [.t 18, .t 21]⟩, zA 23 (.build [.c (.lit (.int .i64 0)), .c (.lit (.int .i64 0)), .c (.str []), .nsl 1, .nsl 5] [(0, 1, .t 17), (1, 1, .t 22)]), zS (.store true 5 (.t 4) (.t 23))] [4]) .ret) (.seq (.reg [ zA 25 (.bin .eql (.t 14) (.k (.c (.lit (.int .i64 2))))), zM 24 25] [0, 1, 4, 5, 14, 24]) (.cond (.t 24) (.seq (.reg [ zM 26 5, zM 27 0, ⟨none, some 28, .call 96 [.t 27]⟩, zA 29 (.build [.c (.lit (.int .i64 0)), .c (.lit (.int .i64 0)), .c (.str []), .nsl 1, .nsl 5] [(0, 1, .t 26), (2, 1, .t 28)]), zS (.store true 5 (.t 4) (.t 29))] [4]) .ret) (.seq (.reg [ zA 31 (.bin .eql (.t 14) (.k (.c (.lit (.int .i64 3))))), zM 30 31] [0, 1, 4, 5, 14, 30]) (.cond (.t 30) (.seq (.reg [ zA 32 (.bslice 12 5 0 [.lit (.int .i64 0), .lit (.int .i64 0), .str [], .sl 1 [], .sl 5 []] []), zM 6 32] [0, 1, 4, 5, 6]) (.seq (.seq (.reg [ zM 33 0, ⟨none, some 34, .call 22 [.t 33, .k (.c (.lit (.int .i64 4)))]⟩, zM 7 34] [0, 1, 4, 5, 6, 7]) (.block 1 (.loop (.seq (.seq (.reg [ zM 35 7, zA 36 (.bin .gtr (.t 35) (.k (.c (.lit (.int .i64 0)))))] [0, 1, 4, 5, 6, 7, 36]) (.cond (.t 36) .skip (.exit 1))) (.seq (.block 2 (.reg [ zM 39 6, zM 40 0, zM 41 1, zA 42 (.bin .sub (.t 41) (.k (.c (.lit (.int .i64 1))))), ⟨none, some 43, .call 71 [.t 40, .t 42]⟩, zA 44 (.bslice 13 5 1 [.lit (.int .i64 0), .lit (.int .i64 0), .str [], .sl 1 [], .sl 5 []] [(0, .t 43)]), zA 45 (.append 14 5 80 (.t 39) (.t 44)), zM 6 45] [0, 1, 4, 5, 6, 7])) (.reg [ zM 37 7, zA 38 (.bin .sub (.t 37) (.k (.c (.lit (.int .i64 1))))), zM 7 38] [0, 1, 4, 5, 6, 7])))))) (.seq (.reg [ zM 46 5, zA 47 (.bslice 15 1 0 [.str []] []), zM 48 6, zA 49 (.build [.c (.lit (.int .i64 0)), .c (.lit (.int .i64 0)), .c (.str []), .nsl 1, .nsl 5] [(0, 1, .t 46), (3, 1, .t 47), (4, 1, .t 48)]), zS (.store true 5 (.t 4) (.t 49))] [4]) .ret))) (.seq (.reg [ zA 51 (.bin .eql (.t 14) (.k (.c (.lit (.int .i64 4))))), zM 50 51] [0, 1, 4, 50]) (.cond (.t 50) (.seq (.reg [ zM 52 0, zM 53 1, ⟨none, some 54, .call 72 [.t 52, .t 53]⟩, zS (.store true 5 (.t 4) (.t 54))] [4]) .ret) .skip)))))))))) (.seq (.reg [ zA 55 (.build [.c (.lit (.int .i64 0)), .c (.lit (.int .i64 0)), .c (.str []), .nsl 1, .nsl 5] []), zS (.store true 5 (.t 4) (.t 55))] [4]) .ret)))))
theorem K.spec_randomNode : chkF Go.Proofs.Tryz.prog 71 2 1 C.spec_randomNode [.cell 4 true 5] = true := by kernel_rfl
def C.spec_count : ACode := (.seq (.reg [ zA 1 (.box 10 (.t 0)), zA 2 (.mv (.k (.c (.lit (.int .i64 0)))))] [1]) (.seq (.reg [ zA 3 (.mv (.k (.c (.lit (.int .i64 1)))))] [1, 3]) (.seq (.seq (.reg [ zA 4 (.mv (.k (.c (.lit (.int .i64 0)))))] [1, 3, 4]) (.block 0 (.loop (.seq (.seq (.reg [ zM 5 4, zA 6 (.faddr 4 (.t 1)), zA 7 (.load false 1 (.t 6)), zA 8 (.len (.t 7)), zA 9 (.bin .lss (.t 5) (.t 8))] [1, 3, 4, 9]) (.cond (.t 9) .skip (.exit 0))) (.seq (.block 1 (.reg [ zM 12 3, zA 13 (.faddr 4 (.t 1)), zA 14 (.load false 1 (.t 13)), zM 15 4, zA 16 (.iaddr 5 (.t 14) (.t 15)), zA 17 (.load true 5 (.t 16)), ⟨none, some 18, .call 87 [.t 17]⟩, zA 19 (.bin .add (.t 12) (.t 18)), zM 3 19] [1, 3, 4])) (.reg [ zM 10 4, zA 11 (.bin .add (.t 10) (.k (.c (.lit (.int .i64 1))))), zM 4 11] [1, 3, 4])))))) (.seq (.reg [ zM 20 3, zM 2 20] [2]) .ret))))
theorem K.spec_count : chkF Go.Proofs.Tryz.prog 87 1 0 C.spec_count [.tmp 2] = true := by kernel_rfl
def C.spec_inRange : ACode := (.seq (.reg [ zA 6 (.mv (.k (.c (.lit (.bool false)))))] [0, 1, 2]) (.seq (.reg [ zM 7 1, zM 8 0, zA 9 (.bin .leq (.t 7) (.t 8)), zM 10 9, zG 10 true 11 (.mv (.t 0)), zG 10 true 12 (.mv (.t 2)), zG 10 true 13 (.bin .leq (.t 11) (.t 12)), zA 14 (.pick (.t 10) (.t 13) (.k (.c (.lit (.bool false))))), zM 6 14] [6]) .ret))
theorem K.spec_inRange : chkF Go.Proofs.Tryz.prog 52 3 0 C.spec_inRange [.tmp 6] = true := by kernel_rfl
def C.spec_validText : ACode := (.seq (.reg [ zA 2 (.mv (.k (.c (.lit (.bool false)))))] [0]) (.seq (.seq (.reg [ zA 3 (.mv (.k (.c (.lit (.int .i64 0)))))] [0, 3]) (.block 0 (.loop (.seq (.seq (.reg [ zM 4 3, zM 5 0, zA 6 (.lens (.t 5)), zA 7 (.bin .lss (.t 4) (.t 6))] [0, 3, 7]) (.cond (.t 7) .skip (.exit 0))) (.seq (.block 1 (.seq (.reg [ zM 10 0, zM 11 3, zA 12 (.idxs (.t 10) (.t 11)), zA 13 (.cint .i64 (.t 12)), ⟨none, some 14, .call 52 [.t 13, .k (.c (.lit (.int .i64 32))), .k (.c (.lit (.int .i64 126)))]⟩, zA 15 (.not (.t 14))] [0, 3, 15]) (.cond (.t 15) (.seq (.reg [ zA 2 (.mv (.k (.c (.lit (.bool false)))))] [2]) .ret) .skip))) (.reg [ zM 8 3, zA 9 (.bin .add (.t 8) (.k (.c (.lit (.int .i64 1))))), zM 3 9] [0, 3])))))) (.seq (.reg [ zM 16 0, zA 17 (.lens (.t 16)), zA 18 (.bin .leq (.t 17) (.k (.c (.lit (.int .i64 12))))), zM 2 18] [2]) .ret)))
theorem K.spec_validText : chkF Go.Proofs.Tryz.prog 104 1 0 C.spec_validText [.tmp 2] = true := by kernel_rfl
def C.spec_names : ACode := (.seq (.reg [ zA 2 (.mv (.k (.c (.lit (.bool false)))))] [0]) (.seq (.seq (.reg [ zA 3 (.mv (.k (.c (.lit (.int .i64 0)))))] [0, 3]) (.block 0 (.loop (.seq (.seq (.reg [ zM 4 3, zM 5 0, zA 6 (.len (.t 5)), zA 7 (.bin .lss (.t 4) (.t 6))] [0, 3, 7]) (.cond (.t 7) .skip (.exit 0))) (.seq (.block 1 (.seq (.regD [ (zM 10 0, []), (zM 11 3, []), (zA 12 (.iaddr 1 (.t 10) (.t 11)), [0, 1]), (zA 13 (.load false 1 (.t 12)), [0, 1, 2]), (⟨none, some 14, .call 104 [.t 13]⟩, [0, 1, 2, 3]), (zA 15 (.not (.t 14)), [0, 1, 2, 3, 4]), (zM 16 15, [0, 1, 2, 3, 4, 5]), (zG 16 false 17 (.mv (.t 3)), [0, 1, 2, 3, 4, 5, 6]), (zG 16 false 18 (.bin .gtr (.t 17) (.k (.c (.lit (.int .i64 0))))), [0, 1, 2, 3, 4, 5, 6, 7]), (zG 16 false 19 (.mv (.t 18)), [0, 1, 2, 3, 4, 5, 6, 7, 8]), (zG 19 true 20 (.mv (.t 0)), [0, 1, 2, 3, 4, 5, 6, 7, 8, 9]), (zG 19 true 21 (.mv (.t 3)), [0, 1, 2, 3, 4, 5, 6, 7, 8, 9]), (zG 19 true 22 (.iaddr 1 (.t 20) (.t 21)), [0, 1, 2, 3, 4, 5, 6, 7, 8, 9, 10, 11]), (zG 19 true 23 (.load false 1 (.t 22)), [0, 1, 2, 3, 4, 5, 6, 7, 8, 9, 10, 11, 12]), (zG 19 true 24 (.mv (.t 0)), [0, 1, 2, 3, 4, 5, 6, 7, 8, 9]), (zG 19 true 25 (.mv (.t 3)), [0, 1, 2, 3, 4, 5, 6, 7, 8, 9]), (zG 19 true 26 (.bin .sub (.t 25) (.k (.c (.lit (.int .i64 1))))), [0, 1, 2, 3, 4, 5, 6, 7, 8, 9, 15]), (zG 19 true 27 (.iaddr 1 (.t 24) (.t 26)), [0, 1, 2, 3, 4, 5, 6, 7, 8, 9, 14, 15, 16]), (zG 19 true 28 (.load false 1 (.t 27)), [0, 1, 2, 3, 4, 5, 6, 7, 8, 9, 14, 15, 16, 17]), (zG 19 true 29 (.bin .leq (.t 23) (.t 28)), [0, 1, 2, 3, 4, 5, 6, 7, 8, 9, 10, 11, 12, 13, 14, 15, 16, 17, 18]), (zG 16 false 30 (.pick (.t 19) (.t 29) (.k (.c (.lit (.bool false))))), [0, 1, 2, 3, 4, 5, 6, 7, 8, 9, 10, 11, 12, 13, 14, 15, 16, 17, 18, 19]), (zA 31 (.pick (.t 16) (.k (.c (.lit (.bool true)))) (.t 30)), [0, 1, 2, 3, 4, 5, 6, 7, 8, 9, 10, 11, 12, 13, 14, 15, 16, 17, 18, 19, 20])] [0, 3, 31]) (.cond (.t 31) (.seq (.reg [ zA 2 (.mv (.k (.c (.lit (.bool false)))))] [2]) .ret) .skip))) (.reg [ zM 8 3, zA 9 (.bin .add (.t 8) (.k (.c (.lit (.int .i64 1))))), zM 3 9] [0, 3])))))) (.seq (.reg [ zA 2 (.mv (.k (.c (.lit (.bool true)))))] [2]) .ret)))
theorem K.spec_names : chkF Go.Proofs.Tryz.prog 106 1 0 C.spec_names [.tmp 2] = true := by kernel_rfl
def C.spec_kids : ACode := (.seq (.reg [ zA 2 (.box 10 (.t 0)), zA 4 (.mv (.k (.c (.lit (.bool false)))))] [1, 2]) (.seq (.seq (.reg [ zA 5 (.mv (.k (.c (.lit (.int .i64 0)))))] [1, 2, 5]) (.block 0 (.loop (.seq (.seq (.reg [ zM 6 5, zA 7 (.faddr 4 (.t 2)), zA 8 (.load false 1 (.t 7)), zA 9 (.len (.t 8)), zA 10 (.bin .lss (.t 6) (.t 9))] [1, 2, 5, 10]) (.cond (.t 10) .skip (.exit 0))) (.seq (.block 1 (.seq (.reg [ zA 13 (.faddr 4 (.t 2)), zA 14 (.load false 1 (.t 13)), zM 15 5, zA 16 (.iaddr 5 (.t 14) (.t 15)), zA 17 (.load true 5 (.t 16)), zM 18 1, zA 19 (.bin .sub (.t 18) (.k (.c (.lit (.int .i64 1))))), ⟨none, some 20, .call 86 [.t 17, .t 19]⟩, zA 21 (.not (.t 20))] [1, 2, 5, 21]) (.cond (.t 21) (.seq (.reg [ zA 4 (.mv (.k (.c (.lit (.bool false)))))] [4]) .ret) .skip))) (.reg [ zM 11 5, zA 12 (.bin .add (.t 11) (.k (.c (.lit (.int .i64 1))))), zM 5 12] [1, 2, 5])))))) (.seq (.reg [ zA 4 (.mv (.k (.c (.lit (.bool true)))))] [4]) .ret)))
theorem K.spec_kids : chkF Go.Proofs.Tryz.prog 105 2 0 C.spec_kids [.tmp 4] = true := by kernel_rfl
def C.spec_shape : ACode := (.seq (.reg [ zA 2 (.box 10 (.t 0)), zA 4 (.mv (.k (.c (.lit (.bool false)))))] [1, 2]) (.cut (.seq (.reg [ zM 5 1, zA 6 (.bin .eql (.t 5) (.k (.c (.lit (.int .i64 0))))), zM 7 6, zG 7 false 8 (.faddr 4 (.t 2)), zG 7 false 9 (.load false 1 (.t 8)), zG 7 false 10 (.len (.t 9)), zG 7 false 11 (.bin .gtr (.t 10) (.k (.c (.lit (.int .i64 6))))), zA 12 (.pick (.t 7) (.k (.c (.lit (.bool true)))) (.t 11)), zM 13 12, zG 13 false 14 (.faddr 0 (.t 2)), zG 13 false 15 (.load false 1 (.t 14)), zG 13 false 16 (.bin .neq (.t 15) (.k (.c (.lit (.int .i64 1))))), zG 13 false 17 (.mv (.t 16)), zG 17 true 18 (.faddr 1 (.t 2)), zG 17 true 19 (.load false 1 (.t 18)), zG 17 true 20 (.bin .neq (.t 19) (.k (.c (.lit (.int .i64 0))))), zG 13 false 21 (.pick (.t 17) (.t 20) (.k (.c (.lit (.bool false))))), zA 22 (.pick (.t 13) (.k (.c (.lit (.bool true)))) (.t 21)), zM 23 22, zG 23 false 24 (.faddr 0 (.t 2)), zG 23 false 25 (.load false 1 (.t 24)), zG 23 false 26 (.bin .neq (.t 25) (.k (.c (.lit (.int .i64 2))))), zG 23 false 27 (.mv (.t 26)), zG 27 true 28 (.faddr 2 (.t 2)), zG 27 true 29 (.load false 1 (.t 28)), zG 27 true 30 (.bin .neq (.t 29) (.k (.c (.str [])))), zG 23 false 31 (.pick (.t 27) (.t 30) (.k (.c (.lit (.bool false))))), zA 32 (.pick (.t 23) (.k (.c (.lit (.bool true)))) (.t 31)), zM 33 32, zG 33 false 34 (.faddr 0 (.t 2)), zG 33 false 35 (.load false 1 (.t 34)), zG 33 false 36 (.bin .neq (.t 35) (.k (.c (.lit (.int .i64 4))))), zG 33 false 37 (.mv (.t 36)), zG 37 true 38 (.faddr 3 (.t 2)), zG 37 true 39 (.load false 1 (.t 38)), zG 37 true 40 (.len (.t 39)), zG 37 true 41 (.bin .gtr (.t 40) (.k (.c (.lit (.int .i64 0))))), zG 33 false 42 (.pick (.t 37) (.t 41) (.k (.c (.lit (.bool false))))), zA 43 (.pick (.t 33) (.k (.c (.lit (.bool true)))) (.t 42)), zM 44 43, zG 44 false 45 (.faddr 0 (.t 2)), zG 44 false 46 (.load false 1 (.t 45)), zG 44 false 47 (.bin .lss (.t 46) (.k (.c (.lit (.int .i64 3))))), zG 44 false 48 (.mv (.t 47)), zG 48 true 49 (.faddr 4 (.t 2)), zG 48 true 50 (.load false 1 (.t 49)), zG 48 true 51 (.len (.t 50)), zG 48 true 52 (.bin .gtr (.t 51) (.k (.c (.lit (.int .i64 0))))), zG 44 false 53 (.pick (.t 48) (.t 52) (.k (.c (.lit (.bool false))))), zA 54 (.pick (.t 44) (.k (.c (.lit (.bool true)))) (.t 53))] [1, 2, 54]) (.cond (.t 54) (.seq (.reg [ zA 4 (.mv (.k (.c (.lit (.bool false)))))] [4]) .ret) .skip)) (.seq (.seq (.reg [ zA 55 (.faddr 0 (.t 2)), zA 56 (.load false 1 (.t 55))] [1, 2, 56]) (.block 0 (.seq (.reg [ zA 58 (.bin .eql (.t 56) (.k (.c (.lit (.int .i64 1))))), zM 57 58] [1, 2, 56, 57]) (.cond (.t 57) (.seq (.reg [ zA 59 (.faddr 1 (.t 2)), zA 60 (.load false 1 (.t 59)), ⟨none, some 61, .call 52 [.t 60, .k (.c (.lit (.int .i64 (-999999)))), .k (.c (.lit (.int .i64 999999)))]⟩, zM 4 61] [4]) .ret) (.seq (.reg [ zA 63 (.bin .eql (.t 56) (.k (.c (.lit (.int .i64 2))))), zM 62 63] [1, 2, 56, 62]) (.cond (.t 62) (.seq (.reg [ zA 64 (.faddr 2 (.t 2)), zA 65 (.load false 1 (.t 64)), ⟨none, some 66, .call 104 [.t 65]⟩, zM 4 66] [4]) .ret) (.seq (.reg [ zA 68 (.bin .eql (.t 56) (.k (.c (.lit (.int .i64 3))))), zM 67 68] [1, 2, 56, 67]) (.cond (.t 67) (.seq (.reg [ zA 69 (.load true 5 (.t 2)), zM 70 1, ⟨none, some 71, .call 105 [.t 69, .t 70]⟩, zM 4 71] [4]) .ret) (.seq (.reg [ zA 73 (.bin .eql (.t 56) (.k (.c (.lit (.int .i64 4))))), zM 72 73] [1, 2, 72]) (.cond (.t 72) (.seq (.reg [ zA 74 (.faddr 3 (.t 2)), zA 75 (.load false 1 (.t 74)), zA 76 (.len (.t 75)), zA 77 (.faddr 4 (.t 2)), zA 78 (.load false 1 (.t 77)), zA 79 (.len (.t 78)), zA 80 (.bin .eql (.t 76) (.t 79)), zM 81 80, zG 81 true 82 (.faddr 3 (.t 2)), zG 81 true 83 (.load false 1 (.t 82)), ⟨(some (81, true)), some 84, .call 106 [.t 83]⟩, zA 85 (.pick (.t 81) (.t 84) (.k (.c (.lit (.bool false))))), zM 86 85, zG 86 true 87 (.load true 5 (.t 2)), zG 86 true 88 (.mv (.t 1)), ⟨(some (86, true)), some 89, .call 105 [.t 87, .t 88]⟩, zA 90 (.pick (.t 86) (.t 89) (.k (.c (.lit (.bool false))))), zM 4 90] [4]) .ret) .skip)))))))))) (.seq (.reg [ zA 91 (.faddr 0 (.t 2)), zA 92 (.load false 1 (.t 91)), zA 93 (.bin .eql (.t 92) (.k (.c (.lit (.int .i64 0))))), zM 4 93] [4]) .ret))))
theorem K.spec_shape : chkF Go.Proofs.Tryz.prog 86 2 0 C.spec_shape [.tmp 4] = true := by kernel_rfl
def C.spec_validNode : ACode := (.seq (.reg [ zA 1 (.box 10 (.t 0)), zA 2 (.mv (.k (.c (.lit (.bool false)))))] [1]) (.seq (.reg [ zA 3 (.load true 5 (.t 1)), ⟨none, some 4, .call 86 [.t 3, .k (.c (.lit (.int .i64 5)))]⟩, zM 5 4, zG 5 true 6 (.load true 5 (.t 1)), ⟨(some (5, true)), some 7, .call 87 [.t 6]⟩, zG 5 true 8 (.bin .leq (.t 7) (.k (.c (.lit (.int .i64 40))))), zA 9 (.pick (.t 5) (.t 8) (.k (.c (.lit (.bool false))))), zM 2 9] [2]) .ret))
theorem K.spec_validNode : chkF Go.Proofs.Tryz.prog 55 1 0 C.spec_validNode [.tmp 2] = true := by kernel_rfl
def C.spec_someNode : ACode := (.seq (.reg [ zA 2 (.alloc 10 [.c (.lit (.int .i64 0)), .c (.lit (.int .i64 0)), .c (.str []), .nsl 1, .nsl 5])] [0, 2]) (.seq (.reg [ zM 4 0, ⟨none, some 5, .call 71 [.t 4, .k (.c (.lit (.int .i64 3)))]⟩, zA 3 (.alloc 11 [.c (.lit (.int .i64 0)), .c (.lit (.int .i64 0)), .c (.str []), .nsl 1, .nsl 5]), zS (.store true 5 (.t 3) (.t 5))] [0, 2, 3]) (.cut (.seq (.reg [ zM 6 0, ⟨none, some 7, .call 22 [.t 6, .k (.c (.lit (.int .i64 3)))]⟩, zA 8 (.bin .gtr (.t 7) (.k (.c (.lit (.int .i64 0)))))] [0, 2, 3, 8]) (.cond (.t 8) (.reg [ zM 9 0, ⟨none, some 10, .call 72 [.t 9, .k (.c (.lit (.int .i64 3)))]⟩, zS (.store true 5 (.t 3) (.t 10))] [2, 3]) .skip)) (.seq (.seq (.reg [ zA 11 (.load true 5 (.t 3)), ⟨none, some 12, .call 55 [.t 11]⟩, zA 13 (.not (.t 12))] [2, 3, 13]) (.cond (.t 13) (.seq (.reg [ zA 14 (.build [.c (.lit (.int .i64 0)), .c (.lit (.int .i64 0)), .c (.str []), .nsl 1, .nsl 5] []), zS (.store true 5 (.t 2) (.t 14))] [2]) .ret) .skip)) (.seq (.reg [ zA 15 (.load true 5 (.t 3)), zS (.store true 5 (.t 2) (.t 15))] [2]) .ret)))))
theorem K.spec_someNode : chkF Go.Proofs.Tryz.prog 38 1 1 C.spec_someNode [.cell 2 true 5] = true := by kernel_rfl
def C.spec_anyNode : ACode := (.seq (.reg [ zA 2 (.alloc 10 [.c (.lit (.int .i64 0)), .c (.lit (.int .i64 0)), .c (.str []), .nsl 1, .nsl 5])] [0, 2]) (.seq (.reg [ zM 6 0, ⟨none, some 7, .call 38 [.t 6]⟩, zA 3 (.alloc 11 [.c (.lit (.int .i64 0)), .c (.lit (.int .i64 0)), .c (.str []), .nsl 1, .nsl 5]), zS (.store true 5 (.t 3) (.t 7))] [0, 2, 3]) (.seq (.seq (.reg [ zM 8 0, ⟨none, some 9, .call 22 [.t 8, .k (.c (.lit (.int .i64 40)))]⟩] [0, 2, 3, 9]) (.block 0 (.seq (.reg [ zA 11 (.bin .eql (.t 9) (.k (.c (.lit (.int .i64 0))))), zM 10 11] [0, 2, 3, 9, 10]) (.cond (.t 10) (.reg [ zM 12 0, zA 13 (.bslice 12 1 4 [.lit (.int .i64 0)] [(0, .k (.c (.lit (.int .i64 (-1))))), (1, .k (.c (.lit (.int .i64 5)))), (2, .k (.c (.lit (.int .i64 0)))), (3, .k (.c (.lit (.int .i64 3))))]), ⟨none, some 14, .call 20 [.t 12, .t 13]⟩, zA 15 (.faddr 0 (.t 3)), zS (.store false 1 (.t 15) (.t 14))] [2, 3]) (.seq (.reg [ zA 17 (.bin .eql (.t 9) (.k (.c (.lit (.int .i64 1))))), zM 16 17] [0, 2, 3, 9, 16]) (.cond (.t 16) (.reg [ zM 18 0, zA 19 (.bslice 13 1 2 [.lit (.int .i64 0)] [(0, .k (.c (.lit (.int .i64 1)))), (1, .k (.c (.lit (.int .i64 1000000))))]), ⟨none, some 20, .call 20 [.t 18, .t 19]⟩, zA 21 (.faddr 1 (.t 3)), zS (.store false 1 (.t 21) (.t 20))] [2, 3]) (.seq (.reg [ zA 23 (.bin .eql (.t 9) (.k (.c (.lit (.int .i64 2))))), zM 22 23] [0, 2, 3, 9, 22]) (.cond (.t 22) (.reg [ zA 24 (.faddr 2 (.t 3)), zS (.store false 1 (.t 24) (.k (.c (.str [97, 98, 99, 100, 101, 102, 103, 104, 105, 106, 107, 108, 109]))))] [2, 3]) (.seq (.reg [ zA 26 (.bin .eql (.t 9) (.k (.c (.lit (.int .i64 3))))), zM 25 26] [0, 2, 3, 9, 25]) (.cond (.t 25) (.reg [ zA 27 (.faddr 3 (.t 3)), zA 28 (.load false 1 (.t 27)), zA 29 (.bslice 14 1 1 [.str []] [(0, .k (.c (.str [])))]), zA 30 (.append 15 1 16 (.t 28) (.t 29)), zA 31 (.faddr 3 (.t 3)), zS (.store false 1 (.t 31) (.t 30))] [2, 3]) (.seq (.reg [ zA 33 (.bin .eql (.t 9) (.k (.c (.lit (.int .i64 4))))), zM 32 33] [0, 2, 3, 9, 32]) (.cond (.t 32) (.reg [ zA 34 (.load true 5 (.t 3)), zA 35 (.bslice 16 5 1 [.lit (.int .i64 0), .lit (.int .i64 0), .str [], .sl 1 [], .sl 5 []] [(0, .t 34)]), zA 36 (.build [.c (.lit (.int .i64 0)), .c (.lit (.int .i64 0)), .c (.str []), .nsl 1, .nsl 5] [(0, 1, .k (.c (.lit (.int .i64 3)))), (4, 1, .t 35)]), zA 37 (.bslice 17 5 1 [.lit (.int .i64 0), .lit (.int .i64 0), .str [], .sl 1 [], .sl 5 []] [(0, .t 36)]), zA 38 (.build [.c (.lit (.int .i64 0)), .c (.lit (.int .i64 0)), .c (.str []), .nsl 1, .nsl 5] [(0, 1, .k (.c (.lit (.int .i64 3)))), (4, 1, .t 37)]), zA 39 (.bslice 18 5 1 [.lit (.int .i64 0), .lit (.int .i64 0), .str [], .sl 1 [], .sl 5 []] [(0, .t 38)]), zA 40 (.build [.c (.lit (.int .i64 0)), .c (.lit (.int .i64 0)), .c (.str []), .nsl 1, .nsl 5] [(0, 1, .k (.c (.lit (.int .i64 3)))), (4, 1, .t 39)]), zA 41 (.bslice 19 5 1 [.lit (.int .i64 0), .lit (.int .i64 0), .str [], .sl 1 [], .sl 5 []] [(0, .t 40)]), zA 42 (.build [.c (.lit (.int .i64 0)), .c (.lit (.int .i64 0)), .c (.str []), .nsl 1, .nsl 5] [(0, 1, .k (.c (.lit (.int .i64 3)))), (4, 1, .t 41)]), zS (.store true 5 (.t 3) (.t 42))] [2, 3]) (.seq (.reg [ zA 44 (.bin .eql (.t 9) (.k (.c (.lit (.int .i64 5))))), zM 43 44] [0, 2, 3, 43]) (.cond (.t 43) (.seq (.reg [ zA 45 (.bslice 20 5 0 [.lit (.int .i64 0), .lit (.int .i64 0), .str [], .sl 1 [], .sl 5 []] []), zM 4 45] [0, 2, 3, 4]) (.seq (.seq (.reg [ zA 5 (.mv (.k (.c (.lit (.int .i64 0)))))] [0, 2, 3, 4, 5]) (.block 1 (.loop (.seq (.seq (.reg [ zM 46 5, zM 47 0, ⟨none, some 48, .call 22 [.t 47, .k (.c (.lit (.int .i64 2)))]⟩, zA 49 (.bin .add (.k (.c (.lit (.int .i64 6)))) (.t 48)), zA 50 (.bin .lss (.t 46) (.t 49))] [0, 2, 3, 4, 5, 50]) (.cond (.t 50) .skip (.exit 1))) (.seq (.block 2 (.reg [ zM 53 4, zA 54 (.load true 5 (.t 3)), ⟨none, some 55, .call 64 [.t 54]⟩, zA 56 (.bslice 21 5 1 [.lit (.int .i64 0), .lit (.int .i64 0), .str [], .sl 1 [], .sl 5 []] [(0, .t 55)]), zA 57 (.append 22 5 80 (.t 53) (.t 56)), zM 4 57] [0, 2, 3, 4, 5])) (.reg [ zM 51 5, zA 52 (.bin .add (.t 51) (.k (.c (.lit (.int .i64 1))))), zM 5 52] [0, 2, 3, 4, 5])))))) (.reg [ zM 58 4, zA 59 (.build [.c (.lit (.int .i64 0)), .c (.lit (.int .i64 0)), .c (.str []), .nsl 1, .nsl 5] [(0, 1, .k (.c (.lit (.int .i64 3)))), (4, 1, .t 58)]), zS (.store true 5 (.t 3) (.t 59))] [2, 3]))) .skip)))))))))))))) (.seq (.reg [ zA 60 (.load true 5 (.t 3)), zS (.store true 5 (.t 2) (.t 60))] [2]) .ret))))
theorem K.spec_anyNode : chkF Go.Proofs.Tryz.prog 33 1 1 C.spec_anyNode [.cell 2 true 5] = true := by kernel_rfl
def C.spec_badName : ACode := (.seq (.reg [ zA 2 (.mv (.k (.c (.str []))))] [0]) (.seq (.reg [ zM 3 0, zA 4 (.bslice 10 1 5 [.str []] [(0, .k (.c (.str []))), (1, .k (.c (.str [65]))), (2, .k (.c (.str [97, 98, 99, 100, 101, 102, 103, 104, 105]))), (3, .k (.c (.str [97, 32, 98]))), (4, .k (.c (.str [97])))]), ⟨none, some 5, .call 63 [.t 3, .t 4]⟩, zM 2 5] [2]) .ret))
theorem K.spec_badName : chkF Go.Proofs.Tryz.prog 32 1 1 C.spec_badName [.tmp 2] = true := by kernel_rfl
def C.spec_copyStore : ACode := (.seq (.reg [ zA 1 (.box 10 (.t 0)), zA 2 (.alloc 11 [.nsl 7, .c (.lit (.int .i64 0))])] [1, 2]) (.seq (.reg [ zA 5 (.bslice 12 7 0 [.str [], .lit (.int .i64 0), .lit (.int .i64 0), .lit (.int .i64 0), .str [], .sl 1 [], .sl 5 []] []), zM 3 5] [1, 2, 3]) (.seq (.seq (.reg [ zA 4 (.mv (.k (.c (.lit (.int .i64 0)))))] [1, 2, 3, 4]) (.block 0 (.loop (.seq (.seq (.reg [ zM 6 4, zA 7 (.faddr 0 (.t 1)), zA 8 (.load false 1 (.t 7)), zA 9 (.len (.t 8)), zA 10 (.bin .lss (.t 6) (.t 9))] [1, 2, 3, 4, 10]) (.cond (.t 10) .skip (.exit 0))) (.seq (.block 1 (.regD [ (zM 13 3, []), (zA 14 (.faddr 0 (.t 1)), []), (zA 15 (.load false 1 (.t 14)), [1]), (zM 16 4, []), (zA 17 (.iaddr 7 (.t 15) (.t 16)), [1, 2, 3]), (zA 18 (.faddr 0 (.t 17)), [1, 2, 3, 4]), (zA 19 (.load false 1 (.t 18)), [1, 2, 3, 4, 5]), (zA 20 (.faddr 0 (.t 1)), []), (zA 21 (.load false 1 (.t 20)), [7]), (zM 22 4, []), (zA 23 (.iaddr 7 (.t 21) (.t 22)), [7, 8, 9]), (zA 24 (.faddr 1 (.t 23)), [7, 8, 9, 10]), (zA 25 (.load false 1 (.t 24)), [7, 8, 9, 10, 11]), (zA 26 (.faddr 0 (.t 1)), []), (zA 27 (.load false 1 (.t 26)), [13]), (zM 28 4, []), (zA 29 (.iaddr 7 (.t 27) (.t 28)), [13, 14, 15]), (zA 30 (.faddr 2 (.t 29)), [13, 14, 15, 16]), (zA 31 (.load true 5 (.t 30)), [13, 14, 15, 16, 17]), (⟨none, some 32, .call 64 [.t 31]⟩, [13, 14, 15, 16, 17, 18]), (zA 33 (.build [.c (.str []), .c (.lit (.int .i64 0)), .c (.lit (.int .i64 0)), .c (.lit (.int .i64 0)), .c (.str []), .nsl 1, .nsl 5] [(0, 1, .t 19), (1, 1, .t 25), (2, 5, .t 32)]), [1, 2, 3, 4, 5, 6, 7, 8, 9, 10, 11, 12, 13, 14, 15, 16, 17, 18, 19]), (zA 34 (.bslice 13 7 1 [.str [], .lit (.int .i64 0), .lit (.int .i64 0), .lit (.int .i64 0), .str [], .sl 1 [], .sl 5 []] [(0, .t 33)]), [1, 2, 3, 4, 5, 6, 7, 8, 9, 10, 11, 12, 13, 14, 15, 16, 17, 18, 19, 20]), (zA 35 (.append 14 7 104 (.t 13) (.t 34)), [0, 1, 2, 3, 4, 5, 6, 7, 8, 9, 10, 11, 12, 13, 14, 15, 16, 17, 18, 19, 20, 21]), (zM 3 35, [0, 1, 2, 3, 4, 5, 6, 7, 8, 9, 10, 11, 12, 13, 14, 15, 16, 17, 18, 19, 20, 21, 22])] [1, 2, 3, 4])) (.reg [ zM 11 4, zA 12 (.bin .add (.t 11) (.k (.c (.lit (.int .i64 1))))), zM 4 12] [1, 2, 3, 4])))))) (.seq (.reg [ zM 36 3, zA 37 (.faddr 1 (.t 1)), zA 38 (.load false 1 (.t 37)), zA 39 (.build [.nsl 7, .c (.lit (.int .i64 0))] [(0, 1, .t 36), (1, 1, .t 38)]), zS (.store true 2 (.t 2) (.t 39))] [2]) .ret))))
theorem K.spec_copyStore : chkF Go.Proofs.Tryz.prog 67 1 0 C.spec_copyStore [.cell 2 true 2] = true := by kernel_rfl
theorem K.spec_copyStore_r : chkF Go.Proofs.Tryz.prog 67 1 1 C.spec_copyStore [.cell 2 true 2] = true := by kernel_rfl
def C.spec_find : ACode := (.seq (.reg [ zA 2 (.box 10 (.t 0)), zA 4 (.mv (.k (.c (.lit (.int .i64 0)))))] [1, 2]) (.seq (.seq (.reg [ zA 5 (.mv (.k (.c (.lit (.int .i64 0)))))] [1, 2, 5]) (.block 0 (.loop (.seq (.seq (.reg [ zM 6 5, zA 7 (.faddr 0 (.t 2)), zA 8 (.load false 1 (.t 7)), zA 9 (.len (.t 8)), zA 10 (.bin .lss (.t 6) (.t 9))] [1, 2, 5, 10]) (.cond (.t 10) .skip (.exit 0))) (.seq (.block 1 (.seq (.reg [ zA 13 (.faddr 0 (.t 2)), zA 14 (.load false 1 (.t 13)), zM 15 5, zA 16 (.iaddr 7 (.t 14) (.t 15)), zA 17 (.faddr 0 (.t 16)), zA 18 (.load false 1 (.t 17)), zM 19 1, zA 20 (.bin .eql (.t 18) (.t 19))] [1, 2, 5, 20]) (.cond (.t 20) (.seq (.reg [ zM 21 5, zM 4 21] [4]) .ret) .skip))) (.reg [ zM 11 5, zA 12 (.bin .add (.t 11) (.k (.c (.lit (.int .i64 1))))), zM 5 12] [1, 2, 5])))))) (.seq (.reg [ zA 4 (.mv (.k (.c (.lit (.int .i64 (-1))))))] [4]) .ret)))
theorem K.spec_find : chkF Go.Proofs.Tryz.prog 66 2 0 C.spec_find [.tmp 4] = true := by kernel_rfl
def C.spec_validName : ACode := (.seq (.reg [ zA 2 (.mv (.k (.c (.lit (.bool false)))))] [0]) (.seq (.seq (.reg [ zA 3 (.mv (.k (.c (.lit (.int .i64 0)))))] [0, 3]) (.block 0 (.loop (.seq (.seq (.reg [ zM 4 3, zM 5 0, zA 6 (.lens (.t 5)), zA 7 (.bin .lss (.t 4) (.t 6))] [0, 3, 7]) (.cond (.t 7) .skip (.exit 0))) (.seq (.block 1 (.seq (.reg [ zM 10 0, zM 11 3, zA 12 (.idxs (.t 10) (.t 11)), zA 13 (.cint .i64 (.t 12)), ⟨none, some 14, .call 52 [.t 13, .k (.c (.lit (.int .i64 97))), .k (.c (.lit (.int .i64 122)))]⟩, zA 15 (.not (.t 14)), zM 16 15, zG 16 true 17 (.mv (.t 0)), zG 16 true 18 (.mv (.t 3)), zG 16 true 19 (.idxs (.t 17) (.t 18)), zG 16 true 20 (.cint .i64 (.t 19)), ⟨(some (16, true)), some 21, .call 52 [.t 20, .k (.c (.lit (.int .i64 48))), .k (.c (.lit (.int .i64 57)))]⟩, zG 16 true 22 (.not (.t 21)), zA 23 (.pick (.t 16) (.t 22) (.k (.c (.lit (.bool false)))))] [0, 3, 23]) (.cond (.t 23) (.seq (.reg [ zA 2 (.mv (.k (.c (.lit (.bool false)))))] [2]) .ret) .skip))) (.reg [ zM 8 3, zA 9 (.bin .add (.t 8) (.k (.c (.lit (.int .i64 1))))), zM 3 9] [0, 3])))))) (.seq (.reg [ zM 24 0, zA 25 (.lens (.t 24)), ⟨none, some 26, .call 52 [.t 25, .k (.c (.lit (.int .i64 1))), .k (.c (.lit (.int .i64 8)))]⟩, zM 2 26] [2]) .ret)))
theorem K.spec_validName : chkF Go.Proofs.Tryz.prog 53 1 0 C.spec_validName [.tmp 2] = true := by kernel_rfl
def C.spec_validStore : ACode := (.seq (.reg [ zA 1 (.box 10 (.t 0)), zA 2 (.mv (.k (.c (.lit (.bool false)))))] [1]) (.seq (.seq (.reg [ zA 3 (.mv (.k (.c (.lit (.int .i64 0)))))] [1, 3]) (.block 0 (.loop (.seq (.seq (.reg [ zM 5 3, zA 6 (.faddr 0 (.t 1)), zA 7 (.load false 1 (.t 6)), zA 8 (.len (.t 7)), zA 9 (.bin .lss (.t 5) (.t 8))] [1, 3, 9]) (.cond (.t 9) .skip (.exit 0))) (.seq (.block 1 (.seq (.reg [ zA 12 (.faddr 0 (.t 1)), zA 13 (.load false 1 (.t 12)), zM 14 3, zA 15 (.iaddr 7 (.t 13) (.t 14)), zA 16 (.load true 7 (.t 15)), zA 4 (.alloc 11 [.c (.str []), .c (.lit (.int .i64 0)), .c (.lit (.int .i64 0)), .c (.lit (.int .i64 0)), .c (.str []), .nsl 1, .nsl 5]), zS (.store true 7 (.t 4) (.t 16))] [1, 3, 4]) (.seq (.regD [ (zA 17 (.faddr 0 (.t 4)), []), (zA 18 (.load false 1 (.t 17)), [0]), (⟨none, some 19, .call 53 [.t 18]⟩, [0, 1]), (zA 20 (.not (.t 19)), [0, 1, 2]), (zM 21 20, [0, 1, 2, 3]), (zG 21 false 22 (.faddr 2 (.t 4)), [0, 1, 2, 3, 4]), (zG 21 false 23 (.load true 5 (.t 22)), [0, 1, 2, 3, 4, 5]), (⟨(some (21, false)), some 24, .call 55 [.t 23]⟩, [0, 1, 2, 3, 4, 5, 6]), (zG 21 false 25 (.not (.t 24)), [0, 1, 2, 3, 4, 5, 6, 7]), (zA 26 (.pick (.t 21) (.k (.c (.lit (.bool true)))) (.t 25)), [0, 1, 2, 3, 4, 5, 6, 7, 8]), (zM 27 26, [0, 1, 2, 3, 4, 5, 6, 7, 8, 9]), (zG 27 false 28 (.faddr 1 (.t 4)), [0, 1, 2, 3, 4, 5, 6, 7, 8, 9, 10]), (zG 27 false 29 (.load false 1 (.t 28)), [0, 1, 2, 3, 4, 5, 6, 7, 8, 9, 10, 11]), (zG 27 false 30 (.faddr 1 (.t 1)), [0, 1, 2, 3, 4, 5, 6, 7, 8, 9, 10]), (zG 27 false 31 (.load false 1 (.t 30)), [0, 1, 2, 3, 4, 5, 6, 7, 8, 9, 10, 13]), (⟨(some (27, false)), some 32, .call 52 [.t 29, .k (.c (.lit (.int .i64 1))), .t 31]⟩, [0, 1, 2, 3, 4, 5, 6, 7, 8, 9, 10, 11, 12, 13, 14]), (zG 27 false 33 (.not (.t 32)), [0, 1, 2, 3, 4, 5, 6, 7, 8, 9, 10, 11, 12, 13, 14, 15]), (zA 34 (.pick (.t 27) (.k (.c (.lit (.bool true)))) (.t 33)), [0, 1, 2, 3, 4, 5, 6, 7, 8, 9, 10, 11, 12, 13, 14, 15, 16]), (zM 35 34, [0, 1, 2, 3, 4, 5, 6, 7, 8, 9, 10, 11, 12, 13, 14, 15, 16, 17]), (zG 35 false 36 (.mv (.t 3)), [0, 1, 2, 3, 4, 5, 6, 7, 8, 9, 10, 11, 12, 13, 14, 15, 16, 17, 18]), (zG 35 false 37 (.bin .gtr (.t 36) (.k (.c (.lit (.int .i64 0))))), [0, 1, 2, 3, 4, 5, 6, 7, 8, 9, 10, 11, 12, 13, 14, 15, 16, 17, 18, 19]), (zG 35 false 38 (.mv (.t 37)), [0, 1, 2, 3, 4, 5, 6, 7, 8, 9, 10, 11, 12, 13, 14, 15, 16, 17, 18, 19, 20]), (zG 38 true 39 (.faddr 0 (.t 4)), [0, 1, 2, 3, 4, 5, 6, 7, 8, 9, 10, 11, 12, 13, 14, 15, 16, 17, 18, 19, 20, 21]), (zG 38 true 40 (.load false 1 (.t 39)), [0, 1, 2, 3, 4, 5, 6, 7, 8, 9, 10, 11, 12, 13, 14, 15, 16, 17, 18, 19, 20, 21, 22]), (zG 38 true 41 (.faddr 0 (.t 1)), [0, 1, 2, 3, 4, 5, 6, 7, 8, 9, 10, 11, 12, 13, 14, 15, 16, 17, 18, 19, 20, 21]), (zG 38 true 42 (.load false 1 (.t 41)), [0, 1, 2, 3, 4, 5, 6, 7, 8, 9, 10, 11, 12, 13, 14, 15, 16, 17, 18, 19, 20, 21, 24]), (zG 38 true 43 (.mv (.t 3)), [0, 1, 2, 3, 4, 5, 6, 7, 8, 9, 10, 11, 12, 13, 14, 15, 16, 17, 18, 19, 20, 21]), (zG 38 true 44 (.bin .sub (.t 43) (.k (.c (.lit (.int .i64 1))))), [0, 1, 2, 3, 4, 5, 6, 7, 8, 9, 10, 11, 12, 13, 14, 15, 16, 17, 18, 19, 20, 21, 26]), (zG 38 true 45 (.iaddr 7 (.t 42) (.t 44)), [0, 1, 2, 3, 4, 5, 6, 7, 8, 9, 10, 11, 12, 13, 14, 15, 16, 17, 18, 19, 20, 21, 24, 25, 26, 27]), (zG 38 true 46 (.faddr 0 (.t 45)), [0, 1, 2, 3, 4, 5, 6, 7, 8, 9, 10, 11, 12, 13, 14, 15, 16, 17, 18, 19, 20, 21, 24, 25, 26, 27, 28]), (zG 38 true 47 (.load false 1 (.t 46)), [0, 1, 2, 3, 4, 5, 6, 7, 8, 9, 10, 11, 12, 13, 14, 15, 16, 17, 18, 19, 20, 21, 24, 25, 26, 27, 28, 29]), (zG 38 true 48 (.bin .leq (.t 40) (.t 47)), [0, 1, 2, 3, 4, 5, 6, 7, 8, 9, 10, 11, 12, 13, 14, 15, 16, 17, 18, 19, 20, 21, 22, 23, 24, 25, 26, 27, 28, 29, 30]), (zG 35 false 49 (.pick (.t 38) (.t 48) (.k (.c (.lit (.bool false))))), [0, 1, 2, 3, 4, 5, 6, 7, 8, 9, 10, 11, 12, 13, 14, 15, 16, 17, 18, 19, 20, 21, 22, 23, 24, 25, 26, 27, 28, 29, 30, 31]), (zA 50 (.pick (.t 35) (.k (.c (.lit (.bool true)))) (.t 49)), [0, 1, 2, 3, 4, 5, 6, 7, 8, 9, 10, 11, 12, 13, 14, 15, 16, 17, 18, 19, 20, 21, 22, 23, 24, 25, 26, 27, 28, 29, 30, 31, 32])] [1, 3, 50]) (.cond (.t 50) (.seq (.reg [ zA 2 (.mv (.k (.c (.lit (.bool false)))))] [2]) .ret) .skip)))) (.reg [ zM 10 3, zA 11 (.bin .add (.t 10) (.k (.c (.lit (.int .i64 1))))), zM 3 11] [1, 3])))))) (.seq (.reg [ zA 51 (.faddr 0 (.t 1)), zA 52 (.load false 1 (.t 51)), zA 53 (.len (.t 52)), zA 54 (.bin .leq (.t 53) (.k (.c (.lit (.int .i64 10))))), zM 55 54, zG 55 true 56 (.faddr 1 (.t 1)), zG 55 true 57 (.load false 1 (.t 56)), ⟨(some (55, true)), some 58, .call 52 [.t 57, .k (.c (.lit (.int .i64 0))), .k (.c (.lit (.int .i64 999)))]⟩, zA 59 (.pick (.t 55) (.t 58) (.k (.c (.lit (.bool false))))), zM 2 59] [2]) .ret)))
theorem K.spec_validStore : chkF Go.Proofs.Tryz.prog 65 1 0 C.spec_validStore [.tmp 2] = true := by kernel_rfl
def C.spec_GetItem : ACode := (.seq (.reg [ zA 2 (.box 10 (.t 0)), zA 4 (.alloc 11 [.c (.str []), .c (.lit (.int .i64 0)), .c (.lit (.int .i64 0)), .c (.lit (.int .i64 0)), .c (.str []), .nsl 1, .nsl 5]), zA 5 (.mv (.k (.c (.lit (.bool false)))))] [1, 2, 4]) (.seq (.seq (.reg [ zA 6 (.load true 2 (.t 2)), ⟨none, some 7, .call 65 [.t 6]⟩, zA 8 (.not (.t 7)), zM 9 8, zG 9 false 10 (.load true 2 (.t 2)), zG 9 false 11 (.mv (.t 1)), ⟨(some (9, false)), some 12, .call 66 [.t 10, .t 11]⟩, zG 9 false 13 (.bin .lss (.t 12) (.k (.c (.lit (.int .i64 0))))), zA 14 (.pick (.t 9) (.k (.c (.lit (.bool true)))) (.t 13))] [1, 2, 4, 14]) (.cond (.t 14) (.seq (.reg [ zA 15 (.build [.c (.str []), .c (.lit (.int .i64 0)), .c (.lit (.int .i64 0)), .c (.lit (.int .i64 0)), .c (.str []), .nsl 1, .nsl 5] []), zS (.store true 7 (.t 4) (.t 15)), zA 5 (.mv (.k (.c (.lit (.bool false)))))] [4, 5]) .ret) .skip)) (.seq (.regD [ (zA 16 (.load true 2 (.t 2)), []), (⟨none, some 17, .call 67 [.t 16]⟩, [0]), (zA 18 (.field false 0 1 (.t 17)), [0, 1]), (zA 19 (.load true 2 (.t 2)), []), (zM 20 1, []), (⟨none, some 21, .call 66 [.t 19, .t 20]⟩, [0, 1, 3, 4]), (zA 22 (.iaddr 7 (.t 18) (.t 21)), [0, 1, 2, 3, 4, 5]), (zA 23 (.load true 7 (.t 22)), [0, 1, 2, 3, 4, 5, 6]), (zS (.store true 7 (.t 4) (.t 23)), [0, 1, 2, 3, 4, 5, 6, 7]), (zA 5 (.mv (.k (.c (.lit (.bool true))))), [0, 1, 2, 3, 4, 5, 6, 7, 8])] [4, 5]) .ret)))
theorem K.spec_GetItem : chkF Go.Proofs.Tryz.prog 35 2 0 C.spec_GetItem [.cell 4 true 7, .tmp 5] = true := by kernel_rfl
def C.spec_quote : ACode := (.seq (.reg [ zA 2 (.mv (.k (.c (.str []))))] [0]) (.seq (.reg [ zA 3 (.mv (.k (.c (.str [34]))))] [0, 3]) (.seq (.seq (.reg [ zA 4 (.mv (.k (.c (.lit (.int .i64 0)))))] [0, 3, 4]) (.block 0 (.loop (.seq (.seq (.reg [ zM 5 4, zM 6 0, zA 7 (.lens (.t 6)), zA 8 (.bin .lss (.t 5) (.t 7))] [0, 3, 4, 8]) (.cond (.t 8) .skip (.exit 0))) (.seq (.block 1 (.seq (.seq (.reg [ zM 11 0, zM 12 4, zA 13 (.idxs (.t 11) (.t 12)), zA 14 (.bin .eql (.t 13) (.k (.c (.lit (.int .u8 34))))), zM 15 14, zG 15 false 16 (.mv (.t 0)), zG 15 false 17 (.mv (.t 4)), zG 15 false 18 (.idxs (.t 16) (.t 17)), zG 15 false 19 (.bin .eql (.t 18) (.k (.c (.lit (.int .u8 92))))), zA 20 (.pick (.t 15) (.k (.c (.lit (.bool true)))) (.t 19))] [0, 3, 4, 20]) (.cond (.t 20) (.reg [ zM 21 3, zA 22 (.bin .add (.t 21) (.k (.c (.str [92])))), zM 3 22] [0, 3, 4]) .skip)) (.reg [ zM 23 3, zM 24 0, zM 25 4, zM 26 4, zA 27 (.bin .add (.t 26) (.k (.c (.lit (.int .i64 1))))), zA 28 (.slstr (.t 24) (some (.t 25)) (some (.t 27))), zA 29 (.bin .add (.t 23) (.t 28)), zM 3 29] [0, 3, 4]))) (.reg [ zM 9 4, zA 10 (.bin .add (.t 9) (.k (.c (.lit (.int .i64 1))))), zM 4 10] [0, 3, 4])))))) (.seq (.reg [ zM 30 3, zA 31 (.bin .add (.t 30) (.k (.c (.str [34])))), zM 2 31] [2]) .ret))))
theorem K.spec_quote : chkF Go.Proofs.Tryz.prog 95 1 0 C.spec_quote [.tmp 2] = true := by kernel_rfl
def C.spec_format : ACode := (.seq (.reg [ zA 1 (.box 10 (.t 0)), zA 2 (.mv (.k (.c (.str []))))] [1]) (.seq (.reg [ zA 3 (.mv (.k (.c (.str []))))] [1, 3]) (.seq (.seq (.reg [ zA 5 (.faddr 0 (.t 1)), zA 6 (.load false 1 (.t 5))] [1, 3, 6]) (.block 0 (.seq (.reg [ zA 8 (.bin .eql (.t 6) (.k (.c (.lit (.int .i64 1))))), zM 7 8] [1, 3, 6, 7]) (.cond (.t 7) (.seq (.reg [ zA 9 (.faddr 1 (.t 1)), zA 10 (.load false 1 (.t 9)), ⟨none, some 11, .call 94 [.t 10]⟩, zM 2 11] [2]) .ret) (.seq (.reg [ zA 13 (.bin .eql (.t 6) (.k (.c (.lit (.int .i64 2))))), zM 12 13] [1, 3, 6, 12]) (.cond (.t 12) (.seq (.reg [ zA 14 (.faddr 2 (.t 1)), zA 15 (.load false 1 (.t 14)), ⟨none, some 16, .call 95 [.t 15]⟩, zM 2 16] [2]) .ret) (.seq (.reg [ zA 18 (.bin .eql (.t 6) (.k (.c (.lit (.int .i64 0))))), zM 17 18] [1, 3, 17]) (.cond (.t 17) (.seq (.reg [ zA 2 (.mv (.k (.c (.str [110, 117, 108, 108]))))] [2]) .ret) .skip)))))))) (.seq (.seq (.reg [ zA 4 (.mv (.k (.c (.lit (.int .i64 0)))))] [1, 3, 4]) (.block 1 (.loop (.seq (.seq (.reg [ zM 19 4, zA 20 (.faddr 4 (.t 1)), zA 21 (.load false 1 (.t 20)), zA 22 (.len (.t 21)), zA 23 (.bin .lss (.t 19) (.t 22))] [1, 3, 4, 23]) (.cond (.t 23) .skip (.exit 1))) (.seq (.block 2 (.cut (.seq (.reg [ zM 26 4, zA 27 (.bin .gtr (.t 26) (.k (.c (.lit (.int .i64 0)))))] [1, 3, 4, 27]) (.cond (.t 27) (.reg [ zM 28 3, zA 29 (.bin .add (.t 28) (.k (.c (.str [44])))), zM 3 29] [1, 3, 4]) .skip)) (.cut (.seq (.reg [ zA 30 (.faddr 0 (.t 1)), zA 31 (.load false 1 (.t 30)), zA 32 (.bin .eql (.t 31) (.k (.c (.lit (.int .i64 4)))))] [1, 3, 4, 32]) (.cond (.t 32) (.reg [ zM 33 3, zA 34 (.faddr 3 (.t 1)), zA 35 (.load false 1 (.t 34)), zM 36 4, zA 37 (.iaddr 1 (.t 35) (.t 36)), zA 38 (.load false 1 (.t 37)), ⟨none, some 39, .call 95 [.t 38]⟩, zA 40 (.bin .add (.t 33) (.t 39)), zA 41 (.bin .add (.t 40) (.k (.c (.str [58])))), zM 3 41] [1, 3, 4]) .skip)) (.reg [ zM 42 3, zA 43 (.faddr 4 (.t 1)), zA 44 (.load false 1 (.t 43)), zM 45 4, zA 46 (.iaddr 5 (.t 44) (.t 45)), zA 47 (.load true 5 (.t 46)), ⟨none, some 48, .call 70 [.t 47]⟩, zA 49 (.bin .add (.t 42) (.t 48)), zM 3 49] [1, 3, 4])))) (.reg [ zM 24 4, zA 25 (.bin .add (.t 24) (.k (.c (.lit (.int .i64 1))))), zM 4 25] [1, 3, 4])))))) (.seq (.seq (.reg [ zA 50 (.faddr 0 (.t 1)), zA 51 (.load false 1 (.t 50)), zA 52 (.bin .eql (.t 51) (.k (.c (.lit (.int .i64 4)))))] [3, 52]) (.cond (.t 52) (.seq (.reg [ zM 53 3, zA 54 (.bin .add (.k (.c (.str [123]))) (.t 53)), zA 55 (.bin .add (.t 54) (.k (.c (.str [125])))), zM 2 55] [2]) .ret) .skip)) (.seq (.reg [ zM 56 3, zA 57 (.bin .add (.k (.c (.str [91]))) (.t 56)), zA 58 (.bin .add (.t 57) (.k (.c (.str [93])))), zM 2 58] [2]) .ret))))))
theorem K.spec_format : chkF Go.Proofs.Tryz.prog 70 1 0 C.spec_format [.tmp 2] = true := by kernel_rfl
def C.spec_hex : ACode := (.seq (.reg [ zA 2 (.mv (.k (.c (.str []))))] [0]) (.seq (.reg [ zA 3 (.mv (.k (.c (.str [48, 49, 50, 51, 52, 53, 54, 55, 56, 57, 97, 98, 99, 100, 101, 102]))))] [0, 3]) (.seq (.regD [ (zM 4 3, []), (zM 5 0, []), (zA 6 (.bin .quo (.t 5) (.k (.c (.lit (.int .i64 4096))))), [1]), (zA 7 (.idxs (.t 4) (.t 6)), [0, 1, 2]), (zM 8 3, []), (zM 9 0, []), (zA 10 (.bin .quo (.t 9) (.k (.c (.lit (.int .i64 256))))), [5]), (zA 11 (.bin .rem (.t 10) (.k (.c (.lit (.int .i64 16))))), [5, 6]), (zA 12 (.idxs (.t 8) (.t 11)), [4, 5, 6, 7]), (zM 13 3, []), (zM 14 0, []), (zA 15 (.bin .quo (.t 14) (.k (.c (.lit (.int .i64 16))))), [10]), (zA 16 (.bin .rem (.t 15) (.k (.c (.lit (.int .i64 16))))), [10, 11]), (zA 17 (.idxs (.t 13) (.t 16)), [9, 10, 11, 12]), (zM 18 3, []), (zM 19 0, []), (zA 20 (.bin .rem (.t 19) (.k (.c (.lit (.int .i64 16))))), [15]), (zA 21 (.idxs (.t 18) (.t 20)), [14, 15, 16]), (zA 22 (.bslice 10 1 4 [.lit (.int .u8 0)] [(0, .t 7), (1, .t 12), (2, .t 17), (3, .t 21)]), [0, 1, 2, 3, 4, 5, 6, 7, 8, 9, 10, 11, 12, 13, 14, 15, 16, 17]), (zA 23 (.cstr (.t 22)), [0, 1, 2, 3, 4, 5, 6, 7, 8, 9, 10, 11, 12, 13, 14, 15, 16, 17, 18]), (zM 2 23, [0, 1, 2, 3, 4, 5, 6, 7, 8, 9, 10, 11, 12, 13, 14, 15, 16, 17, 18, 19])] [2]) .ret)))
theorem K.spec_hex : chkF Go.Proofs.Tryz.prog 68 1 0 C.spec_hex [.tmp 2] = true := by kernel_rfl
def C.spec_sumOf : ACode := (.seq (.reg [ zA 2 (.mv (.k (.c (.lit (.int .i64 0)))))] [0]) (.seq (.reg [ zA 3 (.mv (.k (.c (.lit (.int .i64 17)))))] [0, 3]) (.seq (.seq (.reg [ zA 4 (.mv (.k (.c (.lit (.int .i64 0)))))] [0, 3, 4]) (.block 0 (.loop (.seq (.seq (.reg [ zM 5 4, zM 6 0, zA 7 (.lens (.t 6)), zA 8 (.bin .lss (.t 5) (.t 7))] [0, 3, 4, 8]) (.cond (.t 8) .skip (.exit 0))) (.seq (.block 1 (.reg [ zM 11 3, zA 12 (.bin .mul (.k (.c (.lit (.int .i64 131)))) (.t 11)), zM 13 0, zM 14 4, zA 15 (.idxs (.t 13) (.t 14)), zA 16 (.cint .i64 (.t 15)), zA 17 (.bin .add (.t 12) (.t 16)), zA 18 (.bin .rem (.t 17) (.k (.c (.lit (.int .i64 65521))))), zM 3 18] [0, 3, 4])) (.reg [ zM 9 4, zA 10 (.bin .add (.t 9) (.k (.c (.lit (.int .i64 1))))), zM 4 10] [0, 3, 4])))))) (.seq (.reg [ zM 19 3, zM 2 19] [2]) .ret))))
theorem K.spec_sumOf : chkF Go.Proofs.Tryz.prog 69 1 0 C.spec_sumOf [.tmp 2] = true := by kernel_rfl
def C.spec_TagOf : ACode := (.seq (.reg [ zA 1 (.box 10 (.t 0)), zA 2 (.mv (.k (.c (.str []))))] [1]) (.seq (.seq (.reg [ zA 3 (.load true 5 (.t 1)), ⟨none, some 4, .call 55 [.t 3]⟩, zA 5 (.not (.t 4))] [1, 5]) (.cond (.t 5) (.seq (.reg [ zA 2 (.mv (.k (.c (.str []))))] [2]) .ret) .skip)) (.seq (.reg [ zA 6 (.load true 5 (.t 1)), ⟨none, some 7, .call 70 [.t 6]⟩, ⟨none, some 8, .call 69 [.t 7]⟩, ⟨none, some 9, .call 68 [.t 8]⟩, zM 2 9] [2]) .ret)))
theorem K.spec_TagOf : chkF Go.Proofs.Tryz.prog 37 1 0 C.spec_TagOf [.tmp 2] = true := by kernel_rfl
def C.spec_anyTags : ACode := (.seq (.reg [ zA 4 (.mv (.k (.nsl 1)))] [0, 1]) (.seq (.reg [ zA 7 (.bslice 10 1 0 [.str []] []), zM 5 7] [0, 1, 5]) (.seq (.seq (.reg [ zM 8 0, zA 9 (.bslice 11 1 7 [.lit (.int .i64 0)] [(0, .k (.c (.lit (.int .i64 0)))), (1, .k (.c (.lit (.int .i64 1)))), (2, .k (.c (.lit (.int .i64 0)))), (3, .k (.c (.lit (.int .i64 2)))), (4, .k (.c (.lit (.int .i64 0)))), (5, .k (.c (.lit (.int .i64 4)))), (6, .k (.c (.lit (.int .i64 5))))]), ⟨none, some 10, .call 20 [.t 8, .t 9]⟩, zM 6 10] [0, 1, 5, 6]) (.block 0 (.loop (.seq (.seq (.reg [ zM 11 6, zA 12 (.bin .gtr (.t 11) (.k (.c (.lit (.int .i64 0)))))] [0, 1, 5, 6, 12]) (.cond (.t 12) .skip (.exit 0))) (.seq (.block 1 (.reg [ zM 15 5, zM 16 0, zM 17 1, zM 18 1, zA 19 (.bslice 12 1 6 [.str []] [(0, .k (.c (.str [42]))), (1, .k (.c (.str [48, 48, 48, 48]))), (2, .k (.c (.str [49, 50, 97, 98]))), (3, .k (.c (.str [102, 102, 102, 102]))), (4, .t 17), (5, .t 18)]), ⟨none, some 20, .call 63 [.t 16, .t 19]⟩, zA 21 (.bslice 13 1 1 [.str []] [(0, .t 20)]), zA 22 (.append 14 1 16 (.t 15) (.t 21)), zM 5 22] [0, 1, 5, 6])) (.reg [ zM 13 6, zA 14 (.bin .sub (.t 13) (.k (.c (.lit (.int .i64 1))))), zM 6 14] [0, 1, 5, 6])))))) (.seq (.seq (.reg [ zM 23 5, zA 24 (.len (.t 23)), zA 25 (.bin .gtr (.t 24) (.k (.c (.lit (.int .i64 0))))), zM 26 25, zG 26 true 27 (.mv (.t 0)), ⟨(some (26, true)), some 28, .call 22 [.t 27, .k (.c (.lit (.int .i64 20)))]⟩, zG 26 true 29 (.bin .eql (.t 28) (.k (.c (.lit (.int .i64 0))))), zA 30 (.pick (.t 26) (.t 29) (.k (.c (.lit (.bool false)))))] [0, 5, 30]) (.cond (.t 30) (.reg [ zM 31 5, zM 32 0, zA 33 (.bslice 15 1 4 [.str []] [(0, .k (.c (.str []))), (1, .k (.c (.str [49, 50, 97, 66]))), (2, .k (.c (.str [49, 50, 51]))), (3, .k (.c (.str [49, 50, 51, 52, 53])))]), ⟨none, some 34, .call 63 [.t 32, .t 33]⟩, zA 35 (.iaddr 1 (.t 31) (.k (.c (.lit (.int .i64 0))))), zS (.store false 1 (.t 35) (.t 34))] [5]) .skip)) (.seq (.reg [ zM 36 5, zM 4 36] [4]) .ret)))))
theorem K.spec_anyTags : chkF Go.Proofs.Tryz.prog 36 2 1 C.spec_anyTags [.tmp 4] = true := by kernel_rfl
def C.spec_itemName : ACode := (.seq (.reg [ zA 2 (.mv (.k (.c (.str []))))] [0]) (.seq (.reg [ zM 3 0, zA 4 (.bslice 10 1 10 [.str []] [(0, .k (.c (.str [97]))), (1, .k (.c (.str [98]))), (2, .k (.c (.str [100, 111, 99]))), (3, .k (.c (.str [122, 122]))), (4, .k (.c (.str [97, 49]))), (5, .k (.c (.str [109]))), (6, .k (.c (.str [120, 57]))), (7, .k (.c (.str [98, 111, 111, 107]))), (8, .k (.c (.str [97, 98, 99, 100, 101, 102, 103, 104]))), (9, .k (.c (.str [113])))]), ⟨none, some 5, .call 63 [.t 3, .t 4]⟩, zM 2 5] [2]) .ret))
theorem K.spec_itemName : chkF Go.Proofs.Tryz.prog 61 1 1 C.spec_itemName [.tmp 2] = true := by kernel_rfl
def C.spec_nameIn : ACode := (.seq (.reg [ zA 3 (.box 10 (.t 1)), zA 4 (.mv (.k (.c (.str []))))] [0, 3]) (.seq (.seq (.reg [ zA 5 (.faddr 0 (.t 3)), zA 6 (.load false 1 (.t 5)), zA 7 (.len (.t 6)), zA 8 (.bin .gtr (.t 7) (.k (.c (.lit (.int .i64 0))))), zM 9 8, zG 9 true 10 (.mv (.t 0)), ⟨(some (9, true)), some 11, .call 22 [.t 10, .k (.c (.lit (.int .i64 4)))]⟩, zG 9 true 12 (.bin .gtr (.t 11) (.k (.c (.lit (.int .i64 0))))), zA 13 (.pick (.t 9) (.t 12) (.k (.c (.lit (.bool false)))))] [0, 3, 13]) (.cond (.t 13) (.seq (.regD [ (zA 14 (.faddr 0 (.t 3)), []), (zA 15 (.load false 1 (.t 14)), [0]), (zM 16 0, []), (zA 17 (.faddr 0 (.t 3)), []), (zA 18 (.load false 1 (.t 17)), [3]), (zA 19 (.len (.t 18)), [3, 4]), (⟨none, some 20, .call 22 [.t 16, .t 19]⟩, [2, 3, 4, 5]), (zA 21 (.iaddr 7 (.t 15) (.t 20)), [0, 1, 2, 3, 4, 5, 6]), (zA 22 (.faddr 0 (.t 21)), [0, 1, 2, 3, 4, 5, 6, 7]), (zA 23 (.load false 1 (.t 22)), [0, 1, 2, 3, 4, 5, 6, 7, 8]), (zM 4 23, [0, 1, 2, 3, 4, 5, 6, 7, 8, 9])] [4]) .ret) .skip)) (.seq (.seq (.reg [ zM 24 0, ⟨none, some 25, .call 22 [.t 24, .k (.c (.lit (.int .i64 12)))]⟩, zA 26 (.bin .eql (.t 25) (.k (.c (.lit (.int .i64 0)))))] [0, 26]) (.cond (.t 26) (.seq (.reg [ zM 27 0, ⟨none, some 28, .call 32 [.t 27]⟩, zM 4 28] [4]) .ret) .skip)) (.seq (.reg [ zM 29 0, ⟨none, some 30, .call 61 [.t 29]⟩, zM 4 30] [4]) .ret))))
theorem K.spec_nameIn : chkF Go.Proofs.Tryz.prog 34 2 1 C.spec_nameIn [.tmp 4] = true := by kernel_rfl
def C.spec_at : ACode := (.seq (.reg [ zA 2 (.box 10 (.t 0)), zA 4 (.alloc 11 [.c (.lit (.int .i64 0)), .c (.lit (.int .i64 0)), .c (.str []), .nsl 1, .nsl 5]), zA 5 (.mv (.k (.c (.lit (.bool false)))))] [1, 2, 4]) (.seq (.seq (.reg [ zA 6 (.mv (.k (.c (.lit (.int .i64 0)))))] [1, 2, 4, 6]) (.block 0 (.loop (.seq (.seq (.reg [ zM 8 6, zM 9 1, zA 10 (.len (.t 9)), zA 11 (.bin .lss (.t 8) (.t 10))] [1, 2, 4, 6, 11]) (.cond (.t 11) .skip (.exit 0))) (.seq (.block 1 (.seq (.regD [ (zA 14 (.load true 5 (.t 2)), []), (zM 15 1, []), (zM 16 6, []), (zA 17 (.iaddr 1 (.t 15) (.t 16)), [1, 2]), (zA 18 (.load false 1 (.t 17)), [1, 2, 3]), (⟨none, some 19, .call 98 [.t 14, .t 18]⟩, [0, 1, 2, 3, 4]), (zM 7 19, [0, 1, 2, 3, 4, 5])] [1, 2, 4, 6, 7]) (.seq (.seq (.reg [ zM 20 7, zA 21 (.bin .lss (.t 20) (.k (.c (.lit (.int .i64 0)))))] [1, 2, 4, 6, 7, 21]) (.cond (.t 21) (.seq (.reg [ zA 22 (.build [.c (.lit (.int .i64 0)), .c (.lit (.int .i64 0)), .c (.str []), .nsl 1, .nsl 5] []), zS (.store true 5 (.t 4) (.t 22)), zA 5 (.mv (.k (.c (.lit (.bool false)))))] [4, 5]) .ret) .skip)) (.reg [ zA 23 (.faddr 4 (.t 2)), zA 24 (.load false 1 (.t 23)), zM 25 7, zA 26 (.iaddr 5 (.t 24) (.t 25)), zA 27 (.load true 5 (.t 26)), zS (.store true 5 (.t 2) (.t 27))] [1, 2, 4, 6])))) (.reg [ zM 12 6, zA 13 (.bin .add (.t 12) (.k (.c (.lit (.int .i64 1))))), zM 6 13] [1, 2, 4, 6])))))) (.seq (.reg [ zA 28 (.load true 5 (.t 2)), ⟨none, some 29, .call 64 [.t 28]⟩, zS (.store true 5 (.t 4) (.t 29)), zA 5 (.mv (.k (.c (.lit (.bool true)))))] [4, 5]) .ret)))
theorem K.spec_at : chkF Go.Proofs.Tryz.prog 78 2 0 C.spec_at [.cell 4 true 5, .tmp 5] = true := by kernel_rfl
def C.spec_setAt : ACode := (.seq (.reg [ zA 3 (.box 10 (.t 0)), zA 5 (.box 11 (.t 2)), zA 6 (.alloc 12 [.c (.lit (.int .i64 0)), .c (.lit (.int .i64 0)), .c (.str []), .nsl 1, .nsl 5]), zA 7 (.mv (.k (.c (.lit (.bool false)))))] [1, 3, 5, 6]) (.seq (.seq (.reg [ zM 11 1, zA 12 (.len (.t 11)), zA 13 (.bin .eql (.t 12) (.k (.c (.lit (.int .i64 0)))))] [1, 3, 5, 6, 13]) (.cond (.t 13) (.seq (.reg [ zA 14 (.load true 5 (.t 5)), ⟨none, some 15, .call 64 [.t 14]⟩, zS (.store true 5 (.t 6) (.t 15)), zA 7 (.mv (.k (.c (.lit (.bool true)))))] [6, 7]) .ret) .skip)) (.seq (.regD [ (zA 16 (.load true 5 (.t 3)), []), (zM 17 1, []), (zA 18 (.iaddr 1 (.t 17) (.k (.c (.lit (.int .i64 0))))), [1]), (zA 19 (.load false 1 (.t 18)), [1, 2]), (⟨none, some 20, .call 98 [.t 16, .t 19]⟩, [0, 1, 2, 3]), (zM 8 20, [0, 1, 2, 3, 4])] [1, 3, 5, 6, 8]) (.seq (.seq (.reg [ zM 21 8, zA 22 (.bin .lss (.t 21) (.k (.c (.lit (.int .i64 0)))))] [1, 3, 5, 6, 8, 22]) (.cond (.t 22) (.seq (.reg [ zA 23 (.build [.c (.lit (.int .i64 0)), .c (.lit (.int .i64 0)), .c (.str []), .nsl 1, .nsl 5] []), zS (.store true 5 (.t 6) (.t 23)), zA 7 (.mv (.k (.c (.lit (.bool false)))))] [6, 7]) .ret) .skip)) (.seq (.regD [ (zA 25 (.faddr 4 (.t 3)), []), (zA 26 (.load false 1 (.t 25)), [0]), (zM 27 8, []), (zA 28 (.iaddr 5 (.t 26) (.t 27)), [0, 1, 2]), (zA 29 (.load true 5 (.t 28)), [0, 1, 2, 3]), (zM 30 1, []), (zA 31 (.slsl 1 (.t 30) (some (.k (.c (.lit (.int .i64 1))))) none), [5]), (zA 32 (.load true 5 (.t 5)), []), (⟨none, some 33, .call 76 [.t 29, .t 31, .t 32]⟩, [0, 1, 2, 3, 4, 5, 6, 7]), (zM 24 33, [0, 1, 2, 3, 4, 5, 6, 7, 8]), (zA 34 (.extract (.t 24) 0), [0, 1, 2, 3, 4, 5, 6, 7, 8, 9]), (zA 35 (.extract (.t 24) 1), [0, 1, 2, 3, 4, 5, 6, 7, 8, 9]), (zA 9 (.alloc 13 [.c (.lit (.int .i64 0)), .c (.lit (.int .i64 0)), .c (.str []), .nsl 1, .nsl 5]), []), (zS (.store true 5 (.t 9) (.t 34)), [0, 1, 2, 3, 4, 5, 6, 7, 8, 9, 10, 12]), (zM 10 35, [0, 1, 2, 3, 4, 5, 6, 7, 8, 9, 10, 11, 12, 13])] [3, 6, 8, 9, 10]) (.seq (.seq (.reg [ zM 36 10, zA 37 (.not (.t 36))] [3, 6, 8, 9, 37]) (.cond (.t 37) (.seq (.reg [ zA 38 (.build [.c (.lit (.int .i64 0)), .c (.lit (.int .i64 0)), .c (.str []), .nsl 1, .nsl 5] []), zS (.store true 5 (.t 6) (.t 38)), zA 7 (.mv (.k (.c (.lit (.bool false)))))] [6, 7]) .ret) .skip)) (.seq (.reg [ zA 39 (.load true 5 (.t 3)), zM 40 8, zA 41 (.load true 5 (.t 9)), ⟨none, some 42, .call 100 [.t 39, .t 40, .t 41]⟩, zS (.store true 5 (.t 6) (.t 42)), zA 7 (.mv (.k (.c (.lit (.bool true)))))] [6, 7]) .ret)))))))
theorem K.spec_setAt : chkF Go.Proofs.Tryz.prog 76 3 0 C.spec_setAt [.cell 6 true 5, .tmp 7] = true := by kernel_rfl
def C.spec_addAt : ACode := (.seq (.reg [ zA 3 (.box 10 (.t 0)), zA 5 (.box 11 (.t 2)), zA 6 (.alloc 12 [.c (.lit (.int .i64 0)), .c (.lit (.int .i64 0)), .c (.str []), .nsl 1, .nsl 5]), zA 7 (.mv (.k (.c (.lit (.bool false)))))] [1, 3, 5, 6]) (.seq (.seq (.reg [ zM 13 1, zA 14 (.len (.t 13)), zA 15 (.bin .eql (.t 14) (.k (.c (.lit (.int .i64 0)))))] [1, 3, 5, 6, 15]) (.cond (.t 15) (.seq (.reg [ zA 16 (.load true 5 (.t 5)), ⟨none, some 17, .call 64 [.t 16]⟩, zS (.store true 5 (.t 6) (.t 17)), zA 7 (.mv (.k (.c (.lit (.bool true)))))] [6, 7]) .ret) .skip)) (.seq (.reg [ zM 18 1, zA 19 (.len (.t 18)), zA 20 (.bin .sub (.t 19) (.k (.c (.lit (.int .i64 1))))), zM 8 20] [1, 3, 5, 6, 8]) (.seq (.regD [ (zA 22 (.load true 5 (.t 3)), []), (zM 23 1, []), (zM 24 8, []), (zA 25 (.slsl 1 (.t 23) none (some (.t 24))), [1, 2]), (⟨none, some 26, .call 78 [.t 22, .t 25]⟩, [0, 1, 2, 3]), (zM 21 26, [0, 1, 2, 3, 4]), (zA 27 (.extract (.t 21) 0), [0, 1, 2, 3, 4, 5]), (zA 28 (.extract (.t 21) 1), [0, 1, 2, 3, 4, 5]), (zA 9 (.alloc 13 [.c (.lit (.int .i64 0)), .c (.lit (.int .i64 0)), .c (.str []), .nsl 1, .nsl 5]), []), (zS (.store true 5 (.t 9) (.t 27)), [0, 1, 2, 3, 4, 5, 6, 8]), (zM 10 28, [0, 1, 2, 3, 4, 5, 6, 7, 8, 9])] [1, 3, 5, 6, 8, 9, 10]) (.seq (.seq (.reg [ zM 29 10, zA 30 (.not (.t 29))] [1, 3, 5, 6, 8, 9, 30]) (.cond (.t 30) (.seq (.reg [ zA 31 (.build [.c (.lit (.int .i64 0)), .c (.lit (.int .i64 0)), .c (.str []), .nsl 1, .nsl 5] []), zS (.store true 5 (.t 6) (.t 31)), zA 7 (.mv (.k (.c (.lit (.bool false)))))] [6, 7]) .ret) .skip)) (.seq (.regD [ (zA 33 (.load true 5 (.t 9)), []), (zM 34 1, []), (zM 35 8, []), (zA 36 (.iaddr 1 (.t 34) (.t 35)), [1, 2]), (zA 37 (.load false 1 (.t 36)), [1, 2, 3]), (zA 38 (.load true 5 (.t 5)), []), (⟨none, some 39, .call 99 [.t 33, .t 37, .t 38]⟩, [0, 1, 2, 3, 4, 5]), (zM 32 39, [0, 1, 2, 3, 4, 5, 6]), (zA 40 (.extract (.t 32) 0), [0, 1, 2, 3, 4, 5, 6, 7]), (zA 41 (.extract (.t 32) 1), [0, 1, 2, 3, 4, 5, 6, 7]), (zA 11 (.alloc 14 [.c (.lit (.int .i64 0)), .c (.lit (.int .i64 0)), .c (.str []), .nsl 1, .nsl 5]), []), (zS (.store true 5 (.t 11) (.t 40)), [0, 1, 2, 3, 4, 5, 6, 7, 8, 10]), (zM 12 41, [0, 1, 2, 3, 4, 5, 6, 7, 8, 9, 10, 11])] [1, 3, 6, 8, 11, 12]) (.seq (.seq (.reg [ zM 42 12, zA 43 (.not (.t 42))] [1, 3, 6, 8, 11, 43]) (.cond (.t 43) (.seq (.reg [ zA 44 (.build [.c (.lit (.int .i64 0)), .c (.lit (.int .i64 0)), .c (.str []), .nsl 1, .nsl 5] []), zS (.store true 5 (.t 6) (.t 44)), zA 7 (.mv (.k (.c (.lit (.bool false)))))] [6, 7]) .ret) .skip)) (.seq (.regD [ (zA 45 (.load true 5 (.t 3)), []), (zM 46 1, []), (zM 47 8, []), (zA 48 (.slsl 1 (.t 46) none (some (.t 47))), [1, 2]), (zA 49 (.load true 5 (.t 11)), []), (⟨none, some 50, .call 76 [.t 45, .t 48, .t 49]⟩, [0, 1, 2, 3, 4]), (zA 51 (.extract (.t 50) 0), [0, 1, 2, 3, 4, 5]), (zA 52 (.extract (.t 50) 1), [0, 1, 2, 3, 4, 5]), (zS (.store true 5 (.t 6) (.t 51)), [0, 1, 2, 3, 4, 5, 6, 7]), (zM 7 52, [0, 1, 2, 3, 4, 5, 6, 7, 8])] [6, 7]) .ret))))))))
theorem K.spec_addAt : chkF Go.Proofs.Tryz.prog 75 3 0 C.spec_addAt [.cell 6 true 5, .tmp 7] = true := by kernel_rfl
def C.spec_all : ACode := (.seq (.reg [ zA 1 (.box 10 (.t 0)), zA 2 (.mv (.k (.nsl 1)))] [1]) (.seq (.reg [ zA 8 (.bslice 11 1 0 [.str []] []), zA 9 (.bslice 12 1 1 [.sl 1 []] [(0, .t 8)]), zM 3 9] [1, 3]) (.seq (.seq (.reg [ zA 4 (.mv (.k (.c (.lit (.int .i64 0)))))] [1, 3, 4]) (.block 0 (.loop (.seq (.seq (.reg [ zM 10 4, zA 11 (.faddr 4 (.t 1)), zA 12 (.load false 1 (.t 11)), zA 13 (.len (.t 12)), zA 14 (.bin .lss (.t 10) (.t 13))] [1, 3, 4, 14]) (.cond (.t 14) .skip (.exit 0))) (.seq (.block 1 (.seq (.reg [ zM 17 4, ⟨none, some 18, .call 94 [.t 17]⟩, zM 5 18] [1, 3, 4, 5]) (.cut (.seq (.reg [ zA 19 (.faddr 0 (.t 1)), zA 20 (.load false 1 (.t 19)), zA 21 (.bin .eql (.t 20) (.k (.c (.lit (.int .i64 4)))))] [1, 3, 4, 5, 21]) (.cond (.t 21) (.reg [ zA 22 (.faddr 3 (.t 1)), zA 23 (.load false 1 (.t 22)), zM 24 4, zA 25 (.iaddr 1 (.t 23) (.t 24)), zA 26 (.load false 1 (.t 25)), zM 5 26] [1, 3, 4, 5]) .skip)) (.seq (.reg [ zA 27 (.faddr 4 (.t 1)), zA 28 (.load false 1 (.t 27)), zM 29 4, zA 30 (.iaddr 5 (.t 28) (.t 29)), zA 31 (.load true 5 (.t 30)), ⟨none, some 32, .call 73 [.t 31]⟩, zM 6 32] [1, 3, 4, 5, 6]) (.seq (.reg [ zA 7 (.mv (.k (.c (.lit (.int .i64 0)))))] [1, 3, 4, 5, 6, 7]) (.block 2 (.loop (.seq (.seq (.reg [ zM 33 7, zM 34 6, zA 35 (.len (.t 34)), zA 36 (.bin .lss (.t 33) (.t 35))] [1, 3, 4, 5, 6, 7, 36]) (.cond (.t 36) .skip (.exit 2))) (.seq (.block 3 (.reg [ zM 39 3, zM 40 5, zA 41 (.bslice 13 1 1 [.str []] [(0, .t 40)]), zM 42 6, zM 43 7, zA 44 (.iaddr 1 (.t 42) (.t 43)), zA 45 (.load false 1 (.t 44)), zA 46 (.append 14 1 16 (.t 41) (.t 45)), zA 47 (.bslice 15 1 1 [.sl 1 []] [(0, .t 46)]), zA 48 (.append 16 1 24 (.t 39) (.t 47)), zM 3 48] [1, 3, 4, 5, 6, 7])) (.reg [ zM 37 7, zA 38 (.bin .add (.t 37) (.k (.c (.lit (.int .i64 1))))), zM 7 38] [1, 3, 4, 5, 6, 7])))))))))) (.reg [ zM 15 4, zA 16 (.bin .add (.t 15) (.k (.c (.lit (.int .i64 1))))), zM 4 16] [1, 3, 4])))))) (.seq (.reg [ zM 49 3, zM 2 49] [2]) .ret))))
theorem K.spec_all : chkF Go.Proofs.Tryz.prog 73 1 0 C.spec_all [.tmp 2] = true := by kernel_rfl
def C.spec_removeAt : ACode := (.seq (.reg [ zA 2 (.box 10 (.t 0)), zA 4 (.alloc 11 [.c (.lit (.int .i64 0)), .c (.lit (.int .i64 0)), .c (.str []), .nsl 1, .nsl 5]), zA 5 (.mv (.k (.c (.lit (.bool false)))))] [1, 2, 4]) (.seq (.reg [ zM 12 1, zA 13 (.len (.t 12)), zA 14 (.bin .sub (.t 13) (.k (.c (.lit (.int .i64 1))))), zM 6 14] [1, 2, 4, 6]) (.seq (.seq (.reg [ zM 15 6, zA 16 (.bin .lss (.t 15) (.k (.c (.lit (.int .i64 0)))))] [1, 2, 4, 6, 16]) (.cond (.t 16) (.seq (.reg [ zA 17 (.build [.c (.lit (.int .i64 0)), .c (.lit (.int .i64 0)), .c (.str []), .nsl 1, .nsl 5] []), zS (.store true 5 (.t 4) (.t 17)), zA 5 (.mv (.k (.c (.lit (.bool false)))))] [4, 5]) .ret) .skip)) (.seq (.regD [ (zA 19 (.load true 5 (.t 2)), []), (zM 20 1, []), (zM 21 6, []), (zA 22 (.slsl 1 (.t 20) none (some (.t 21))), [1, 2]), (⟨none, some 23, .call 78 [.t 19, .t 22]⟩, [0, 1, 2, 3]), (zM 18 23, [0, 1, 2, 3, 4]), (zA 24 (.extract (.t 18) 0), [0, 1, 2, 3, 4, 5]), (zA 25 (.extract (.t 18) 1), [0, 1, 2, 3, 4, 5]), (zA 7 (.alloc 12 [.c (.lit (.int .i64 0)), .c (.lit (.int .i64 0)), .c (.str []), .nsl 1, .nsl 5]), []), (zS (.store true 5 (.t 7) (.t 24)), [0, 1, 2, 3, 4, 5, 6, 8]), (zM 8 25, [0, 1, 2, 3, 4, 5, 6, 7, 8, 9])] [1, 2, 4, 6, 7, 8]) (.seq (.seq (.reg [ zM 26 8, zA 27 (.not (.t 26))] [1, 2, 4, 6, 7, 27]) (.cond (.t 27) (.seq (.reg [ zA 28 (.build [.c (.lit (.int .i64 0)), .c (.lit (.int .i64 0)), .c (.str []), .nsl 1, .nsl 5] []), zS (.store true 5 (.t 4) (.t 28)), zA 5 (.mv (.k (.c (.lit (.bool false)))))] [4, 5]) .ret) .skip)) (.seq (.regD [ (zA 29 (.load true 5 (.t 7)), []), (zM 30 1, []), (zM 31 6, []), (zA 32 (.iaddr 1 (.t 30) (.t 31)), [1, 2]), (zA 33 (.load false 1 (.t 32)), [1, 2, 3]), (⟨none, some 34, .call 98 [.t 29, .t 33]⟩, [0, 1, 2, 3, 4]), (zM 9 34, [0, 1, 2, 3, 4, 5])] [1, 2, 4, 6, 7, 9]) (.seq (.seq (.reg [ zM 35 9, zA 36 (.bin .lss (.t 35) (.k (.c (.lit (.int .i64 0)))))] [1, 2, 4, 6, 7, 9, 36]) (.cond (.t 36) (.seq (.reg [ zA 37 (.build [.c (.lit (.int .i64 0)), .c (.lit (.int .i64 0)), .c (.str []), .nsl 1, .nsl 5] []), zS (.store true 5 (.t 4) (.t 37)), zA 5 (.mv (.k (.c (.lit (.bool false)))))] [4, 5]) .ret) .skip)) (.seq (.regD [ (zA 38 (.bslice 13 5 0 [.lit (.int .i64 0), .lit (.int .i64 0), .str [], .sl 1 [], .sl 5 []] []), []), (zA 39 (.faddr 4 (.t 7)), []), (zA 40 (.load false 1 (.t 39)), [1]), (zM 41 9, []), (zA 42 (.slsl 5 (.t 40) none (some (.t 41))), [1, 2, 3]), (zA 43 (.append 14 5 80 (.t 38) (.t 42)), [0, 1, 2, 3, 4]), (zA 44 (.faddr 4 (.t 7)), []), (zA 45 (.load false 1 (.t 44)), [6]), (zM 46 9, []), (zA 47 (.bin .add (.t 46) (.k (.c (.lit (.int .i64 1))))), [8]), (zA 48 (.slsl 5 (.t 45) (some (.t 47)) none), [6, 7, 8, 9]), (zA 49 (.append 15 5 80 (.t 43) (.t 48)), [0, 1, 2, 3, 4, 5, 6, 7, 8, 9, 10]), (zM 10 49, [0, 1, 2, 3, 4, 5, 6, 7, 8, 9, 10, 11])] [1, 2, 4, 6, 7, 9, 10]) (.seq (.reg [ zA 50 (.bslice 16 1 0 [.str []] []), zM 11 50] [1, 2, 4, 6, 7, 9, 10, 11]) (.cut (.seq (.reg [ zA 51 (.faddr 0 (.t 7)), zA 52 (.load false 1 (.t 51)), zA 53 (.bin .eql (.t 52) (.k (.c (.lit (.int .i64 4)))))] [1, 2, 4, 6, 7, 9, 10, 11, 53]) (.cond (.t 53) (.regD [ (zA 54 (.bslice 17 1 0 [.str []] []), []), (zA 55 (.faddr 3 (.t 7)), []), (zA 56 (.load false 1 (.t 55)), [1]), (zM 57 9, []), (zA 58 (.slsl 1 (.t 56) none (some (.t 57))), [1, 2, 3]), (zA 59 (.append 18 1 16 (.t 54) (.t 58)), [0, 1, 2, 3, 4]), (zA 60 (.faddr 3 (.t 7)), []), (zA 61 (.load false 1 (.t 60)), [6]), (zM 62 9, []), (zA 63 (.bin .add (.t 62) (.k (.c (.lit (.int .i64 1))))), [8]), (zA 64 (.slsl 1 (.t 61) (some (.t 63)) none), [6, 7, 8, 9]), (zA 65 (.append 19 1 16 (.t 59) (.t 64)), [0, 1, 2, 3, 4, 5, 6, 7, 8, 9, 10]), (zM 11 65, [0, 1, 2, 3, 4, 5, 6, 7, 8, 9, 10, 11])] [1, 2, 4, 6, 7, 10, 11]) .skip)) (.seq (.regD [ (zA 66 (.load true 5 (.t 2)), []), (zM 67 1, []), (zM 68 6, []), (zA 69 (.slsl 1 (.t 67) none (some (.t 68))), [1, 2]), (zA 70 (.faddr 0 (.t 7)), []), (zA 71 (.load false 1 (.t 70)), [4]), (zM 72 11, []), (zM 73 10, []), (zA 74 (.build [.c (.lit (.int .i64 0)), .c (.lit (.int .i64 0)), .c (.str []), .nsl 1, .nsl 5] [(0, 1, .t 71), (3, 1, .t 72), (4, 1, .t 73)]), [4, 5, 6, 7]), (⟨none, some 75, .call 76 [.t 66, .t 69, .t 74]⟩, [0, 1, 2, 3, 4, 5, 6, 7, 8]), (zA 76 (.extract (.t 75) 0), [0, 1, 2, 3, 4, 5, 6, 7, 8, 9]), (zA 77 (.extract (.t 75) 1), [0, 1, 2, 3, 4, 5, 6, 7, 8, 9]), (zS (.store true 5 (.t 4) (.t 76)), [0, 1, 2, 3, 4, 5, 6, 7, 8, 9, 10, 11]), (zM 5 77, [0, 1, 2, 3, 4, 5, 6, 7, 8, 9, 10, 11, 12])] [4, 5]) .ret)))))))))))
theorem K.spec_removeAt : chkF Go.Proofs.Tryz.prog 74 2 0 C.spec_removeAt [.cell 4 true 5, .tmp 5] = true := by kernel_rfl
def C.spec_nearNode : ACode := (.seq (.reg [ zA 3 (.box 10 (.t 1)), zA 4 (.alloc 11 [.c (.lit (.int .i64 0)), .c (.lit (.int .i64 0)), .c (.str []), .nsl 1, .nsl 5])] [0, 3, 4]) (.seq (.reg [ zA 9 (.load true 5 (.t 3)), ⟨none, some 10, .call 73 [.t 9]⟩, zM 5 10] [0, 3, 4, 5]) (.seq (.reg [ zM 11 5, zM 12 0, zM 13 5, zA 14 (.len (.t 13)), ⟨none, some 15, .call 22 [.t 12, .t 14]⟩, zA 16 (.iaddr 1 (.t 11) (.t 15)), zA 17 (.load false 1 (.t 16)), zM 6 17] [0, 3, 4, 6]) (.seq (.reg [ zA 18 (.load true 5 (.t 3)), ⟨none, some 19, .call 64 [.t 18]⟩, zA 7 (.alloc 12 [.c (.lit (.int .i64 0)), .c (.lit (.int .i64 0)), .c (.str []), .nsl 1, .nsl 5]), zS (.store true 5 (.t 7) (.t 19))] [0, 3, 4, 6, 7]) (.seq (.reg [ zA 8 (.mv (.k (.c (.lit (.bool true)))))] [0, 3, 4, 6, 7, 8]) (.cut (.seq (.reg [ zM 20 0, ⟨none, some 21, .call 22 [.t 20, .k (.c (.lit (.int .i64 5)))]⟩] [0, 3, 4, 6, 7, 8, 21]) (.block 0 (.seq (.reg [ zA 23 (.bin .eql (.t 21) (.k (.c (.lit (.int .i64 0))))), zM 22 23] [0, 3, 4, 6, 7, 8, 21, 22]) (.cond (.t 22) (.reg [ zA 25 (.load true 5 (.t 3)), zM 26 6, ⟨none, some 27, .call 74 [.t 25, .t 26]⟩, zM 24 27, zA 28 (.extract (.t 24) 0), zA 29 (.extract (.t 24) 1), zS (.store true 5 (.t 7) (.t 28)), zM 8 29] [3, 4, 7, 8]) (.seq (.reg [ zA 31 (.bin .eql (.t 21) (.k (.c (.lit (.int .i64 1))))), zM 30 31] [0, 3, 4, 6, 7, 8, 21, 30]) (.cond (.t 30) (.regD [ (zA 33 (.load true 5 (.t 3)), []), (zA 34 (.bslice 13 1 0 [.str []] []), []), (zM 35 6, []), (zA 36 (.append 14 1 16 (.t 34) (.t 35)), [1, 2]), (zM 37 0, []), (zA 38 (.bslice 15 1 4 [.str []] [(0, .k (.c (.str [97]))), (1, .k (.c (.str [48]))), (2, .k (.c (.str [45]))), (3, .k (.c (.str [122])))]), []), (⟨none, some 39, .call 63 [.t 37, .t 38]⟩, [1, 2, 3, 4, 5]), (zA 40 (.bslice 16 1 1 [.str []] [(0, .t 39)]), [1, 2, 3, 4, 5, 6]), (zA 41 (.append 17 1 16 (.t 36) (.t 40)), [1, 2, 3, 4, 5, 6, 7]), (zM 42 0, []), (⟨none, some 43, .call 71 [.t 42, .k (.c (.lit (.int .i64 2)))]⟩, [1, 2, 3, 4, 5, 6, 7, 8, 9]), (⟨none, some 44, .call 75 [.t 33, .t 41, .t 43]⟩, [0, 1, 2, 3, 4, 5, 6, 7, 8, 9, 10]), (zM 32 44, [0, 1, 2, 3, 4, 5, 6, 7, 8, 9, 10, 11]), (zA 45 (.extract (.t 32) 0), [0, 1, 2, 3, 4, 5, 6, 7, 8, 9, 10, 11, 12]), (zA 46 (.extract (.t 32) 1), [0, 1, 2, 3, 4, 5, 6, 7, 8, 9, 10, 11, 12]), (zS (.store true 5 (.t 7) (.t 45)), [0, 1, 2, 3, 4, 5, 6, 7, 8, 9, 10, 11, 12, 13]), (zM 8 46, [0, 1, 2, 3, 4, 5, 6, 7, 8, 9, 10, 11, 12, 13, 14, 15])] [3, 4, 7, 8]) (.seq (.reg [ zA 48 (.bin .eql (.t 21) (.k (.c (.lit (.int .i64 2))))), zM 47 48] [0, 3, 4, 6, 7, 8, 21, 47]) (.cond (.t 47) (.regD [ (zA 50 (.load true 5 (.t 3)), []), (zM 51 6, []), (zM 52 0, []), (⟨none, some 53, .call 71 [.t 52, .k (.c (.lit (.int .i64 2)))]⟩, [2]), (⟨none, some 54, .call 76 [.t 50, .t 51, .t 53]⟩, [0, 1, 2, 3]), (zM 49 54, [0, 1, 2, 3, 4]), (zA 55 (.extract (.t 49) 0), [0, 1, 2, 3, 4, 5]), (zA 56 (.extract (.t 49) 1), [0, 1, 2, 3, 4, 5]), (zS (.store true 5 (.t 7) (.t 55)), [0, 1, 2, 3, 4, 5, 6]), (zM 8 56, [0, 1, 2, 3, 4, 5, 6, 7, 8])] [3, 4, 7, 8]) (.seq (.reg [ zA 58 (.bin .eql (.t 21) (.k (.c (.lit (.int .i64 3))))), zM 57 58] [0, 3, 4, 7, 8, 57]) (.cond (.t 57) (.seq (.reg [ zM 59 0, ⟨none, some 60, .call 38 [.t 59]⟩, zS (.store true 5 (.t 4) (.t 60))] [4]) .ret) .skip)))))))))) (.seq (.seq (.reg [ zM 61 8, zA 62 (.not (.t 61)), zM 63 62, zG 63 false 64 (.load true 5 (.t 7)), ⟨(some (63, false)), some 65, .call 55 [.t 64]⟩, zG 63 false 66 (.not (.t 65)), zA 67 (.pick (.t 63) (.k (.c (.lit (.bool true)))) (.t 66))] [3, 4, 7, 67]) (.cond (.t 67) (.seq (.reg [ zA 68 (.load true 5 (.t 3)), ⟨none, some 69, .call 64 [.t 68]⟩, zS (.store true 5 (.t 4) (.t 69))] [4]) .ret) .skip)) (.seq (.reg [ zA 70 (.load true 5 (.t 7)), zS (.store true 5 (.t 4) (.t 70))] [4]) .ret))))))))
theorem K.spec_nearNode : chkF Go.Proofs.Tryz.prog 39 2 1 C.spec_nearNode [.cell 4 true 5] = true := by kernel_rfl
def C.spec_AllPaths : ACode := (.seq (.reg [ zA 1 (.box 10 (.t 0)), zA 2 (.mv (.k (.nsl 1)))] [1]) (.seq (.seq (.reg [ zA 3 (.load true 5 (.t 1)), ⟨none, some 4, .call 55 [.t 3]⟩, zA 5 (.not (.t 4))] [1, 5]) (.cond (.t 5) (.seq (.reg [ zA 2 (.mv (.k (.nsl 1)))] [2]) .ret) .skip)) (.seq (.reg [ zA 6 (.load true 5 (.t 1)), ⟨none, some 7, .call 73 [.t 6]⟩, zM 2 7] [2]) .ret)))
theorem K.spec_AllPaths : chkF Go.Proofs.Tryz.prog 101 1 0 C.spec_AllPaths [.tmp 2] = true := by kernel_rfl
def C.spec_anyPath : ACode := (.seq (.reg [ zA 2 (.mv (.k (.nsl 1)))] [0]) (.seq (.reg [ zA 5 (.bslice 10 1 0 [.str []] []), zM 3 5] [0, 3]) (.seq (.seq (.reg [ zM 6 0, zA 7 (.bslice 11 1 7 [.lit (.int .i64 0)] [(0, .k (.c (.lit (.int .i64 1)))), (1, .k (.c (.lit (.int .i64 2)))), (2, .k (.c (.lit (.int .i64 1)))), (3, .k (.c (.lit (.int .i64 0)))), (4, .k (.c (.lit (.int .i64 3)))), (5, .k (.c (.lit (.int .i64 5)))), (6, .k (.c (.lit (.int .i64 6))))]), ⟨none, some 8, .call 20 [.t 6, .t 7]⟩, zM 4 8] [0, 3, 4]) (.block 0 (.loop (.seq (.seq (.reg [ zM 9 4, zA 10 (.bin .gtr (.t 9) (.k (.c (.lit (.int .i64 0)))))] [0, 3, 4, 10]) (.cond (.t 10) .skip (.exit 0))) (.seq (.block 1 (.reg [ zM 13 3, zM 14 0, zA 15 (.bslice 12 1 9 [.str []] [(0, .k (.c (.str [97]))), (1, .k (.c (.str [98]))), (2, .k (.c (.str [48]))), (3, .k (.c (.str [49]))), (4, .k (.c (.str [45]))), (5, .k (.c (.str [97, 47, 98]))), (6, .k (.c (.str [126, 120]))), (7, .k (.c (.str []))), (8, .k (.c (.str [99])))]), ⟨none, some 16, .call 63 [.t 14, .t 15]⟩, zA 17 (.bslice 13 1 1 [.str []] [(0, .t 16)]), zA 18 (.append 14 1 16 (.t 13) (.t 17)), zM 3 18] [0, 3, 4])) (.reg [ zM 11 4, zA 12 (.bin .sub (.t 11) (.k (.c (.lit (.int .i64 1))))), zM 4 12] [0, 3, 4])))))) (.seq (.seq (.reg [ zM 19 3, zA 20 (.len (.t 19)), zA 21 (.bin .gtr (.t 20) (.k (.c (.lit (.int .i64 0))))), zM 22 21, zG 22 true 23 (.mv (.t 0)), ⟨(some (22, true)), some 24, .call 22 [.t 23, .k (.c (.lit (.int .i64 20)))]⟩, zG 22 true 25 (.bin .eql (.t 24) (.k (.c (.lit (.int .i64 0))))), zA 26 (.pick (.t 22) (.t 25) (.k (.c (.lit (.bool false)))))] [0, 3, 26]) (.cond (.t 26) (.reg [ zM 27 3, zM 28 0, zA 29 (.bslice 15 1 2 [.str []] [(0, .k (.c (.str [97, 98, 99, 100, 101, 102, 103, 104, 105, 106, 107, 108, 109]))), (1, .k (.c (.str [10])))]), ⟨none, some 30, .call 63 [.t 28, .t 29]⟩, zA 31 (.iaddr 1 (.t 27) (.k (.c (.lit (.int .i64 0))))), zS (.store false 1 (.t 31) (.t 30))] [3]) .skip)) (.seq (.reg [ zM 32 3, zM 2 32] [2]) .ret)))))
theorem K.spec_anyPath : chkF Go.Proofs.Tryz.prog 102 1 1 C.spec_anyPath [.tmp 2] = true := by kernel_rfl
def C.spec_pathIn : ACode := (.seq (.reg [ zA 3 (.box 10 (.t 1)), zA 4 (.mv (.k (.nsl 1)))] [0, 3]) (.seq (.reg [ zA 6 (.load true 5 (.t 3)), ⟨none, some 7, .call 101 [.t 6]⟩, zM 5 7] [0, 5]) (.seq (.seq (.reg [ zM 8 5, zA 9 (.len (.t 8)), zA 10 (.bin .gtr (.t 9) (.k (.c (.lit (.int .i64 0))))), zM 11 10, zG 11 true 12 (.mv (.t 0)), ⟨(some (11, true)), some 13, .call 22 [.t 12, .k (.c (.lit (.int .i64 4)))]⟩, zG 11 true 14 (.bin .gtr (.t 13) (.k (.c (.lit (.int .i64 0))))), zA 15 (.pick (.t 11) (.t 14) (.k (.c (.lit (.bool false)))))] [0, 5, 15]) (.cond (.t 15) (.seq (.reg [ zM 16 5, zM 17 0, zM 18 5, zA 19 (.len (.t 18)), ⟨none, some 20, .call 22 [.t 17, .t 19]⟩, zA 21 (.iaddr 1 (.t 16) (.t 20)), zA 22 (.load false 1 (.t 21)), zM 4 22] [4]) .ret) .skip)) (.seq (.reg [ zM 23 0, ⟨none, some 24, .call 102 [.t 23]⟩, zM 4 24] [4]) .ret))))
theorem K.spec_pathIn : chkF Go.Proofs.Tryz.prog 77 2 1 C.spec_pathIn [.tmp 4] = true := by kernel_rfl
def C.spec_someOp : ACode := (.seq (.reg [ zA 3 (.box 10 (.t 1)), zA 4 (.alloc 11 [.c (.lit (.int .i64 0)), .nsl 1, .nsl 1, .c (.lit (.int .i64 0)), .c (.lit (.int .i64 0)), .c (.str []), .nsl 1, .nsl 5])] [0, 3, 4]) (.seq (.regD [ (zM 8 0, []), (⟨none, some 9, .call 22 [.t 8, .k (.c (.lit (.int .i64 6)))]⟩, [0]), (zA 10 (.bin .add (.k (.c (.lit (.int .i64 1)))) (.t 9)), [0, 1]), (zM 11 0, []), (zA 12 (.load true 5 (.t 3)), []), (⟨none, some 13, .call 77 [.t 11, .t 12]⟩, [0, 1, 3, 4]), (zA 14 (.bslice 12 1 0 [.str []] []), []), (zA 15 (.build [.c (.lit (.int .i64 0)), .c (.lit (.int .i64 0)), .c (.str []), .nsl 1, .nsl 5] []), []), (zA 16 (.build [.c (.lit (.int .i64 0)), .nsl 1, .nsl 1, .c (.lit (.int .i64 0)), .c (.lit (.int .i64 0)), .c (.str []), .nsl 1, .nsl 5] [(0, 1, .t 10), (1, 1, .t 13), (2, 1, .t 14), (3, 5, .t 15)]), [0, 1, 2, 3, 4, 5, 6, 7]), (zA 5 (.alloc 13 [.c (.lit (.int .i64 0)), .nsl 1, .nsl 1, .c (.lit (.int .i64 0)), .c (.lit (.int .i64 0)), .c (.str []), .nsl 1, .nsl 5]), []), (zS (.store true 8 (.t 5) (.t 16)), [0, 1, 2, 3, 4, 5, 6, 7, 8, 9])] [0, 3, 4, 5]) (.cut (.seq (.reg [ zA 17 (.faddr 0 (.t 5)), zA 18 (.load false 1 (.t 17))] [0, 3, 4, 5, 18]) (.block 0 (.cut (.seq (.reg [ zA 20 (.bin .eql (.t 18) (.k (.c (.lit (.int .i64 1))))), zM 19 20] [0, 3, 4, 5, 18, 19]) (.cond (.t 19) .skip (.reg [ zA 21 (.bin .eql (.t 18) (.k (.c (.lit (.int .i64 3))))), zM 19 21] [0, 3, 4, 5, 18, 19]))) (.cond (.t 19) (.reg [ zM 22 0, ⟨none, some 23, .call 71 [.t 22, .k (.c (.lit (.int .i64 2)))]⟩, zA 24 (.faddr 3 (.t 5)), zS (.store true 5 (.t 24) (.t 23))] [0, 4, 5]) (.seq (.reg [ zA 26 (.bin .eql (.t 18) (.k (.c (.lit (.int .i64 6))))), zM 25 26] [0, 3, 4, 5, 18, 25]) (.cond (.t 25) (.seq (.reg [ zA 28 (.load true 5 (.t 3)), zA 29 (.faddr 1 (.t 5)), zA 30 (.load false 1 (.t 29)), ⟨none, some 31, .call 78 [.t 28, .t 30]⟩, zM 27 31, zA 32 (.extract (.t 27) 0), zA 33 (.extract (.t 27) 1), zA 6 (.alloc 14 [.c (.lit (.int .i64 0)), .c (.lit (.int .i64 0)), .c (.str []), .nsl 1, .nsl 5]), zS (.store true 5 (.t 6) (.t 32)), zM 7 33] [0, 4, 5, 6, 7]) (.seq (.reg [ zM 34 7, zM 35 34, zG 35 true 36 (.mv (.t 0)), ⟨(some (35, true)), some 37, .call 22 [.t 36, .k (.c (.lit (.int .i64 3)))]⟩, zG 35 true 38 (.bin .gtr (.t 37) (.k (.c (.lit (.int .i64 0))))), zA 39 (.pick (.t 35) (.t 38) (.k (.c (.lit (.bool false)))))] [0, 4, 5, 6, 39]) (.cond (.t 39) (.reg [ zA 40 (.load true 5 (.t 6)), zA 41 (.faddr 3 (.t 5)), zS (.store true 5 (.t 41) (.t 40))] [0, 4, 5]) .skip))) (.cut (.seq (.reg [ zA 43 (.bin .eql (.t 18) (.k (.c (.lit (.int .i64 4))))), zM 42 43] [0, 3, 4, 5, 18, 42]) (.cond (.t 42) .skip (.reg [ zA 44 (.bin .eql (.t 18) (.k (.c (.lit (.int .i64 5))))), zM 42 44] [0, 3, 4, 5, 42]))) (.cond (.t 42) (.reg [ zM 45 0, zA 46 (.load true 5 (.t 3)), ⟨none, some 47, .call 77 [.t 45, .t 46]⟩, zA 48 (.faddr 2 (.t 5)), zS (.store false 1 (.t 48) (.t 47))] [0, 4, 5]) .skip)))))))) (.seq (.cut (.reg [ zA 49 (.faddr 1 (.t 5)), zA 50 (.load false 1 (.t 49)), zA 51 (.len (.t 50)), zA 52 (.bin .lss (.t 51) (.k (.c (.lit (.int .i64 4))))), zM 53 52, zG 53 true 54 (.faddr 0 (.t 5)), zG 53 true 55 (.load false 1 (.t 54)), zG 53 true 56 (.bin .eql (.t 55) (.k (.c (.lit (.int .i64 1))))), zG 53 true 57 (.mv (.t 56)), zG 57 false 58 (.faddr 0 (.t 5)), zG 57 false 59 (.load false 1 (.t 58)), zG 57 false 60 (.bin .eql (.t 59) (.k (.c (.lit (.int .i64 4))))), zG 53 true 61 (.pick (.t 57) (.k (.c (.lit (.bool true)))) (.t 60)), zG 53 true 62 (.mv (.t 61)), zG 62 false 63 (.faddr 0 (.t 5)), zG 62 false 64 (.load false 1 (.t 63)), zG 62 false 65 (.bin .eql (.t 64) (.k (.c (.lit (.int .i64 5))))), zG 53 true 66 (.pick (.t 62) (.k (.c (.lit (.bool true)))) (.t 65)), zA 67 (.pick (.t 53) (.t 66) (.k (.c (.lit (.bool false))))), zM 68 67, zG 68 true 69 (.mv (.t 0)), ⟨(some (68, true)), some 70, .call 22 [.t 69, .k (.c (.lit (.int .i64 2)))]⟩, zG 68 true 71 (.bin .eql (.t 70) (.k (.c (.lit (.int .i64 0))))), zA 72 (.pick (.t 68) (.t 71) (.k (.c (.lit (.bool false)))))] [0, 4, 5, 72]) (.cond (.t 72) (.reg [ zA 73 (.bslice 15 1 0 [.str []] []), zA 74 (.faddr 1 (.t 5)), zA 75 (.load false 1 (.t 74)), zA 76 (.append 16 1 16 (.t 73) (.t 75)), zM 77 0, zA 78 (.bslice 17 1 4 [.str []] [(0, .k (.c (.str [122]))), (1, .k (.c (.str [45]))), (2, .k (.c (.str [48]))), (3, .k (.c (.str [101])))]), ⟨none, some 79, .call 63 [.t 77, .t 78]⟩, zA 80 (.bslice 18 1 1 [.str []] [(0, .t 79)]), zA 81 (.append 19 1 16 (.t 76) (.t 80)), zA 82 (.faddr 1 (.t 5)), zS (.store false 1 (.t 82) (.t 81))] [4, 5]) .skip)) (.seq (.reg [ zA 83 (.load true 8 (.t 5)), zS (.store true 8 (.t 4) (.t 83))] [4]) .ret)))))
theorem K.spec_someOp : chkF Go.Proofs.Tryz.prog 40 2 1 C.spec_someOp [.cell 4 true 8] = true := by kernel_rfl
def C.spec_someRequest : ACode := (.seq (.reg [ zA 3 (.box 10 (.t 1)), zA 4 (.alloc 11 [.c (.lit (.int .i64 0)), .c (.str []), .nsl 1, .nsl 1, .c (.lit (.int .i64 0)), .c (.lit (.int .i64 0)), .c (.str []), .nsl 1, .nsl 5, .nsl 8])] [0, 3, 4]) (.seq (.reg [ zM 10 0, zA 11 (.load true 2 (.t 3)), ⟨none, some 12, .call 34 [.t 10, .t 11]⟩, zM 5 12] [0, 3, 4, 5]) (.seq (.reg [ zA 14 (.load true 2 (.t 3)), zM 15 5, ⟨none, some 16, .call 35 [.t 14, .t 15]⟩, zM 13 16, zA 17 (.extract (.t 13) 0), zA 18 (.extract (.t 13) 1), zA 6 (.alloc 12 [.c (.str []), .c (.lit (.int .i64 0)), .c (.lit (.int .i64 0)), .c (.lit (.int .i64 0)), .c (.str []), .nsl 1, .nsl 5]), zS (.store true 7 (.t 6) (.t 17)), zM 7 18] [0, 4, 5, 6, 7]) (.seq (.reg [ zM 19 0, ⟨none, some 20, .call 22 [.t 19, .k (.c (.lit (.int .i64 5)))]⟩, zA 21 (.bin .add (.k (.c (.lit (.int .i64 1)))) (.t 20)), zM 22 5, zA 23 (.bslice 13 1 0 [.str []] []), zA 24 (.bslice 14 1 0 [.str []] []), zA 25 (.bslice 15 8 0 [.lit (.int .i64 0), .sl 1 [], .sl 1 [], .lit (.int .i64 0), .lit (.int .i64 0), .str [], .sl 1 [], .sl 5 []] []), zA 26 (.build [.c (.lit (.int .i64 0)), .c (.str []), .nsl 1, .nsl 1, .c (.lit (.int .i64 0)), .c (.lit (.int .i64 0)), .c (.str []), .nsl 1, .nsl 5, .nsl 8] [(0, 1, .t 21), (1, 1, .t 22), (2, 1, .t 23), (3, 1, .t 24), (9, 1, .t 25)]), zA 8 (.alloc 16 [.c (.lit (.int .i64 0)), .c (.str []), .nsl 1, .nsl 1, .c (.lit (.int .i64 0)), .c (.lit (.int .i64 0)), .c (.str []), .nsl 1, .nsl 5, .nsl 8]), zS (.store true 10 (.t 8) (.t 26))] [0, 4, 6, 7, 8]) (.cut (.seq (.reg [ zM 27 0, ⟨none, some 28, .call 22 [.t 27, .k (.c (.lit (.int .i64 3)))]⟩, zA 29 (.bin .eql (.t 28) (.k (.c (.lit (.int .i64 0)))))] [0, 4, 6, 7, 8, 29]) (.cond (.t 29) (.reg [ zM 30 0, zA 31 (.faddr 2 (.t 6)), zA 32 (.load true 5 (.t 31)), ⟨none, some 33, .call 37 [.t 32]⟩, ⟨none, some 34, .call 36 [.t 30, .t 33]⟩, zA 35 (.faddr 2 (.t 8)), zS (.store false 1 (.t 35) (.t 34))] [0, 4, 6, 7, 8]) .skip)) (.cut (.seq (.reg [ zM 36 0, ⟨none, some 37, .call 22 [.t 36, .k (.c (.lit (.int .i64 4)))]⟩, zA 38 (.bin .eql (.t 37) (.k (.c (.lit (.int .i64 0)))))] [0, 4, 6, 7, 8, 38]) (.cond (.t 38) (.reg [ zM 39 0, zA 40 (.faddr 2 (.t 6)), zA 41 (.load true 5 (.t 40)), ⟨none, some 42, .call 37 [.t 41]⟩, ⟨none, some 43, .call 36 [.t 39, .t 42]⟩, zA 44 (.faddr 3 (.t 8)), zS (.store false 1 (.t 44) (.t 43))] [0, 4, 6, 7, 8]) .skip)) (.cut (.seq (.reg [ zA 45 (.faddr 0 (.t 8)), zA 46 (.load false 1 (.t 45))] [0, 4, 6, 7, 8, 46]) (.block 0 (.seq (.reg [ zA 48 (.bin .eql (.t 46) (.k (.c (.lit (.int .i64 2))))), zM 47 48] [0, 4, 6, 7, 8, 46, 47]) (.cond (.t 47) (.reg [ zM 49 0, ⟨none, some 50, .call 38 [.t 49]⟩, zA 51 (.faddr 4 (.t 8)), zS (.store true 5 (.t 51) (.t 50))] [0, 4, 7, 8]) (.seq (.reg [ zA 53 (.bin .eql (.t 46) (.k (.c (.lit (.int .i64 5))))), zM 52 53] [0, 4, 6, 7, 8, 46, 52]) (.cond (.t 52) (.reg [ zM 54 0, zA 55 (.faddr 2 (.t 6)), zA 56 (.load true 5 (.t 55)), ⟨none, some 57, .call 39 [.t 54, .t 56]⟩, zA 58 (.faddr 4 (.t 8)), zS (.store true 5 (.t 58) (.t 57))] [0, 4, 7, 8]) (.seq (.reg [ zA 60 (.bin .eql (.t 46) (.k (.c (.lit (.int .i64 4))))), zM 59 60] [0, 4, 6, 7, 8, 59]) (.cond (.t 59) (.seq (.reg [ zM 61 0, ⟨none, some 62, .call 22 [.t 61, .k (.c (.lit (.int .i64 3)))]⟩, zM 9 62] [0, 4, 6, 7, 8, 9]) (.block 1 (.loop (.seq (.seq (.reg [ zM 63 9, zA 64 (.bin .gtr (.t 63) (.k (.c (.lit (.int .i64 0)))))] [0, 4, 6, 7, 8, 9, 64]) (.cond (.t 64) .skip (.exit 1))) (.seq (.block 2 (.regD [ (zA 67 (.faddr 9 (.t 8)), []), (zA 68 (.load false 1 (.t 67)), [0]), (zM 69 0, []), (zA 70 (.faddr 2 (.t 6)), []), (zA 71 (.load true 5 (.t 70)), [3]), (⟨none, some 72, .call 40 [.t 69, .t 71]⟩, [2, 3, 4]), (zA 73 (.bslice 17 8 1 [.lit (.int .i64 0), .sl 1 [], .sl 1 [], .lit (.int .i64 0), .lit (.int .i64 0), .str [], .sl 1 [], .sl 5 []] [(0, .t 72)]), [2, 3, 4, 5]), (zA 74 (.append 18 8 136 (.t 68) (.t 73)), [0, 1, 2, 3, 4, 5, 6]), (zA 75 (.faddr 9 (.t 8)), [0, 1, 2, 3, 4, 5, 6, 7]), (zS (.store false 1 (.t 75) (.t 74)), [0, 1, 2, 3, 4, 5, 6, 7, 8])] [0, 4, 6, 7, 8, 9])) (.reg [ zM 65 9, zA 66 (.bin .sub (.t 65) (.k (.c (.lit (.int .i64 1))))), zM 9 66] [0, 4, 6, 7, 8, 9])))))) .skip)))))))) (.seq (.seq (.reg [ zM 76 7, zA 77 (.not (.t 76)), zM 78 77, zG 78 true 79 (.mv (.t 0)), ⟨(some (78, true)), some 80, .call 22 [.t 79, .k (.c (.lit (.int .i64 2)))]⟩, zG 78 true 81 (.bin .eql (.t 80) (.k (.c (.lit (.int .i64 0))))), zA 82 (.pick (.t 78) (.t 81) (.k (.c (.lit (.bool false)))))] [4, 8, 82]) (.cond (.t 82) (.reg [ zA 83 (.faddr 0 (.t 8)), zS (.store false 1 (.t 83) (.k (.c (.lit (.int .i64 2)))))] [4, 8]) .skip)) (.seq (.reg [ zA 84 (.load true 10 (.t 8)), zS (.store true 10 (.t 4) (.t 84))] [4]) .ret)))))))))
theorem K.spec_someRequest : chkF Go.Proofs.Tryz.prog 23 2 1 C.spec_someRequest [.cell 4 true 10] = true := by kernel_rfl
def C.spec_anyRequest : ACode := (.seq (.reg [ zA 3 (.box 10 (.t 1)), zA 4 (.alloc 11 [.c (.lit (.int .i64 0)), .c (.str []), .nsl 1, .nsl 1, .c (.lit (.int .i64 0)), .c (.lit (.int .i64 0)), .c (.str []), .nsl 1, .nsl 5, .nsl 8])] [0, 3, 4]) (.seq (.reg [ zM 6 0, zA 7 (.load true 2 (.t 3)), ⟨none, some 8, .call 23 [.t 6, .t 7]⟩, zA 5 (.alloc 12 [.c (.lit (.int .i64 0)), .c (.str []), .nsl 1, .nsl 1, .c (.lit (.int .i64 0)), .c (.lit (.int .i64 0)), .c (.str []), .nsl 1, .nsl 5, .nsl 8]), zS (.store true 10 (.t 5) (.t 8))] [0, 4, 5]) (.seq (.seq (.reg [ zM 9 0, ⟨none, some 10, .call 22 [.t 9, .k (.c (.lit (.int .i64 30)))]⟩] [0, 4, 5, 10]) (.block 0 (.seq (.reg [ zA 12 (.bin .eql (.t 10) (.k (.c (.lit (.int .i64 0))))), zM 11 12] [0, 4, 5, 10, 11]) (.cond (.t 11) (.reg [ zM 13 0, zA 14 (.bslice 13 1 2 [.lit (.int .i64 0)] [(0, .k (.c (.lit (.int .i64 0)))), (1, .k (.c (.lit (.int .i64 6))))]), ⟨none, some 15, .call 20 [.t 13, .t 14]⟩, zA 16 (.faddr 0 (.t 5)), zS (.store false 1 (.t 16) (.t 15))] [4, 5]) (.seq (.reg [ zA 18 (.bin .eql (.t 10) (.k (.c (.lit (.int .i64 1))))), zM 17 18] [0, 4, 5, 10, 17]) (.cond (.t 17) (.reg [ zM 19 0, ⟨none, some 20, .call 32 [.t 19]⟩, zA 21 (.faddr 1 (.t 5)), zS (.store false 1 (.t 21) (.t 20))] [4, 5]) (.seq (.reg [ zA 23 (.bin .eql (.t 10) (.k (.c (.lit (.int .i64 2))))), zM 22 23] [0, 4, 5, 22]) (.cond (.t 22) (.reg [ zM 24 0, ⟨none, some 25, .call 33 [.t 24]⟩, zA 26 (.faddr 4 (.t 5)), zS (.store true 5 (.t 26) (.t 25))] [4, 5]) .skip)))))))) (.seq (.reg [ zA 27 (.load true 10 (.t 5)), zS (.store true 10 (.t 4) (.t 27))] [4]) .ret))))
theorem K.spec_anyRequest : chkF Go.Proofs.Tryz.prog 21 2 1 C.spec_anyRequest [.cell 4 true 10] = true := by kernel_rfl
end Go.Ab
end
