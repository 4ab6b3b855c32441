/-
  NARROWER THAN 'FOR EVERY INPUT', by the rows' own cells (each row's printed sentence says how): FnDiffSize: laid · FnDiffNodesMerge: laid · FnDiffNodes: laid · FnDiffNodesKinds: laid · FnDiffNodesSame: laid · FnIndexStoreOrder: laid · FnIndexStore: laid · FnFindRangeScan: laid · FnIndexStorePut: laid.
  DERIVED. THE GIVEN ROWS OF THIS SEAT. 9 by the template 'for every input the law returns true; each argument reads behind the call as it read before'; 0 by the template 'total and deterministic' (their statements: YtjflgnaccghfmaaGreatDoorTotals.lean).
  GIVEN WITH THE SEED: the statements are not yours to turn. If you find one false, say at which input.
  Laid BY PROGRAM, IN A SANDBOX (cutbox-rows.mjs): the forced cells as the released guide's own fill.sh prints them over the translation 6dbce547dc611fa6… (all of the seat's roots in one cut). By AI agents, Wed Nov 11 2026. No macro, syntax, notation, axiom, sorry.
-/
import Derived.Test.YtjflgnaccghfmaaGreatDoorChecked
import GoSem.Claim
import GoSem.ClaimJoined
import GoSem.ClaimMapViews
import Derived.JoinedTies
import Derived.KernelRfl
namespace Go.Proofs.YtjflgnaccghfmaaGreatDoor
/- THE CELL 'sum', in the pinned program and in every row, IS THE sha256 OF THE DUMP (.gsa) THAT YtjflgnaccghfmaaGreatDoorProg.lean LOADS. Nothing in Lean hashes anything: it is a label: what it is worth is what the hold of that sum in a sandbox is worth. -/
noncomputable def Tryz.pinned : Pinned := { name := "ytjflgnaccghfmaagreatdoor", sum := "6dbce547dc611fa6f98e3ab661b0e3f89a1177206816cb07b7294b37ce36c073", checked := Tryz.checked }
namespace Rows
def none {H : Type} : Left H := { results := [], args := [] }

/- WHAT THE LISTED PACKAGE-LEVEL VARIABLES READ AS WHEN THE CALL BEGINS. Each datum BY PROGRAM (the guide's laid-datum.mjs) off the statement by which the dump's own 'gosem.cut.vars' lays the variable. In a bare row this is a premise. The card (YtjflgnaccghfmaaGreatDoorCards.lean) ties it to the program's text. -/
def laid_math_bits_deBruijn32tab {H : Type} : DataW H := .agg [.lit (.int .u8 0), .lit (.int .u8 1), .lit (.int .u8 28), .lit (.int .u8 2), .lit (.int .u8 29), .lit (.int .u8 14), .lit (.int .u8 24), .lit (.int .u8 3), .lit (.int .u8 30), .lit (.int .u8 22), .lit (.int .u8 20), .lit (.int .u8 15), .lit (.int .u8 25), .lit (.int .u8 17), .lit (.int .u8 4), .lit (.int .u8 8), .lit (.int .u8 31), .lit (.int .u8 27), .lit (.int .u8 13), .lit (.int .u8 23), .lit (.int .u8 21), .lit (.int .u8 19), .lit (.int .u8 16), .lit (.int .u8 7), .lit (.int .u8 26), .lit (.int .u8 12), .lit (.int .u8 18), .lit (.int .u8 6), .lit (.int .u8 11), .lit (.int .u8 5), .lit (.int .u8 10), .lit (.int .u8 9)]
def laid_math_bits_deBruijn64tab {H : Type} : DataW H := .agg [.lit (.int .u8 0), .lit (.int .u8 1), .lit (.int .u8 56), .lit (.int .u8 2), .lit (.int .u8 57), .lit (.int .u8 49), .lit (.int .u8 28), .lit (.int .u8 3), .lit (.int .u8 61), .lit (.int .u8 58), .lit (.int .u8 42), .lit (.int .u8 50), .lit (.int .u8 38), .lit (.int .u8 29), .lit (.int .u8 17), .lit (.int .u8 4), .lit (.int .u8 62), .lit (.int .u8 47), .lit (.int .u8 59), .lit (.int .u8 36), .lit (.int .u8 45), .lit (.int .u8 43), .lit (.int .u8 51), .lit (.int .u8 22), .lit (.int .u8 53), .lit (.int .u8 39), .lit (.int .u8 33), .lit (.int .u8 30), .lit (.int .u8 24), .lit (.int .u8 18), .lit (.int .u8 12), .lit (.int .u8 5), .lit (.int .u8 63), .lit (.int .u8 55), .lit (.int .u8 48), .lit (.int .u8 27), .lit (.int .u8 60), .lit (.int .u8 41), .lit (.int .u8 37), .lit (.int .u8 16), .lit (.int .u8 46), .lit (.int .u8 35), .lit (.int .u8 44), .lit (.int .u8 21), .lit (.int .u8 52), .lit (.int .u8 32), .lit (.int .u8 23), .lit (.int .u8 11), .lit (.int .u8 54), .lit (.int .u8 26), .lit (.int .u8 40), .lit (.int .u8 15), .lit (.int .u8 34), .lit (.int .u8 20), .lit (.int .u8 31), .lit (.int .u8 10), .lit (.int .u8 25), .lit (.int .u8 14), .lit (.int .u8 19), .lit (.int .u8 9), .lit (.int .u8 13), .lit (.int .u8 8), .lit (.int .u8 7), .lit (.int .u8 6)]
def laid_internal_strconv_uint64pow10 {H : Type} : DataW H := .agg [.lit (.int .u64 1), .lit (.int .u64 10), .lit (.int .u64 100), .lit (.int .u64 1000), .lit (.int .u64 10000), .lit (.int .u64 100000), .lit (.int .u64 1000000), .lit (.int .u64 10000000), .lit (.int .u64 100000000), .lit (.int .u64 1000000000), .lit (.int .u64 10000000000), .lit (.int .u64 100000000000), .lit (.int .u64 1000000000000), .lit (.int .u64 10000000000000), .lit (.int .u64 100000000000000), .lit (.int .u64 1000000000000000), .lit (.int .u64 10000000000000000), .lit (.int .u64 100000000000000000), .lit (.int .u64 1000000000000000000), .lit (.int .u64 10000000000000000000)]

/-- 'laws.FnDiffSize': WHATEVER THE INPUT: true; the input reads as it did. -/
def fnDiffSizeSpec : ChangeSpec := { name := "fnDiffSize", fn := fun _ => fun
  | [d] => { results := [.lit (.bool true)], args := [d] }
  | _ => none }
def fnDiffSizeRow : OpenClaim := { program := "ytjflgnaccghfmaagreatdoor", sum := "6dbce547dc611fa6f98e3ab661b0e3f89a1177206816cb07b7294b37ce36c073", func := "loop.example/resourcestore/laws.FnDiffSize", spec := "fnDiffSize", inPlace := ["internal/bytealg.abigen_runtime_cmpstring", "slices.overlaps[string]", "slices.overlaps[loop.example/resourcestore/impl.Node]"], unfollowed := true, recurses := true, named := ["internal/strconv.uint64pow10", "math/bits.deBruijn32tab", "math/bits.deBruijn64tab"], apart := false, laid := [("math/bits.deBruijn32tab", laid_math_bits_deBruijn32tab), ("math/bits.deBruijn64tab", laid_math_bits_deBruijn64tab), ("internal/strconv.uint64pow10", laid_internal_strconv_uint64pow10)] }
def FnDiffSizeSaid : Prop := fnDiffSizeRow.holds Tryz.pinned (OpenSpec.ofChange fnDiffSizeSpec)

/-- ITS FALSE NEIGHBOUR: 'it returns false'. Refute it at one input. -/
def fnDiffSizeWrong : ChangeSpec := { name := "fnDiffSize", fn := fun _ => fun
  | [d] => { results := [.lit (.bool false)], args := [d] }
  | _ => none }
def FnDiffSizeWrongFalsely : Prop := fnDiffSizeRow.holds Tryz.pinned (OpenSpec.ofChange fnDiffSizeWrong)

/-- 'laws.FnDiffNodesMerge': WHATEVER THE INPUT: true; the input reads as it did. -/
def fnDiffNodesMergeSpec : ChangeSpec := { name := "fnDiffNodesMerge", fn := fun _ => fun
  | [d] => { results := [.lit (.bool true)], args := [d] }
  | _ => none }
def fnDiffNodesMergeRow : OpenClaim := { program := "ytjflgnaccghfmaagreatdoor", sum := "6dbce547dc611fa6f98e3ab661b0e3f89a1177206816cb07b7294b37ce36c073", func := "loop.example/resourcestore/laws.FnDiffNodesMerge", spec := "fnDiffNodesMerge", inPlace := ["slices.overlaps[string]", "slices.overlaps[loop.example/resourcestore/impl.Node]", "internal/bytealg.abigen_runtime_cmpstring"], unfollowed := true, recurses := true, named := ["internal/strconv.uint64pow10", "math/bits.deBruijn32tab", "math/bits.deBruijn64tab"], apart := false, laid := [("math/bits.deBruijn32tab", laid_math_bits_deBruijn32tab), ("math/bits.deBruijn64tab", laid_math_bits_deBruijn64tab), ("internal/strconv.uint64pow10", laid_internal_strconv_uint64pow10)] }
def FnDiffNodesMergeSaid : Prop := fnDiffNodesMergeRow.holds Tryz.pinned (OpenSpec.ofChange fnDiffNodesMergeSpec)

/-- ITS FALSE NEIGHBOUR: 'it returns false'. Refute it at one input. -/
def fnDiffNodesMergeWrong : ChangeSpec := { name := "fnDiffNodesMerge", fn := fun _ => fun
  | [d] => { results := [.lit (.bool false)], args := [d] }
  | _ => none }
def FnDiffNodesMergeWrongFalsely : Prop := fnDiffNodesMergeRow.holds Tryz.pinned (OpenSpec.ofChange fnDiffNodesMergeWrong)

/-- 'laws.FnDiffNodes': WHATEVER THE INPUT: true; the input reads as it did. -/
def fnDiffNodesSpec : ChangeSpec := { name := "fnDiffNodes", fn := fun _ => fun
  | [d] => { results := [.lit (.bool true)], args := [d] }
  | _ => none }
def fnDiffNodesRow : OpenClaim := { program := "ytjflgnaccghfmaagreatdoor", sum := "6dbce547dc611fa6f98e3ab661b0e3f89a1177206816cb07b7294b37ce36c073", func := "loop.example/resourcestore/laws.FnDiffNodes", spec := "fnDiffNodes", inPlace := ["internal/bytealg.abigen_runtime_cmpstring", "slices.overlaps[string]", "slices.overlaps[loop.example/resourcestore/impl.Node]"], unfollowed := true, recurses := true, named := ["internal/strconv.uint64pow10", "math/bits.deBruijn32tab", "math/bits.deBruijn64tab"], apart := false, laid := [("math/bits.deBruijn32tab", laid_math_bits_deBruijn32tab), ("math/bits.deBruijn64tab", laid_math_bits_deBruijn64tab), ("internal/strconv.uint64pow10", laid_internal_strconv_uint64pow10)] }
def FnDiffNodesSaid : Prop := fnDiffNodesRow.holds Tryz.pinned (OpenSpec.ofChange fnDiffNodesSpec)

/-- ITS FALSE NEIGHBOUR: 'it returns false'. Refute it at one input. -/
def fnDiffNodesWrong : ChangeSpec := { name := "fnDiffNodes", fn := fun _ => fun
  | [d] => { results := [.lit (.bool false)], args := [d] }
  | _ => none }
def FnDiffNodesWrongFalsely : Prop := fnDiffNodesRow.holds Tryz.pinned (OpenSpec.ofChange fnDiffNodesWrong)

/-- 'laws.FnDiffNodesKinds': WHATEVER THE INPUT: true; the input reads as it did. -/
def fnDiffNodesKindsSpec : ChangeSpec := { name := "fnDiffNodesKinds", fn := fun _ => fun
  | [d] => { results := [.lit (.bool true)], args := [d] }
  | _ => none }
def fnDiffNodesKindsRow : OpenClaim := { program := "ytjflgnaccghfmaagreatdoor", sum := "6dbce547dc611fa6f98e3ab661b0e3f89a1177206816cb07b7294b37ce36c073", func := "loop.example/resourcestore/laws.FnDiffNodesKinds", spec := "fnDiffNodesKinds", inPlace := ["internal/bytealg.abigen_runtime_cmpstring", "slices.overlaps[string]", "slices.overlaps[loop.example/resourcestore/impl.Node]"], unfollowed := true, recurses := true, named := ["internal/strconv.uint64pow10", "math/bits.deBruijn32tab", "math/bits.deBruijn64tab"], apart := false, laid := [("math/bits.deBruijn32tab", laid_math_bits_deBruijn32tab), ("math/bits.deBruijn64tab", laid_math_bits_deBruijn64tab), ("internal/strconv.uint64pow10", laid_internal_strconv_uint64pow10)] }
def FnDiffNodesKindsSaid : Prop := fnDiffNodesKindsRow.holds Tryz.pinned (OpenSpec.ofChange fnDiffNodesKindsSpec)

/-- ITS FALSE NEIGHBOUR: 'it returns false'. Refute it at one input. -/
def fnDiffNodesKindsWrong : ChangeSpec := { name := "fnDiffNodesKinds", fn := fun _ => fun
  | [d] => { results := [.lit (.bool false)], args := [d] }
  | _ => none }
def FnDiffNodesKindsWrongFalsely : Prop := fnDiffNodesKindsRow.holds Tryz.pinned (OpenSpec.ofChange fnDiffNodesKindsWrong)

/-- 'laws.FnDiffNodesSame': WHATEVER THE INPUT: true; the input reads as it did. -/
def fnDiffNodesSameSpec : ChangeSpec := { name := "fnDiffNodesSame", fn := fun _ => fun
  | [d] => { results := [.lit (.bool true)], args := [d] }
  | _ => none }
def fnDiffNodesSameRow : OpenClaim := { program := "ytjflgnaccghfmaagreatdoor", sum := "6dbce547dc611fa6f98e3ab661b0e3f89a1177206816cb07b7294b37ce36c073", func := "loop.example/resourcestore/laws.FnDiffNodesSame", spec := "fnDiffNodesSame", inPlace := ["internal/bytealg.abigen_runtime_cmpstring", "slices.overlaps[string]", "slices.overlaps[loop.example/resourcestore/impl.Node]"], unfollowed := true, recurses := true, named := ["internal/strconv.uint64pow10", "math/bits.deBruijn32tab", "math/bits.deBruijn64tab"], apart := false, laid := [("math/bits.deBruijn32tab", laid_math_bits_deBruijn32tab), ("math/bits.deBruijn64tab", laid_math_bits_deBruijn64tab), ("internal/strconv.uint64pow10", laid_internal_strconv_uint64pow10)] }
def FnDiffNodesSameSaid : Prop := fnDiffNodesSameRow.holds Tryz.pinned (OpenSpec.ofChange fnDiffNodesSameSpec)

/-- ITS FALSE NEIGHBOUR: 'it returns false'. Refute it at one input. -/
def fnDiffNodesSameWrong : ChangeSpec := { name := "fnDiffNodesSame", fn := fun _ => fun
  | [d] => { results := [.lit (.bool false)], args := [d] }
  | _ => none }
def FnDiffNodesSameWrongFalsely : Prop := fnDiffNodesSameRow.holds Tryz.pinned (OpenSpec.ofChange fnDiffNodesSameWrong)

/-- 'laws.FnIndexStoreOrder': WHATEVER THE INPUT: true; the input reads as it did. -/
def fnIndexStoreOrderSpec : ChangeSpec := { name := "fnIndexStoreOrder", fn := fun _ => fun
  | [d] => { results := [.lit (.bool true)], args := [d] }
  | _ => none }
def fnIndexStoreOrderRow : OpenClaim := { program := "ytjflgnaccghfmaagreatdoor", sum := "6dbce547dc611fa6f98e3ab661b0e3f89a1177206816cb07b7294b37ce36c073", func := "loop.example/resourcestore/laws.FnIndexStoreOrder", spec := "fnIndexStoreOrder", inPlace := ["internal/bytealg.abigen_runtime_cmpstring"], unfollowed := true, recurses := true, named := ["internal/strconv.uint64pow10", "math/bits.deBruijn32tab", "math/bits.deBruijn64tab"], apart := false, laid := [("math/bits.deBruijn32tab", laid_math_bits_deBruijn32tab), ("math/bits.deBruijn64tab", laid_math_bits_deBruijn64tab), ("internal/strconv.uint64pow10", laid_internal_strconv_uint64pow10)] }
def FnIndexStoreOrderSaid : Prop := fnIndexStoreOrderRow.holds Tryz.pinned (OpenSpec.ofChange fnIndexStoreOrderSpec)

/-- ITS FALSE NEIGHBOUR: 'it returns false'. Refute it at one input. -/
def fnIndexStoreOrderWrong : ChangeSpec := { name := "fnIndexStoreOrder", fn := fun _ => fun
  | [d] => { results := [.lit (.bool false)], args := [d] }
  | _ => none }
def FnIndexStoreOrderWrongFalsely : Prop := fnIndexStoreOrderRow.holds Tryz.pinned (OpenSpec.ofChange fnIndexStoreOrderWrong)

/-- 'laws.FnIndexStore': WHATEVER THE INPUT: true; the input reads as it did. -/
def fnIndexStoreSpec : ChangeSpec := { name := "fnIndexStore", fn := fun _ => fun
  | [d] => { results := [.lit (.bool true)], args := [d] }
  | _ => none }
def fnIndexStoreRow : OpenClaim := { program := "ytjflgnaccghfmaagreatdoor", sum := "6dbce547dc611fa6f98e3ab661b0e3f89a1177206816cb07b7294b37ce36c073", func := "loop.example/resourcestore/laws.FnIndexStore", spec := "fnIndexStore", inPlace := ["internal/bytealg.abigen_runtime_cmpstring"], unfollowed := true, recurses := true, named := ["internal/strconv.uint64pow10", "math/bits.deBruijn32tab", "math/bits.deBruijn64tab"], apart := false, laid := [("math/bits.deBruijn32tab", laid_math_bits_deBruijn32tab), ("math/bits.deBruijn64tab", laid_math_bits_deBruijn64tab), ("internal/strconv.uint64pow10", laid_internal_strconv_uint64pow10)] }
def FnIndexStoreSaid : Prop := fnIndexStoreRow.holds Tryz.pinned (OpenSpec.ofChange fnIndexStoreSpec)

/-- ITS FALSE NEIGHBOUR: 'it returns false'. Refute it at one input. -/
def fnIndexStoreWrong : ChangeSpec := { name := "fnIndexStore", fn := fun _ => fun
  | [d] => { results := [.lit (.bool false)], args := [d] }
  | _ => none }
def FnIndexStoreWrongFalsely : Prop := fnIndexStoreRow.holds Tryz.pinned (OpenSpec.ofChange fnIndexStoreWrong)

/-- 'laws.FnFindRangeScan': WHATEVER THE INPUT: true; the input reads as it did. -/
def fnFindRangeScanSpec : ChangeSpec := { name := "fnFindRangeScan", fn := fun _ => fun
  | [d] => { results := [.lit (.bool true)], args := [d] }
  | _ => none }
def fnFindRangeScanRow : OpenClaim := { program := "ytjflgnaccghfmaagreatdoor", sum := "6dbce547dc611fa6f98e3ab661b0e3f89a1177206816cb07b7294b37ce36c073", func := "loop.example/resourcestore/laws.FnFindRangeScan", spec := "fnFindRangeScan", inPlace := ["internal/bytealg.abigen_runtime_cmpstring"], unfollowed := true, recurses := true, named := ["internal/strconv.uint64pow10", "math/bits.deBruijn32tab", "math/bits.deBruijn64tab"], apart := false, laid := [("math/bits.deBruijn32tab", laid_math_bits_deBruijn32tab), ("math/bits.deBruijn64tab", laid_math_bits_deBruijn64tab), ("internal/strconv.uint64pow10", laid_internal_strconv_uint64pow10)] }
def FnFindRangeScanSaid : Prop := fnFindRangeScanRow.holds Tryz.pinned (OpenSpec.ofChange fnFindRangeScanSpec)

/-- ITS FALSE NEIGHBOUR: 'it returns false'. Refute it at one input. -/
def fnFindRangeScanWrong : ChangeSpec := { name := "fnFindRangeScan", fn := fun _ => fun
  | [d] => { results := [.lit (.bool false)], args := [d] }
  | _ => none }
def FnFindRangeScanWrongFalsely : Prop := fnFindRangeScanRow.holds Tryz.pinned (OpenSpec.ofChange fnFindRangeScanWrong)

/-- 'laws.FnIndexStorePut': WHATEVER THE INPUT: true; the input reads as it did. -/
def fnIndexStorePutSpec : ChangeSpec := { name := "fnIndexStorePut", fn := fun _ => fun
  | [d] => { results := [.lit (.bool true)], args := [d] }
  | _ => none }
def fnIndexStorePutRow : OpenClaim := { program := "ytjflgnaccghfmaagreatdoor", sum := "6dbce547dc611fa6f98e3ab661b0e3f89a1177206816cb07b7294b37ce36c073", func := "loop.example/resourcestore/laws.FnIndexStorePut", spec := "fnIndexStorePut", inPlace := ["internal/bytealg.abigen_runtime_cmpstring", "slices.overlaps[loop.example/resourcestore/impl.Item]"], unfollowed := true, recurses := true, named := ["internal/strconv.uint64pow10", "math/bits.deBruijn32tab", "math/bits.deBruijn64tab"], apart := false, laid := [("math/bits.deBruijn32tab", laid_math_bits_deBruijn32tab), ("math/bits.deBruijn64tab", laid_math_bits_deBruijn64tab), ("internal/strconv.uint64pow10", laid_internal_strconv_uint64pow10)] }
def FnIndexStorePutSaid : Prop := fnIndexStorePutRow.holds Tryz.pinned (OpenSpec.ofChange fnIndexStorePutSpec)

/-- ITS FALSE NEIGHBOUR: 'it returns false'. Refute it at one input. -/
def fnIndexStorePutWrong : ChangeSpec := { name := "fnIndexStorePut", fn := fun _ => fun
  | [d] => { results := [.lit (.bool false)], args := [d] }
  | _ => none }
def FnIndexStorePutWrongFalsely : Prop := fnIndexStorePutRow.holds Tryz.pinned (OpenSpec.ofChange fnIndexStorePutWrong)

/- THE SECOND FORM. 'bulk': how many values and letters a reading holds, each counted each time it is reached (what is shared counts as often as it is met; a slice's spare places count too). A statement '..UptoSaid' is the law's where the arguments, and the package variables that the reading takes, are together of bulk at most 1048576: NARROWER than '..Said'. Prove '..Said' where nothing that the law and all that it calls make is longer than what came in: it says more and counts as full. Else prove '..UptoSaid'. A law counts once. -/
mutual
def uptoBulk {H : Type} : DataW H → Nat
  | .lit (.string bytes) => bytes.length + 1
  | .lit _ => 1
  | .nil => 1
  | .ptr d => uptoBulk d + 1
  | .slice elems spare => uptoBulkAll elems + uptoBulkAll spare + 1
  | .agg parts => uptoBulkAll parts + 1
  | .iface _ d => uptoBulk d + 1
  | .map entries => uptoBulkEntries entries + 1
  | .held _ => 1
def uptoBulkAll {H : Type} : List (DataW H) → Nat
  | [] => 0
  | d :: r => uptoBulk d + uptoBulkAll r
def uptoBulkEntries {H : Type} : List (Lit × DataW H) → Nat
  | [] => 0
  | x :: r => uptoBulkEntry x + uptoBulkEntries r
def uptoBulkEntry {H : Type} : Lit × DataW H → Nat
  | (.string bytes, d) => bytes.length + uptoBulk d + 1
  | (_, d) => uptoBulk d + 1
 end
def uptoSmall : (H : Type) → List (DataW H) → Bool := fun _ ds => decide (uptoBulkAll ds ≤ 1048576)
def OpenSpec.upto (s : _root_.Go.ChangeSpec) : _root_.Go.OpenSpec := { _root_.Go.OpenSpec.ofChange s with cond := some uptoSmall }

/-- 'laws.FnDiffSize', WHERE WHAT IT READS IS OF BULK AT MOST 1048576: true; the input reads as it did. -/
def fnDiffSizeUptoRow : OpenClaim := { program := "ytjflgnaccghfmaagreatdoor", sum := "6dbce547dc611fa6f98e3ab661b0e3f89a1177206816cb07b7294b37ce36c073", func := "loop.example/resourcestore/laws.FnDiffSize", spec := "fnDiffSize", inPlace := ["internal/bytealg.abigen_runtime_cmpstring", "slices.overlaps[string]", "slices.overlaps[loop.example/resourcestore/impl.Node]"], unfollowed := true, recurses := true, named := ["internal/strconv.uint64pow10", "math/bits.deBruijn32tab", "math/bits.deBruijn64tab"], apart := false, laid := [("math/bits.deBruijn32tab", laid_math_bits_deBruijn32tab), ("math/bits.deBruijn64tab", laid_math_bits_deBruijn64tab), ("internal/strconv.uint64pow10", laid_internal_strconv_uint64pow10)], narrowed := true }
def FnDiffSizeUptoSaid : Prop := fnDiffSizeUptoRow.holds Tryz.pinned (OpenSpec.upto fnDiffSizeSpec)

/-- 'laws.FnDiffNodesMerge', WHERE WHAT IT READS IS OF BULK AT MOST 1048576: true; the input reads as it did. -/
def fnDiffNodesMergeUptoRow : OpenClaim := { program := "ytjflgnaccghfmaagreatdoor", sum := "6dbce547dc611fa6f98e3ab661b0e3f89a1177206816cb07b7294b37ce36c073", func := "loop.example/resourcestore/laws.FnDiffNodesMerge", spec := "fnDiffNodesMerge", inPlace := ["slices.overlaps[string]", "slices.overlaps[loop.example/resourcestore/impl.Node]", "internal/bytealg.abigen_runtime_cmpstring"], unfollowed := true, recurses := true, named := ["internal/strconv.uint64pow10", "math/bits.deBruijn32tab", "math/bits.deBruijn64tab"], apart := false, laid := [("math/bits.deBruijn32tab", laid_math_bits_deBruijn32tab), ("math/bits.deBruijn64tab", laid_math_bits_deBruijn64tab), ("internal/strconv.uint64pow10", laid_internal_strconv_uint64pow10)], narrowed := true }
def FnDiffNodesMergeUptoSaid : Prop := fnDiffNodesMergeUptoRow.holds Tryz.pinned (OpenSpec.upto fnDiffNodesMergeSpec)

/-- 'laws.FnDiffNodes', WHERE WHAT IT READS IS OF BULK AT MOST 1048576: true; the input reads as it did. -/
def fnDiffNodesUptoRow : OpenClaim := { program := "ytjflgnaccghfmaagreatdoor", sum := "6dbce547dc611fa6f98e3ab661b0e3f89a1177206816cb07b7294b37ce36c073", func := "loop.example/resourcestore/laws.FnDiffNodes", spec := "fnDiffNodes", inPlace := ["internal/bytealg.abigen_runtime_cmpstring", "slices.overlaps[string]", "slices.overlaps[loop.example/resourcestore/impl.Node]"], unfollowed := true, recurses := true, named := ["internal/strconv.uint64pow10", "math/bits.deBruijn32tab", "math/bits.deBruijn64tab"], apart := false, laid := [("math/bits.deBruijn32tab", laid_math_bits_deBruijn32tab), ("math/bits.deBruijn64tab", laid_math_bits_deBruijn64tab), ("internal/strconv.uint64pow10", laid_internal_strconv_uint64pow10)], narrowed := true }
def FnDiffNodesUptoSaid : Prop := fnDiffNodesUptoRow.holds Tryz.pinned (OpenSpec.upto fnDiffNodesSpec)

/-- 'laws.FnDiffNodesKinds', WHERE WHAT IT READS IS OF BULK AT MOST 1048576: true; the input reads as it did. -/
def fnDiffNodesKindsUptoRow : OpenClaim := { program := "ytjflgnaccghfmaagreatdoor", sum := "6dbce547dc611fa6f98e3ab661b0e3f89a1177206816cb07b7294b37ce36c073", func := "loop.example/resourcestore/laws.FnDiffNodesKinds", spec := "fnDiffNodesKinds", inPlace := ["internal/bytealg.abigen_runtime_cmpstring", "slices.overlaps[string]", "slices.overlaps[loop.example/resourcestore/impl.Node]"], unfollowed := true, recurses := true, named := ["internal/strconv.uint64pow10", "math/bits.deBruijn32tab", "math/bits.deBruijn64tab"], apart := false, laid := [("math/bits.deBruijn32tab", laid_math_bits_deBruijn32tab), ("math/bits.deBruijn64tab", laid_math_bits_deBruijn64tab), ("internal/strconv.uint64pow10", laid_internal_strconv_uint64pow10)], narrowed := true }
def FnDiffNodesKindsUptoSaid : Prop := fnDiffNodesKindsUptoRow.holds Tryz.pinned (OpenSpec.upto fnDiffNodesKindsSpec)

/-- 'laws.FnDiffNodesSame', WHERE WHAT IT READS IS OF BULK AT MOST 1048576: true; the input reads as it did. -/
def fnDiffNodesSameUptoRow : OpenClaim := { program := "ytjflgnaccghfmaagreatdoor", sum := "6dbce547dc611fa6f98e3ab661b0e3f89a1177206816cb07b7294b37ce36c073", func := "loop.example/resourcestore/laws.FnDiffNodesSame", spec := "fnDiffNodesSame", inPlace := ["internal/bytealg.abigen_runtime_cmpstring", "slices.overlaps[string]", "slices.overlaps[loop.example/resourcestore/impl.Node]"], unfollowed := true, recurses := true, named := ["internal/strconv.uint64pow10", "math/bits.deBruijn32tab", "math/bits.deBruijn64tab"], apart := false, laid := [("math/bits.deBruijn32tab", laid_math_bits_deBruijn32tab), ("math/bits.deBruijn64tab", laid_math_bits_deBruijn64tab), ("internal/strconv.uint64pow10", laid_internal_strconv_uint64pow10)], narrowed := true }
def FnDiffNodesSameUptoSaid : Prop := fnDiffNodesSameUptoRow.holds Tryz.pinned (OpenSpec.upto fnDiffNodesSameSpec)

/-- 'laws.FnIndexStoreOrder', WHERE WHAT IT READS IS OF BULK AT MOST 1048576: true; the input reads as it did. -/
def fnIndexStoreOrderUptoRow : OpenClaim := { program := "ytjflgnaccghfmaagreatdoor", sum := "6dbce547dc611fa6f98e3ab661b0e3f89a1177206816cb07b7294b37ce36c073", func := "loop.example/resourcestore/laws.FnIndexStoreOrder", spec := "fnIndexStoreOrder", inPlace := ["internal/bytealg.abigen_runtime_cmpstring"], unfollowed := true, recurses := true, named := ["internal/strconv.uint64pow10", "math/bits.deBruijn32tab", "math/bits.deBruijn64tab"], apart := false, laid := [("math/bits.deBruijn32tab", laid_math_bits_deBruijn32tab), ("math/bits.deBruijn64tab", laid_math_bits_deBruijn64tab), ("internal/strconv.uint64pow10", laid_internal_strconv_uint64pow10)], narrowed := true }
def FnIndexStoreOrderUptoSaid : Prop := fnIndexStoreOrderUptoRow.holds Tryz.pinned (OpenSpec.upto fnIndexStoreOrderSpec)

/-- 'laws.FnIndexStore', WHERE WHAT IT READS IS OF BULK AT MOST 1048576: true; the input reads as it did. -/
def fnIndexStoreUptoRow : OpenClaim := { program := "ytjflgnaccghfmaagreatdoor", sum := "6dbce547dc611fa6f98e3ab661b0e3f89a1177206816cb07b7294b37ce36c073", func := "loop.example/resourcestore/laws.FnIndexStore", spec := "fnIndexStore", inPlace := ["internal/bytealg.abigen_runtime_cmpstring"], unfollowed := true, recurses := true, named := ["internal/strconv.uint64pow10", "math/bits.deBruijn32tab", "math/bits.deBruijn64tab"], apart := false, laid := [("math/bits.deBruijn32tab", laid_math_bits_deBruijn32tab), ("math/bits.deBruijn64tab", laid_math_bits_deBruijn64tab), ("internal/strconv.uint64pow10", laid_internal_strconv_uint64pow10)], narrowed := true }
def FnIndexStoreUptoSaid : Prop := fnIndexStoreUptoRow.holds Tryz.pinned (OpenSpec.upto fnIndexStoreSpec)

/-- 'laws.FnFindRangeScan', WHERE WHAT IT READS IS OF BULK AT MOST 1048576: true; the input reads as it did. -/
def fnFindRangeScanUptoRow : OpenClaim := { program := "ytjflgnaccghfmaagreatdoor", sum := "6dbce547dc611fa6f98e3ab661b0e3f89a1177206816cb07b7294b37ce36c073", func := "loop.example/resourcestore/laws.FnFindRangeScan", spec := "fnFindRangeScan", inPlace := ["internal/bytealg.abigen_runtime_cmpstring"], unfollowed := true, recurses := true, named := ["internal/strconv.uint64pow10", "math/bits.deBruijn32tab", "math/bits.deBruijn64tab"], apart := false, laid := [("math/bits.deBruijn32tab", laid_math_bits_deBruijn32tab), ("math/bits.deBruijn64tab", laid_math_bits_deBruijn64tab), ("internal/strconv.uint64pow10", laid_internal_strconv_uint64pow10)], narrowed := true }
def FnFindRangeScanUptoSaid : Prop := fnFindRangeScanUptoRow.holds Tryz.pinned (OpenSpec.upto fnFindRangeScanSpec)

/-- 'laws.FnIndexStorePut', WHERE WHAT IT READS IS OF BULK AT MOST 1048576: true; the input reads as it did. -/
def fnIndexStorePutUptoRow : OpenClaim := { program := "ytjflgnaccghfmaagreatdoor", sum := "6dbce547dc611fa6f98e3ab661b0e3f89a1177206816cb07b7294b37ce36c073", func := "loop.example/resourcestore/laws.FnIndexStorePut", spec := "fnIndexStorePut", inPlace := ["internal/bytealg.abigen_runtime_cmpstring", "slices.overlaps[loop.example/resourcestore/impl.Item]"], unfollowed := true, recurses := true, named := ["internal/strconv.uint64pow10", "math/bits.deBruijn32tab", "math/bits.deBruijn64tab"], apart := false, laid := [("math/bits.deBruijn32tab", laid_math_bits_deBruijn32tab), ("math/bits.deBruijn64tab", laid_math_bits_deBruijn64tab), ("internal/strconv.uint64pow10", laid_internal_strconv_uint64pow10)], narrowed := true }
def FnIndexStorePutUptoSaid : Prop := fnIndexStorePutUptoRow.holds Tryz.pinned (OpenSpec.upto fnIndexStorePutSpec)

end Rows
end Go.Proofs.YtjflgnaccghfmaaGreatDoor
