/-
  NARROWER THAN 'FOR EVERY INPUT', by the rows' own cells (each row's printed sentence says how): FnHandleRequestGet: laid · FnHandleRequestPatch: laid · FnHandleRequestTwice: laid · FnRunRequestsOne: laid · FnRunRequests: laid · FnRunBatch: laid · FnRunBatchGood: laid · FnRunBatchNone: laid · FnTouches: laid.
  DERIVED. THE GIVEN ROWS OF THIS SEAT. 9 by the template 'for every input the law returns true; each argument reads behind the call as it read before'; 0 by the template 'total and deterministic' (their statements: YtaejlonmildglaaGreatDoorTotals.lean).
  GIVEN WITH THE SEED: the statements are not yours to turn. If you find one false, say at which input.
  Laid BY PROGRAM, IN A SANDBOX (cutbox-rows.mjs): the forced cells as the released guide's own fill.sh prints them over the translation 3809e9f70a49b98b… (all of the seat's roots in one cut). By AI agents, Wed Nov 11 2026. No macro, syntax, notation, axiom, sorry.
-/
import Derived.Test.YtaejlonmildglaaGreatDoorChecked
import GoSem.Claim
import GoSem.ClaimJoined
import GoSem.ClaimMapViews
import Derived.JoinedTies
import Derived.KernelRfl
namespace Go.Proofs.YtaejlonmildglaaGreatDoor
/- THE CELL 'sum', in the pinned program and in every row, IS THE sha256 OF THE DUMP (.gsa) THAT YtaejlonmildglaaGreatDoorProg.lean LOADS. Nothing in Lean hashes anything: it is a label: what it is worth is what the hold of that sum in a sandbox is worth. -/
noncomputable def Tryz.pinned : Pinned := { name := "ytaejlonmildglaagreatdoor", sum := "3809e9f70a49b98b98874d3f7cd3bcbf84434a72eed7e368a65eb11d644ffe33", checked := Tryz.checked }
namespace Rows
def none {H : Type} : Left H := { results := [], args := [] }

/- WHAT THE LISTED PACKAGE-LEVEL VARIABLES READ AS WHEN THE CALL BEGINS. Each datum BY PROGRAM (the guide's laid-datum.mjs) off the statement by which the dump's own 'gosem.cut.vars' lays the variable. In a bare row this is a premise. The card (YtaejlonmildglaaGreatDoorCards.lean) ties it to the program's text. -/
def laid_math_bits_deBruijn32tab {H : Type} : DataW H := .agg [.lit (.int .u8 0), .lit (.int .u8 1), .lit (.int .u8 28), .lit (.int .u8 2), .lit (.int .u8 29), .lit (.int .u8 14), .lit (.int .u8 24), .lit (.int .u8 3), .lit (.int .u8 30), .lit (.int .u8 22), .lit (.int .u8 20), .lit (.int .u8 15), .lit (.int .u8 25), .lit (.int .u8 17), .lit (.int .u8 4), .lit (.int .u8 8), .lit (.int .u8 31), .lit (.int .u8 27), .lit (.int .u8 13), .lit (.int .u8 23), .lit (.int .u8 21), .lit (.int .u8 19), .lit (.int .u8 16), .lit (.int .u8 7), .lit (.int .u8 26), .lit (.int .u8 12), .lit (.int .u8 18), .lit (.int .u8 6), .lit (.int .u8 11), .lit (.int .u8 5), .lit (.int .u8 10), .lit (.int .u8 9)]
def laid_math_bits_deBruijn64tab {H : Type} : DataW H := .agg [.lit (.int .u8 0), .lit (.int .u8 1), .lit (.int .u8 56), .lit (.int .u8 2), .lit (.int .u8 57), .lit (.int .u8 49), .lit (.int .u8 28), .lit (.int .u8 3), .lit (.int .u8 61), .lit (.int .u8 58), .lit (.int .u8 42), .lit (.int .u8 50), .lit (.int .u8 38), .lit (.int .u8 29), .lit (.int .u8 17), .lit (.int .u8 4), .lit (.int .u8 62), .lit (.int .u8 47), .lit (.int .u8 59), .lit (.int .u8 36), .lit (.int .u8 45), .lit (.int .u8 43), .lit (.int .u8 51), .lit (.int .u8 22), .lit (.int .u8 53), .lit (.int .u8 39), .lit (.int .u8 33), .lit (.int .u8 30), .lit (.int .u8 24), .lit (.int .u8 18), .lit (.int .u8 12), .lit (.int .u8 5), .lit (.int .u8 63), .lit (.int .u8 55), .lit (.int .u8 48), .lit (.int .u8 27), .lit (.int .u8 60), .lit (.int .u8 41), .lit (.int .u8 37), .lit (.int .u8 16), .lit (.int .u8 46), .lit (.int .u8 35), .lit (.int .u8 44), .lit (.int .u8 21), .lit (.int .u8 52), .lit (.int .u8 32), .lit (.int .u8 23), .lit (.int .u8 11), .lit (.int .u8 54), .lit (.int .u8 26), .lit (.int .u8 40), .lit (.int .u8 15), .lit (.int .u8 34), .lit (.int .u8 20), .lit (.int .u8 31), .lit (.int .u8 10), .lit (.int .u8 25), .lit (.int .u8 14), .lit (.int .u8 19), .lit (.int .u8 9), .lit (.int .u8 13), .lit (.int .u8 8), .lit (.int .u8 7), .lit (.int .u8 6)]
def laid_internal_strconv_uint64pow10 {H : Type} : DataW H := .agg [.lit (.int .u64 1), .lit (.int .u64 10), .lit (.int .u64 100), .lit (.int .u64 1000), .lit (.int .u64 10000), .lit (.int .u64 100000), .lit (.int .u64 1000000), .lit (.int .u64 10000000), .lit (.int .u64 100000000), .lit (.int .u64 1000000000), .lit (.int .u64 10000000000), .lit (.int .u64 100000000000), .lit (.int .u64 1000000000000), .lit (.int .u64 10000000000000), .lit (.int .u64 100000000000000), .lit (.int .u64 1000000000000000), .lit (.int .u64 10000000000000000), .lit (.int .u64 100000000000000000), .lit (.int .u64 1000000000000000000), .lit (.int .u64 10000000000000000000)]

/-- 'laws.FnHandleRequestGet': WHATEVER THE INPUT: true; the input reads as it did. -/
def fnHandleRequestGetSpec : ChangeSpec := { name := "fnHandleRequestGet", fn := fun _ => fun
  | [d] => { results := [.lit (.bool true)], args := [d] }
  | _ => none }
def fnHandleRequestGetRow : OpenClaim := { program := "ytaejlonmildglaagreatdoor", sum := "3809e9f70a49b98b98874d3f7cd3bcbf84434a72eed7e368a65eb11d644ffe33", func := "loop.example/resourcestore/laws.FnHandleRequestGet", spec := "fnHandleRequestGet", inPlace := ["internal/bytealg.IndexByteString", "internal/bytealg.abigen_runtime_cmpstring", "internal/abi.NoEscape", "slices.overlaps[string]", "slices.overlaps[loop.example/resourcestore/impl.Node]", "slices.overlaps[loop.example/resourcestore/impl.Item]"], unfollowed := true, recurses := true, named := ["internal/strconv.uint64pow10", "math/bits.deBruijn32tab", "math/bits.deBruijn64tab"], apart := false, laid := [("math/bits.deBruijn32tab", laid_math_bits_deBruijn32tab), ("math/bits.deBruijn64tab", laid_math_bits_deBruijn64tab), ("internal/strconv.uint64pow10", laid_internal_strconv_uint64pow10)] }
def FnHandleRequestGetSaid : Prop := fnHandleRequestGetRow.holds Tryz.pinned (OpenSpec.ofChange fnHandleRequestGetSpec)

/-- ITS FALSE NEIGHBOUR: 'it returns false'. Refute it at one input. -/
def fnHandleRequestGetWrong : ChangeSpec := { name := "fnHandleRequestGet", fn := fun _ => fun
  | [d] => { results := [.lit (.bool false)], args := [d] }
  | _ => none }
def FnHandleRequestGetWrongFalsely : Prop := fnHandleRequestGetRow.holds Tryz.pinned (OpenSpec.ofChange fnHandleRequestGetWrong)

/-- 'laws.FnHandleRequestPatch': WHATEVER THE INPUT: true; the input reads as it did. -/
def fnHandleRequestPatchSpec : ChangeSpec := { name := "fnHandleRequestPatch", fn := fun _ => fun
  | [d] => { results := [.lit (.bool true)], args := [d] }
  | _ => none }
def fnHandleRequestPatchRow : OpenClaim := { program := "ytaejlonmildglaagreatdoor", sum := "3809e9f70a49b98b98874d3f7cd3bcbf84434a72eed7e368a65eb11d644ffe33", func := "loop.example/resourcestore/laws.FnHandleRequestPatch", spec := "fnHandleRequestPatch", inPlace := ["internal/bytealg.IndexByteString", "internal/bytealg.abigen_runtime_cmpstring", "internal/abi.NoEscape", "slices.overlaps[string]", "slices.overlaps[loop.example/resourcestore/impl.Node]", "slices.overlaps[loop.example/resourcestore/impl.Item]"], unfollowed := true, recurses := true, named := ["internal/strconv.uint64pow10", "math/bits.deBruijn32tab", "math/bits.deBruijn64tab"], apart := false, laid := [("math/bits.deBruijn32tab", laid_math_bits_deBruijn32tab), ("math/bits.deBruijn64tab", laid_math_bits_deBruijn64tab), ("internal/strconv.uint64pow10", laid_internal_strconv_uint64pow10)] }
def FnHandleRequestPatchSaid : Prop := fnHandleRequestPatchRow.holds Tryz.pinned (OpenSpec.ofChange fnHandleRequestPatchSpec)

/-- ITS FALSE NEIGHBOUR: 'it returns false'. Refute it at one input. -/
def fnHandleRequestPatchWrong : ChangeSpec := { name := "fnHandleRequestPatch", fn := fun _ => fun
  | [d] => { results := [.lit (.bool false)], args := [d] }
  | _ => none }
def FnHandleRequestPatchWrongFalsely : Prop := fnHandleRequestPatchRow.holds Tryz.pinned (OpenSpec.ofChange fnHandleRequestPatchWrong)

/-- 'laws.FnHandleRequestTwice': WHATEVER THE INPUT: true; the input reads as it did. -/
def fnHandleRequestTwiceSpec : ChangeSpec := { name := "fnHandleRequestTwice", fn := fun _ => fun
  | [d] => { results := [.lit (.bool true)], args := [d] }
  | _ => none }
def fnHandleRequestTwiceRow : OpenClaim := { program := "ytaejlonmildglaagreatdoor", sum := "3809e9f70a49b98b98874d3f7cd3bcbf84434a72eed7e368a65eb11d644ffe33", func := "loop.example/resourcestore/laws.FnHandleRequestTwice", spec := "fnHandleRequestTwice", inPlace := ["internal/bytealg.IndexByteString", "internal/bytealg.abigen_runtime_cmpstring", "internal/abi.NoEscape", "slices.overlaps[string]", "slices.overlaps[loop.example/resourcestore/impl.Node]", "slices.overlaps[loop.example/resourcestore/impl.Item]"], unfollowed := true, recurses := true, named := ["internal/strconv.uint64pow10", "math/bits.deBruijn32tab", "math/bits.deBruijn64tab"], apart := false, laid := [("math/bits.deBruijn32tab", laid_math_bits_deBruijn32tab), ("math/bits.deBruijn64tab", laid_math_bits_deBruijn64tab), ("internal/strconv.uint64pow10", laid_internal_strconv_uint64pow10)] }
def FnHandleRequestTwiceSaid : Prop := fnHandleRequestTwiceRow.holds Tryz.pinned (OpenSpec.ofChange fnHandleRequestTwiceSpec)

/-- ITS FALSE NEIGHBOUR: 'it returns false'. Refute it at one input. -/
def fnHandleRequestTwiceWrong : ChangeSpec := { name := "fnHandleRequestTwice", fn := fun _ => fun
  | [d] => { results := [.lit (.bool false)], args := [d] }
  | _ => none }
def FnHandleRequestTwiceWrongFalsely : Prop := fnHandleRequestTwiceRow.holds Tryz.pinned (OpenSpec.ofChange fnHandleRequestTwiceWrong)

/-- 'laws.FnRunRequestsOne': WHATEVER THE INPUT: true; the input reads as it did. -/
def fnRunRequestsOneSpec : ChangeSpec := { name := "fnRunRequestsOne", fn := fun _ => fun
  | [d] => { results := [.lit (.bool true)], args := [d] }
  | _ => none }
def fnRunRequestsOneRow : OpenClaim := { program := "ytaejlonmildglaagreatdoor", sum := "3809e9f70a49b98b98874d3f7cd3bcbf84434a72eed7e368a65eb11d644ffe33", func := "loop.example/resourcestore/laws.FnRunRequestsOne", spec := "fnRunRequestsOne", inPlace := ["internal/bytealg.IndexByteString", "internal/bytealg.abigen_runtime_cmpstring", "internal/abi.NoEscape", "slices.overlaps[string]", "slices.overlaps[loop.example/resourcestore/impl.Node]", "slices.overlaps[loop.example/resourcestore/impl.Item]"], unfollowed := true, recurses := true, named := ["internal/strconv.uint64pow10", "math/bits.deBruijn32tab", "math/bits.deBruijn64tab"], apart := false, laid := [("math/bits.deBruijn32tab", laid_math_bits_deBruijn32tab), ("math/bits.deBruijn64tab", laid_math_bits_deBruijn64tab), ("internal/strconv.uint64pow10", laid_internal_strconv_uint64pow10)] }
def FnRunRequestsOneSaid : Prop := fnRunRequestsOneRow.holds Tryz.pinned (OpenSpec.ofChange fnRunRequestsOneSpec)

/-- ITS FALSE NEIGHBOUR: 'it returns false'. Refute it at one input. -/
def fnRunRequestsOneWrong : ChangeSpec := { name := "fnRunRequestsOne", fn := fun _ => fun
  | [d] => { results := [.lit (.bool false)], args := [d] }
  | _ => none }
def FnRunRequestsOneWrongFalsely : Prop := fnRunRequestsOneRow.holds Tryz.pinned (OpenSpec.ofChange fnRunRequestsOneWrong)

/-- 'laws.FnRunRequests': WHATEVER THE INPUT: true; the input reads as it did. -/
def fnRunRequestsSpec : ChangeSpec := { name := "fnRunRequests", fn := fun _ => fun
  | [d] => { results := [.lit (.bool true)], args := [d] }
  | _ => none }
def fnRunRequestsRow : OpenClaim := { program := "ytaejlonmildglaagreatdoor", sum := "3809e9f70a49b98b98874d3f7cd3bcbf84434a72eed7e368a65eb11d644ffe33", func := "loop.example/resourcestore/laws.FnRunRequests", spec := "fnRunRequests", inPlace := ["internal/bytealg.IndexByteString", "internal/bytealg.abigen_runtime_cmpstring", "internal/abi.NoEscape", "slices.overlaps[string]", "slices.overlaps[loop.example/resourcestore/impl.Node]", "slices.overlaps[loop.example/resourcestore/impl.Item]"], unfollowed := true, recurses := true, named := ["internal/strconv.uint64pow10", "math/bits.deBruijn32tab", "math/bits.deBruijn64tab"], apart := false, laid := [("math/bits.deBruijn32tab", laid_math_bits_deBruijn32tab), ("math/bits.deBruijn64tab", laid_math_bits_deBruijn64tab), ("internal/strconv.uint64pow10", laid_internal_strconv_uint64pow10)] }
def FnRunRequestsSaid : Prop := fnRunRequestsRow.holds Tryz.pinned (OpenSpec.ofChange fnRunRequestsSpec)

/-- ITS FALSE NEIGHBOUR: 'it returns false'. Refute it at one input. -/
def fnRunRequestsWrong : ChangeSpec := { name := "fnRunRequests", fn := fun _ => fun
  | [d] => { results := [.lit (.bool false)], args := [d] }
  | _ => none }
def FnRunRequestsWrongFalsely : Prop := fnRunRequestsRow.holds Tryz.pinned (OpenSpec.ofChange fnRunRequestsWrong)

/-- 'laws.FnRunBatch': WHATEVER THE INPUT: true; the input reads as it did. -/
def fnRunBatchSpec : ChangeSpec := { name := "fnRunBatch", fn := fun _ => fun
  | [d] => { results := [.lit (.bool true)], args := [d] }
  | _ => none }
def fnRunBatchRow : OpenClaim := { program := "ytaejlonmildglaagreatdoor", sum := "3809e9f70a49b98b98874d3f7cd3bcbf84434a72eed7e368a65eb11d644ffe33", func := "loop.example/resourcestore/laws.FnRunBatch", spec := "fnRunBatch", inPlace := ["internal/bytealg.IndexByteString", "internal/bytealg.abigen_runtime_cmpstring", "internal/abi.NoEscape", "slices.overlaps[string]", "slices.overlaps[loop.example/resourcestore/impl.Node]", "slices.overlaps[loop.example/resourcestore/impl.Item]"], unfollowed := true, recurses := true, named := ["internal/strconv.uint64pow10", "math/bits.deBruijn32tab", "math/bits.deBruijn64tab"], apart := false, laid := [("math/bits.deBruijn32tab", laid_math_bits_deBruijn32tab), ("math/bits.deBruijn64tab", laid_math_bits_deBruijn64tab), ("internal/strconv.uint64pow10", laid_internal_strconv_uint64pow10)] }
def FnRunBatchSaid : Prop := fnRunBatchRow.holds Tryz.pinned (OpenSpec.ofChange fnRunBatchSpec)

/-- ITS FALSE NEIGHBOUR: 'it returns false'. Refute it at one input. -/
def fnRunBatchWrong : ChangeSpec := { name := "fnRunBatch", fn := fun _ => fun
  | [d] => { results := [.lit (.bool false)], args := [d] }
  | _ => none }
def FnRunBatchWrongFalsely : Prop := fnRunBatchRow.holds Tryz.pinned (OpenSpec.ofChange fnRunBatchWrong)

/-- 'laws.FnRunBatchGood': WHATEVER THE INPUT: true; the input reads as it did. -/
def fnRunBatchGoodSpec : ChangeSpec := { name := "fnRunBatchGood", fn := fun _ => fun
  | [d] => { results := [.lit (.bool true)], args := [d] }
  | _ => none }
def fnRunBatchGoodRow : OpenClaim := { program := "ytaejlonmildglaagreatdoor", sum := "3809e9f70a49b98b98874d3f7cd3bcbf84434a72eed7e368a65eb11d644ffe33", func := "loop.example/resourcestore/laws.FnRunBatchGood", spec := "fnRunBatchGood", inPlace := ["internal/bytealg.IndexByteString", "internal/bytealg.abigen_runtime_cmpstring", "internal/abi.NoEscape", "slices.overlaps[string]", "slices.overlaps[loop.example/resourcestore/impl.Node]", "slices.overlaps[loop.example/resourcestore/impl.Item]"], unfollowed := true, recurses := true, named := ["internal/strconv.uint64pow10", "math/bits.deBruijn32tab", "math/bits.deBruijn64tab"], apart := false, laid := [("math/bits.deBruijn32tab", laid_math_bits_deBruijn32tab), ("math/bits.deBruijn64tab", laid_math_bits_deBruijn64tab), ("internal/strconv.uint64pow10", laid_internal_strconv_uint64pow10)] }
def FnRunBatchGoodSaid : Prop := fnRunBatchGoodRow.holds Tryz.pinned (OpenSpec.ofChange fnRunBatchGoodSpec)

/-- ITS FALSE NEIGHBOUR: 'it returns false'. Refute it at one input. -/
def fnRunBatchGoodWrong : ChangeSpec := { name := "fnRunBatchGood", fn := fun _ => fun
  | [d] => { results := [.lit (.bool false)], args := [d] }
  | _ => none }
def FnRunBatchGoodWrongFalsely : Prop := fnRunBatchGoodRow.holds Tryz.pinned (OpenSpec.ofChange fnRunBatchGoodWrong)

/-- 'laws.FnRunBatchNone': WHATEVER THE INPUT: true; the input reads as it did. -/
def fnRunBatchNoneSpec : ChangeSpec := { name := "fnRunBatchNone", fn := fun _ => fun
  | [d] => { results := [.lit (.bool true)], args := [d] }
  | _ => none }
def fnRunBatchNoneRow : OpenClaim := { program := "ytaejlonmildglaagreatdoor", sum := "3809e9f70a49b98b98874d3f7cd3bcbf84434a72eed7e368a65eb11d644ffe33", func := "loop.example/resourcestore/laws.FnRunBatchNone", spec := "fnRunBatchNone", inPlace := ["internal/bytealg.IndexByteString", "internal/bytealg.abigen_runtime_cmpstring", "internal/abi.NoEscape", "slices.overlaps[string]", "slices.overlaps[loop.example/resourcestore/impl.Node]", "slices.overlaps[loop.example/resourcestore/impl.Item]"], unfollowed := true, recurses := true, named := ["internal/strconv.uint64pow10", "math/bits.deBruijn32tab", "math/bits.deBruijn64tab"], apart := false, laid := [("math/bits.deBruijn32tab", laid_math_bits_deBruijn32tab), ("math/bits.deBruijn64tab", laid_math_bits_deBruijn64tab), ("internal/strconv.uint64pow10", laid_internal_strconv_uint64pow10)] }
def FnRunBatchNoneSaid : Prop := fnRunBatchNoneRow.holds Tryz.pinned (OpenSpec.ofChange fnRunBatchNoneSpec)

/-- ITS FALSE NEIGHBOUR: 'it returns false'. Refute it at one input. -/
def fnRunBatchNoneWrong : ChangeSpec := { name := "fnRunBatchNone", fn := fun _ => fun
  | [d] => { results := [.lit (.bool false)], args := [d] }
  | _ => none }
def FnRunBatchNoneWrongFalsely : Prop := fnRunBatchNoneRow.holds Tryz.pinned (OpenSpec.ofChange fnRunBatchNoneWrong)

/-- 'laws.FnTouches': WHATEVER THE INPUT: true; the input reads as it did. -/
def fnTouchesSpec : ChangeSpec := { name := "fnTouches", fn := fun _ => fun
  | [d] => { results := [.lit (.bool true)], args := [d] }
  | _ => none }
def fnTouchesRow : OpenClaim := { program := "ytaejlonmildglaagreatdoor", sum := "3809e9f70a49b98b98874d3f7cd3bcbf84434a72eed7e368a65eb11d644ffe33", func := "loop.example/resourcestore/laws.FnTouches", spec := "fnTouches", inPlace := ["internal/bytealg.IndexByteString", "internal/bytealg.abigen_runtime_cmpstring", "internal/abi.NoEscape", "slices.overlaps[string]", "slices.overlaps[loop.example/resourcestore/impl.Node]", "slices.overlaps[loop.example/resourcestore/impl.Item]"], unfollowed := true, recurses := true, named := ["internal/strconv.uint64pow10", "math/bits.deBruijn32tab", "math/bits.deBruijn64tab"], apart := false, laid := [("math/bits.deBruijn32tab", laid_math_bits_deBruijn32tab), ("math/bits.deBruijn64tab", laid_math_bits_deBruijn64tab), ("internal/strconv.uint64pow10", laid_internal_strconv_uint64pow10)] }
def FnTouchesSaid : Prop := fnTouchesRow.holds Tryz.pinned (OpenSpec.ofChange fnTouchesSpec)

/-- ITS FALSE NEIGHBOUR: 'it returns false'. Refute it at one input. -/
def fnTouchesWrong : ChangeSpec := { name := "fnTouches", fn := fun _ => fun
  | [d] => { results := [.lit (.bool false)], args := [d] }
  | _ => none }
def FnTouchesWrongFalsely : Prop := fnTouchesRow.holds Tryz.pinned (OpenSpec.ofChange fnTouchesWrong)

/- THE SECOND FORM. 'bulk': how many values and letters a reading holds, each counted each time it is reached (what is shared counts as often as it is met; a slice's spare places count too). A statement '..UptoSaid' is the law's where the arguments, and the package variables that the reading takes, are together of bulk at most 1048576: NARROWER than '..Said'. Prove '..Said' where nothing that the law and all that it calls make is longer than what came in: it says more and counts as full. Else prove '..UptoSaid'. A law counts once. -/
mutual
def uptoBulk {H : Type} : DataW H → Nat
  | .lit (.string bytes) => bytes.length + 1
  | .lit _ => 1
  | .nil => 1
  | .ptr d => uptoBulk d + 1
  | .slice elems spare => uptoBulkAll elems + uptoBulkAll spare + 1
  | .agg parts => uptoBulkAll parts + 1
  | .iface _ d => uptoBulk d + 1
  | .map entries => uptoBulkEntries entries + 1
  | .held _ => 1
def uptoBulkAll {H : Type} : List (DataW H) → Nat
  | [] => 0
  | d :: r => uptoBulk d + uptoBulkAll r
def uptoBulkEntries {H : Type} : List (Lit × DataW H) → Nat
  | [] => 0
  | x :: r => uptoBulkEntry x + uptoBulkEntries r
def uptoBulkEntry {H : Type} : Lit × DataW H → Nat
  | (.string bytes, d) => bytes.length + uptoBulk d + 1
  | (_, d) => uptoBulk d + 1
 end
def uptoSmall : (H : Type) → List (DataW H) → Bool := fun _ ds => decide (uptoBulkAll ds ≤ 1048576)
def OpenSpec.upto (s : _root_.Go.ChangeSpec) : _root_.Go.OpenSpec := { _root_.Go.OpenSpec.ofChange s with cond := some uptoSmall }

/-- 'laws.FnHandleRequestGet', WHERE WHAT IT READS IS OF BULK AT MOST 1048576: true; the input reads as it did. -/
def fnHandleRequestGetUptoRow : OpenClaim := { program := "ytaejlonmildglaagreatdoor", sum := "3809e9f70a49b98b98874d3f7cd3bcbf84434a72eed7e368a65eb11d644ffe33", func := "loop.example/resourcestore/laws.FnHandleRequestGet", spec := "fnHandleRequestGet", inPlace := ["internal/bytealg.IndexByteString", "internal/bytealg.abigen_runtime_cmpstring", "internal/abi.NoEscape", "slices.overlaps[string]", "slices.overlaps[loop.example/resourcestore/impl.Node]", "slices.overlaps[loop.example/resourcestore/impl.Item]"], unfollowed := true, recurses := true, named := ["internal/strconv.uint64pow10", "math/bits.deBruijn32tab", "math/bits.deBruijn64tab"], apart := false, laid := [("math/bits.deBruijn32tab", laid_math_bits_deBruijn32tab), ("math/bits.deBruijn64tab", laid_math_bits_deBruijn64tab), ("internal/strconv.uint64pow10", laid_internal_strconv_uint64pow10)], narrowed := true }
def FnHandleRequestGetUptoSaid : Prop := fnHandleRequestGetUptoRow.holds Tryz.pinned (OpenSpec.upto fnHandleRequestGetSpec)

/-- 'laws.FnHandleRequestPatch', WHERE WHAT IT READS IS OF BULK AT MOST 1048576: true; the input reads as it did. -/
def fnHandleRequestPatchUptoRow : OpenClaim := { program := "ytaejlonmildglaagreatdoor", sum := "3809e9f70a49b98b98874d3f7cd3bcbf84434a72eed7e368a65eb11d644ffe33", func := "loop.example/resourcestore/laws.FnHandleRequestPatch", spec := "fnHandleRequestPatch", inPlace := ["internal/bytealg.IndexByteString", "internal/bytealg.abigen_runtime_cmpstring", "internal/abi.NoEscape", "slices.overlaps[string]", "slices.overlaps[loop.example/resourcestore/impl.Node]", "slices.overlaps[loop.example/resourcestore/impl.Item]"], unfollowed := true, recurses := true, named := ["internal/strconv.uint64pow10", "math/bits.deBruijn32tab", "math/bits.deBruijn64tab"], apart := false, laid := [("math/bits.deBruijn32tab", laid_math_bits_deBruijn32tab), ("math/bits.deBruijn64tab", laid_math_bits_deBruijn64tab), ("internal/strconv.uint64pow10", laid_internal_strconv_uint64pow10)], narrowed := true }
def FnHandleRequestPatchUptoSaid : Prop := fnHandleRequestPatchUptoRow.holds Tryz.pinned (OpenSpec.upto fnHandleRequestPatchSpec)

/-- 'laws.FnHandleRequestTwice', WHERE WHAT IT READS IS OF BULK AT MOST 1048576: true; the input reads as it did. -/
def fnHandleRequestTwiceUptoRow : OpenClaim := { program := "ytaejlonmildglaagreatdoor", sum := "3809e9f70a49b98b98874d3f7cd3bcbf84434a72eed7e368a65eb11d644ffe33", func := "loop.example/resourcestore/laws.FnHandleRequestTwice", spec := "fnHandleRequestTwice", inPlace := ["internal/bytealg.IndexByteString", "internal/bytealg.abigen_runtime_cmpstring", "internal/abi.NoEscape", "slices.overlaps[string]", "slices.overlaps[loop.example/resourcestore/impl.Node]", "slices.overlaps[loop.example/resourcestore/impl.Item]"], unfollowed := true, recurses := true, named := ["internal/strconv.uint64pow10", "math/bits.deBruijn32tab", "math/bits.deBruijn64tab"], apart := false, laid := [("math/bits.deBruijn32tab", laid_math_bits_deBruijn32tab), ("math/bits.deBruijn64tab", laid_math_bits_deBruijn64tab), ("internal/strconv.uint64pow10", laid_internal_strconv_uint64pow10)], narrowed := true }
def FnHandleRequestTwiceUptoSaid : Prop := fnHandleRequestTwiceUptoRow.holds Tryz.pinned (OpenSpec.upto fnHandleRequestTwiceSpec)

/-- 'laws.FnRunRequestsOne', WHERE WHAT IT READS IS OF BULK AT MOST 1048576: true; the input reads as it did. -/
def fnRunRequestsOneUptoRow : OpenClaim := { program := "ytaejlonmildglaagreatdoor", sum := "3809e9f70a49b98b98874d3f7cd3bcbf84434a72eed7e368a65eb11d644ffe33", func := "loop.example/resourcestore/laws.FnRunRequestsOne", spec := "fnRunRequestsOne", inPlace := ["internal/bytealg.IndexByteString", "internal/bytealg.abigen_runtime_cmpstring", "internal/abi.NoEscape", "slices.overlaps[string]", "slices.overlaps[loop.example/resourcestore/impl.Node]", "slices.overlaps[loop.example/resourcestore/impl.Item]"], unfollowed := true, recurses := true, named := ["internal/strconv.uint64pow10", "math/bits.deBruijn32tab", "math/bits.deBruijn64tab"], apart := false, laid := [("math/bits.deBruijn32tab", laid_math_bits_deBruijn32tab), ("math/bits.deBruijn64tab", laid_math_bits_deBruijn64tab), ("internal/strconv.uint64pow10", laid_internal_strconv_uint64pow10)], narrowed := true }
def FnRunRequestsOneUptoSaid : Prop := fnRunRequestsOneUptoRow.holds Tryz.pinned (OpenSpec.upto fnRunRequestsOneSpec)

/-- 'laws.FnRunRequests', WHERE WHAT IT READS IS OF BULK AT MOST 1048576: true; the input reads as it did. -/
def fnRunRequestsUptoRow : OpenClaim := { program := "ytaejlonmildglaagreatdoor", sum := "3809e9f70a49b98b98874d3f7cd3bcbf84434a72eed7e368a65eb11d644ffe33", func := "loop.example/resourcestore/laws.FnRunRequests", spec := "fnRunRequests", inPlace := ["internal/bytealg.IndexByteString", "internal/bytealg.abigen_runtime_cmpstring", "internal/abi.NoEscape", "slices.overlaps[string]", "slices.overlaps[loop.example/resourcestore/impl.Node]", "slices.overlaps[loop.example/resourcestore/impl.Item]"], unfollowed := true, recurses := true, named := ["internal/strconv.uint64pow10", "math/bits.deBruijn32tab", "math/bits.deBruijn64tab"], apart := false, laid := [("math/bits.deBruijn32tab", laid_math_bits_deBruijn32tab), ("math/bits.deBruijn64tab", laid_math_bits_deBruijn64tab), ("internal/strconv.uint64pow10", laid_internal_strconv_uint64pow10)], narrowed := true }
def FnRunRequestsUptoSaid : Prop := fnRunRequestsUptoRow.holds Tryz.pinned (OpenSpec.upto fnRunRequestsSpec)

/-- 'laws.FnRunBatch', WHERE WHAT IT READS IS OF BULK AT MOST 1048576: true; the input reads as it did. -/
def fnRunBatchUptoRow : OpenClaim := { program := "ytaejlonmildglaagreatdoor", sum := "3809e9f70a49b98b98874d3f7cd3bcbf84434a72eed7e368a65eb11d644ffe33", func := "loop.example/resourcestore/laws.FnRunBatch", spec := "fnRunBatch", inPlace := ["internal/bytealg.IndexByteString", "internal/bytealg.abigen_runtime_cmpstring", "internal/abi.NoEscape", "slices.overlaps[string]", "slices.overlaps[loop.example/resourcestore/impl.Node]", "slices.overlaps[loop.example/resourcestore/impl.Item]"], unfollowed := true, recurses := true, named := ["internal/strconv.uint64pow10", "math/bits.deBruijn32tab", "math/bits.deBruijn64tab"], apart := false, laid := [("math/bits.deBruijn32tab", laid_math_bits_deBruijn32tab), ("math/bits.deBruijn64tab", laid_math_bits_deBruijn64tab), ("internal/strconv.uint64pow10", laid_internal_strconv_uint64pow10)], narrowed := true }
def FnRunBatchUptoSaid : Prop := fnRunBatchUptoRow.holds Tryz.pinned (OpenSpec.upto fnRunBatchSpec)

/-- 'laws.FnRunBatchGood', WHERE WHAT IT READS IS OF BULK AT MOST 1048576: true; the input reads as it did. -/
def fnRunBatchGoodUptoRow : OpenClaim := { program := "ytaejlonmildglaagreatdoor", sum := "3809e9f70a49b98b98874d3f7cd3bcbf84434a72eed7e368a65eb11d644ffe33", func := "loop.example/resourcestore/laws.FnRunBatchGood", spec := "fnRunBatchGood", inPlace := ["internal/bytealg.IndexByteString", "internal/bytealg.abigen_runtime_cmpstring", "internal/abi.NoEscape", "slices.overlaps[string]", "slices.overlaps[loop.example/resourcestore/impl.Node]", "slices.overlaps[loop.example/resourcestore/impl.Item]"], unfollowed := true, recurses := true, named := ["internal/strconv.uint64pow10", "math/bits.deBruijn32tab", "math/bits.deBruijn64tab"], apart := false, laid := [("math/bits.deBruijn32tab", laid_math_bits_deBruijn32tab), ("math/bits.deBruijn64tab", laid_math_bits_deBruijn64tab), ("internal/strconv.uint64pow10", laid_internal_strconv_uint64pow10)], narrowed := true }
def FnRunBatchGoodUptoSaid : Prop := fnRunBatchGoodUptoRow.holds Tryz.pinned (OpenSpec.upto fnRunBatchGoodSpec)

/-- 'laws.FnRunBatchNone', WHERE WHAT IT READS IS OF BULK AT MOST 1048576: true; the input reads as it did. -/
def fnRunBatchNoneUptoRow : OpenClaim := { program := "ytaejlonmildglaagreatdoor", sum := "3809e9f70a49b98b98874d3f7cd3bcbf84434a72eed7e368a65eb11d644ffe33", func := "loop.example/resourcestore/laws.FnRunBatchNone", spec := "fnRunBatchNone", inPlace := ["internal/bytealg.IndexByteString", "internal/bytealg.abigen_runtime_cmpstring", "internal/abi.NoEscape", "slices.overlaps[string]", "slices.overlaps[loop.example/resourcestore/impl.Node]", "slices.overlaps[loop.example/resourcestore/impl.Item]"], unfollowed := true, recurses := true, named := ["internal/strconv.uint64pow10", "math/bits.deBruijn32tab", "math/bits.deBruijn64tab"], apart := false, laid := [("math/bits.deBruijn32tab", laid_math_bits_deBruijn32tab), ("math/bits.deBruijn64tab", laid_math_bits_deBruijn64tab), ("internal/strconv.uint64pow10", laid_internal_strconv_uint64pow10)], narrowed := true }
def FnRunBatchNoneUptoSaid : Prop := fnRunBatchNoneUptoRow.holds Tryz.pinned (OpenSpec.upto fnRunBatchNoneSpec)

/-- 'laws.FnTouches', WHERE WHAT IT READS IS OF BULK AT MOST 1048576: true; the input reads as it did. -/
def fnTouchesUptoRow : OpenClaim := { program := "ytaejlonmildglaagreatdoor", sum := "3809e9f70a49b98b98874d3f7cd3bcbf84434a72eed7e368a65eb11d644ffe33", func := "loop.example/resourcestore/laws.FnTouches", spec := "fnTouches", inPlace := ["internal/bytealg.IndexByteString", "internal/bytealg.abigen_runtime_cmpstring", "internal/abi.NoEscape", "slices.overlaps[string]", "slices.overlaps[loop.example/resourcestore/impl.Node]", "slices.overlaps[loop.example/resourcestore/impl.Item]"], unfollowed := true, recurses := true, named := ["internal/strconv.uint64pow10", "math/bits.deBruijn32tab", "math/bits.deBruijn64tab"], apart := false, laid := [("math/bits.deBruijn32tab", laid_math_bits_deBruijn32tab), ("math/bits.deBruijn64tab", laid_math_bits_deBruijn64tab), ("internal/strconv.uint64pow10", laid_internal_strconv_uint64pow10)], narrowed := true }
def FnTouchesUptoSaid : Prop := fnTouchesUptoRow.holds Tryz.pinned (OpenSpec.upto fnTouchesSpec)

end Rows
end Go.Proofs.YtaejlonmildglaaGreatDoor
