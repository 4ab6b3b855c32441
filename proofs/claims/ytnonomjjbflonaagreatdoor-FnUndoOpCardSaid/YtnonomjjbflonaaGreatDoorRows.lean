/-
  NARROWER THAN 'FOR EVERY INPUT', by the rows' own cells (each row's printed sentence says how): FnExactFailingOp: loops, laid · FnApplyPatchNone: laid · FnUndoOpTest: laid · FnExactApplyOp: loops, laid · FnFailingOp: laid · FnFailingOpNone: laid · FnUndoOp: laid · FnApplyPatch: laid · FnApplyPatchTest: laid · FnExactUndoOp: loops, laid · FnExactApplyPatch: loops, laid.
  DERIVED. THE GIVEN ROWS OF THIS SEAT. 11 by the template 'for every input the law returns true; each argument reads behind the call as it read before'; 0 by the template 'total and deterministic' (their statements: YtnonomjjbflonaaGreatDoorTotals.lean).
  GIVEN WITH THE SEED: the statements are not yours to turn. If you find one false, say at which input.
  Laid BY PROGRAM, IN A SANDBOX (cutbox-rows.mjs): the forced cells as the released guide's own fill.sh prints them over the translation e70469597db7198f… (all of the seat's roots in one cut). By AI agents, Wed Nov 11 2026. No macro, syntax, notation, axiom, sorry.
-/
import Derived.Test.YtnonomjjbflonaaGreatDoorChecked
import GoSem.Claim
import GoSem.ClaimJoined
import GoSem.ClaimMapViews
import Derived.JoinedTies
import Derived.KernelRfl
namespace Go.Proofs.YtnonomjjbflonaaGreatDoor
/- THE CELL 'sum', in the pinned program and in every row, IS THE sha256 OF THE DUMP (.gsa) THAT YtnonomjjbflonaaGreatDoorProg.lean LOADS. Nothing in Lean hashes anything: it is a label: what it is worth is what the hold of that sum in a sandbox is worth. -/
noncomputable def Tryz.pinned : Pinned := { name := "ytnonomjjbflonaagreatdoor", sum := "e70469597db7198f647adad7bb208a272f08cbf27cf078eb575a439b50263bea", checked := Tryz.checked }
namespace Rows
def none {H : Type} : Left H := { results := [], args := [] }

/- WHAT THE LISTED PACKAGE-LEVEL VARIABLES READ AS WHEN THE CALL BEGINS. Each datum BY PROGRAM (the guide's laid-datum.mjs) off the statement by which the dump's own 'gosem.cut.vars' lays the variable. In a bare row this is a premise. The card (YtnonomjjbflonaaGreatDoorCards.lean) ties it to the program's text. -/
def laid_math_bits_deBruijn32tab {H : Type} : DataW H := .agg [.lit (.int .u8 0), .lit (.int .u8 1), .lit (.int .u8 28), .lit (.int .u8 2), .lit (.int .u8 29), .lit (.int .u8 14), .lit (.int .u8 24), .lit (.int .u8 3), .lit (.int .u8 30), .lit (.int .u8 22), .lit (.int .u8 20), .lit (.int .u8 15), .lit (.int .u8 25), .lit (.int .u8 17), .lit (.int .u8 4), .lit (.int .u8 8), .lit (.int .u8 31), .lit (.int .u8 27), .lit (.int .u8 13), .lit (.int .u8 23), .lit (.int .u8 21), .lit (.int .u8 19), .lit (.int .u8 16), .lit (.int .u8 7), .lit (.int .u8 26), .lit (.int .u8 12), .lit (.int .u8 18), .lit (.int .u8 6), .lit (.int .u8 11), .lit (.int .u8 5), .lit (.int .u8 10), .lit (.int .u8 9)]
def laid_math_bits_deBruijn64tab {H : Type} : DataW H := .agg [.lit (.int .u8 0), .lit (.int .u8 1), .lit (.int .u8 56), .lit (.int .u8 2), .lit (.int .u8 57), .lit (.int .u8 49), .lit (.int .u8 28), .lit (.int .u8 3), .lit (.int .u8 61), .lit (.int .u8 58), .lit (.int .u8 42), .lit (.int .u8 50), .lit (.int .u8 38), .lit (.int .u8 29), .lit (.int .u8 17), .lit (.int .u8 4), .lit (.int .u8 62), .lit (.int .u8 47), .lit (.int .u8 59), .lit (.int .u8 36), .lit (.int .u8 45), .lit (.int .u8 43), .lit (.int .u8 51), .lit (.int .u8 22), .lit (.int .u8 53), .lit (.int .u8 39), .lit (.int .u8 33), .lit (.int .u8 30), .lit (.int .u8 24), .lit (.int .u8 18), .lit (.int .u8 12), .lit (.int .u8 5), .lit (.int .u8 63), .lit (.int .u8 55), .lit (.int .u8 48), .lit (.int .u8 27), .lit (.int .u8 60), .lit (.int .u8 41), .lit (.int .u8 37), .lit (.int .u8 16), .lit (.int .u8 46), .lit (.int .u8 35), .lit (.int .u8 44), .lit (.int .u8 21), .lit (.int .u8 52), .lit (.int .u8 32), .lit (.int .u8 23), .lit (.int .u8 11), .lit (.int .u8 54), .lit (.int .u8 26), .lit (.int .u8 40), .lit (.int .u8 15), .lit (.int .u8 34), .lit (.int .u8 20), .lit (.int .u8 31), .lit (.int .u8 10), .lit (.int .u8 25), .lit (.int .u8 14), .lit (.int .u8 19), .lit (.int .u8 9), .lit (.int .u8 13), .lit (.int .u8 8), .lit (.int .u8 7), .lit (.int .u8 6)]
def laid_internal_strconv_uint64pow10 {H : Type} : DataW H := .agg [.lit (.int .u64 1), .lit (.int .u64 10), .lit (.int .u64 100), .lit (.int .u64 1000), .lit (.int .u64 10000), .lit (.int .u64 100000), .lit (.int .u64 1000000), .lit (.int .u64 10000000), .lit (.int .u64 100000000), .lit (.int .u64 1000000000), .lit (.int .u64 10000000000), .lit (.int .u64 100000000000), .lit (.int .u64 1000000000000), .lit (.int .u64 10000000000000), .lit (.int .u64 100000000000000), .lit (.int .u64 1000000000000000), .lit (.int .u64 10000000000000000), .lit (.int .u64 100000000000000000), .lit (.int .u64 1000000000000000000), .lit (.int .u64 10000000000000000000)]

/-- 'laws.FnExactFailingOp': WHATEVER THE INPUT: true; the input reads as it did. -/
def fnExactFailingOpSpec : ChangeSpec := { name := "fnExactFailingOp", fn := fun _ => fun
  | [d1, d2] => { results := [.lit (.bool true)], args := [d1, d2] }
  | _ => none }
def fnExactFailingOpRow : OpenClaim := { program := "ytnonomjjbflonaagreatdoor", sum := "e70469597db7198f647adad7bb208a272f08cbf27cf078eb575a439b50263bea", func := "loop.example/resourcestore/laws.FnExactFailingOp", spec := "fnExactFailingOp", inPlace := ["slices.overlaps[string]", "slices.overlaps[loop.example/resourcestore/impl.Node]", "internal/bytealg.abigen_runtime_cmpstring"], unfollowed := true, recurses := true, named := ["internal/strconv.uint64pow10", "math/bits.deBruijn32tab", "math/bits.deBruijn64tab"], loops := true, apart := false, laid := [("math/bits.deBruijn32tab", laid_math_bits_deBruijn32tab), ("math/bits.deBruijn64tab", laid_math_bits_deBruijn64tab), ("internal/strconv.uint64pow10", laid_internal_strconv_uint64pow10)] }
def FnExactFailingOpSaid : Prop := fnExactFailingOpRow.holds Tryz.pinned (OpenSpec.ofChange fnExactFailingOpSpec)

/-- ITS FALSE NEIGHBOUR: 'it returns false'. Refute it at one input. -/
def fnExactFailingOpWrong : ChangeSpec := { name := "fnExactFailingOp", fn := fun _ => fun
  | [d1, d2] => { results := [.lit (.bool false)], args := [d1, d2] }
  | _ => none }
def FnExactFailingOpWrongFalsely : Prop := fnExactFailingOpRow.holds Tryz.pinned (OpenSpec.ofChange fnExactFailingOpWrong)

/-- 'laws.FnApplyPatchNone': WHATEVER THE INPUT: true; the input reads as it did. -/
def fnApplyPatchNoneSpec : ChangeSpec := { name := "fnApplyPatchNone", fn := fun _ => fun
  | [d] => { results := [.lit (.bool true)], args := [d] }
  | _ => none }
def fnApplyPatchNoneRow : OpenClaim := { program := "ytnonomjjbflonaagreatdoor", sum := "e70469597db7198f647adad7bb208a272f08cbf27cf078eb575a439b50263bea", func := "loop.example/resourcestore/laws.FnApplyPatchNone", spec := "fnApplyPatchNone", inPlace := ["slices.overlaps[string]", "slices.overlaps[loop.example/resourcestore/impl.Node]", "internal/bytealg.abigen_runtime_cmpstring"], unfollowed := true, recurses := true, named := ["internal/strconv.uint64pow10", "math/bits.deBruijn32tab", "math/bits.deBruijn64tab"], apart := false, laid := [("math/bits.deBruijn32tab", laid_math_bits_deBruijn32tab), ("math/bits.deBruijn64tab", laid_math_bits_deBruijn64tab), ("internal/strconv.uint64pow10", laid_internal_strconv_uint64pow10)] }
def FnApplyPatchNoneSaid : Prop := fnApplyPatchNoneRow.holds Tryz.pinned (OpenSpec.ofChange fnApplyPatchNoneSpec)

/-- ITS FALSE NEIGHBOUR: 'it returns false'. Refute it at one input. -/
def fnApplyPatchNoneWrong : ChangeSpec := { name := "fnApplyPatchNone", fn := fun _ => fun
  | [d] => { results := [.lit (.bool false)], args := [d] }
  | _ => none }
def FnApplyPatchNoneWrongFalsely : Prop := fnApplyPatchNoneRow.holds Tryz.pinned (OpenSpec.ofChange fnApplyPatchNoneWrong)

/-- 'laws.FnUndoOpTest': WHATEVER THE INPUT: true; the input reads as it did. -/
def fnUndoOpTestSpec : ChangeSpec := { name := "fnUndoOpTest", fn := fun _ => fun
  | [d] => { results := [.lit (.bool true)], args := [d] }
  | _ => none }
def fnUndoOpTestRow : OpenClaim := { program := "ytnonomjjbflonaagreatdoor", sum := "e70469597db7198f647adad7bb208a272f08cbf27cf078eb575a439b50263bea", func := "loop.example/resourcestore/laws.FnUndoOpTest", spec := "fnUndoOpTest", inPlace := ["slices.overlaps[string]", "slices.overlaps[loop.example/resourcestore/impl.Node]", "internal/bytealg.abigen_runtime_cmpstring"], unfollowed := true, recurses := true, named := ["internal/strconv.uint64pow10", "math/bits.deBruijn32tab", "math/bits.deBruijn64tab"], apart := false, laid := [("math/bits.deBruijn32tab", laid_math_bits_deBruijn32tab), ("math/bits.deBruijn64tab", laid_math_bits_deBruijn64tab), ("internal/strconv.uint64pow10", laid_internal_strconv_uint64pow10)] }
def FnUndoOpTestSaid : Prop := fnUndoOpTestRow.holds Tryz.pinned (OpenSpec.ofChange fnUndoOpTestSpec)

/-- ITS FALSE NEIGHBOUR: 'it returns false'. Refute it at one input. -/
def fnUndoOpTestWrong : ChangeSpec := { name := "fnUndoOpTest", fn := fun _ => fun
  | [d] => { results := [.lit (.bool false)], args := [d] }
  | _ => none }
def FnUndoOpTestWrongFalsely : Prop := fnUndoOpTestRow.holds Tryz.pinned (OpenSpec.ofChange fnUndoOpTestWrong)

/-- 'laws.FnExactApplyOp': WHATEVER THE INPUT: true; the input reads as it did. -/
def fnExactApplyOpSpec : ChangeSpec := { name := "fnExactApplyOp", fn := fun _ => fun
  | [d1, d2] => { results := [.lit (.bool true)], args := [d1, d2] }
  | _ => none }
def fnExactApplyOpRow : OpenClaim := { program := "ytnonomjjbflonaagreatdoor", sum := "e70469597db7198f647adad7bb208a272f08cbf27cf078eb575a439b50263bea", func := "loop.example/resourcestore/laws.FnExactApplyOp", spec := "fnExactApplyOp", inPlace := ["slices.overlaps[string]", "slices.overlaps[loop.example/resourcestore/impl.Node]", "internal/bytealg.abigen_runtime_cmpstring"], unfollowed := true, recurses := true, named := ["internal/strconv.uint64pow10", "math/bits.deBruijn32tab", "math/bits.deBruijn64tab"], loops := true, apart := false, laid := [("math/bits.deBruijn32tab", laid_math_bits_deBruijn32tab), ("math/bits.deBruijn64tab", laid_math_bits_deBruijn64tab), ("internal/strconv.uint64pow10", laid_internal_strconv_uint64pow10)] }
def FnExactApplyOpSaid : Prop := fnExactApplyOpRow.holds Tryz.pinned (OpenSpec.ofChange fnExactApplyOpSpec)

/-- ITS FALSE NEIGHBOUR: 'it returns false'. Refute it at one input. -/
def fnExactApplyOpWrong : ChangeSpec := { name := "fnExactApplyOp", fn := fun _ => fun
  | [d1, d2] => { results := [.lit (.bool false)], args := [d1, d2] }
  | _ => none }
def FnExactApplyOpWrongFalsely : Prop := fnExactApplyOpRow.holds Tryz.pinned (OpenSpec.ofChange fnExactApplyOpWrong)

/-- 'laws.FnFailingOp': WHATEVER THE INPUT: true; the input reads as it did. -/
def fnFailingOpSpec : ChangeSpec := { name := "fnFailingOp", fn := fun _ => fun
  | [d] => { results := [.lit (.bool true)], args := [d] }
  | _ => none }
def fnFailingOpRow : OpenClaim := { program := "ytnonomjjbflonaagreatdoor", sum := "e70469597db7198f647adad7bb208a272f08cbf27cf078eb575a439b50263bea", func := "loop.example/resourcestore/laws.FnFailingOp", spec := "fnFailingOp", inPlace := ["slices.overlaps[string]", "slices.overlaps[loop.example/resourcestore/impl.Node]", "internal/bytealg.abigen_runtime_cmpstring"], unfollowed := true, recurses := true, named := ["internal/strconv.uint64pow10", "math/bits.deBruijn32tab", "math/bits.deBruijn64tab"], apart := false, laid := [("math/bits.deBruijn32tab", laid_math_bits_deBruijn32tab), ("math/bits.deBruijn64tab", laid_math_bits_deBruijn64tab), ("internal/strconv.uint64pow10", laid_internal_strconv_uint64pow10)] }
def FnFailingOpSaid : Prop := fnFailingOpRow.holds Tryz.pinned (OpenSpec.ofChange fnFailingOpSpec)

/-- ITS FALSE NEIGHBOUR: 'it returns false'. Refute it at one input. -/
def fnFailingOpWrong : ChangeSpec := { name := "fnFailingOp", fn := fun _ => fun
  | [d] => { results := [.lit (.bool false)], args := [d] }
  | _ => none }
def FnFailingOpWrongFalsely : Prop := fnFailingOpRow.holds Tryz.pinned (OpenSpec.ofChange fnFailingOpWrong)

/-- 'laws.FnFailingOpNone': WHATEVER THE INPUT: true; the input reads as it did. -/
def fnFailingOpNoneSpec : ChangeSpec := { name := "fnFailingOpNone", fn := fun _ => fun
  | [d] => { results := [.lit (.bool true)], args := [d] }
  | _ => none }
def fnFailingOpNoneRow : OpenClaim := { program := "ytnonomjjbflonaagreatdoor", sum := "e70469597db7198f647adad7bb208a272f08cbf27cf078eb575a439b50263bea", func := "loop.example/resourcestore/laws.FnFailingOpNone", spec := "fnFailingOpNone", inPlace := ["slices.overlaps[string]", "slices.overlaps[loop.example/resourcestore/impl.Node]", "internal/bytealg.abigen_runtime_cmpstring"], unfollowed := true, recurses := true, named := ["internal/strconv.uint64pow10", "math/bits.deBruijn32tab", "math/bits.deBruijn64tab"], apart := false, laid := [("math/bits.deBruijn32tab", laid_math_bits_deBruijn32tab), ("math/bits.deBruijn64tab", laid_math_bits_deBruijn64tab), ("internal/strconv.uint64pow10", laid_internal_strconv_uint64pow10)] }
def FnFailingOpNoneSaid : Prop := fnFailingOpNoneRow.holds Tryz.pinned (OpenSpec.ofChange fnFailingOpNoneSpec)

/-- ITS FALSE NEIGHBOUR: 'it returns false'. Refute it at one input. -/
def fnFailingOpNoneWrong : ChangeSpec := { name := "fnFailingOpNone", fn := fun _ => fun
  | [d] => { results := [.lit (.bool false)], args := [d] }
  | _ => none }
def FnFailingOpNoneWrongFalsely : Prop := fnFailingOpNoneRow.holds Tryz.pinned (OpenSpec.ofChange fnFailingOpNoneWrong)

/-- 'laws.FnUndoOp': WHATEVER THE INPUT: true; the input reads as it did. -/
def fnUndoOpSpec : ChangeSpec := { name := "fnUndoOp", fn := fun _ => fun
  | [d] => { results := [.lit (.bool true)], args := [d] }
  | _ => none }
def fnUndoOpRow : OpenClaim := { program := "ytnonomjjbflonaagreatdoor", sum := "e70469597db7198f647adad7bb208a272f08cbf27cf078eb575a439b50263bea", func := "loop.example/resourcestore/laws.FnUndoOp", spec := "fnUndoOp", inPlace := ["slices.overlaps[string]", "slices.overlaps[loop.example/resourcestore/impl.Node]", "internal/bytealg.abigen_runtime_cmpstring"], unfollowed := true, recurses := true, named := ["internal/strconv.uint64pow10", "math/bits.deBruijn32tab", "math/bits.deBruijn64tab"], apart := false, laid := [("math/bits.deBruijn32tab", laid_math_bits_deBruijn32tab), ("math/bits.deBruijn64tab", laid_math_bits_deBruijn64tab), ("internal/strconv.uint64pow10", laid_internal_strconv_uint64pow10)] }
def FnUndoOpSaid : Prop := fnUndoOpRow.holds Tryz.pinned (OpenSpec.ofChange fnUndoOpSpec)

/-- ITS FALSE NEIGHBOUR: 'it returns false'. Refute it at one input. -/
def fnUndoOpWrong : ChangeSpec := { name := "fnUndoOp", fn := fun _ => fun
  | [d] => { results := [.lit (.bool false)], args := [d] }
  | _ => none }
def FnUndoOpWrongFalsely : Prop := fnUndoOpRow.holds Tryz.pinned (OpenSpec.ofChange fnUndoOpWrong)

/-- 'laws.FnApplyPatch': WHATEVER THE INPUT: true; the input reads as it did. -/
def fnApplyPatchSpec : ChangeSpec := { name := "fnApplyPatch", fn := fun _ => fun
  | [d] => { results := [.lit (.bool true)], args := [d] }
  | _ => none }
def fnApplyPatchRow : OpenClaim := { program := "ytnonomjjbflonaagreatdoor", sum := "e70469597db7198f647adad7bb208a272f08cbf27cf078eb575a439b50263bea", func := "loop.example/resourcestore/laws.FnApplyPatch", spec := "fnApplyPatch", inPlace := ["slices.overlaps[string]", "slices.overlaps[loop.example/resourcestore/impl.Node]", "internal/bytealg.abigen_runtime_cmpstring"], unfollowed := true, recurses := true, named := ["internal/strconv.uint64pow10", "math/bits.deBruijn32tab", "math/bits.deBruijn64tab"], apart := false, laid := [("math/bits.deBruijn32tab", laid_math_bits_deBruijn32tab), ("math/bits.deBruijn64tab", laid_math_bits_deBruijn64tab), ("internal/strconv.uint64pow10", laid_internal_strconv_uint64pow10)] }
def FnApplyPatchSaid : Prop := fnApplyPatchRow.holds Tryz.pinned (OpenSpec.ofChange fnApplyPatchSpec)

/-- ITS FALSE NEIGHBOUR: 'it returns false'. Refute it at one input. -/
def fnApplyPatchWrong : ChangeSpec := { name := "fnApplyPatch", fn := fun _ => fun
  | [d] => { results := [.lit (.bool false)], args := [d] }
  | _ => none }
def FnApplyPatchWrongFalsely : Prop := fnApplyPatchRow.holds Tryz.pinned (OpenSpec.ofChange fnApplyPatchWrong)

/-- 'laws.FnApplyPatchTest': WHATEVER THE INPUT: true; the input reads as it did. -/
def fnApplyPatchTestSpec : ChangeSpec := { name := "fnApplyPatchTest", fn := fun _ => fun
  | [d] => { results := [.lit (.bool true)], args := [d] }
  | _ => none }
def fnApplyPatchTestRow : OpenClaim := { program := "ytnonomjjbflonaagreatdoor", sum := "e70469597db7198f647adad7bb208a272f08cbf27cf078eb575a439b50263bea", func := "loop.example/resourcestore/laws.FnApplyPatchTest", spec := "fnApplyPatchTest", inPlace := ["slices.overlaps[string]", "slices.overlaps[loop.example/resourcestore/impl.Node]", "internal/bytealg.abigen_runtime_cmpstring"], unfollowed := true, recurses := true, named := ["internal/strconv.uint64pow10", "math/bits.deBruijn32tab", "math/bits.deBruijn64tab"], apart := false, laid := [("math/bits.deBruijn32tab", laid_math_bits_deBruijn32tab), ("math/bits.deBruijn64tab", laid_math_bits_deBruijn64tab), ("internal/strconv.uint64pow10", laid_internal_strconv_uint64pow10)] }
def FnApplyPatchTestSaid : Prop := fnApplyPatchTestRow.holds Tryz.pinned (OpenSpec.ofChange fnApplyPatchTestSpec)

/-- ITS FALSE NEIGHBOUR: 'it returns false'. Refute it at one input. -/
def fnApplyPatchTestWrong : ChangeSpec := { name := "fnApplyPatchTest", fn := fun _ => fun
  | [d] => { results := [.lit (.bool false)], args := [d] }
  | _ => none }
def FnApplyPatchTestWrongFalsely : Prop := fnApplyPatchTestRow.holds Tryz.pinned (OpenSpec.ofChange fnApplyPatchTestWrong)

/-- 'laws.FnExactUndoOp': WHATEVER THE INPUT: true; the input reads as it did. -/
def fnExactUndoOpSpec : ChangeSpec := { name := "fnExactUndoOp", fn := fun _ => fun
  | [d1, d2] => { results := [.lit (.bool true)], args := [d1, d2] }
  | _ => none }
def fnExactUndoOpRow : OpenClaim := { program := "ytnonomjjbflonaagreatdoor", sum := "e70469597db7198f647adad7bb208a272f08cbf27cf078eb575a439b50263bea", func := "loop.example/resourcestore/laws.FnExactUndoOp", spec := "fnExactUndoOp", inPlace := ["slices.overlaps[string]", "slices.overlaps[loop.example/resourcestore/impl.Node]", "internal/bytealg.abigen_runtime_cmpstring"], unfollowed := true, recurses := true, named := ["internal/strconv.uint64pow10", "math/bits.deBruijn32tab", "math/bits.deBruijn64tab"], loops := true, apart := false, laid := [("math/bits.deBruijn32tab", laid_math_bits_deBruijn32tab), ("math/bits.deBruijn64tab", laid_math_bits_deBruijn64tab), ("internal/strconv.uint64pow10", laid_internal_strconv_uint64pow10)] }
def FnExactUndoOpSaid : Prop := fnExactUndoOpRow.holds Tryz.pinned (OpenSpec.ofChange fnExactUndoOpSpec)

/-- ITS FALSE NEIGHBOUR: 'it returns false'. Refute it at one input. -/
def fnExactUndoOpWrong : ChangeSpec := { name := "fnExactUndoOp", fn := fun _ => fun
  | [d1, d2] => { results := [.lit (.bool false)], args := [d1, d2] }
  | _ => none }
def FnExactUndoOpWrongFalsely : Prop := fnExactUndoOpRow.holds Tryz.pinned (OpenSpec.ofChange fnExactUndoOpWrong)

/-- 'laws.FnExactApplyPatch': WHATEVER THE INPUT: true; the input reads as it did. -/
def fnExactApplyPatchSpec : ChangeSpec := { name := "fnExactApplyPatch", fn := fun _ => fun
  | [d1, d2] => { results := [.lit (.bool true)], args := [d1, d2] }
  | _ => none }
def fnExactApplyPatchRow : OpenClaim := { program := "ytnonomjjbflonaagreatdoor", sum := "e70469597db7198f647adad7bb208a272f08cbf27cf078eb575a439b50263bea", func := "loop.example/resourcestore/laws.FnExactApplyPatch", spec := "fnExactApplyPatch", inPlace := ["slices.overlaps[string]", "slices.overlaps[loop.example/resourcestore/impl.Node]", "internal/bytealg.abigen_runtime_cmpstring"], unfollowed := true, recurses := true, named := ["internal/strconv.uint64pow10", "math/bits.deBruijn32tab", "math/bits.deBruijn64tab"], loops := true, apart := false, laid := [("math/bits.deBruijn32tab", laid_math_bits_deBruijn32tab), ("math/bits.deBruijn64tab", laid_math_bits_deBruijn64tab), ("internal/strconv.uint64pow10", laid_internal_strconv_uint64pow10)] }
def FnExactApplyPatchSaid : Prop := fnExactApplyPatchRow.holds Tryz.pinned (OpenSpec.ofChange fnExactApplyPatchSpec)

/-- ITS FALSE NEIGHBOUR: 'it returns false'. Refute it at one input. -/
def fnExactApplyPatchWrong : ChangeSpec := { name := "fnExactApplyPatch", fn := fun _ => fun
  | [d1, d2] => { results := [.lit (.bool false)], args := [d1, d2] }
  | _ => none }
def FnExactApplyPatchWrongFalsely : Prop := fnExactApplyPatchRow.holds Tryz.pinned (OpenSpec.ofChange fnExactApplyPatchWrong)

/- THE SECOND FORM. 'bulk': how many values and letters a reading holds, each counted each time it is reached (what is shared counts as often as it is met; a slice's spare places count too). A statement '..UptoSaid' is the law's where the arguments, and the package variables that the reading takes, are together of bulk at most 1048576: NARROWER than '..Said'. Prove '..Said' where nothing that the law and all that it calls make is longer than what came in: it says more and counts as full. Else prove '..UptoSaid'. A law counts once. -/
mutual
def uptoBulk {H : Type} : DataW H → Nat
  | .lit (.string bytes) => bytes.length + 1
  | .lit _ => 1
  | .nil => 1
  | .ptr d => uptoBulk d + 1
  | .slice elems spare => uptoBulkAll elems + uptoBulkAll spare + 1
  | .agg parts => uptoBulkAll parts + 1
  | .iface _ d => uptoBulk d + 1
  | .map entries => uptoBulkEntries entries + 1
  | .held _ => 1
def uptoBulkAll {H : Type} : List (DataW H) → Nat
  | [] => 0
  | d :: r => uptoBulk d + uptoBulkAll r
def uptoBulkEntries {H : Type} : List (Lit × DataW H) → Nat
  | [] => 0
  | x :: r => uptoBulkEntry x + uptoBulkEntries r
def uptoBulkEntry {H : Type} : Lit × DataW H → Nat
  | (.string bytes, d) => bytes.length + uptoBulk d + 1
  | (_, d) => uptoBulk d + 1
 end
def uptoSmall : (H : Type) → List (DataW H) → Bool := fun _ ds => decide (uptoBulkAll ds ≤ 1048576)
def OpenSpec.upto (s : _root_.Go.ChangeSpec) : _root_.Go.OpenSpec := { _root_.Go.OpenSpec.ofChange s with cond := some uptoSmall }

/-- 'laws.FnExactFailingOp', WHERE WHAT IT READS IS OF BULK AT MOST 1048576: true; the input reads as it did. -/
def fnExactFailingOpUptoRow : OpenClaim := { program := "ytnonomjjbflonaagreatdoor", sum := "e70469597db7198f647adad7bb208a272f08cbf27cf078eb575a439b50263bea", func := "loop.example/resourcestore/laws.FnExactFailingOp", spec := "fnExactFailingOp", inPlace := ["slices.overlaps[string]", "slices.overlaps[loop.example/resourcestore/impl.Node]", "internal/bytealg.abigen_runtime_cmpstring"], unfollowed := true, recurses := true, named := ["internal/strconv.uint64pow10", "math/bits.deBruijn32tab", "math/bits.deBruijn64tab"], loops := true, apart := false, laid := [("math/bits.deBruijn32tab", laid_math_bits_deBruijn32tab), ("math/bits.deBruijn64tab", laid_math_bits_deBruijn64tab), ("internal/strconv.uint64pow10", laid_internal_strconv_uint64pow10)], narrowed := true }
def FnExactFailingOpUptoSaid : Prop := fnExactFailingOpUptoRow.holds Tryz.pinned (OpenSpec.upto fnExactFailingOpSpec)

/-- 'laws.FnApplyPatchNone', WHERE WHAT IT READS IS OF BULK AT MOST 1048576: true; the input reads as it did. -/
def fnApplyPatchNoneUptoRow : OpenClaim := { program := "ytnonomjjbflonaagreatdoor", sum := "e70469597db7198f647adad7bb208a272f08cbf27cf078eb575a439b50263bea", func := "loop.example/resourcestore/laws.FnApplyPatchNone", spec := "fnApplyPatchNone", inPlace := ["slices.overlaps[string]", "slices.overlaps[loop.example/resourcestore/impl.Node]", "internal/bytealg.abigen_runtime_cmpstring"], unfollowed := true, recurses := true, named := ["internal/strconv.uint64pow10", "math/bits.deBruijn32tab", "math/bits.deBruijn64tab"], apart := false, laid := [("math/bits.deBruijn32tab", laid_math_bits_deBruijn32tab), ("math/bits.deBruijn64tab", laid_math_bits_deBruijn64tab), ("internal/strconv.uint64pow10", laid_internal_strconv_uint64pow10)], narrowed := true }
def FnApplyPatchNoneUptoSaid : Prop := fnApplyPatchNoneUptoRow.holds Tryz.pinned (OpenSpec.upto fnApplyPatchNoneSpec)

/-- 'laws.FnUndoOpTest', WHERE WHAT IT READS IS OF BULK AT MOST 1048576: true; the input reads as it did. -/
def fnUndoOpTestUptoRow : OpenClaim := { program := "ytnonomjjbflonaagreatdoor", sum := "e70469597db7198f647adad7bb208a272f08cbf27cf078eb575a439b50263bea", func := "loop.example/resourcestore/laws.FnUndoOpTest", spec := "fnUndoOpTest", inPlace := ["slices.overlaps[string]", "slices.overlaps[loop.example/resourcestore/impl.Node]", "internal/bytealg.abigen_runtime_cmpstring"], unfollowed := true, recurses := true, named := ["internal/strconv.uint64pow10", "math/bits.deBruijn32tab", "math/bits.deBruijn64tab"], apart := false, laid := [("math/bits.deBruijn32tab", laid_math_bits_deBruijn32tab), ("math/bits.deBruijn64tab", laid_math_bits_deBruijn64tab), ("internal/strconv.uint64pow10", laid_internal_strconv_uint64pow10)], narrowed := true }
def FnUndoOpTestUptoSaid : Prop := fnUndoOpTestUptoRow.holds Tryz.pinned (OpenSpec.upto fnUndoOpTestSpec)

/-- 'laws.FnExactApplyOp', WHERE WHAT IT READS IS OF BULK AT MOST 1048576: true; the input reads as it did. -/
def fnExactApplyOpUptoRow : OpenClaim := { program := "ytnonomjjbflonaagreatdoor", sum := "e70469597db7198f647adad7bb208a272f08cbf27cf078eb575a439b50263bea", func := "loop.example/resourcestore/laws.FnExactApplyOp", spec := "fnExactApplyOp", inPlace := ["slices.overlaps[string]", "slices.overlaps[loop.example/resourcestore/impl.Node]", "internal/bytealg.abigen_runtime_cmpstring"], unfollowed := true, recurses := true, named := ["internal/strconv.uint64pow10", "math/bits.deBruijn32tab", "math/bits.deBruijn64tab"], loops := true, apart := false, laid := [("math/bits.deBruijn32tab", laid_math_bits_deBruijn32tab), ("math/bits.deBruijn64tab", laid_math_bits_deBruijn64tab), ("internal/strconv.uint64pow10", laid_internal_strconv_uint64pow10)], narrowed := true }
def FnExactApplyOpUptoSaid : Prop := fnExactApplyOpUptoRow.holds Tryz.pinned (OpenSpec.upto fnExactApplyOpSpec)

/-- 'laws.FnFailingOp', WHERE WHAT IT READS IS OF BULK AT MOST 1048576: true; the input reads as it did. -/
def fnFailingOpUptoRow : OpenClaim := { program := "ytnonomjjbflonaagreatdoor", sum := "e70469597db7198f647adad7bb208a272f08cbf27cf078eb575a439b50263bea", func := "loop.example/resourcestore/laws.FnFailingOp", spec := "fnFailingOp", inPlace := ["slices.overlaps[string]", "slices.overlaps[loop.example/resourcestore/impl.Node]", "internal/bytealg.abigen_runtime_cmpstring"], unfollowed := true, recurses := true, named := ["internal/strconv.uint64pow10", "math/bits.deBruijn32tab", "math/bits.deBruijn64tab"], apart := false, laid := [("math/bits.deBruijn32tab", laid_math_bits_deBruijn32tab), ("math/bits.deBruijn64tab", laid_math_bits_deBruijn64tab), ("internal/strconv.uint64pow10", laid_internal_strconv_uint64pow10)], narrowed := true }
def FnFailingOpUptoSaid : Prop := fnFailingOpUptoRow.holds Tryz.pinned (OpenSpec.upto fnFailingOpSpec)

/-- 'laws.FnFailingOpNone', WHERE WHAT IT READS IS OF BULK AT MOST 1048576: true; the input reads as it did. -/
def fnFailingOpNoneUptoRow : OpenClaim := { program := "ytnonomjjbflonaagreatdoor", sum := "e70469597db7198f647adad7bb208a272f08cbf27cf078eb575a439b50263bea", func := "loop.example/resourcestore/laws.FnFailingOpNone", spec := "fnFailingOpNone", inPlace := ["slices.overlaps[string]", "slices.overlaps[loop.example/resourcestore/impl.Node]", "internal/bytealg.abigen_runtime_cmpstring"], unfollowed := true, recurses := true, named := ["internal/strconv.uint64pow10", "math/bits.deBruijn32tab", "math/bits.deBruijn64tab"], apart := false, laid := [("math/bits.deBruijn32tab", laid_math_bits_deBruijn32tab), ("math/bits.deBruijn64tab", laid_math_bits_deBruijn64tab), ("internal/strconv.uint64pow10", laid_internal_strconv_uint64pow10)], narrowed := true }
def FnFailingOpNoneUptoSaid : Prop := fnFailingOpNoneUptoRow.holds Tryz.pinned (OpenSpec.upto fnFailingOpNoneSpec)

/-- 'laws.FnUndoOp', WHERE WHAT IT READS IS OF BULK AT MOST 1048576: true; the input reads as it did. -/
def fnUndoOpUptoRow : OpenClaim := { program := "ytnonomjjbflonaagreatdoor", sum := "e70469597db7198f647adad7bb208a272f08cbf27cf078eb575a439b50263bea", func := "loop.example/resourcestore/laws.FnUndoOp", spec := "fnUndoOp", inPlace := ["slices.overlaps[string]", "slices.overlaps[loop.example/resourcestore/impl.Node]", "internal/bytealg.abigen_runtime_cmpstring"], unfollowed := true, recurses := true, named := ["internal/strconv.uint64pow10", "math/bits.deBruijn32tab", "math/bits.deBruijn64tab"], apart := false, laid := [("math/bits.deBruijn32tab", laid_math_bits_deBruijn32tab), ("math/bits.deBruijn64tab", laid_math_bits_deBruijn64tab), ("internal/strconv.uint64pow10", laid_internal_strconv_uint64pow10)], narrowed := true }
def FnUndoOpUptoSaid : Prop := fnUndoOpUptoRow.holds Tryz.pinned (OpenSpec.upto fnUndoOpSpec)

/-- 'laws.FnApplyPatch', WHERE WHAT IT READS IS OF BULK AT MOST 1048576: true; the input reads as it did. -/
def fnApplyPatchUptoRow : OpenClaim := { program := "ytnonomjjbflonaagreatdoor", sum := "e70469597db7198f647adad7bb208a272f08cbf27cf078eb575a439b50263bea", func := "loop.example/resourcestore/laws.FnApplyPatch", spec := "fnApplyPatch", inPlace := ["slices.overlaps[string]", "slices.overlaps[loop.example/resourcestore/impl.Node]", "internal/bytealg.abigen_runtime_cmpstring"], unfollowed := true, recurses := true, named := ["internal/strconv.uint64pow10", "math/bits.deBruijn32tab", "math/bits.deBruijn64tab"], apart := false, laid := [("math/bits.deBruijn32tab", laid_math_bits_deBruijn32tab), ("math/bits.deBruijn64tab", laid_math_bits_deBruijn64tab), ("internal/strconv.uint64pow10", laid_internal_strconv_uint64pow10)], narrowed := true }
def FnApplyPatchUptoSaid : Prop := fnApplyPatchUptoRow.holds Tryz.pinned (OpenSpec.upto fnApplyPatchSpec)

/-- 'laws.FnApplyPatchTest', WHERE WHAT IT READS IS OF BULK AT MOST 1048576: true; the input reads as it did. -/
def fnApplyPatchTestUptoRow : OpenClaim := { program := "ytnonomjjbflonaagreatdoor", sum := "e70469597db7198f647adad7bb208a272f08cbf27cf078eb575a439b50263bea", func := "loop.example/resourcestore/laws.FnApplyPatchTest", spec := "fnApplyPatchTest", inPlace := ["slices.overlaps[string]", "slices.overlaps[loop.example/resourcestore/impl.Node]", "internal/bytealg.abigen_runtime_cmpstring"], unfollowed := true, recurses := true, named := ["internal/strconv.uint64pow10", "math/bits.deBruijn32tab", "math/bits.deBruijn64tab"], apart := false, laid := [("math/bits.deBruijn32tab", laid_math_bits_deBruijn32tab), ("math/bits.deBruijn64tab", laid_math_bits_deBruijn64tab), ("internal/strconv.uint64pow10", laid_internal_strconv_uint64pow10)], narrowed := true }
def FnApplyPatchTestUptoSaid : Prop := fnApplyPatchTestUptoRow.holds Tryz.pinned (OpenSpec.upto fnApplyPatchTestSpec)

/-- 'laws.FnExactUndoOp', WHERE WHAT IT READS IS OF BULK AT MOST 1048576: true; the input reads as it did. -/
def fnExactUndoOpUptoRow : OpenClaim := { program := "ytnonomjjbflonaagreatdoor", sum := "e70469597db7198f647adad7bb208a272f08cbf27cf078eb575a439b50263bea", func := "loop.example/resourcestore/laws.FnExactUndoOp", spec := "fnExactUndoOp", inPlace := ["slices.overlaps[string]", "slices.overlaps[loop.example/resourcestore/impl.Node]", "internal/bytealg.abigen_runtime_cmpstring"], unfollowed := true, recurses := true, named := ["internal/strconv.uint64pow10", "math/bits.deBruijn32tab", "math/bits.deBruijn64tab"], loops := true, apart := false, laid := [("math/bits.deBruijn32tab", laid_math_bits_deBruijn32tab), ("math/bits.deBruijn64tab", laid_math_bits_deBruijn64tab), ("internal/strconv.uint64pow10", laid_internal_strconv_uint64pow10)], narrowed := true }
def FnExactUndoOpUptoSaid : Prop := fnExactUndoOpUptoRow.holds Tryz.pinned (OpenSpec.upto fnExactUndoOpSpec)

/-- 'laws.FnExactApplyPatch', WHERE WHAT IT READS IS OF BULK AT MOST 1048576: true; the input reads as it did. -/
def fnExactApplyPatchUptoRow : OpenClaim := { program := "ytnonomjjbflonaagreatdoor", sum := "e70469597db7198f647adad7bb208a272f08cbf27cf078eb575a439b50263bea", func := "loop.example/resourcestore/laws.FnExactApplyPatch", spec := "fnExactApplyPatch", inPlace := ["slices.overlaps[string]", "slices.overlaps[loop.example/resourcestore/impl.Node]", "internal/bytealg.abigen_runtime_cmpstring"], unfollowed := true, recurses := true, named := ["internal/strconv.uint64pow10", "math/bits.deBruijn32tab", "math/bits.deBruijn64tab"], loops := true, apart := false, laid := [("math/bits.deBruijn32tab", laid_math_bits_deBruijn32tab), ("math/bits.deBruijn64tab", laid_math_bits_deBruijn64tab), ("internal/strconv.uint64pow10", laid_internal_strconv_uint64pow10)], narrowed := true }
def FnExactApplyPatchUptoSaid : Prop := fnExactApplyPatchUptoRow.holds Tryz.pinned (OpenSpec.upto fnExactApplyPatchSpec)

end Rows
end Go.Proofs.YtnonomjjbflonaaGreatDoor
