/-
  NARROWER THAN 'FOR EVERY INPUT', by the rows' own cells (each row's printed sentence says how): FnIsSafe: laid · FnSucceeds: laid · FnSucceedsGet: laid · FnHandleRequest: laid · FnHandleRequestClock: laid · FnHandleRequestDelete: laid · FnHandleRequestNone: laid.
  DERIVED. THE GIVEN ROWS OF THIS SEAT. 7 by the template 'for every input the law returns true; each argument reads behind the call as it read before'; 0 by the template 'total and deterministic' (their statements: YtffpflffdijmfaaGreatDoorTotals.lean).
  GIVEN WITH THE SEED: the statements are not yours to turn. If you find one false, say at which input.
  Laid BY PROGRAM, IN A SANDBOX (cutbox-rows.mjs): the forced cells as the released guide's own fill.sh prints them over the translation fd542922f8e3412e… (all of the seat's roots in one cut). By AI agents, Wed Nov 11 2026. No macro, syntax, notation, axiom, sorry.
-/
import Derived.Test.YtffpflffdijmfaaGreatDoorChecked
import GoSem.Claim
import GoSem.ClaimJoined
import GoSem.ClaimMapViews
import Derived.JoinedTies
import Derived.KernelRfl
namespace Go.Proofs.YtffpflffdijmfaaGreatDoor
/- THE CELL 'sum', in the pinned program and in every row, IS THE sha256 OF THE DUMP (.gsa) THAT YtffpflffdijmfaaGreatDoorProg.lean LOADS. Nothing in Lean hashes anything: it is a label: what it is worth is what the hold of that sum in a sandbox is worth. -/
noncomputable def Tryz.pinned : Pinned := { name := "ytffpflffdijmfaagreatdoor", sum := "fd542922f8e3412e14f7dbb2bf65693f87ba298e1d90e6cfaa9293dcec241499", checked := Tryz.checked }
namespace Rows
def none {H : Type} : Left H := { results := [], args := [] }

/- WHAT THE LISTED PACKAGE-LEVEL VARIABLES READ AS WHEN THE CALL BEGINS. Each datum BY PROGRAM (the guide's laid-datum.mjs) off the statement by which the dump's own 'gosem.cut.vars' lays the variable. In a bare row this is a premise. The card (YtffpflffdijmfaaGreatDoorCards.lean) ties it to the program's text. -/
def laid_math_bits_deBruijn32tab {H : Type} : DataW H := .agg [.lit (.int .u8 0), .lit (.int .u8 1), .lit (.int .u8 28), .lit (.int .u8 2), .lit (.int .u8 29), .lit (.int .u8 14), .lit (.int .u8 24), .lit (.int .u8 3), .lit (.int .u8 30), .lit (.int .u8 22), .lit (.int .u8 20), .lit (.int .u8 15), .lit (.int .u8 25), .lit (.int .u8 17), .lit (.int .u8 4), .lit (.int .u8 8), .lit (.int .u8 31), .lit (.int .u8 27), .lit (.int .u8 13), .lit (.int .u8 23), .lit (.int .u8 21), .lit (.int .u8 19), .lit (.int .u8 16), .lit (.int .u8 7), .lit (.int .u8 26), .lit (.int .u8 12), .lit (.int .u8 18), .lit (.int .u8 6), .lit (.int .u8 11), .lit (.int .u8 5), .lit (.int .u8 10), .lit (.int .u8 9)]
def laid_math_bits_deBruijn64tab {H : Type} : DataW H := .agg [.lit (.int .u8 0), .lit (.int .u8 1), .lit (.int .u8 56), .lit (.int .u8 2), .lit (.int .u8 57), .lit (.int .u8 49), .lit (.int .u8 28), .lit (.int .u8 3), .lit (.int .u8 61), .lit (.int .u8 58), .lit (.int .u8 42), .lit (.int .u8 50), .lit (.int .u8 38), .lit (.int .u8 29), .lit (.int .u8 17), .lit (.int .u8 4), .lit (.int .u8 62), .lit (.int .u8 47), .lit (.int .u8 59), .lit (.int .u8 36), .lit (.int .u8 45), .lit (.int .u8 43), .lit (.int .u8 51), .lit (.int .u8 22), .lit (.int .u8 53), .lit (.int .u8 39), .lit (.int .u8 33), .lit (.int .u8 30), .lit (.int .u8 24), .lit (.int .u8 18), .lit (.int .u8 12), .lit (.int .u8 5), .lit (.int .u8 63), .lit (.int .u8 55), .lit (.int .u8 48), .lit (.int .u8 27), .lit (.int .u8 60), .lit (.int .u8 41), .lit (.int .u8 37), .lit (.int .u8 16), .lit (.int .u8 46), .lit (.int .u8 35), .lit (.int .u8 44), .lit (.int .u8 21), .lit (.int .u8 52), .lit (.int .u8 32), .lit (.int .u8 23), .lit (.int .u8 11), .lit (.int .u8 54), .lit (.int .u8 26), .lit (.int .u8 40), .lit (.int .u8 15), .lit (.int .u8 34), .lit (.int .u8 20), .lit (.int .u8 31), .lit (.int .u8 10), .lit (.int .u8 25), .lit (.int .u8 14), .lit (.int .u8 19), .lit (.int .u8 9), .lit (.int .u8 13), .lit (.int .u8 8), .lit (.int .u8 7), .lit (.int .u8 6)]
def laid_internal_strconv_uint64pow10 {H : Type} : DataW H := .agg [.lit (.int .u64 1), .lit (.int .u64 10), .lit (.int .u64 100), .lit (.int .u64 1000), .lit (.int .u64 10000), .lit (.int .u64 100000), .lit (.int .u64 1000000), .lit (.int .u64 10000000), .lit (.int .u64 100000000), .lit (.int .u64 1000000000), .lit (.int .u64 10000000000), .lit (.int .u64 100000000000), .lit (.int .u64 1000000000000), .lit (.int .u64 10000000000000), .lit (.int .u64 100000000000000), .lit (.int .u64 1000000000000000), .lit (.int .u64 10000000000000000), .lit (.int .u64 100000000000000000), .lit (.int .u64 1000000000000000000), .lit (.int .u64 10000000000000000000)]

/-- 'laws.FnIsSafe': WHATEVER THE INPUT: true; the input reads as it did. -/
def fnIsSafeSpec : ChangeSpec := { name := "fnIsSafe", fn := fun _ => fun
  | [d] => { results := [.lit (.bool true)], args := [d] }
  | _ => none }
def fnIsSafeRow : OpenClaim := { program := "ytffpflffdijmfaagreatdoor", sum := "fd542922f8e3412e14f7dbb2bf65693f87ba298e1d90e6cfaa9293dcec241499", func := "loop.example/resourcestore/laws.FnIsSafe", spec := "fnIsSafe", inPlace := ["internal/bytealg.IndexByteString", "internal/bytealg.abigen_runtime_cmpstring", "slices.overlaps[loop.example/resourcestore/impl.Item]", "internal/abi.NoEscape", "slices.overlaps[string]", "slices.overlaps[loop.example/resourcestore/impl.Node]"], unfollowed := true, recurses := true, named := ["internal/strconv.uint64pow10", "math/bits.deBruijn32tab", "math/bits.deBruijn64tab"], apart := false, laid := [("math/bits.deBruijn32tab", laid_math_bits_deBruijn32tab), ("math/bits.deBruijn64tab", laid_math_bits_deBruijn64tab), ("internal/strconv.uint64pow10", laid_internal_strconv_uint64pow10)] }
def FnIsSafeSaid : Prop := fnIsSafeRow.holds Tryz.pinned (OpenSpec.ofChange fnIsSafeSpec)

/-- ITS FALSE NEIGHBOUR: 'it returns false'. Refute it at one input. -/
def fnIsSafeWrong : ChangeSpec := { name := "fnIsSafe", fn := fun _ => fun
  | [d] => { results := [.lit (.bool false)], args := [d] }
  | _ => none }
def FnIsSafeWrongFalsely : Prop := fnIsSafeRow.holds Tryz.pinned (OpenSpec.ofChange fnIsSafeWrong)

/-- 'laws.FnSucceeds': WHATEVER THE INPUT: true; the input reads as it did. -/
def fnSucceedsSpec : ChangeSpec := { name := "fnSucceeds", fn := fun _ => fun
  | [d] => { results := [.lit (.bool true)], args := [d] }
  | _ => none }
def fnSucceedsRow : OpenClaim := { program := "ytffpflffdijmfaagreatdoor", sum := "fd542922f8e3412e14f7dbb2bf65693f87ba298e1d90e6cfaa9293dcec241499", func := "loop.example/resourcestore/laws.FnSucceeds", spec := "fnSucceeds", inPlace := ["internal/bytealg.IndexByteString", "internal/bytealg.abigen_runtime_cmpstring", "internal/abi.NoEscape", "slices.overlaps[string]", "slices.overlaps[loop.example/resourcestore/impl.Node]", "slices.overlaps[loop.example/resourcestore/impl.Item]"], unfollowed := true, recurses := true, named := ["internal/strconv.uint64pow10", "math/bits.deBruijn32tab", "math/bits.deBruijn64tab"], apart := false, laid := [("math/bits.deBruijn32tab", laid_math_bits_deBruijn32tab), ("math/bits.deBruijn64tab", laid_math_bits_deBruijn64tab), ("internal/strconv.uint64pow10", laid_internal_strconv_uint64pow10)] }
def FnSucceedsSaid : Prop := fnSucceedsRow.holds Tryz.pinned (OpenSpec.ofChange fnSucceedsSpec)

/-- ITS FALSE NEIGHBOUR: 'it returns false'. Refute it at one input. -/
def fnSucceedsWrong : ChangeSpec := { name := "fnSucceeds", fn := fun _ => fun
  | [d] => { results := [.lit (.bool false)], args := [d] }
  | _ => none }
def FnSucceedsWrongFalsely : Prop := fnSucceedsRow.holds Tryz.pinned (OpenSpec.ofChange fnSucceedsWrong)

/-- 'laws.FnSucceedsGet': WHATEVER THE INPUT: true; the input reads as it did. -/
def fnSucceedsGetSpec : ChangeSpec := { name := "fnSucceedsGet", fn := fun _ => fun
  | [d] => { results := [.lit (.bool true)], args := [d] }
  | _ => none }
def fnSucceedsGetRow : OpenClaim := { program := "ytffpflffdijmfaagreatdoor", sum := "fd542922f8e3412e14f7dbb2bf65693f87ba298e1d90e6cfaa9293dcec241499", func := "loop.example/resourcestore/laws.FnSucceedsGet", spec := "fnSucceedsGet", inPlace := ["internal/bytealg.IndexByteString", "internal/bytealg.abigen_runtime_cmpstring", "internal/abi.NoEscape", "slices.overlaps[string]", "slices.overlaps[loop.example/resourcestore/impl.Node]", "slices.overlaps[loop.example/resourcestore/impl.Item]"], unfollowed := true, recurses := true, named := ["internal/strconv.uint64pow10", "math/bits.deBruijn32tab", "math/bits.deBruijn64tab"], apart := false, laid := [("math/bits.deBruijn32tab", laid_math_bits_deBruijn32tab), ("math/bits.deBruijn64tab", laid_math_bits_deBruijn64tab), ("internal/strconv.uint64pow10", laid_internal_strconv_uint64pow10)] }
def FnSucceedsGetSaid : Prop := fnSucceedsGetRow.holds Tryz.pinned (OpenSpec.ofChange fnSucceedsGetSpec)

/-- ITS FALSE NEIGHBOUR: 'it returns false'. Refute it at one input. -/
def fnSucceedsGetWrong : ChangeSpec := { name := "fnSucceedsGet", fn := fun _ => fun
  | [d] => { results := [.lit (.bool false)], args := [d] }
  | _ => none }
def FnSucceedsGetWrongFalsely : Prop := fnSucceedsGetRow.holds Tryz.pinned (OpenSpec.ofChange fnSucceedsGetWrong)

/-- 'laws.FnHandleRequest': WHATEVER THE INPUT: true; the input reads as it did. -/
def fnHandleRequestSpec : ChangeSpec := { name := "fnHandleRequest", fn := fun _ => fun
  | [d] => { results := [.lit (.bool true)], args := [d] }
  | _ => none }
def fnHandleRequestRow : OpenClaim := { program := "ytffpflffdijmfaagreatdoor", sum := "fd542922f8e3412e14f7dbb2bf65693f87ba298e1d90e6cfaa9293dcec241499", func := "loop.example/resourcestore/laws.FnHandleRequest", spec := "fnHandleRequest", inPlace := ["internal/bytealg.IndexByteString", "internal/bytealg.abigen_runtime_cmpstring", "internal/abi.NoEscape", "slices.overlaps[string]", "slices.overlaps[loop.example/resourcestore/impl.Node]", "slices.overlaps[loop.example/resourcestore/impl.Item]"], unfollowed := true, recurses := true, named := ["internal/strconv.uint64pow10", "math/bits.deBruijn32tab", "math/bits.deBruijn64tab"], apart := false, laid := [("math/bits.deBruijn32tab", laid_math_bits_deBruijn32tab), ("math/bits.deBruijn64tab", laid_math_bits_deBruijn64tab), ("internal/strconv.uint64pow10", laid_internal_strconv_uint64pow10)] }
def FnHandleRequestSaid : Prop := fnHandleRequestRow.holds Tryz.pinned (OpenSpec.ofChange fnHandleRequestSpec)

/-- ITS FALSE NEIGHBOUR: 'it returns false'. Refute it at one input. -/
def fnHandleRequestWrong : ChangeSpec := { name := "fnHandleRequest", fn := fun _ => fun
  | [d] => { results := [.lit (.bool false)], args := [d] }
  | _ => none }
def FnHandleRequestWrongFalsely : Prop := fnHandleRequestRow.holds Tryz.pinned (OpenSpec.ofChange fnHandleRequestWrong)

/-- 'laws.FnHandleRequestClock': WHATEVER THE INPUT: true; the input reads as it did. -/
def fnHandleRequestClockSpec : ChangeSpec := { name := "fnHandleRequestClock", fn := fun _ => fun
  | [d] => { results := [.lit (.bool true)], args := [d] }
  | _ => none }
def fnHandleRequestClockRow : OpenClaim := { program := "ytffpflffdijmfaagreatdoor", sum := "fd542922f8e3412e14f7dbb2bf65693f87ba298e1d90e6cfaa9293dcec241499", func := "loop.example/resourcestore/laws.FnHandleRequestClock", spec := "fnHandleRequestClock", inPlace := ["internal/bytealg.IndexByteString", "internal/bytealg.abigen_runtime_cmpstring", "internal/abi.NoEscape", "slices.overlaps[string]", "slices.overlaps[loop.example/resourcestore/impl.Node]", "slices.overlaps[loop.example/resourcestore/impl.Item]"], unfollowed := true, recurses := true, named := ["internal/strconv.uint64pow10", "math/bits.deBruijn32tab", "math/bits.deBruijn64tab"], apart := false, laid := [("math/bits.deBruijn32tab", laid_math_bits_deBruijn32tab), ("math/bits.deBruijn64tab", laid_math_bits_deBruijn64tab), ("internal/strconv.uint64pow10", laid_internal_strconv_uint64pow10)] }
def FnHandleRequestClockSaid : Prop := fnHandleRequestClockRow.holds Tryz.pinned (OpenSpec.ofChange fnHandleRequestClockSpec)

/-- ITS FALSE NEIGHBOUR: 'it returns false'. Refute it at one input. -/
def fnHandleRequestClockWrong : ChangeSpec := { name := "fnHandleRequestClock", fn := fun _ => fun
  | [d] => { results := [.lit (.bool false)], args := [d] }
  | _ => none }
def FnHandleRequestClockWrongFalsely : Prop := fnHandleRequestClockRow.holds Tryz.pinned (OpenSpec.ofChange fnHandleRequestClockWrong)

/-- 'laws.FnHandleRequestDelete': WHATEVER THE INPUT: true; the input reads as it did. -/
def fnHandleRequestDeleteSpec : ChangeSpec := { name := "fnHandleRequestDelete", fn := fun _ => fun
  | [d] => { results := [.lit (.bool true)], args := [d] }
  | _ => none }
def fnHandleRequestDeleteRow : OpenClaim := { program := "ytffpflffdijmfaagreatdoor", sum := "fd542922f8e3412e14f7dbb2bf65693f87ba298e1d90e6cfaa9293dcec241499", func := "loop.example/resourcestore/laws.FnHandleRequestDelete", spec := "fnHandleRequestDelete", inPlace := ["internal/bytealg.IndexByteString", "internal/bytealg.abigen_runtime_cmpstring", "internal/abi.NoEscape", "slices.overlaps[string]", "slices.overlaps[loop.example/resourcestore/impl.Node]", "slices.overlaps[loop.example/resourcestore/impl.Item]"], unfollowed := true, recurses := true, named := ["internal/strconv.uint64pow10", "math/bits.deBruijn32tab", "math/bits.deBruijn64tab"], apart := false, laid := [("math/bits.deBruijn32tab", laid_math_bits_deBruijn32tab), ("math/bits.deBruijn64tab", laid_math_bits_deBruijn64tab), ("internal/strconv.uint64pow10", laid_internal_strconv_uint64pow10)] }
def FnHandleRequestDeleteSaid : Prop := fnHandleRequestDeleteRow.holds Tryz.pinned (OpenSpec.ofChange fnHandleRequestDeleteSpec)

/-- ITS FALSE NEIGHBOUR: 'it returns false'. Refute it at one input. -/
def fnHandleRequestDeleteWrong : ChangeSpec := { name := "fnHandleRequestDelete", fn := fun _ => fun
  | [d] => { results := [.lit (.bool false)], args := [d] }
  | _ => none }
def FnHandleRequestDeleteWrongFalsely : Prop := fnHandleRequestDeleteRow.holds Tryz.pinned (OpenSpec.ofChange fnHandleRequestDeleteWrong)

/-- 'laws.FnHandleRequestNone': WHATEVER THE INPUT: true; the input reads as it did. -/
def fnHandleRequestNoneSpec : ChangeSpec := { name := "fnHandleRequestNone", fn := fun _ => fun
  | [d] => { results := [.lit (.bool true)], args := [d] }
  | _ => none }
def fnHandleRequestNoneRow : OpenClaim := { program := "ytffpflffdijmfaagreatdoor", sum := "fd542922f8e3412e14f7dbb2bf65693f87ba298e1d90e6cfaa9293dcec241499", func := "loop.example/resourcestore/laws.FnHandleRequestNone", spec := "fnHandleRequestNone", inPlace := ["internal/bytealg.IndexByteString", "internal/bytealg.abigen_runtime_cmpstring", "internal/abi.NoEscape", "slices.overlaps[string]", "slices.overlaps[loop.example/resourcestore/impl.Node]", "slices.overlaps[loop.example/resourcestore/impl.Item]"], unfollowed := true, recurses := true, named := ["internal/strconv.uint64pow10", "math/bits.deBruijn32tab", "math/bits.deBruijn64tab"], apart := false, laid := [("math/bits.deBruijn32tab", laid_math_bits_deBruijn32tab), ("math/bits.deBruijn64tab", laid_math_bits_deBruijn64tab), ("internal/strconv.uint64pow10", laid_internal_strconv_uint64pow10)] }
def FnHandleRequestNoneSaid : Prop := fnHandleRequestNoneRow.holds Tryz.pinned (OpenSpec.ofChange fnHandleRequestNoneSpec)

/-- ITS FALSE NEIGHBOUR: 'it returns false'. Refute it at one input. -/
def fnHandleRequestNoneWrong : ChangeSpec := { name := "fnHandleRequestNone", fn := fun _ => fun
  | [d] => { results := [.lit (.bool false)], args := [d] }
  | _ => none }
def FnHandleRequestNoneWrongFalsely : Prop := fnHandleRequestNoneRow.holds Tryz.pinned (OpenSpec.ofChange fnHandleRequestNoneWrong)

/- THE SECOND FORM. 'bulk': how many values and letters a reading holds, each counted each time it is reached (what is shared counts as often as it is met; a slice's spare places count too). A statement '..UptoSaid' is the law's where the arguments, and the package variables that the reading takes, are together of bulk at most 1048576: NARROWER than '..Said'. Prove '..Said' where nothing that the law and all that it calls make is longer than what came in: it says more and counts as full. Else prove '..UptoSaid'. A law counts once. -/
mutual
def uptoBulk {H : Type} : DataW H → Nat
  | .lit (.string bytes) => bytes.length + 1
  | .lit _ => 1
  | .nil => 1
  | .ptr d => uptoBulk d + 1
  | .slice elems spare => uptoBulkAll elems + uptoBulkAll spare + 1
  | .agg parts => uptoBulkAll parts + 1
  | .iface _ d => uptoBulk d + 1
  | .map entries => uptoBulkEntries entries + 1
  | .held _ => 1
def uptoBulkAll {H : Type} : List (DataW H) → Nat
  | [] => 0
  | d :: r => uptoBulk d + uptoBulkAll r
def uptoBulkEntries {H : Type} : List (Lit × DataW H) → Nat
  | [] => 0
  | x :: r => uptoBulkEntry x + uptoBulkEntries r
def uptoBulkEntry {H : Type} : Lit × DataW H → Nat
  | (.string bytes, d) => bytes.length + uptoBulk d + 1
  | (_, d) => uptoBulk d + 1
 end
def uptoSmall : (H : Type) → List (DataW H) → Bool := fun _ ds => decide (uptoBulkAll ds ≤ 1048576)
def OpenSpec.upto (s : _root_.Go.ChangeSpec) : _root_.Go.OpenSpec := { _root_.Go.OpenSpec.ofChange s with cond := some uptoSmall }

/-- 'laws.FnIsSafe', WHERE WHAT IT READS IS OF BULK AT MOST 1048576: true; the input reads as it did. -/
def fnIsSafeUptoRow : OpenClaim := { program := "ytffpflffdijmfaagreatdoor", sum := "fd542922f8e3412e14f7dbb2bf65693f87ba298e1d90e6cfaa9293dcec241499", func := "loop.example/resourcestore/laws.FnIsSafe", spec := "fnIsSafe", inPlace := ["internal/bytealg.IndexByteString", "internal/bytealg.abigen_runtime_cmpstring", "slices.overlaps[loop.example/resourcestore/impl.Item]", "internal/abi.NoEscape", "slices.overlaps[string]", "slices.overlaps[loop.example/resourcestore/impl.Node]"], unfollowed := true, recurses := true, named := ["internal/strconv.uint64pow10", "math/bits.deBruijn32tab", "math/bits.deBruijn64tab"], apart := false, laid := [("math/bits.deBruijn32tab", laid_math_bits_deBruijn32tab), ("math/bits.deBruijn64tab", laid_math_bits_deBruijn64tab), ("internal/strconv.uint64pow10", laid_internal_strconv_uint64pow10)], narrowed := true }
def FnIsSafeUptoSaid : Prop := fnIsSafeUptoRow.holds Tryz.pinned (OpenSpec.upto fnIsSafeSpec)

/-- 'laws.FnSucceeds', WHERE WHAT IT READS IS OF BULK AT MOST 1048576: true; the input reads as it did. -/
def fnSucceedsUptoRow : OpenClaim := { program := "ytffpflffdijmfaagreatdoor", sum := "fd542922f8e3412e14f7dbb2bf65693f87ba298e1d90e6cfaa9293dcec241499", func := "loop.example/resourcestore/laws.FnSucceeds", spec := "fnSucceeds", inPlace := ["internal/bytealg.IndexByteString", "internal/bytealg.abigen_runtime_cmpstring", "internal/abi.NoEscape", "slices.overlaps[string]", "slices.overlaps[loop.example/resourcestore/impl.Node]", "slices.overlaps[loop.example/resourcestore/impl.Item]"], unfollowed := true, recurses := true, named := ["internal/strconv.uint64pow10", "math/bits.deBruijn32tab", "math/bits.deBruijn64tab"], apart := false, laid := [("math/bits.deBruijn32tab", laid_math_bits_deBruijn32tab), ("math/bits.deBruijn64tab", laid_math_bits_deBruijn64tab), ("internal/strconv.uint64pow10", laid_internal_strconv_uint64pow10)], narrowed := true }
def FnSucceedsUptoSaid : Prop := fnSucceedsUptoRow.holds Tryz.pinned (OpenSpec.upto fnSucceedsSpec)

/-- 'laws.FnSucceedsGet', WHERE WHAT IT READS IS OF BULK AT MOST 1048576: true; the input reads as it did. -/
def fnSucceedsGetUptoRow : OpenClaim := { program := "ytffpflffdijmfaagreatdoor", sum := "fd542922f8e3412e14f7dbb2bf65693f87ba298e1d90e6cfaa9293dcec241499", func := "loop.example/resourcestore/laws.FnSucceedsGet", spec := "fnSucceedsGet", inPlace := ["internal/bytealg.IndexByteString", "internal/bytealg.abigen_runtime_cmpstring", "internal/abi.NoEscape", "slices.overlaps[string]", "slices.overlaps[loop.example/resourcestore/impl.Node]", "slices.overlaps[loop.example/resourcestore/impl.Item]"], unfollowed := true, recurses := true, named := ["internal/strconv.uint64pow10", "math/bits.deBruijn32tab", "math/bits.deBruijn64tab"], apart := false, laid := [("math/bits.deBruijn32tab", laid_math_bits_deBruijn32tab), ("math/bits.deBruijn64tab", laid_math_bits_deBruijn64tab), ("internal/strconv.uint64pow10", laid_internal_strconv_uint64pow10)], narrowed := true }
def FnSucceedsGetUptoSaid : Prop := fnSucceedsGetUptoRow.holds Tryz.pinned (OpenSpec.upto fnSucceedsGetSpec)

/-- 'laws.FnHandleRequest', WHERE WHAT IT READS IS OF BULK AT MOST 1048576: true; the input reads as it did. -/
def fnHandleRequestUptoRow : OpenClaim := { program := "ytffpflffdijmfaagreatdoor", sum := "fd542922f8e3412e14f7dbb2bf65693f87ba298e1d90e6cfaa9293dcec241499", func := "loop.example/resourcestore/laws.FnHandleRequest", spec := "fnHandleRequest", inPlace := ["internal/bytealg.IndexByteString", "internal/bytealg.abigen_runtime_cmpstring", "internal/abi.NoEscape", "slices.overlaps[string]", "slices.overlaps[loop.example/resourcestore/impl.Node]", "slices.overlaps[loop.example/resourcestore/impl.Item]"], unfollowed := true, recurses := true, named := ["internal/strconv.uint64pow10", "math/bits.deBruijn32tab", "math/bits.deBruijn64tab"], apart := false, laid := [("math/bits.deBruijn32tab", laid_math_bits_deBruijn32tab), ("math/bits.deBruijn64tab", laid_math_bits_deBruijn64tab), ("internal/strconv.uint64pow10", laid_internal_strconv_uint64pow10)], narrowed := true }
def FnHandleRequestUptoSaid : Prop := fnHandleRequestUptoRow.holds Tryz.pinned (OpenSpec.upto fnHandleRequestSpec)

/-- 'laws.FnHandleRequestClock', WHERE WHAT IT READS IS OF BULK AT MOST 1048576: true; the input reads as it did. -/
def fnHandleRequestClockUptoRow : OpenClaim := { program := "ytffpflffdijmfaagreatdoor", sum := "fd542922f8e3412e14f7dbb2bf65693f87ba298e1d90e6cfaa9293dcec241499", func := "loop.example/resourcestore/laws.FnHandleRequestClock", spec := "fnHandleRequestClock", inPlace := ["internal/bytealg.IndexByteString", "internal/bytealg.abigen_runtime_cmpstring", "internal/abi.NoEscape", "slices.overlaps[string]", "slices.overlaps[loop.example/resourcestore/impl.Node]", "slices.overlaps[loop.example/resourcestore/impl.Item]"], unfollowed := true, recurses := true, named := ["internal/strconv.uint64pow10", "math/bits.deBruijn32tab", "math/bits.deBruijn64tab"], apart := false, laid := [("math/bits.deBruijn32tab", laid_math_bits_deBruijn32tab), ("math/bits.deBruijn64tab", laid_math_bits_deBruijn64tab), ("internal/strconv.uint64pow10", laid_internal_strconv_uint64pow10)], narrowed := true }
def FnHandleRequestClockUptoSaid : Prop := fnHandleRequestClockUptoRow.holds Tryz.pinned (OpenSpec.upto fnHandleRequestClockSpec)

/-- 'laws.FnHandleRequestDelete', WHERE WHAT IT READS IS OF BULK AT MOST 1048576: true; the input reads as it did. -/
def fnHandleRequestDeleteUptoRow : OpenClaim := { program := "ytffpflffdijmfaagreatdoor", sum := "fd542922f8e3412e14f7dbb2bf65693f87ba298e1d90e6cfaa9293dcec241499", func := "loop.example/resourcestore/laws.FnHandleRequestDelete", spec := "fnHandleRequestDelete", inPlace := ["internal/bytealg.IndexByteString", "internal/bytealg.abigen_runtime_cmpstring", "internal/abi.NoEscape", "slices.overlaps[string]", "slices.overlaps[loop.example/resourcestore/impl.Node]", "slices.overlaps[loop.example/resourcestore/impl.Item]"], unfollowed := true, recurses := true, named := ["internal/strconv.uint64pow10", "math/bits.deBruijn32tab", "math/bits.deBruijn64tab"], apart := false, laid := [("math/bits.deBruijn32tab", laid_math_bits_deBruijn32tab), ("math/bits.deBruijn64tab", laid_math_bits_deBruijn64tab), ("internal/strconv.uint64pow10", laid_internal_strconv_uint64pow10)], narrowed := true }
def FnHandleRequestDeleteUptoSaid : Prop := fnHandleRequestDeleteUptoRow.holds Tryz.pinned (OpenSpec.upto fnHandleRequestDeleteSpec)

/-- 'laws.FnHandleRequestNone', WHERE WHAT IT READS IS OF BULK AT MOST 1048576: true; the input reads as it did. -/
def fnHandleRequestNoneUptoRow : OpenClaim := { program := "ytffpflffdijmfaagreatdoor", sum := "fd542922f8e3412e14f7dbb2bf65693f87ba298e1d90e6cfaa9293dcec241499", func := "loop.example/resourcestore/laws.FnHandleRequestNone", spec := "fnHandleRequestNone", inPlace := ["internal/bytealg.IndexByteString", "internal/bytealg.abigen_runtime_cmpstring", "internal/abi.NoEscape", "slices.overlaps[string]", "slices.overlaps[loop.example/resourcestore/impl.Node]", "slices.overlaps[loop.example/resourcestore/impl.Item]"], unfollowed := true, recurses := true, named := ["internal/strconv.uint64pow10", "math/bits.deBruijn32tab", "math/bits.deBruijn64tab"], apart := false, laid := [("math/bits.deBruijn32tab", laid_math_bits_deBruijn32tab), ("math/bits.deBruijn64tab", laid_math_bits_deBruijn64tab), ("internal/strconv.uint64pow10", laid_internal_strconv_uint64pow10)], narrowed := true }
def FnHandleRequestNoneUptoSaid : Prop := fnHandleRequestNoneUptoRow.holds Tryz.pinned (OpenSpec.upto fnHandleRequestNoneSpec)

end Rows
end Go.Proofs.YtffpflffdijmfaaGreatDoor
