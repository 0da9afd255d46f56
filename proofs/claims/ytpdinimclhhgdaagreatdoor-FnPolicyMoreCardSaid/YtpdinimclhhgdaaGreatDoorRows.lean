/-
  NARROWER THAN 'FOR EVERY INPUT', by the rows' own cells (each row's printed sentence says how): FnPolicyDo: ifaces, laid · FnPolicyFirst: ifaces, laid · FnPolicyMore: ifaces, laid · FnPolicyNone: ifaces, laid · FnPolicyTwice: ifaces, laid · FnPolicyWay: ifaces, laid · FnPolicyAll: ifaces, laid · FnRefuseAll: ifaces, laid · FnPickTable: ifaces, laid.
  DERIVED. THE GIVEN ROWS OF THIS SEAT. 9 by the template 'for every input the law returns true; each argument reads behind the call as it read before'; 0 by the template 'total and deterministic' (their statements: YtpdinimclhhgdaaGreatDoorTotals.lean).
  GIVEN WITH THE SEED: the statements are not yours to turn. If you find one false, say at which input.
  Laid BY PROGRAM, IN A SANDBOX (cutbox-rows.mjs): the forced cells as the released guide's own fill.sh prints them over the translation e3ad41bf8bd49368… (all of the seat's roots in one cut). By AI agents, Wed Nov 11 2026. No macro, syntax, notation, axiom, sorry.
-/
import Derived.Test.YtpdinimclhhgdaaGreatDoorChecked
import GoSem.Claim
import GoSem.ClaimJoined
import GoSem.ClaimMapViews
import Derived.JoinedTies
import Derived.KernelRfl
namespace Go.Proofs.YtpdinimclhhgdaaGreatDoor
/- THE CELL 'sum', in the pinned program and in every row, IS THE sha256 OF THE DUMP (.gsa) THAT YtpdinimclhhgdaaGreatDoorProg.lean LOADS. Nothing in Lean hashes anything: it is a label: what it is worth is what the hold of that sum in a sandbox is worth. -/
noncomputable def Tryz.pinned : Pinned := { name := "ytpdinimclhhgdaagreatdoor", sum := "e3ad41bf8bd49368df46c5b0aeabe26d0586ab4fb6aee0416688e5f99f7b767e", checked := Tryz.checked }
namespace Rows
def none {H : Type} : Left H := { results := [], args := [] }

/- WHAT THE LISTED PACKAGE-LEVEL VARIABLES READ AS WHEN THE CALL BEGINS. Each datum BY PROGRAM (the guide's laid-datum.mjs) off the statement by which the dump's own 'gosem.cut.vars' lays the variable. In a bare row this is a premise. The card (YtpdinimclhhgdaaGreatDoorCards.lean) ties it to the program's text. -/
def laid_math_bits_deBruijn32tab {H : Type} : DataW H := .agg [.lit (.int .u8 0), .lit (.int .u8 1), .lit (.int .u8 28), .lit (.int .u8 2), .lit (.int .u8 29), .lit (.int .u8 14), .lit (.int .u8 24), .lit (.int .u8 3), .lit (.int .u8 30), .lit (.int .u8 22), .lit (.int .u8 20), .lit (.int .u8 15), .lit (.int .u8 25), .lit (.int .u8 17), .lit (.int .u8 4), .lit (.int .u8 8), .lit (.int .u8 31), .lit (.int .u8 27), .lit (.int .u8 13), .lit (.int .u8 23), .lit (.int .u8 21), .lit (.int .u8 19), .lit (.int .u8 16), .lit (.int .u8 7), .lit (.int .u8 26), .lit (.int .u8 12), .lit (.int .u8 18), .lit (.int .u8 6), .lit (.int .u8 11), .lit (.int .u8 5), .lit (.int .u8 10), .lit (.int .u8 9)]
def laid_math_bits_deBruijn64tab {H : Type} : DataW H := .agg [.lit (.int .u8 0), .lit (.int .u8 1), .lit (.int .u8 56), .lit (.int .u8 2), .lit (.int .u8 57), .lit (.int .u8 49), .lit (.int .u8 28), .lit (.int .u8 3), .lit (.int .u8 61), .lit (.int .u8 58), .lit (.int .u8 42), .lit (.int .u8 50), .lit (.int .u8 38), .lit (.int .u8 29), .lit (.int .u8 17), .lit (.int .u8 4), .lit (.int .u8 62), .lit (.int .u8 47), .lit (.int .u8 59), .lit (.int .u8 36), .lit (.int .u8 45), .lit (.int .u8 43), .lit (.int .u8 51), .lit (.int .u8 22), .lit (.int .u8 53), .lit (.int .u8 39), .lit (.int .u8 33), .lit (.int .u8 30), .lit (.int .u8 24), .lit (.int .u8 18), .lit (.int .u8 12), .lit (.int .u8 5), .lit (.int .u8 63), .lit (.int .u8 55), .lit (.int .u8 48), .lit (.int .u8 27), .lit (.int .u8 60), .lit (.int .u8 41), .lit (.int .u8 37), .lit (.int .u8 16), .lit (.int .u8 46), .lit (.int .u8 35), .lit (.int .u8 44), .lit (.int .u8 21), .lit (.int .u8 52), .lit (.int .u8 32), .lit (.int .u8 23), .lit (.int .u8 11), .lit (.int .u8 54), .lit (.int .u8 26), .lit (.int .u8 40), .lit (.int .u8 15), .lit (.int .u8 34), .lit (.int .u8 20), .lit (.int .u8 31), .lit (.int .u8 10), .lit (.int .u8 25), .lit (.int .u8 14), .lit (.int .u8 19), .lit (.int .u8 9), .lit (.int .u8 13), .lit (.int .u8 8), .lit (.int .u8 7), .lit (.int .u8 6)]
def laid_internal_strconv_uint64pow10 {H : Type} : DataW H := .agg [.lit (.int .u64 1), .lit (.int .u64 10), .lit (.int .u64 100), .lit (.int .u64 1000), .lit (.int .u64 10000), .lit (.int .u64 100000), .lit (.int .u64 1000000), .lit (.int .u64 10000000), .lit (.int .u64 100000000), .lit (.int .u64 1000000000), .lit (.int .u64 10000000000), .lit (.int .u64 100000000000), .lit (.int .u64 1000000000000), .lit (.int .u64 10000000000000), .lit (.int .u64 100000000000000), .lit (.int .u64 1000000000000000), .lit (.int .u64 10000000000000000), .lit (.int .u64 100000000000000000), .lit (.int .u64 1000000000000000000), .lit (.int .u64 10000000000000000000)]
def laid_loop_example_wayboard_impl_errPath {H : Type} : DataW H := .iface "*errors.errorString" (.ptr (.agg [.lit (.string [110, 111, 116, 32, 97, 32, 112, 97, 116, 104])]))

/-- 'laws.FnPolicyDo': WHATEVER THE INPUT: true; the input reads as it did. -/
def fnPolicyDoSpec : ChangeSpec := { name := "fnPolicyDo", vars := ["loop.example/wayboard/impl.errPath"], fn := fun _ => fun
  | [d, g1] => { results := [.lit (.bool true)], args := [d], vars := [g1] }
  | _ => none }
def fnPolicyDoRow : OpenClaim := { program := "ytpdinimclhhgdaagreatdoor", sum := "e3ad41bf8bd49368df46c5b0aeabe26d0586ab4fb6aee0416688e5f99f7b767e", func := "loop.example/wayboard/laws.FnPolicyDo", spec := "fnPolicyDo", inPlace := ["internal/reflectlite.TypeOf", "slices.overlaps[int]"], unfollowed := true, recurses := true, named := ["loop.example/wayboard/impl.errPath", "internal/strconv.uint64pow10", "math/bits.deBruijn32tab", "math/bits.deBruijn64tab"], ifaces := true, apart := false, laid := [("math/bits.deBruijn32tab", laid_math_bits_deBruijn32tab), ("math/bits.deBruijn64tab", laid_math_bits_deBruijn64tab), ("internal/strconv.uint64pow10", laid_internal_strconv_uint64pow10), ("loop.example/wayboard/impl.errPath", laid_loop_example_wayboard_impl_errPath)] }
def FnPolicyDoSaid : Prop := fnPolicyDoRow.holds Tryz.pinned (OpenSpec.ofChange fnPolicyDoSpec)

/-- ITS FALSE NEIGHBOUR: 'it returns false'. Refute it at one input. -/
def fnPolicyDoWrong : ChangeSpec := { name := "fnPolicyDo", vars := ["loop.example/wayboard/impl.errPath"], fn := fun _ => fun
  | [d, g1] => { results := [.lit (.bool false)], args := [d], vars := [g1] }
  | _ => none }
def FnPolicyDoWrongFalsely : Prop := fnPolicyDoRow.holds Tryz.pinned (OpenSpec.ofChange fnPolicyDoWrong)

/-- 'laws.FnPolicyFirst': WHATEVER THE INPUT: true; the input reads as it did. -/
def fnPolicyFirstSpec : ChangeSpec := { name := "fnPolicyFirst", vars := ["loop.example/wayboard/impl.errPath"], fn := fun _ => fun
  | [d1, d2, g1] => { results := [.lit (.bool true)], args := [d1, d2], vars := [g1] }
  | _ => none }
def fnPolicyFirstRow : OpenClaim := { program := "ytpdinimclhhgdaagreatdoor", sum := "e3ad41bf8bd49368df46c5b0aeabe26d0586ab4fb6aee0416688e5f99f7b767e", func := "loop.example/wayboard/laws.FnPolicyFirst", spec := "fnPolicyFirst", inPlace := ["internal/reflectlite.TypeOf", "slices.overlaps[int]"], unfollowed := true, recurses := true, named := ["loop.example/wayboard/impl.errPath", "internal/strconv.uint64pow10", "math/bits.deBruijn32tab", "math/bits.deBruijn64tab"], ifaces := true, apart := false, laid := [("math/bits.deBruijn32tab", laid_math_bits_deBruijn32tab), ("math/bits.deBruijn64tab", laid_math_bits_deBruijn64tab), ("internal/strconv.uint64pow10", laid_internal_strconv_uint64pow10), ("loop.example/wayboard/impl.errPath", laid_loop_example_wayboard_impl_errPath)] }
def FnPolicyFirstSaid : Prop := fnPolicyFirstRow.holds Tryz.pinned (OpenSpec.ofChange fnPolicyFirstSpec)

/-- ITS FALSE NEIGHBOUR: 'it returns false'. Refute it at one input. -/
def fnPolicyFirstWrong : ChangeSpec := { name := "fnPolicyFirst", vars := ["loop.example/wayboard/impl.errPath"], fn := fun _ => fun
  | [d1, d2, g1] => { results := [.lit (.bool false)], args := [d1, d2], vars := [g1] }
  | _ => none }
def FnPolicyFirstWrongFalsely : Prop := fnPolicyFirstRow.holds Tryz.pinned (OpenSpec.ofChange fnPolicyFirstWrong)

/-- 'laws.FnPolicyMore': WHATEVER THE INPUT: true; the input reads as it did. -/
def fnPolicyMoreSpec : ChangeSpec := { name := "fnPolicyMore", vars := ["loop.example/wayboard/impl.errPath"], fn := fun _ => fun
  | [d1, d2, g1] => { results := [.lit (.bool true)], args := [d1, d2], vars := [g1] }
  | _ => none }
def fnPolicyMoreRow : OpenClaim := { program := "ytpdinimclhhgdaagreatdoor", sum := "e3ad41bf8bd49368df46c5b0aeabe26d0586ab4fb6aee0416688e5f99f7b767e", func := "loop.example/wayboard/laws.FnPolicyMore", spec := "fnPolicyMore", inPlace := ["internal/reflectlite.TypeOf", "slices.overlaps[int]"], unfollowed := true, recurses := true, named := ["loop.example/wayboard/impl.errPath", "internal/strconv.uint64pow10", "math/bits.deBruijn32tab", "math/bits.deBruijn64tab"], ifaces := true, apart := false, laid := [("math/bits.deBruijn32tab", laid_math_bits_deBruijn32tab), ("math/bits.deBruijn64tab", laid_math_bits_deBruijn64tab), ("internal/strconv.uint64pow10", laid_internal_strconv_uint64pow10), ("loop.example/wayboard/impl.errPath", laid_loop_example_wayboard_impl_errPath)] }
def FnPolicyMoreSaid : Prop := fnPolicyMoreRow.holds Tryz.pinned (OpenSpec.ofChange fnPolicyMoreSpec)

/-- ITS FALSE NEIGHBOUR: 'it returns false'. Refute it at one input. -/
def fnPolicyMoreWrong : ChangeSpec := { name := "fnPolicyMore", vars := ["loop.example/wayboard/impl.errPath"], fn := fun _ => fun
  | [d1, d2, g1] => { results := [.lit (.bool false)], args := [d1, d2], vars := [g1] }
  | _ => none }
def FnPolicyMoreWrongFalsely : Prop := fnPolicyMoreRow.holds Tryz.pinned (OpenSpec.ofChange fnPolicyMoreWrong)

/-- 'laws.FnPolicyNone': WHATEVER THE INPUT: true; the input reads as it did. -/
def fnPolicyNoneSpec : ChangeSpec := { name := "fnPolicyNone", vars := ["loop.example/wayboard/impl.errPath"], fn := fun _ => fun
  | [d, g1] => { results := [.lit (.bool true)], args := [d], vars := [g1] }
  | _ => none }
def fnPolicyNoneRow : OpenClaim := { program := "ytpdinimclhhgdaagreatdoor", sum := "e3ad41bf8bd49368df46c5b0aeabe26d0586ab4fb6aee0416688e5f99f7b767e", func := "loop.example/wayboard/laws.FnPolicyNone", spec := "fnPolicyNone", inPlace := ["internal/reflectlite.TypeOf", "slices.overlaps[int]"], unfollowed := true, recurses := true, named := ["loop.example/wayboard/impl.errPath", "internal/strconv.uint64pow10", "math/bits.deBruijn32tab", "math/bits.deBruijn64tab"], ifaces := true, apart := false, laid := [("math/bits.deBruijn32tab", laid_math_bits_deBruijn32tab), ("math/bits.deBruijn64tab", laid_math_bits_deBruijn64tab), ("internal/strconv.uint64pow10", laid_internal_strconv_uint64pow10), ("loop.example/wayboard/impl.errPath", laid_loop_example_wayboard_impl_errPath)] }
def FnPolicyNoneSaid : Prop := fnPolicyNoneRow.holds Tryz.pinned (OpenSpec.ofChange fnPolicyNoneSpec)

/-- ITS FALSE NEIGHBOUR: 'it returns false'. Refute it at one input. -/
def fnPolicyNoneWrong : ChangeSpec := { name := "fnPolicyNone", vars := ["loop.example/wayboard/impl.errPath"], fn := fun _ => fun
  | [d, g1] => { results := [.lit (.bool false)], args := [d], vars := [g1] }
  | _ => none }
def FnPolicyNoneWrongFalsely : Prop := fnPolicyNoneRow.holds Tryz.pinned (OpenSpec.ofChange fnPolicyNoneWrong)

/-- 'laws.FnPolicyTwice': WHATEVER THE INPUT: true; the input reads as it did. -/
def fnPolicyTwiceSpec : ChangeSpec := { name := "fnPolicyTwice", vars := ["loop.example/wayboard/impl.errPath"], fn := fun _ => fun
  | [d, g1] => { results := [.lit (.bool true)], args := [d], vars := [g1] }
  | _ => none }
def fnPolicyTwiceRow : OpenClaim := { program := "ytpdinimclhhgdaagreatdoor", sum := "e3ad41bf8bd49368df46c5b0aeabe26d0586ab4fb6aee0416688e5f99f7b767e", func := "loop.example/wayboard/laws.FnPolicyTwice", spec := "fnPolicyTwice", inPlace := ["internal/reflectlite.TypeOf", "slices.overlaps[int]"], unfollowed := true, recurses := true, named := ["loop.example/wayboard/impl.errPath", "internal/strconv.uint64pow10", "math/bits.deBruijn32tab", "math/bits.deBruijn64tab"], ifaces := true, apart := false, laid := [("math/bits.deBruijn32tab", laid_math_bits_deBruijn32tab), ("math/bits.deBruijn64tab", laid_math_bits_deBruijn64tab), ("internal/strconv.uint64pow10", laid_internal_strconv_uint64pow10), ("loop.example/wayboard/impl.errPath", laid_loop_example_wayboard_impl_errPath)] }
def FnPolicyTwiceSaid : Prop := fnPolicyTwiceRow.holds Tryz.pinned (OpenSpec.ofChange fnPolicyTwiceSpec)

/-- ITS FALSE NEIGHBOUR: 'it returns false'. Refute it at one input. -/
def fnPolicyTwiceWrong : ChangeSpec := { name := "fnPolicyTwice", vars := ["loop.example/wayboard/impl.errPath"], fn := fun _ => fun
  | [d, g1] => { results := [.lit (.bool false)], args := [d], vars := [g1] }
  | _ => none }
def FnPolicyTwiceWrongFalsely : Prop := fnPolicyTwiceRow.holds Tryz.pinned (OpenSpec.ofChange fnPolicyTwiceWrong)

/-- 'laws.FnPolicyWay': WHATEVER THE INPUT: true; the input reads as it did. -/
def fnPolicyWaySpec : ChangeSpec := { name := "fnPolicyWay", vars := ["loop.example/wayboard/impl.errPath"], fn := fun _ => fun
  | [d, g1] => { results := [.lit (.bool true)], args := [d], vars := [g1] }
  | _ => none }
def fnPolicyWayRow : OpenClaim := { program := "ytpdinimclhhgdaagreatdoor", sum := "e3ad41bf8bd49368df46c5b0aeabe26d0586ab4fb6aee0416688e5f99f7b767e", func := "loop.example/wayboard/laws.FnPolicyWay", spec := "fnPolicyWay", inPlace := ["internal/reflectlite.TypeOf", "slices.overlaps[int]"], unfollowed := true, recurses := true, named := ["loop.example/wayboard/impl.errPath", "internal/strconv.uint64pow10", "math/bits.deBruijn32tab", "math/bits.deBruijn64tab"], ifaces := true, apart := false, laid := [("math/bits.deBruijn32tab", laid_math_bits_deBruijn32tab), ("math/bits.deBruijn64tab", laid_math_bits_deBruijn64tab), ("internal/strconv.uint64pow10", laid_internal_strconv_uint64pow10), ("loop.example/wayboard/impl.errPath", laid_loop_example_wayboard_impl_errPath)] }
def FnPolicyWaySaid : Prop := fnPolicyWayRow.holds Tryz.pinned (OpenSpec.ofChange fnPolicyWaySpec)

/-- ITS FALSE NEIGHBOUR: 'it returns false'. Refute it at one input. -/
def fnPolicyWayWrong : ChangeSpec := { name := "fnPolicyWay", vars := ["loop.example/wayboard/impl.errPath"], fn := fun _ => fun
  | [d, g1] => { results := [.lit (.bool false)], args := [d], vars := [g1] }
  | _ => none }
def FnPolicyWayWrongFalsely : Prop := fnPolicyWayRow.holds Tryz.pinned (OpenSpec.ofChange fnPolicyWayWrong)

/-- 'laws.FnPolicyAll': WHATEVER THE INPUT: true; the input reads as it did. -/
def fnPolicyAllSpec : ChangeSpec := { name := "fnPolicyAll", vars := ["loop.example/wayboard/impl.errPath"], fn := fun _ => fun
  | [d, g1] => { results := [.lit (.bool true)], args := [d], vars := [g1] }
  | _ => none }
def fnPolicyAllRow : OpenClaim := { program := "ytpdinimclhhgdaagreatdoor", sum := "e3ad41bf8bd49368df46c5b0aeabe26d0586ab4fb6aee0416688e5f99f7b767e", func := "loop.example/wayboard/laws.FnPolicyAll", spec := "fnPolicyAll", inPlace := ["internal/reflectlite.TypeOf", "slices.overlaps[int]"], unfollowed := true, recurses := true, named := ["loop.example/wayboard/impl.errPath", "internal/strconv.uint64pow10", "math/bits.deBruijn32tab", "math/bits.deBruijn64tab"], ifaces := true, apart := false, laid := [("math/bits.deBruijn32tab", laid_math_bits_deBruijn32tab), ("math/bits.deBruijn64tab", laid_math_bits_deBruijn64tab), ("internal/strconv.uint64pow10", laid_internal_strconv_uint64pow10), ("loop.example/wayboard/impl.errPath", laid_loop_example_wayboard_impl_errPath)] }
def FnPolicyAllSaid : Prop := fnPolicyAllRow.holds Tryz.pinned (OpenSpec.ofChange fnPolicyAllSpec)

/-- ITS FALSE NEIGHBOUR: 'it returns false'. Refute it at one input. -/
def fnPolicyAllWrong : ChangeSpec := { name := "fnPolicyAll", vars := ["loop.example/wayboard/impl.errPath"], fn := fun _ => fun
  | [d, g1] => { results := [.lit (.bool false)], args := [d], vars := [g1] }
  | _ => none }
def FnPolicyAllWrongFalsely : Prop := fnPolicyAllRow.holds Tryz.pinned (OpenSpec.ofChange fnPolicyAllWrong)

/-- 'laws.FnRefuseAll': WHATEVER THE INPUT: true; the input reads as it did. -/
def fnRefuseAllSpec : ChangeSpec := { name := "fnRefuseAll", vars := ["loop.example/wayboard/impl.errPath"], fn := fun _ => fun
  | [d, g1] => { results := [.lit (.bool true)], args := [d], vars := [g1] }
  | _ => none }
def fnRefuseAllRow : OpenClaim := { program := "ytpdinimclhhgdaagreatdoor", sum := "e3ad41bf8bd49368df46c5b0aeabe26d0586ab4fb6aee0416688e5f99f7b767e", func := "loop.example/wayboard/laws.FnRefuseAll", spec := "fnRefuseAll", inPlace := ["internal/reflectlite.TypeOf", "slices.overlaps[int]"], unfollowed := true, recurses := true, named := ["loop.example/wayboard/impl.errPath", "internal/strconv.uint64pow10", "math/bits.deBruijn32tab", "math/bits.deBruijn64tab"], ifaces := true, apart := false, laid := [("math/bits.deBruijn32tab", laid_math_bits_deBruijn32tab), ("math/bits.deBruijn64tab", laid_math_bits_deBruijn64tab), ("internal/strconv.uint64pow10", laid_internal_strconv_uint64pow10), ("loop.example/wayboard/impl.errPath", laid_loop_example_wayboard_impl_errPath)] }
def FnRefuseAllSaid : Prop := fnRefuseAllRow.holds Tryz.pinned (OpenSpec.ofChange fnRefuseAllSpec)

/-- ITS FALSE NEIGHBOUR: 'it returns false'. Refute it at one input. -/
def fnRefuseAllWrong : ChangeSpec := { name := "fnRefuseAll", vars := ["loop.example/wayboard/impl.errPath"], fn := fun _ => fun
  | [d, g1] => { results := [.lit (.bool false)], args := [d], vars := [g1] }
  | _ => none }
def FnRefuseAllWrongFalsely : Prop := fnRefuseAllRow.holds Tryz.pinned (OpenSpec.ofChange fnRefuseAllWrong)

/-- 'laws.FnPickTable': WHATEVER THE INPUT: true; the input reads as it did. -/
def fnPickTableSpec : ChangeSpec := { name := "fnPickTable", vars := ["loop.example/wayboard/impl.errPath"], fn := fun _ => fun
  | [d, g1] => { results := [.lit (.bool true)], args := [d], vars := [g1] }
  | _ => none }
def fnPickTableRow : OpenClaim := { program := "ytpdinimclhhgdaagreatdoor", sum := "e3ad41bf8bd49368df46c5b0aeabe26d0586ab4fb6aee0416688e5f99f7b767e", func := "loop.example/wayboard/laws.FnPickTable", spec := "fnPickTable", inPlace := ["internal/reflectlite.TypeOf"], unfollowed := true, recurses := true, named := ["loop.example/wayboard/impl.errPath", "internal/strconv.uint64pow10", "math/bits.deBruijn32tab", "math/bits.deBruijn64tab"], ifaces := true, apart := false, laid := [("math/bits.deBruijn32tab", laid_math_bits_deBruijn32tab), ("math/bits.deBruijn64tab", laid_math_bits_deBruijn64tab), ("internal/strconv.uint64pow10", laid_internal_strconv_uint64pow10), ("loop.example/wayboard/impl.errPath", laid_loop_example_wayboard_impl_errPath)] }
def FnPickTableSaid : Prop := fnPickTableRow.holds Tryz.pinned (OpenSpec.ofChange fnPickTableSpec)

/-- ITS FALSE NEIGHBOUR: 'it returns false'. Refute it at one input. -/
def fnPickTableWrong : ChangeSpec := { name := "fnPickTable", vars := ["loop.example/wayboard/impl.errPath"], fn := fun _ => fun
  | [d, g1] => { results := [.lit (.bool false)], args := [d], vars := [g1] }
  | _ => none }
def FnPickTableWrongFalsely : Prop := fnPickTableRow.holds Tryz.pinned (OpenSpec.ofChange fnPickTableWrong)

/- THE SECOND FORM. 'bulk': how many values and letters a reading holds, each counted each time it is reached (what is shared counts as often as it is met; a slice's spare places count too). A statement '..UptoSaid' is the law's where the arguments, and the package variables that the reading takes, are together of bulk at most 1048576: NARROWER than '..Said'. Prove '..Said' where nothing that the law and all that it calls make is longer than what came in: it says more and counts as full. Else prove '..UptoSaid'. A law counts once. -/
mutual
def uptoBulk {H : Type} : DataW H → Nat
  | .lit (.string bytes) => bytes.length + 1
  | .lit _ => 1
  | .nil => 1
  | .ptr d => uptoBulk d + 1
  | .slice elems spare => uptoBulkAll elems + uptoBulkAll spare + 1
  | .agg parts => uptoBulkAll parts + 1
  | .iface _ d => uptoBulk d + 1
  | .map entries => uptoBulkEntries entries + 1
  | .held _ => 1
def uptoBulkAll {H : Type} : List (DataW H) → Nat
  | [] => 0
  | d :: r => uptoBulk d + uptoBulkAll r
def uptoBulkEntries {H : Type} : List (Lit × DataW H) → Nat
  | [] => 0
  | x :: r => uptoBulkEntry x + uptoBulkEntries r
def uptoBulkEntry {H : Type} : Lit × DataW H → Nat
  | (.string bytes, d) => bytes.length + uptoBulk d + 1
  | (_, d) => uptoBulk d + 1
 end
def uptoSmall : (H : Type) → List (DataW H) → Bool := fun _ ds => decide (uptoBulkAll ds ≤ 1048576)
def OpenSpec.upto (s : _root_.Go.ChangeSpec) : _root_.Go.OpenSpec := { _root_.Go.OpenSpec.ofChange s with cond := some uptoSmall }

/-- 'laws.FnPolicyDo', WHERE WHAT IT READS IS OF BULK AT MOST 1048576: true; the input reads as it did. -/
def fnPolicyDoUptoRow : OpenClaim := { program := "ytpdinimclhhgdaagreatdoor", sum := "e3ad41bf8bd49368df46c5b0aeabe26d0586ab4fb6aee0416688e5f99f7b767e", func := "loop.example/wayboard/laws.FnPolicyDo", spec := "fnPolicyDo", inPlace := ["internal/reflectlite.TypeOf", "slices.overlaps[int]"], unfollowed := true, recurses := true, named := ["loop.example/wayboard/impl.errPath", "internal/strconv.uint64pow10", "math/bits.deBruijn32tab", "math/bits.deBruijn64tab"], ifaces := true, apart := false, laid := [("math/bits.deBruijn32tab", laid_math_bits_deBruijn32tab), ("math/bits.deBruijn64tab", laid_math_bits_deBruijn64tab), ("internal/strconv.uint64pow10", laid_internal_strconv_uint64pow10), ("loop.example/wayboard/impl.errPath", laid_loop_example_wayboard_impl_errPath)], narrowed := true }
def FnPolicyDoUptoSaid : Prop := fnPolicyDoUptoRow.holds Tryz.pinned (OpenSpec.upto fnPolicyDoSpec)

/-- 'laws.FnPolicyFirst', WHERE WHAT IT READS IS OF BULK AT MOST 1048576: true; the input reads as it did. -/
def fnPolicyFirstUptoRow : OpenClaim := { program := "ytpdinimclhhgdaagreatdoor", sum := "e3ad41bf8bd49368df46c5b0aeabe26d0586ab4fb6aee0416688e5f99f7b767e", func := "loop.example/wayboard/laws.FnPolicyFirst", spec := "fnPolicyFirst", inPlace := ["internal/reflectlite.TypeOf", "slices.overlaps[int]"], unfollowed := true, recurses := true, named := ["loop.example/wayboard/impl.errPath", "internal/strconv.uint64pow10", "math/bits.deBruijn32tab", "math/bits.deBruijn64tab"], ifaces := true, apart := false, laid := [("math/bits.deBruijn32tab", laid_math_bits_deBruijn32tab), ("math/bits.deBruijn64tab", laid_math_bits_deBruijn64tab), ("internal/strconv.uint64pow10", laid_internal_strconv_uint64pow10), ("loop.example/wayboard/impl.errPath", laid_loop_example_wayboard_impl_errPath)], narrowed := true }
def FnPolicyFirstUptoSaid : Prop := fnPolicyFirstUptoRow.holds Tryz.pinned (OpenSpec.upto fnPolicyFirstSpec)

/-- 'laws.FnPolicyMore', WHERE WHAT IT READS IS OF BULK AT MOST 1048576: true; the input reads as it did. -/
def fnPolicyMoreUptoRow : OpenClaim := { program := "ytpdinimclhhgdaagreatdoor", sum := "e3ad41bf8bd49368df46c5b0aeabe26d0586ab4fb6aee0416688e5f99f7b767e", func := "loop.example/wayboard/laws.FnPolicyMore", spec := "fnPolicyMore", inPlace := ["internal/reflectlite.TypeOf", "slices.overlaps[int]"], unfollowed := true, recurses := true, named := ["loop.example/wayboard/impl.errPath", "internal/strconv.uint64pow10", "math/bits.deBruijn32tab", "math/bits.deBruijn64tab"], ifaces := true, apart := false, laid := [("math/bits.deBruijn32tab", laid_math_bits_deBruijn32tab), ("math/bits.deBruijn64tab", laid_math_bits_deBruijn64tab), ("internal/strconv.uint64pow10", laid_internal_strconv_uint64pow10), ("loop.example/wayboard/impl.errPath", laid_loop_example_wayboard_impl_errPath)], narrowed := true }
def FnPolicyMoreUptoSaid : Prop := fnPolicyMoreUptoRow.holds Tryz.pinned (OpenSpec.upto fnPolicyMoreSpec)

/-- 'laws.FnPolicyNone', WHERE WHAT IT READS IS OF BULK AT MOST 1048576: true; the input reads as it did. -/
def fnPolicyNoneUptoRow : OpenClaim := { program := "ytpdinimclhhgdaagreatdoor", sum := "e3ad41bf8bd49368df46c5b0aeabe26d0586ab4fb6aee0416688e5f99f7b767e", func := "loop.example/wayboard/laws.FnPolicyNone", spec := "fnPolicyNone", inPlace := ["internal/reflectlite.TypeOf", "slices.overlaps[int]"], unfollowed := true, recurses := true, named := ["loop.example/wayboard/impl.errPath", "internal/strconv.uint64pow10", "math/bits.deBruijn32tab", "math/bits.deBruijn64tab"], ifaces := true, apart := false, laid := [("math/bits.deBruijn32tab", laid_math_bits_deBruijn32tab), ("math/bits.deBruijn64tab", laid_math_bits_deBruijn64tab), ("internal/strconv.uint64pow10", laid_internal_strconv_uint64pow10), ("loop.example/wayboard/impl.errPath", laid_loop_example_wayboard_impl_errPath)], narrowed := true }
def FnPolicyNoneUptoSaid : Prop := fnPolicyNoneUptoRow.holds Tryz.pinned (OpenSpec.upto fnPolicyNoneSpec)

/-- 'laws.FnPolicyTwice', WHERE WHAT IT READS IS OF BULK AT MOST 1048576: true; the input reads as it did. -/
def fnPolicyTwiceUptoRow : OpenClaim := { program := "ytpdinimclhhgdaagreatdoor", sum := "e3ad41bf8bd49368df46c5b0aeabe26d0586ab4fb6aee0416688e5f99f7b767e", func := "loop.example/wayboard/laws.FnPolicyTwice", spec := "fnPolicyTwice", inPlace := ["internal/reflectlite.TypeOf", "slices.overlaps[int]"], unfollowed := true, recurses := true, named := ["loop.example/wayboard/impl.errPath", "internal/strconv.uint64pow10", "math/bits.deBruijn32tab", "math/bits.deBruijn64tab"], ifaces := true, apart := false, laid := [("math/bits.deBruijn32tab", laid_math_bits_deBruijn32tab), ("math/bits.deBruijn64tab", laid_math_bits_deBruijn64tab), ("internal/strconv.uint64pow10", laid_internal_strconv_uint64pow10), ("loop.example/wayboard/impl.errPath", laid_loop_example_wayboard_impl_errPath)], narrowed := true }
def FnPolicyTwiceUptoSaid : Prop := fnPolicyTwiceUptoRow.holds Tryz.pinned (OpenSpec.upto fnPolicyTwiceSpec)

/-- 'laws.FnPolicyWay', WHERE WHAT IT READS IS OF BULK AT MOST 1048576: true; the input reads as it did. -/
def fnPolicyWayUptoRow : OpenClaim := { program := "ytpdinimclhhgdaagreatdoor", sum := "e3ad41bf8bd49368df46c5b0aeabe26d0586ab4fb6aee0416688e5f99f7b767e", func := "loop.example/wayboard/laws.FnPolicyWay", spec := "fnPolicyWay", inPlace := ["internal/reflectlite.TypeOf", "slices.overlaps[int]"], unfollowed := true, recurses := true, named := ["loop.example/wayboard/impl.errPath", "internal/strconv.uint64pow10", "math/bits.deBruijn32tab", "math/bits.deBruijn64tab"], ifaces := true, apart := false, laid := [("math/bits.deBruijn32tab", laid_math_bits_deBruijn32tab), ("math/bits.deBruijn64tab", laid_math_bits_deBruijn64tab), ("internal/strconv.uint64pow10", laid_internal_strconv_uint64pow10), ("loop.example/wayboard/impl.errPath", laid_loop_example_wayboard_impl_errPath)], narrowed := true }
def FnPolicyWayUptoSaid : Prop := fnPolicyWayUptoRow.holds Tryz.pinned (OpenSpec.upto fnPolicyWaySpec)

/-- 'laws.FnPolicyAll', WHERE WHAT IT READS IS OF BULK AT MOST 1048576: true; the input reads as it did. -/
def fnPolicyAllUptoRow : OpenClaim := { program := "ytpdinimclhhgdaagreatdoor", sum := "e3ad41bf8bd49368df46c5b0aeabe26d0586ab4fb6aee0416688e5f99f7b767e", func := "loop.example/wayboard/laws.FnPolicyAll", spec := "fnPolicyAll", inPlace := ["internal/reflectlite.TypeOf", "slices.overlaps[int]"], unfollowed := true, recurses := true, named := ["loop.example/wayboard/impl.errPath", "internal/strconv.uint64pow10", "math/bits.deBruijn32tab", "math/bits.deBruijn64tab"], ifaces := true, apart := false, laid := [("math/bits.deBruijn32tab", laid_math_bits_deBruijn32tab), ("math/bits.deBruijn64tab", laid_math_bits_deBruijn64tab), ("internal/strconv.uint64pow10", laid_internal_strconv_uint64pow10), ("loop.example/wayboard/impl.errPath", laid_loop_example_wayboard_impl_errPath)], narrowed := true }
def FnPolicyAllUptoSaid : Prop := fnPolicyAllUptoRow.holds Tryz.pinned (OpenSpec.upto fnPolicyAllSpec)

/-- 'laws.FnRefuseAll', WHERE WHAT IT READS IS OF BULK AT MOST 1048576: true; the input reads as it did. -/
def fnRefuseAllUptoRow : OpenClaim := { program := "ytpdinimclhhgdaagreatdoor", sum := "e3ad41bf8bd49368df46c5b0aeabe26d0586ab4fb6aee0416688e5f99f7b767e", func := "loop.example/wayboard/laws.FnRefuseAll", spec := "fnRefuseAll", inPlace := ["internal/reflectlite.TypeOf", "slices.overlaps[int]"], unfollowed := true, recurses := true, named := ["loop.example/wayboard/impl.errPath", "internal/strconv.uint64pow10", "math/bits.deBruijn32tab", "math/bits.deBruijn64tab"], ifaces := true, apart := false, laid := [("math/bits.deBruijn32tab", laid_math_bits_deBruijn32tab), ("math/bits.deBruijn64tab", laid_math_bits_deBruijn64tab), ("internal/strconv.uint64pow10", laid_internal_strconv_uint64pow10), ("loop.example/wayboard/impl.errPath", laid_loop_example_wayboard_impl_errPath)], narrowed := true }
def FnRefuseAllUptoSaid : Prop := fnRefuseAllUptoRow.holds Tryz.pinned (OpenSpec.upto fnRefuseAllSpec)

/-- 'laws.FnPickTable', WHERE WHAT IT READS IS OF BULK AT MOST 1048576: true; the input reads as it did. -/
def fnPickTableUptoRow : OpenClaim := { program := "ytpdinimclhhgdaagreatdoor", sum := "e3ad41bf8bd49368df46c5b0aeabe26d0586ab4fb6aee0416688e5f99f7b767e", func := "loop.example/wayboard/laws.FnPickTable", spec := "fnPickTable", inPlace := ["internal/reflectlite.TypeOf"], unfollowed := true, recurses := true, named := ["loop.example/wayboard/impl.errPath", "internal/strconv.uint64pow10", "math/bits.deBruijn32tab", "math/bits.deBruijn64tab"], ifaces := true, apart := false, laid := [("math/bits.deBruijn32tab", laid_math_bits_deBruijn32tab), ("math/bits.deBruijn64tab", laid_math_bits_deBruijn64tab), ("internal/strconv.uint64pow10", laid_internal_strconv_uint64pow10), ("loop.example/wayboard/impl.errPath", laid_loop_example_wayboard_impl_errPath)], narrowed := true }
def FnPickTableUptoSaid : Prop := fnPickTableUptoRow.holds Tryz.pinned (OpenSpec.upto fnPickTableSpec)

end Rows
end Go.Proofs.YtpdinimclhhgdaaGreatDoor
