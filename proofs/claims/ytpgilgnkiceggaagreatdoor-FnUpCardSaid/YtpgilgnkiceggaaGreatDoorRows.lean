/-
  NARROWER THAN 'FOR EVERY INPUT', by the rows' own cells (each row's printed sentence says how): FnTellTwice: ifaces, laid · FnTell: ifaces, laid · FnTellFull: ifaces, laid · FnUp: ifaces, laid · FnDrop: ifaces, laid · FnTellGone: ifaces, laid · FnTellDrop: ifaces, laid · FnBreak: ifaces, laid.
  DERIVED. THE GIVEN ROWS OF THIS SEAT. 8 by the template 'for every input the law returns true; each argument reads behind the call as it read before'; 0 by the template 'total and deterministic' (their statements: YtpgilgnkiceggaaGreatDoorTotals.lean).
  GIVEN WITH THE SEED: the statements are not yours to turn. If you find one false, say at which input.
  Laid BY PROGRAM, IN A SANDBOX (cutbox-rows.mjs): the forced cells as the released guide's own fill.sh prints them over the translation ce9fc463721f317e… (all of the seat's roots in one cut). By AI agents, Wed Nov 11 2026. No macro, syntax, notation, axiom, sorry.
-/
import Derived.Test.YtpgilgnkiceggaaGreatDoorChecked
import GoSem.Claim
import GoSem.ClaimJoined
import GoSem.ClaimMapViews
import Derived.JoinedTies
import Derived.KernelRfl
namespace Go.Proofs.YtpgilgnkiceggaaGreatDoor
/- THE CELL 'sum', in the pinned program and in every row, IS THE sha256 OF THE DUMP (.gsa) THAT YtpgilgnkiceggaaGreatDoorProg.lean LOADS. Nothing in Lean hashes anything: it is a label: what it is worth is what the hold of that sum in a sandbox is worth. -/
noncomputable def Tryz.pinned : Pinned := { name := "ytpgilgnkiceggaagreatdoor", sum := "ce9fc463721f317e770a0788f3cf2754c9558dc2cfbba17ee5aaaf0132c8e822", checked := Tryz.checked }
namespace Rows
def none {H : Type} : Left H := { results := [], args := [] }

/- WHAT THE LISTED PACKAGE-LEVEL VARIABLES READ AS WHEN THE CALL BEGINS. Each datum BY PROGRAM (the guide's laid-datum.mjs) off the statement by which the dump's own 'gosem.cut.vars' lays the variable. In a bare row this is a premise. The card (YtpgilgnkiceggaaGreatDoorCards.lean) ties it to the program's text. -/
def laid_math_bits_deBruijn32tab {H : Type} : DataW H := .agg [.lit (.int .u8 0), .lit (.int .u8 1), .lit (.int .u8 28), .lit (.int .u8 2), .lit (.int .u8 29), .lit (.int .u8 14), .lit (.int .u8 24), .lit (.int .u8 3), .lit (.int .u8 30), .lit (.int .u8 22), .lit (.int .u8 20), .lit (.int .u8 15), .lit (.int .u8 25), .lit (.int .u8 17), .lit (.int .u8 4), .lit (.int .u8 8), .lit (.int .u8 31), .lit (.int .u8 27), .lit (.int .u8 13), .lit (.int .u8 23), .lit (.int .u8 21), .lit (.int .u8 19), .lit (.int .u8 16), .lit (.int .u8 7), .lit (.int .u8 26), .lit (.int .u8 12), .lit (.int .u8 18), .lit (.int .u8 6), .lit (.int .u8 11), .lit (.int .u8 5), .lit (.int .u8 10), .lit (.int .u8 9)]
def laid_math_bits_deBruijn64tab {H : Type} : DataW H := .agg [.lit (.int .u8 0), .lit (.int .u8 1), .lit (.int .u8 56), .lit (.int .u8 2), .lit (.int .u8 57), .lit (.int .u8 49), .lit (.int .u8 28), .lit (.int .u8 3), .lit (.int .u8 61), .lit (.int .u8 58), .lit (.int .u8 42), .lit (.int .u8 50), .lit (.int .u8 38), .lit (.int .u8 29), .lit (.int .u8 17), .lit (.int .u8 4), .lit (.int .u8 62), .lit (.int .u8 47), .lit (.int .u8 59), .lit (.int .u8 36), .lit (.int .u8 45), .lit (.int .u8 43), .lit (.int .u8 51), .lit (.int .u8 22), .lit (.int .u8 53), .lit (.int .u8 39), .lit (.int .u8 33), .lit (.int .u8 30), .lit (.int .u8 24), .lit (.int .u8 18), .lit (.int .u8 12), .lit (.int .u8 5), .lit (.int .u8 63), .lit (.int .u8 55), .lit (.int .u8 48), .lit (.int .u8 27), .lit (.int .u8 60), .lit (.int .u8 41), .lit (.int .u8 37), .lit (.int .u8 16), .lit (.int .u8 46), .lit (.int .u8 35), .lit (.int .u8 44), .lit (.int .u8 21), .lit (.int .u8 52), .lit (.int .u8 32), .lit (.int .u8 23), .lit (.int .u8 11), .lit (.int .u8 54), .lit (.int .u8 26), .lit (.int .u8 40), .lit (.int .u8 15), .lit (.int .u8 34), .lit (.int .u8 20), .lit (.int .u8 31), .lit (.int .u8 10), .lit (.int .u8 25), .lit (.int .u8 14), .lit (.int .u8 19), .lit (.int .u8 9), .lit (.int .u8 13), .lit (.int .u8 8), .lit (.int .u8 7), .lit (.int .u8 6)]
def laid_internal_strconv_uint64pow10 {H : Type} : DataW H := .agg [.lit (.int .u64 1), .lit (.int .u64 10), .lit (.int .u64 100), .lit (.int .u64 1000), .lit (.int .u64 10000), .lit (.int .u64 100000), .lit (.int .u64 1000000), .lit (.int .u64 10000000), .lit (.int .u64 100000000), .lit (.int .u64 1000000000), .lit (.int .u64 10000000000), .lit (.int .u64 100000000000), .lit (.int .u64 1000000000000), .lit (.int .u64 10000000000000), .lit (.int .u64 100000000000000), .lit (.int .u64 1000000000000000), .lit (.int .u64 10000000000000000), .lit (.int .u64 100000000000000000), .lit (.int .u64 1000000000000000000), .lit (.int .u64 10000000000000000000)]
def laid_errors_errorType {H : Type} : DataW H := .iface "internal/reflectlite.rtype" (.agg [.ptr (.lit (.string [101, 114, 114, 111, 114]))])
def laid_loop_example_wayboard_impl_errPath {H : Type} : DataW H := .iface "*errors.errorString" (.ptr (.agg [.lit (.string [110, 111, 116, 32, 97, 32, 112, 97, 116, 104])]))

/-- 'laws.FnTellTwice': WHATEVER THE INPUT: true; the input reads as it did. -/
def fnTellTwiceSpec : ChangeSpec := { name := "fnTellTwice", vars := ["loop.example/wayboard/impl.errPath"], fn := fun _ => fun
  | [d1, d2, g1] => { results := [.lit (.bool true)], args := [d1, d2], vars := [g1] }
  | _ => none }
def fnTellTwiceRow : OpenClaim := { program := "ytpgilgnkiceggaagreatdoor", sum := "ce9fc463721f317e770a0788f3cf2754c9558dc2cfbba17ee5aaaf0132c8e822", func := "loop.example/wayboard/laws.FnTellTwice", spec := "fnTellTwice", inPlace := ["internal/reflectlite.TypeOf", "internal/reflectlite.ValueOf", "(internal/reflectlite.Value).Type", "(internal/reflectlite.Value).IsNil", "(internal/reflectlite.Value).Elem", "(internal/reflectlite.Value).Set"], unfollowed := true, recurses := true, named := ["loop.example/wayboard/impl.errPath", "internal/strconv.uint64pow10", "math/bits.deBruijn32tab", "math/bits.deBruijn64tab", "errors.errorType"], ifaces := true, apart := false, laid := [("math/bits.deBruijn32tab", laid_math_bits_deBruijn32tab), ("math/bits.deBruijn64tab", laid_math_bits_deBruijn64tab), ("internal/strconv.uint64pow10", laid_internal_strconv_uint64pow10), ("errors.errorType", laid_errors_errorType), ("loop.example/wayboard/impl.errPath", laid_loop_example_wayboard_impl_errPath)] }
def FnTellTwiceSaid : Prop := fnTellTwiceRow.holds Tryz.pinned (OpenSpec.ofChange fnTellTwiceSpec)

/-- ITS FALSE NEIGHBOUR: 'it returns false'. Refute it at one input. -/
def fnTellTwiceWrong : ChangeSpec := { name := "fnTellTwice", vars := ["loop.example/wayboard/impl.errPath"], fn := fun _ => fun
  | [d1, d2, g1] => { results := [.lit (.bool false)], args := [d1, d2], vars := [g1] }
  | _ => none }
def FnTellTwiceWrongFalsely : Prop := fnTellTwiceRow.holds Tryz.pinned (OpenSpec.ofChange fnTellTwiceWrong)

/-- 'laws.FnTell': WHATEVER THE INPUT: true; the input reads as it did. -/
def fnTellSpec : ChangeSpec := { name := "fnTell", vars := ["loop.example/wayboard/impl.errPath"], fn := fun _ => fun
  | [d, g1] => { results := [.lit (.bool true)], args := [d], vars := [g1] }
  | _ => none }
def fnTellRow : OpenClaim := { program := "ytpgilgnkiceggaagreatdoor", sum := "ce9fc463721f317e770a0788f3cf2754c9558dc2cfbba17ee5aaaf0132c8e822", func := "loop.example/wayboard/laws.FnTell", spec := "fnTell", inPlace := ["internal/reflectlite.TypeOf", "internal/reflectlite.ValueOf", "(internal/reflectlite.Value).Type", "(internal/reflectlite.Value).IsNil", "(internal/reflectlite.Value).Elem", "(internal/reflectlite.Value).Set"], unfollowed := true, recurses := true, named := ["loop.example/wayboard/impl.errPath", "internal/strconv.uint64pow10", "math/bits.deBruijn32tab", "math/bits.deBruijn64tab", "errors.errorType"], ifaces := true, apart := false, laid := [("math/bits.deBruijn32tab", laid_math_bits_deBruijn32tab), ("math/bits.deBruijn64tab", laid_math_bits_deBruijn64tab), ("internal/strconv.uint64pow10", laid_internal_strconv_uint64pow10), ("errors.errorType", laid_errors_errorType), ("loop.example/wayboard/impl.errPath", laid_loop_example_wayboard_impl_errPath)] }
def FnTellSaid : Prop := fnTellRow.holds Tryz.pinned (OpenSpec.ofChange fnTellSpec)

/-- ITS FALSE NEIGHBOUR: 'it returns false'. Refute it at one input. -/
def fnTellWrong : ChangeSpec := { name := "fnTell", vars := ["loop.example/wayboard/impl.errPath"], fn := fun _ => fun
  | [d, g1] => { results := [.lit (.bool false)], args := [d], vars := [g1] }
  | _ => none }
def FnTellWrongFalsely : Prop := fnTellRow.holds Tryz.pinned (OpenSpec.ofChange fnTellWrong)

/-- 'laws.FnTellFull': WHATEVER THE INPUT: true; the input reads as it did. -/
def fnTellFullSpec : ChangeSpec := { name := "fnTellFull", vars := ["loop.example/wayboard/impl.errPath"], fn := fun _ => fun
  | [d, g1] => { results := [.lit (.bool true)], args := [d], vars := [g1] }
  | _ => none }
def fnTellFullRow : OpenClaim := { program := "ytpgilgnkiceggaagreatdoor", sum := "ce9fc463721f317e770a0788f3cf2754c9558dc2cfbba17ee5aaaf0132c8e822", func := "loop.example/wayboard/laws.FnTellFull", spec := "fnTellFull", inPlace := ["internal/reflectlite.TypeOf", "internal/reflectlite.ValueOf", "(internal/reflectlite.Value).Type", "(internal/reflectlite.Value).IsNil", "(internal/reflectlite.Value).Elem", "(internal/reflectlite.Value).Set"], unfollowed := true, recurses := true, named := ["loop.example/wayboard/impl.errPath", "internal/strconv.uint64pow10", "math/bits.deBruijn32tab", "math/bits.deBruijn64tab", "errors.errorType"], ifaces := true, apart := false, laid := [("math/bits.deBruijn32tab", laid_math_bits_deBruijn32tab), ("math/bits.deBruijn64tab", laid_math_bits_deBruijn64tab), ("internal/strconv.uint64pow10", laid_internal_strconv_uint64pow10), ("errors.errorType", laid_errors_errorType), ("loop.example/wayboard/impl.errPath", laid_loop_example_wayboard_impl_errPath)] }
def FnTellFullSaid : Prop := fnTellFullRow.holds Tryz.pinned (OpenSpec.ofChange fnTellFullSpec)

/-- ITS FALSE NEIGHBOUR: 'it returns false'. Refute it at one input. -/
def fnTellFullWrong : ChangeSpec := { name := "fnTellFull", vars := ["loop.example/wayboard/impl.errPath"], fn := fun _ => fun
  | [d, g1] => { results := [.lit (.bool false)], args := [d], vars := [g1] }
  | _ => none }
def FnTellFullWrongFalsely : Prop := fnTellFullRow.holds Tryz.pinned (OpenSpec.ofChange fnTellFullWrong)

/-- 'laws.FnUp': WHATEVER THE INPUT: true; the input reads as it did. -/
def fnUpSpec : ChangeSpec := { name := "fnUp", vars := ["loop.example/wayboard/impl.errPath"], fn := fun _ => fun
  | [d, g1] => { results := [.lit (.bool true)], args := [d], vars := [g1] }
  | _ => none }
def fnUpRow : OpenClaim := { program := "ytpgilgnkiceggaagreatdoor", sum := "ce9fc463721f317e770a0788f3cf2754c9558dc2cfbba17ee5aaaf0132c8e822", func := "loop.example/wayboard/laws.FnUp", spec := "fnUp", inPlace := ["internal/reflectlite.TypeOf", "internal/reflectlite.ValueOf", "(internal/reflectlite.Value).Type", "(internal/reflectlite.Value).IsNil", "(internal/reflectlite.Value).Elem", "(internal/reflectlite.Value).Set"], unfollowed := true, recurses := true, named := ["loop.example/wayboard/impl.errPath", "internal/strconv.uint64pow10", "math/bits.deBruijn32tab", "math/bits.deBruijn64tab", "errors.errorType"], ifaces := true, apart := false, laid := [("math/bits.deBruijn32tab", laid_math_bits_deBruijn32tab), ("math/bits.deBruijn64tab", laid_math_bits_deBruijn64tab), ("internal/strconv.uint64pow10", laid_internal_strconv_uint64pow10), ("errors.errorType", laid_errors_errorType), ("loop.example/wayboard/impl.errPath", laid_loop_example_wayboard_impl_errPath)] }
def FnUpSaid : Prop := fnUpRow.holds Tryz.pinned (OpenSpec.ofChange fnUpSpec)

/-- ITS FALSE NEIGHBOUR: 'it returns false'. Refute it at one input. -/
def fnUpWrong : ChangeSpec := { name := "fnUp", vars := ["loop.example/wayboard/impl.errPath"], fn := fun _ => fun
  | [d, g1] => { results := [.lit (.bool false)], args := [d], vars := [g1] }
  | _ => none }
def FnUpWrongFalsely : Prop := fnUpRow.holds Tryz.pinned (OpenSpec.ofChange fnUpWrong)

/-- 'laws.FnDrop': WHATEVER THE INPUT: true; the input reads as it did. -/
def fnDropSpec : ChangeSpec := { name := "fnDrop", vars := ["loop.example/wayboard/impl.errPath"], fn := fun _ => fun
  | [d, g1] => { results := [.lit (.bool true)], args := [d], vars := [g1] }
  | _ => none }
def fnDropRow : OpenClaim := { program := "ytpgilgnkiceggaagreatdoor", sum := "ce9fc463721f317e770a0788f3cf2754c9558dc2cfbba17ee5aaaf0132c8e822", func := "loop.example/wayboard/laws.FnDrop", spec := "fnDrop", inPlace := ["internal/reflectlite.TypeOf", "internal/reflectlite.ValueOf", "(internal/reflectlite.Value).Type", "(internal/reflectlite.Value).IsNil", "(internal/reflectlite.Value).Elem", "(internal/reflectlite.Value).Set"], unfollowed := true, recurses := true, named := ["loop.example/wayboard/impl.errPath", "internal/strconv.uint64pow10", "math/bits.deBruijn32tab", "math/bits.deBruijn64tab", "errors.errorType"], ifaces := true, apart := false, laid := [("math/bits.deBruijn32tab", laid_math_bits_deBruijn32tab), ("math/bits.deBruijn64tab", laid_math_bits_deBruijn64tab), ("internal/strconv.uint64pow10", laid_internal_strconv_uint64pow10), ("errors.errorType", laid_errors_errorType), ("loop.example/wayboard/impl.errPath", laid_loop_example_wayboard_impl_errPath)] }
def FnDropSaid : Prop := fnDropRow.holds Tryz.pinned (OpenSpec.ofChange fnDropSpec)

/-- ITS FALSE NEIGHBOUR: 'it returns false'. Refute it at one input. -/
def fnDropWrong : ChangeSpec := { name := "fnDrop", vars := ["loop.example/wayboard/impl.errPath"], fn := fun _ => fun
  | [d, g1] => { results := [.lit (.bool false)], args := [d], vars := [g1] }
  | _ => none }
def FnDropWrongFalsely : Prop := fnDropRow.holds Tryz.pinned (OpenSpec.ofChange fnDropWrong)

/-- 'laws.FnTellGone': WHATEVER THE INPUT: true; the input reads as it did. -/
def fnTellGoneSpec : ChangeSpec := { name := "fnTellGone", vars := ["loop.example/wayboard/impl.errPath"], fn := fun _ => fun
  | [d, g1] => { results := [.lit (.bool true)], args := [d], vars := [g1] }
  | _ => none }
def fnTellGoneRow : OpenClaim := { program := "ytpgilgnkiceggaagreatdoor", sum := "ce9fc463721f317e770a0788f3cf2754c9558dc2cfbba17ee5aaaf0132c8e822", func := "loop.example/wayboard/laws.FnTellGone", spec := "fnTellGone", inPlace := ["internal/reflectlite.TypeOf", "internal/reflectlite.ValueOf", "(internal/reflectlite.Value).Type", "(internal/reflectlite.Value).IsNil", "(internal/reflectlite.Value).Elem", "(internal/reflectlite.Value).Set"], unfollowed := true, recurses := true, named := ["loop.example/wayboard/impl.errPath", "internal/strconv.uint64pow10", "math/bits.deBruijn32tab", "math/bits.deBruijn64tab", "errors.errorType"], ifaces := true, apart := false, laid := [("math/bits.deBruijn32tab", laid_math_bits_deBruijn32tab), ("math/bits.deBruijn64tab", laid_math_bits_deBruijn64tab), ("internal/strconv.uint64pow10", laid_internal_strconv_uint64pow10), ("errors.errorType", laid_errors_errorType), ("loop.example/wayboard/impl.errPath", laid_loop_example_wayboard_impl_errPath)] }
def FnTellGoneSaid : Prop := fnTellGoneRow.holds Tryz.pinned (OpenSpec.ofChange fnTellGoneSpec)

/-- ITS FALSE NEIGHBOUR: 'it returns false'. Refute it at one input. -/
def fnTellGoneWrong : ChangeSpec := { name := "fnTellGone", vars := ["loop.example/wayboard/impl.errPath"], fn := fun _ => fun
  | [d, g1] => { results := [.lit (.bool false)], args := [d], vars := [g1] }
  | _ => none }
def FnTellGoneWrongFalsely : Prop := fnTellGoneRow.holds Tryz.pinned (OpenSpec.ofChange fnTellGoneWrong)

/-- 'laws.FnTellDrop': WHATEVER THE INPUT: true; the input reads as it did. -/
def fnTellDropSpec : ChangeSpec := { name := "fnTellDrop", vars := ["loop.example/wayboard/impl.errPath"], fn := fun _ => fun
  | [d, g1] => { results := [.lit (.bool true)], args := [d], vars := [g1] }
  | _ => none }
def fnTellDropRow : OpenClaim := { program := "ytpgilgnkiceggaagreatdoor", sum := "ce9fc463721f317e770a0788f3cf2754c9558dc2cfbba17ee5aaaf0132c8e822", func := "loop.example/wayboard/laws.FnTellDrop", spec := "fnTellDrop", inPlace := ["internal/reflectlite.TypeOf", "internal/reflectlite.ValueOf", "(internal/reflectlite.Value).Type", "(internal/reflectlite.Value).IsNil", "(internal/reflectlite.Value).Elem", "(internal/reflectlite.Value).Set"], unfollowed := true, recurses := true, named := ["loop.example/wayboard/impl.errPath", "internal/strconv.uint64pow10", "math/bits.deBruijn32tab", "math/bits.deBruijn64tab", "errors.errorType"], ifaces := true, apart := false, laid := [("math/bits.deBruijn32tab", laid_math_bits_deBruijn32tab), ("math/bits.deBruijn64tab", laid_math_bits_deBruijn64tab), ("internal/strconv.uint64pow10", laid_internal_strconv_uint64pow10), ("errors.errorType", laid_errors_errorType), ("loop.example/wayboard/impl.errPath", laid_loop_example_wayboard_impl_errPath)] }
def FnTellDropSaid : Prop := fnTellDropRow.holds Tryz.pinned (OpenSpec.ofChange fnTellDropSpec)

/-- ITS FALSE NEIGHBOUR: 'it returns false'. Refute it at one input. -/
def fnTellDropWrong : ChangeSpec := { name := "fnTellDrop", vars := ["loop.example/wayboard/impl.errPath"], fn := fun _ => fun
  | [d, g1] => { results := [.lit (.bool false)], args := [d], vars := [g1] }
  | _ => none }
def FnTellDropWrongFalsely : Prop := fnTellDropRow.holds Tryz.pinned (OpenSpec.ofChange fnTellDropWrong)

/-- 'laws.FnBreak': WHATEVER THE INPUT: true; the input reads as it did. -/
def fnBreakSpec : ChangeSpec := { name := "fnBreak", vars := ["loop.example/wayboard/impl.errPath"], fn := fun _ => fun
  | [d, g1] => { results := [.lit (.bool true)], args := [d], vars := [g1] }
  | _ => none }
def fnBreakRow : OpenClaim := { program := "ytpgilgnkiceggaagreatdoor", sum := "ce9fc463721f317e770a0788f3cf2754c9558dc2cfbba17ee5aaaf0132c8e822", func := "loop.example/wayboard/laws.FnBreak", spec := "fnBreak", inPlace := ["internal/reflectlite.TypeOf", "internal/reflectlite.ValueOf", "(internal/reflectlite.Value).Type", "(internal/reflectlite.Value).IsNil", "(internal/reflectlite.Value).Elem", "(internal/reflectlite.Value).Set"], unfollowed := true, recurses := true, named := ["loop.example/wayboard/impl.errPath", "internal/strconv.uint64pow10", "math/bits.deBruijn32tab", "math/bits.deBruijn64tab", "errors.errorType"], ifaces := true, apart := false, laid := [("math/bits.deBruijn32tab", laid_math_bits_deBruijn32tab), ("math/bits.deBruijn64tab", laid_math_bits_deBruijn64tab), ("internal/strconv.uint64pow10", laid_internal_strconv_uint64pow10), ("errors.errorType", laid_errors_errorType), ("loop.example/wayboard/impl.errPath", laid_loop_example_wayboard_impl_errPath)] }
def FnBreakSaid : Prop := fnBreakRow.holds Tryz.pinned (OpenSpec.ofChange fnBreakSpec)

/-- ITS FALSE NEIGHBOUR: 'it returns false'. Refute it at one input. -/
def fnBreakWrong : ChangeSpec := { name := "fnBreak", vars := ["loop.example/wayboard/impl.errPath"], fn := fun _ => fun
  | [d, g1] => { results := [.lit (.bool false)], args := [d], vars := [g1] }
  | _ => none }
def FnBreakWrongFalsely : Prop := fnBreakRow.holds Tryz.pinned (OpenSpec.ofChange fnBreakWrong)

/- THE SECOND FORM. 'bulk': how many values and letters a reading holds, each counted each time it is reached (what is shared counts as often as it is met; a slice's spare places count too). A statement '..UptoSaid' is the law's where the arguments, and the package variables that the reading takes, are together of bulk at most 1048576: NARROWER than '..Said'. Prove '..Said' where nothing that the law and all that it calls make is longer than what came in: it says more and counts as full. Else prove '..UptoSaid'. A law counts once. -/
mutual
def uptoBulk {H : Type} : DataW H → Nat
  | .lit (.string bytes) => bytes.length + 1
  | .lit _ => 1
  | .nil => 1
  | .ptr d => uptoBulk d + 1
  | .slice elems spare => uptoBulkAll elems + uptoBulkAll spare + 1
  | .agg parts => uptoBulkAll parts + 1
  | .iface _ d => uptoBulk d + 1
  | .map entries => uptoBulkEntries entries + 1
  | .held _ => 1
def uptoBulkAll {H : Type} : List (DataW H) → Nat
  | [] => 0
  | d :: r => uptoBulk d + uptoBulkAll r
def uptoBulkEntries {H : Type} : List (Lit × DataW H) → Nat
  | [] => 0
  | x :: r => uptoBulkEntry x + uptoBulkEntries r
def uptoBulkEntry {H : Type} : Lit × DataW H → Nat
  | (.string bytes, d) => bytes.length + uptoBulk d + 1
  | (_, d) => uptoBulk d + 1
 end
def uptoSmall : (H : Type) → List (DataW H) → Bool := fun _ ds => decide (uptoBulkAll ds ≤ 1048576)
def OpenSpec.upto (s : _root_.Go.ChangeSpec) : _root_.Go.OpenSpec := { _root_.Go.OpenSpec.ofChange s with cond := some uptoSmall }

/-- 'laws.FnTellTwice', WHERE WHAT IT READS IS OF BULK AT MOST 1048576: true; the input reads as it did. -/
def fnTellTwiceUptoRow : OpenClaim := { program := "ytpgilgnkiceggaagreatdoor", sum := "ce9fc463721f317e770a0788f3cf2754c9558dc2cfbba17ee5aaaf0132c8e822", func := "loop.example/wayboard/laws.FnTellTwice", spec := "fnTellTwice", inPlace := ["internal/reflectlite.TypeOf", "internal/reflectlite.ValueOf", "(internal/reflectlite.Value).Type", "(internal/reflectlite.Value).IsNil", "(internal/reflectlite.Value).Elem", "(internal/reflectlite.Value).Set"], unfollowed := true, recurses := true, named := ["loop.example/wayboard/impl.errPath", "internal/strconv.uint64pow10", "math/bits.deBruijn32tab", "math/bits.deBruijn64tab", "errors.errorType"], ifaces := true, apart := false, laid := [("math/bits.deBruijn32tab", laid_math_bits_deBruijn32tab), ("math/bits.deBruijn64tab", laid_math_bits_deBruijn64tab), ("internal/strconv.uint64pow10", laid_internal_strconv_uint64pow10), ("errors.errorType", laid_errors_errorType), ("loop.example/wayboard/impl.errPath", laid_loop_example_wayboard_impl_errPath)], narrowed := true }
def FnTellTwiceUptoSaid : Prop := fnTellTwiceUptoRow.holds Tryz.pinned (OpenSpec.upto fnTellTwiceSpec)

/-- 'laws.FnTell', WHERE WHAT IT READS IS OF BULK AT MOST 1048576: true; the input reads as it did. -/
def fnTellUptoRow : OpenClaim := { program := "ytpgilgnkiceggaagreatdoor", sum := "ce9fc463721f317e770a0788f3cf2754c9558dc2cfbba17ee5aaaf0132c8e822", func := "loop.example/wayboard/laws.FnTell", spec := "fnTell", inPlace := ["internal/reflectlite.TypeOf", "internal/reflectlite.ValueOf", "(internal/reflectlite.Value).Type", "(internal/reflectlite.Value).IsNil", "(internal/reflectlite.Value).Elem", "(internal/reflectlite.Value).Set"], unfollowed := true, recurses := true, named := ["loop.example/wayboard/impl.errPath", "internal/strconv.uint64pow10", "math/bits.deBruijn32tab", "math/bits.deBruijn64tab", "errors.errorType"], ifaces := true, apart := false, laid := [("math/bits.deBruijn32tab", laid_math_bits_deBruijn32tab), ("math/bits.deBruijn64tab", laid_math_bits_deBruijn64tab), ("internal/strconv.uint64pow10", laid_internal_strconv_uint64pow10), ("errors.errorType", laid_errors_errorType), ("loop.example/wayboard/impl.errPath", laid_loop_example_wayboard_impl_errPath)], narrowed := true }
def FnTellUptoSaid : Prop := fnTellUptoRow.holds Tryz.pinned (OpenSpec.upto fnTellSpec)

/-- 'laws.FnTellFull', WHERE WHAT IT READS IS OF BULK AT MOST 1048576: true; the input reads as it did. -/
def fnTellFullUptoRow : OpenClaim := { program := "ytpgilgnkiceggaagreatdoor", sum := "ce9fc463721f317e770a0788f3cf2754c9558dc2cfbba17ee5aaaf0132c8e822", func := "loop.example/wayboard/laws.FnTellFull", spec := "fnTellFull", inPlace := ["internal/reflectlite.TypeOf", "internal/reflectlite.ValueOf", "(internal/reflectlite.Value).Type", "(internal/reflectlite.Value).IsNil", "(internal/reflectlite.Value).Elem", "(internal/reflectlite.Value).Set"], unfollowed := true, recurses := true, named := ["loop.example/wayboard/impl.errPath", "internal/strconv.uint64pow10", "math/bits.deBruijn32tab", "math/bits.deBruijn64tab", "errors.errorType"], ifaces := true, apart := false, laid := [("math/bits.deBruijn32tab", laid_math_bits_deBruijn32tab), ("math/bits.deBruijn64tab", laid_math_bits_deBruijn64tab), ("internal/strconv.uint64pow10", laid_internal_strconv_uint64pow10), ("errors.errorType", laid_errors_errorType), ("loop.example/wayboard/impl.errPath", laid_loop_example_wayboard_impl_errPath)], narrowed := true }
def FnTellFullUptoSaid : Prop := fnTellFullUptoRow.holds Tryz.pinned (OpenSpec.upto fnTellFullSpec)

/-- 'laws.FnUp', WHERE WHAT IT READS IS OF BULK AT MOST 1048576: true; the input reads as it did. -/
def fnUpUptoRow : OpenClaim := { program := "ytpgilgnkiceggaagreatdoor", sum := "ce9fc463721f317e770a0788f3cf2754c9558dc2cfbba17ee5aaaf0132c8e822", func := "loop.example/wayboard/laws.FnUp", spec := "fnUp", inPlace := ["internal/reflectlite.TypeOf", "internal/reflectlite.ValueOf", "(internal/reflectlite.Value).Type", "(internal/reflectlite.Value).IsNil", "(internal/reflectlite.Value).Elem", "(internal/reflectlite.Value).Set"], unfollowed := true, recurses := true, named := ["loop.example/wayboard/impl.errPath", "internal/strconv.uint64pow10", "math/bits.deBruijn32tab", "math/bits.deBruijn64tab", "errors.errorType"], ifaces := true, apart := false, laid := [("math/bits.deBruijn32tab", laid_math_bits_deBruijn32tab), ("math/bits.deBruijn64tab", laid_math_bits_deBruijn64tab), ("internal/strconv.uint64pow10", laid_internal_strconv_uint64pow10), ("errors.errorType", laid_errors_errorType), ("loop.example/wayboard/impl.errPath", laid_loop_example_wayboard_impl_errPath)], narrowed := true }
def FnUpUptoSaid : Prop := fnUpUptoRow.holds Tryz.pinned (OpenSpec.upto fnUpSpec)

/-- 'laws.FnDrop', WHERE WHAT IT READS IS OF BULK AT MOST 1048576: true; the input reads as it did. -/
def fnDropUptoRow : OpenClaim := { program := "ytpgilgnkiceggaagreatdoor", sum := "ce9fc463721f317e770a0788f3cf2754c9558dc2cfbba17ee5aaaf0132c8e822", func := "loop.example/wayboard/laws.FnDrop", spec := "fnDrop", inPlace := ["internal/reflectlite.TypeOf", "internal/reflectlite.ValueOf", "(internal/reflectlite.Value).Type", "(internal/reflectlite.Value).IsNil", "(internal/reflectlite.Value).Elem", "(internal/reflectlite.Value).Set"], unfollowed := true, recurses := true, named := ["loop.example/wayboard/impl.errPath", "internal/strconv.uint64pow10", "math/bits.deBruijn32tab", "math/bits.deBruijn64tab", "errors.errorType"], ifaces := true, apart := false, laid := [("math/bits.deBruijn32tab", laid_math_bits_deBruijn32tab), ("math/bits.deBruijn64tab", laid_math_bits_deBruijn64tab), ("internal/strconv.uint64pow10", laid_internal_strconv_uint64pow10), ("errors.errorType", laid_errors_errorType), ("loop.example/wayboard/impl.errPath", laid_loop_example_wayboard_impl_errPath)], narrowed := true }
def FnDropUptoSaid : Prop := fnDropUptoRow.holds Tryz.pinned (OpenSpec.upto fnDropSpec)

/-- 'laws.FnTellGone', WHERE WHAT IT READS IS OF BULK AT MOST 1048576: true; the input reads as it did. -/
def fnTellGoneUptoRow : OpenClaim := { program := "ytpgilgnkiceggaagreatdoor", sum := "ce9fc463721f317e770a0788f3cf2754c9558dc2cfbba17ee5aaaf0132c8e822", func := "loop.example/wayboard/laws.FnTellGone", spec := "fnTellGone", inPlace := ["internal/reflectlite.TypeOf", "internal/reflectlite.ValueOf", "(internal/reflectlite.Value).Type", "(internal/reflectlite.Value).IsNil", "(internal/reflectlite.Value).Elem", "(internal/reflectlite.Value).Set"], unfollowed := true, recurses := true, named := ["loop.example/wayboard/impl.errPath", "internal/strconv.uint64pow10", "math/bits.deBruijn32tab", "math/bits.deBruijn64tab", "errors.errorType"], ifaces := true, apart := false, laid := [("math/bits.deBruijn32tab", laid_math_bits_deBruijn32tab), ("math/bits.deBruijn64tab", laid_math_bits_deBruijn64tab), ("internal/strconv.uint64pow10", laid_internal_strconv_uint64pow10), ("errors.errorType", laid_errors_errorType), ("loop.example/wayboard/impl.errPath", laid_loop_example_wayboard_impl_errPath)], narrowed := true }
def FnTellGoneUptoSaid : Prop := fnTellGoneUptoRow.holds Tryz.pinned (OpenSpec.upto fnTellGoneSpec)

/-- 'laws.FnTellDrop', WHERE WHAT IT READS IS OF BULK AT MOST 1048576: true; the input reads as it did. -/
def fnTellDropUptoRow : OpenClaim := { program := "ytpgilgnkiceggaagreatdoor", sum := "ce9fc463721f317e770a0788f3cf2754c9558dc2cfbba17ee5aaaf0132c8e822", func := "loop.example/wayboard/laws.FnTellDrop", spec := "fnTellDrop", inPlace := ["internal/reflectlite.TypeOf", "internal/reflectlite.ValueOf", "(internal/reflectlite.Value).Type", "(internal/reflectlite.Value).IsNil", "(internal/reflectlite.Value).Elem", "(internal/reflectlite.Value).Set"], unfollowed := true, recurses := true, named := ["loop.example/wayboard/impl.errPath", "internal/strconv.uint64pow10", "math/bits.deBruijn32tab", "math/bits.deBruijn64tab", "errors.errorType"], ifaces := true, apart := false, laid := [("math/bits.deBruijn32tab", laid_math_bits_deBruijn32tab), ("math/bits.deBruijn64tab", laid_math_bits_deBruijn64tab), ("internal/strconv.uint64pow10", laid_internal_strconv_uint64pow10), ("errors.errorType", laid_errors_errorType), ("loop.example/wayboard/impl.errPath", laid_loop_example_wayboard_impl_errPath)], narrowed := true }
def FnTellDropUptoSaid : Prop := fnTellDropUptoRow.holds Tryz.pinned (OpenSpec.upto fnTellDropSpec)

/-- 'laws.FnBreak', WHERE WHAT IT READS IS OF BULK AT MOST 1048576: true; the input reads as it did. -/
def fnBreakUptoRow : OpenClaim := { program := "ytpgilgnkiceggaagreatdoor", sum := "ce9fc463721f317e770a0788f3cf2754c9558dc2cfbba17ee5aaaf0132c8e822", func := "loop.example/wayboard/laws.FnBreak", spec := "fnBreak", inPlace := ["internal/reflectlite.TypeOf", "internal/reflectlite.ValueOf", "(internal/reflectlite.Value).Type", "(internal/reflectlite.Value).IsNil", "(internal/reflectlite.Value).Elem", "(internal/reflectlite.Value).Set"], unfollowed := true, recurses := true, named := ["loop.example/wayboard/impl.errPath", "internal/strconv.uint64pow10", "math/bits.deBruijn32tab", "math/bits.deBruijn64tab", "errors.errorType"], ifaces := true, apart := false, laid := [("math/bits.deBruijn32tab", laid_math_bits_deBruijn32tab), ("math/bits.deBruijn64tab", laid_math_bits_deBruijn64tab), ("internal/strconv.uint64pow10", laid_internal_strconv_uint64pow10), ("errors.errorType", laid_errors_errorType), ("loop.example/wayboard/impl.errPath", laid_loop_example_wayboard_impl_errPath)], narrowed := true }
def FnBreakUptoSaid : Prop := fnBreakUptoRow.holds Tryz.pinned (OpenSpec.upto fnBreakSpec)

end Rows
end Go.Proofs.YtpgilgnkiceggaaGreatDoor
