/-
  NARROWER THAN 'FOR EVERY INPUT', by the rows' own cells (each row's printed sentence says how): FnEndStill: ifaces, laid · FnAlong: ifaces, laid · FnAllUp: ifaces, laid · FnNoValley: ifaces, laid · FnShortest: ifaces, laid · FnSettlesAll: ifaces, laid · FnCutPeer: ifaces, laid · FnNobody: ifaces, laid · FnHome: ifaces, laid.
  DERIVED. THE GIVEN ROWS OF THIS SEAT. 9 by the template 'for every input the law returns true; each argument reads behind the call as it read before'; 0 by the template 'total and deterministic' (their statements: YtgfclgpljhiicaaDoorTotals.lean).
  GIVEN WITH THE SEED: the statements are not yours to turn. If you find one false, say at which input.
  Laid BY PROGRAM, IN A SANDBOX (cutbox-rows.mjs): the forced cells as the released guide's own fill.sh prints them over the translation f002c031a61682c4… (all of the seat's roots in one cut). By AI agents, Wed Nov 11 2026. No macro, syntax, notation, axiom, sorry.
-/
import Derived.Test.YtgfclgpljhiicaaDoorChecked
import GoSem.Claim
import GoSem.ClaimJoined
import GoSem.ClaimMapViews
import Derived.JoinedTies
import Derived.KernelRfl
namespace Go.Proofs.YtgfclgpljhiicaaDoor
/- THE CELL 'sum', in the pinned program and in every row, IS THE sha256 OF THE DUMP (.gsa) THAT YtgfclgpljhiicaaDoorProg.lean LOADS. Nothing in Lean hashes anything: it is a label: what it is worth is what the hold of that sum in a sandbox is worth. -/
noncomputable def Tryd.pinned : Pinned := { name := "ytgfclgpljhiicaadoor", sum := "f002c031a61682c4782592092076e7578d39475047481c3383c2572e249c343c", checked := Tryd.checked }
namespace Rows
def none {H : Type} : Left H := { results := [], args := [] }

/- WHAT THE LISTED PACKAGE-LEVEL VARIABLES READ AS WHEN THE CALL BEGINS. Each datum BY PROGRAM (the guide's laid-datum.mjs) off the statement by which the dump's own 'gosem.cut.vars' lays the variable. In a bare row this is a premise. The card (YtgfclgpljhiicaaDoorCards.lean) ties it to the program's text. -/
def laid_math_bits_deBruijn32tab {H : Type} : DataW H := .agg [.lit (.int .u8 0), .lit (.int .u8 1), .lit (.int .u8 28), .lit (.int .u8 2), .lit (.int .u8 29), .lit (.int .u8 14), .lit (.int .u8 24), .lit (.int .u8 3), .lit (.int .u8 30), .lit (.int .u8 22), .lit (.int .u8 20), .lit (.int .u8 15), .lit (.int .u8 25), .lit (.int .u8 17), .lit (.int .u8 4), .lit (.int .u8 8), .lit (.int .u8 31), .lit (.int .u8 27), .lit (.int .u8 13), .lit (.int .u8 23), .lit (.int .u8 21), .lit (.int .u8 19), .lit (.int .u8 16), .lit (.int .u8 7), .lit (.int .u8 26), .lit (.int .u8 12), .lit (.int .u8 18), .lit (.int .u8 6), .lit (.int .u8 11), .lit (.int .u8 5), .lit (.int .u8 10), .lit (.int .u8 9)]
def laid_math_bits_deBruijn64tab {H : Type} : DataW H := .agg [.lit (.int .u8 0), .lit (.int .u8 1), .lit (.int .u8 56), .lit (.int .u8 2), .lit (.int .u8 57), .lit (.int .u8 49), .lit (.int .u8 28), .lit (.int .u8 3), .lit (.int .u8 61), .lit (.int .u8 58), .lit (.int .u8 42), .lit (.int .u8 50), .lit (.int .u8 38), .lit (.int .u8 29), .lit (.int .u8 17), .lit (.int .u8 4), .lit (.int .u8 62), .lit (.int .u8 47), .lit (.int .u8 59), .lit (.int .u8 36), .lit (.int .u8 45), .lit (.int .u8 43), .lit (.int .u8 51), .lit (.int .u8 22), .lit (.int .u8 53), .lit (.int .u8 39), .lit (.int .u8 33), .lit (.int .u8 30), .lit (.int .u8 24), .lit (.int .u8 18), .lit (.int .u8 12), .lit (.int .u8 5), .lit (.int .u8 63), .lit (.int .u8 55), .lit (.int .u8 48), .lit (.int .u8 27), .lit (.int .u8 60), .lit (.int .u8 41), .lit (.int .u8 37), .lit (.int .u8 16), .lit (.int .u8 46), .lit (.int .u8 35), .lit (.int .u8 44), .lit (.int .u8 21), .lit (.int .u8 52), .lit (.int .u8 32), .lit (.int .u8 23), .lit (.int .u8 11), .lit (.int .u8 54), .lit (.int .u8 26), .lit (.int .u8 40), .lit (.int .u8 15), .lit (.int .u8 34), .lit (.int .u8 20), .lit (.int .u8 31), .lit (.int .u8 10), .lit (.int .u8 25), .lit (.int .u8 14), .lit (.int .u8 19), .lit (.int .u8 9), .lit (.int .u8 13), .lit (.int .u8 8), .lit (.int .u8 7), .lit (.int .u8 6)]
def laid_internal_strconv_uint64pow10 {H : Type} : DataW H := .agg [.lit (.int .u64 1), .lit (.int .u64 10), .lit (.int .u64 100), .lit (.int .u64 1000), .lit (.int .u64 10000), .lit (.int .u64 100000), .lit (.int .u64 1000000), .lit (.int .u64 10000000), .lit (.int .u64 100000000), .lit (.int .u64 1000000000), .lit (.int .u64 10000000000), .lit (.int .u64 100000000000), .lit (.int .u64 1000000000000), .lit (.int .u64 10000000000000), .lit (.int .u64 100000000000000), .lit (.int .u64 1000000000000000), .lit (.int .u64 10000000000000000), .lit (.int .u64 100000000000000000), .lit (.int .u64 1000000000000000000), .lit (.int .u64 10000000000000000000)]
def laid_loop_example_wayboard_impl_errPath {H : Type} : DataW H := .iface "*errors.errorString" (.ptr (.agg [.lit (.string [110, 111, 116, 32, 97, 32, 112, 97, 116, 104])]))

/-- 'laws.FnEndStill': WHATEVER THE INPUT: true; the input reads as it did. -/
def fnEndStillSpec : ChangeSpec := { name := "fnEndStill", vars := ["loop.example/wayboard/impl.errPath"], fn := fun _ => fun
  | [d, g1] => { results := [.lit (.bool true)], args := [d], vars := [g1] }
  | _ => none }
def fnEndStillRow : OpenClaim := { program := "ytgfclgpljhiicaadoor", sum := "f002c031a61682c4782592092076e7578d39475047481c3383c2572e249c343c", func := "loop.example/wayboard/laws.FnEndStill", spec := "fnEndStill", inPlace := ["internal/reflectlite.TypeOf"], unfollowed := true, recurses := true, named := ["loop.example/wayboard/impl.errPath", "internal/strconv.uint64pow10", "math/bits.deBruijn32tab", "math/bits.deBruijn64tab"], ifaces := true, plainKeys := false, apart := false, laid := [("math/bits.deBruijn32tab", laid_math_bits_deBruijn32tab), ("math/bits.deBruijn64tab", laid_math_bits_deBruijn64tab), ("internal/strconv.uint64pow10", laid_internal_strconv_uint64pow10), ("loop.example/wayboard/impl.errPath", laid_loop_example_wayboard_impl_errPath)] }
def FnEndStillSaid : Prop := fnEndStillRow.holds Tryd.pinned (OpenSpec.ofChange fnEndStillSpec)

/-- ITS FALSE NEIGHBOUR: 'it returns false'. Refute it at one input. -/
def fnEndStillWrong : ChangeSpec := { name := "fnEndStill", vars := ["loop.example/wayboard/impl.errPath"], fn := fun _ => fun
  | [d, g1] => { results := [.lit (.bool false)], args := [d], vars := [g1] }
  | _ => none }
def FnEndStillWrongFalsely : Prop := fnEndStillRow.holds Tryd.pinned (OpenSpec.ofChange fnEndStillWrong)

/-- 'laws.FnAlong': WHATEVER THE INPUT: true; the input reads as it did. -/
def fnAlongSpec : ChangeSpec := { name := "fnAlong", vars := ["loop.example/wayboard/impl.errPath"], fn := fun _ => fun
  | [d, g1] => { results := [.lit (.bool true)], args := [d], vars := [g1] }
  | _ => none }
def fnAlongRow : OpenClaim := { program := "ytgfclgpljhiicaadoor", sum := "f002c031a61682c4782592092076e7578d39475047481c3383c2572e249c343c", func := "loop.example/wayboard/laws.FnAlong", spec := "fnAlong", inPlace := ["internal/reflectlite.TypeOf"], unfollowed := true, recurses := true, named := ["loop.example/wayboard/impl.errPath", "internal/strconv.uint64pow10", "math/bits.deBruijn32tab", "math/bits.deBruijn64tab"], ifaces := true, plainKeys := false, apart := false, laid := [("math/bits.deBruijn32tab", laid_math_bits_deBruijn32tab), ("math/bits.deBruijn64tab", laid_math_bits_deBruijn64tab), ("internal/strconv.uint64pow10", laid_internal_strconv_uint64pow10), ("loop.example/wayboard/impl.errPath", laid_loop_example_wayboard_impl_errPath)] }
def FnAlongSaid : Prop := fnAlongRow.holds Tryd.pinned (OpenSpec.ofChange fnAlongSpec)

/-- ITS FALSE NEIGHBOUR: 'it returns false'. Refute it at one input. -/
def fnAlongWrong : ChangeSpec := { name := "fnAlong", vars := ["loop.example/wayboard/impl.errPath"], fn := fun _ => fun
  | [d, g1] => { results := [.lit (.bool false)], args := [d], vars := [g1] }
  | _ => none }
def FnAlongWrongFalsely : Prop := fnAlongRow.holds Tryd.pinned (OpenSpec.ofChange fnAlongWrong)

/-- 'laws.FnAllUp': WHATEVER THE INPUT: true; the input reads as it did. -/
def fnAllUpSpec : ChangeSpec := { name := "fnAllUp", vars := ["loop.example/wayboard/impl.errPath"], fn := fun _ => fun
  | [d, g1] => { results := [.lit (.bool true)], args := [d], vars := [g1] }
  | _ => none }
def fnAllUpRow : OpenClaim := { program := "ytgfclgpljhiicaadoor", sum := "f002c031a61682c4782592092076e7578d39475047481c3383c2572e249c343c", func := "loop.example/wayboard/laws.FnAllUp", spec := "fnAllUp", inPlace := ["internal/reflectlite.TypeOf"], unfollowed := true, recurses := true, named := ["loop.example/wayboard/impl.errPath", "internal/strconv.uint64pow10", "math/bits.deBruijn32tab", "math/bits.deBruijn64tab"], ifaces := true, plainKeys := false, apart := false, laid := [("math/bits.deBruijn32tab", laid_math_bits_deBruijn32tab), ("math/bits.deBruijn64tab", laid_math_bits_deBruijn64tab), ("internal/strconv.uint64pow10", laid_internal_strconv_uint64pow10), ("loop.example/wayboard/impl.errPath", laid_loop_example_wayboard_impl_errPath)] }
def FnAllUpSaid : Prop := fnAllUpRow.holds Tryd.pinned (OpenSpec.ofChange fnAllUpSpec)

/-- ITS FALSE NEIGHBOUR: 'it returns false'. Refute it at one input. -/
def fnAllUpWrong : ChangeSpec := { name := "fnAllUp", vars := ["loop.example/wayboard/impl.errPath"], fn := fun _ => fun
  | [d, g1] => { results := [.lit (.bool false)], args := [d], vars := [g1] }
  | _ => none }
def FnAllUpWrongFalsely : Prop := fnAllUpRow.holds Tryd.pinned (OpenSpec.ofChange fnAllUpWrong)

/-- 'laws.FnNoValley': WHATEVER THE INPUT: true; the input reads as it did. -/
def fnNoValleySpec : ChangeSpec := { name := "fnNoValley", vars := ["loop.example/wayboard/impl.errPath"], fn := fun _ => fun
  | [d, g1] => { results := [.lit (.bool true)], args := [d], vars := [g1] }
  | _ => none }
def fnNoValleyRow : OpenClaim := { program := "ytgfclgpljhiicaadoor", sum := "f002c031a61682c4782592092076e7578d39475047481c3383c2572e249c343c", func := "loop.example/wayboard/laws.FnNoValley", spec := "fnNoValley", inPlace := ["internal/reflectlite.TypeOf"], unfollowed := true, recurses := true, named := ["loop.example/wayboard/impl.errPath", "internal/strconv.uint64pow10", "math/bits.deBruijn32tab", "math/bits.deBruijn64tab"], ifaces := true, plainKeys := false, apart := false, laid := [("math/bits.deBruijn32tab", laid_math_bits_deBruijn32tab), ("math/bits.deBruijn64tab", laid_math_bits_deBruijn64tab), ("internal/strconv.uint64pow10", laid_internal_strconv_uint64pow10), ("loop.example/wayboard/impl.errPath", laid_loop_example_wayboard_impl_errPath)] }
def FnNoValleySaid : Prop := fnNoValleyRow.holds Tryd.pinned (OpenSpec.ofChange fnNoValleySpec)

/-- ITS FALSE NEIGHBOUR: 'it returns false'. Refute it at one input. -/
def fnNoValleyWrong : ChangeSpec := { name := "fnNoValley", vars := ["loop.example/wayboard/impl.errPath"], fn := fun _ => fun
  | [d, g1] => { results := [.lit (.bool false)], args := [d], vars := [g1] }
  | _ => none }
def FnNoValleyWrongFalsely : Prop := fnNoValleyRow.holds Tryd.pinned (OpenSpec.ofChange fnNoValleyWrong)

/-- 'laws.FnShortest': WHATEVER THE INPUT: true; the input reads as it did. -/
def fnShortestSpec : ChangeSpec := { name := "fnShortest", vars := ["loop.example/wayboard/impl.errPath"], fn := fun _ => fun
  | [d, g1] => { results := [.lit (.bool true)], args := [d], vars := [g1] }
  | _ => none }
def fnShortestRow : OpenClaim := { program := "ytgfclgpljhiicaadoor", sum := "f002c031a61682c4782592092076e7578d39475047481c3383c2572e249c343c", func := "loop.example/wayboard/laws.FnShortest", spec := "fnShortest", inPlace := ["internal/reflectlite.TypeOf"], unfollowed := true, recurses := true, named := ["loop.example/wayboard/impl.errPath", "internal/strconv.uint64pow10", "math/bits.deBruijn32tab", "math/bits.deBruijn64tab"], ifaces := true, plainKeys := false, apart := false, laid := [("math/bits.deBruijn32tab", laid_math_bits_deBruijn32tab), ("math/bits.deBruijn64tab", laid_math_bits_deBruijn64tab), ("internal/strconv.uint64pow10", laid_internal_strconv_uint64pow10), ("loop.example/wayboard/impl.errPath", laid_loop_example_wayboard_impl_errPath)] }
def FnShortestSaid : Prop := fnShortestRow.holds Tryd.pinned (OpenSpec.ofChange fnShortestSpec)

/-- ITS FALSE NEIGHBOUR: 'it returns false'. Refute it at one input. -/
def fnShortestWrong : ChangeSpec := { name := "fnShortest", vars := ["loop.example/wayboard/impl.errPath"], fn := fun _ => fun
  | [d, g1] => { results := [.lit (.bool false)], args := [d], vars := [g1] }
  | _ => none }
def FnShortestWrongFalsely : Prop := fnShortestRow.holds Tryd.pinned (OpenSpec.ofChange fnShortestWrong)

/-- 'laws.FnSettlesAll': WHATEVER THE INPUT: true; the input reads as it did. -/
def fnSettlesAllSpec : ChangeSpec := { name := "fnSettlesAll", vars := ["loop.example/wayboard/impl.errPath"], fn := fun _ => fun
  | [d1, d2, g1] => { results := [.lit (.bool true)], args := [d1, d2], vars := [g1] }
  | _ => none }
def fnSettlesAllRow : OpenClaim := { program := "ytgfclgpljhiicaadoor", sum := "f002c031a61682c4782592092076e7578d39475047481c3383c2572e249c343c", func := "loop.example/wayboard/laws.FnSettlesAll", spec := "fnSettlesAll", inPlace := ["internal/reflectlite.TypeOf"], unfollowed := true, recurses := true, named := ["loop.example/wayboard/impl.errPath", "internal/strconv.uint64pow10", "math/bits.deBruijn32tab", "math/bits.deBruijn64tab"], ifaces := true, plainKeys := false, apart := false, laid := [("math/bits.deBruijn32tab", laid_math_bits_deBruijn32tab), ("math/bits.deBruijn64tab", laid_math_bits_deBruijn64tab), ("internal/strconv.uint64pow10", laid_internal_strconv_uint64pow10), ("loop.example/wayboard/impl.errPath", laid_loop_example_wayboard_impl_errPath)] }
def FnSettlesAllSaid : Prop := fnSettlesAllRow.holds Tryd.pinned (OpenSpec.ofChange fnSettlesAllSpec)

/-- ITS FALSE NEIGHBOUR: 'it returns false'. Refute it at one input. -/
def fnSettlesAllWrong : ChangeSpec := { name := "fnSettlesAll", vars := ["loop.example/wayboard/impl.errPath"], fn := fun _ => fun
  | [d1, d2, g1] => { results := [.lit (.bool false)], args := [d1, d2], vars := [g1] }
  | _ => none }
def FnSettlesAllWrongFalsely : Prop := fnSettlesAllRow.holds Tryd.pinned (OpenSpec.ofChange fnSettlesAllWrong)

/-- 'laws.FnCutPeer': WHATEVER THE INPUT: true; the input reads as it did. -/
def fnCutPeerSpec : ChangeSpec := { name := "fnCutPeer", vars := ["loop.example/wayboard/impl.errPath"], fn := fun _ => fun
  | [d1, d2, g1] => { results := [.lit (.bool true)], args := [d1, d2], vars := [g1] }
  | _ => none }
def fnCutPeerRow : OpenClaim := { program := "ytgfclgpljhiicaadoor", sum := "f002c031a61682c4782592092076e7578d39475047481c3383c2572e249c343c", func := "loop.example/wayboard/laws.FnCutPeer", spec := "fnCutPeer", inPlace := ["internal/reflectlite.TypeOf"], unfollowed := true, recurses := true, named := ["loop.example/wayboard/impl.errPath", "internal/strconv.uint64pow10", "math/bits.deBruijn32tab", "math/bits.deBruijn64tab"], ifaces := true, plainKeys := false, apart := false, laid := [("math/bits.deBruijn32tab", laid_math_bits_deBruijn32tab), ("math/bits.deBruijn64tab", laid_math_bits_deBruijn64tab), ("internal/strconv.uint64pow10", laid_internal_strconv_uint64pow10), ("loop.example/wayboard/impl.errPath", laid_loop_example_wayboard_impl_errPath)] }
def FnCutPeerSaid : Prop := fnCutPeerRow.holds Tryd.pinned (OpenSpec.ofChange fnCutPeerSpec)

/-- ITS FALSE NEIGHBOUR: 'it returns false'. Refute it at one input. -/
def fnCutPeerWrong : ChangeSpec := { name := "fnCutPeer", vars := ["loop.example/wayboard/impl.errPath"], fn := fun _ => fun
  | [d1, d2, g1] => { results := [.lit (.bool false)], args := [d1, d2], vars := [g1] }
  | _ => none }
def FnCutPeerWrongFalsely : Prop := fnCutPeerRow.holds Tryd.pinned (OpenSpec.ofChange fnCutPeerWrong)

/-- 'laws.FnNobody': WHATEVER THE INPUT: true; the input reads as it did. -/
def fnNobodySpec : ChangeSpec := { name := "fnNobody", vars := ["loop.example/wayboard/impl.errPath"], fn := fun _ => fun
  | [d, g1] => { results := [.lit (.bool true)], args := [d], vars := [g1] }
  | _ => none }
def fnNobodyRow : OpenClaim := { program := "ytgfclgpljhiicaadoor", sum := "f002c031a61682c4782592092076e7578d39475047481c3383c2572e249c343c", func := "loop.example/wayboard/laws.FnNobody", spec := "fnNobody", inPlace := ["internal/reflectlite.TypeOf"], unfollowed := true, recurses := true, named := ["loop.example/wayboard/impl.errPath", "internal/strconv.uint64pow10", "math/bits.deBruijn32tab", "math/bits.deBruijn64tab"], ifaces := true, plainKeys := false, apart := false, laid := [("math/bits.deBruijn32tab", laid_math_bits_deBruijn32tab), ("math/bits.deBruijn64tab", laid_math_bits_deBruijn64tab), ("internal/strconv.uint64pow10", laid_internal_strconv_uint64pow10), ("loop.example/wayboard/impl.errPath", laid_loop_example_wayboard_impl_errPath)] }
def FnNobodySaid : Prop := fnNobodyRow.holds Tryd.pinned (OpenSpec.ofChange fnNobodySpec)

/-- ITS FALSE NEIGHBOUR: 'it returns false'. Refute it at one input. -/
def fnNobodyWrong : ChangeSpec := { name := "fnNobody", vars := ["loop.example/wayboard/impl.errPath"], fn := fun _ => fun
  | [d, g1] => { results := [.lit (.bool false)], args := [d], vars := [g1] }
  | _ => none }
def FnNobodyWrongFalsely : Prop := fnNobodyRow.holds Tryd.pinned (OpenSpec.ofChange fnNobodyWrong)

/-- 'laws.FnHome': WHATEVER THE INPUT: true; the input reads as it did. -/
def fnHomeSpec : ChangeSpec := { name := "fnHome", vars := ["loop.example/wayboard/impl.errPath"], fn := fun _ => fun
  | [d1, d2, g1] => { results := [.lit (.bool true)], args := [d1, d2], vars := [g1] }
  | _ => none }
def fnHomeRow : OpenClaim := { program := "ytgfclgpljhiicaadoor", sum := "f002c031a61682c4782592092076e7578d39475047481c3383c2572e249c343c", func := "loop.example/wayboard/laws.FnHome", spec := "fnHome", inPlace := ["internal/reflectlite.TypeOf"], unfollowed := true, recurses := true, named := ["loop.example/wayboard/impl.errPath", "internal/strconv.uint64pow10", "math/bits.deBruijn32tab", "math/bits.deBruijn64tab"], ifaces := true, plainKeys := false, apart := false, laid := [("math/bits.deBruijn32tab", laid_math_bits_deBruijn32tab), ("math/bits.deBruijn64tab", laid_math_bits_deBruijn64tab), ("internal/strconv.uint64pow10", laid_internal_strconv_uint64pow10), ("loop.example/wayboard/impl.errPath", laid_loop_example_wayboard_impl_errPath)] }
def FnHomeSaid : Prop := fnHomeRow.holds Tryd.pinned (OpenSpec.ofChange fnHomeSpec)

/-- ITS FALSE NEIGHBOUR: 'it returns false'. Refute it at one input. -/
def fnHomeWrong : ChangeSpec := { name := "fnHome", vars := ["loop.example/wayboard/impl.errPath"], fn := fun _ => fun
  | [d1, d2, g1] => { results := [.lit (.bool false)], args := [d1, d2], vars := [g1] }
  | _ => none }
def FnHomeWrongFalsely : Prop := fnHomeRow.holds Tryd.pinned (OpenSpec.ofChange fnHomeWrong)

/- THE SECOND FORM. 'bulk': how many values and letters a reading holds, each counted each time it is reached (what is shared counts as often as it is met; a slice's spare places count too). A statement '..UptoSaid' is the law's where the arguments, and the package variables that the reading takes, are together of bulk at most 1048576: NARROWER than '..Said'. Prove '..Said' where nothing that the law and all that it calls make is longer than what came in: it says more and counts as full. Else prove '..UptoSaid'. A law counts once. -/
mutual
def uptoBulk {H : Type} : DataW H → Nat
  | .lit (.string bytes) => bytes.length + 1
  | .lit _ => 1
  | .nil => 1
  | .ptr d => uptoBulk d + 1
  | .slice elems spare => uptoBulkAll elems + uptoBulkAll spare + 1
  | .agg parts => uptoBulkAll parts + 1
  | .iface _ d => uptoBulk d + 1
  | .map entries => uptoBulkEntries entries + 1
  | .held _ => 1
def uptoBulkAll {H : Type} : List (DataW H) → Nat
  | [] => 0
  | d :: r => uptoBulk d + uptoBulkAll r
def uptoBulkEntries {H : Type} : List (Lit × DataW H) → Nat
  | [] => 0
  | x :: r => uptoBulkEntry x + uptoBulkEntries r
def uptoBulkEntry {H : Type} : Lit × DataW H → Nat
  | (.string bytes, d) => bytes.length + uptoBulk d + 1
  | (_, d) => uptoBulk d + 1
 end
def uptoSmall : (H : Type) → List (DataW H) → Bool := fun _ ds => decide (uptoBulkAll ds ≤ 1048576)
def OpenSpec.upto (s : _root_.Go.ChangeSpec) : _root_.Go.OpenSpec := { _root_.Go.OpenSpec.ofChange s with cond := some uptoSmall }

/-- 'laws.FnEndStill', WHERE WHAT IT READS IS OF BULK AT MOST 1048576: true; the input reads as it did. -/
def fnEndStillUptoRow : OpenClaim := { program := "ytgfclgpljhiicaadoor", sum := "f002c031a61682c4782592092076e7578d39475047481c3383c2572e249c343c", func := "loop.example/wayboard/laws.FnEndStill", spec := "fnEndStill", inPlace := ["internal/reflectlite.TypeOf"], unfollowed := true, recurses := true, named := ["loop.example/wayboard/impl.errPath", "internal/strconv.uint64pow10", "math/bits.deBruijn32tab", "math/bits.deBruijn64tab"], ifaces := true, plainKeys := false, apart := false, laid := [("math/bits.deBruijn32tab", laid_math_bits_deBruijn32tab), ("math/bits.deBruijn64tab", laid_math_bits_deBruijn64tab), ("internal/strconv.uint64pow10", laid_internal_strconv_uint64pow10), ("loop.example/wayboard/impl.errPath", laid_loop_example_wayboard_impl_errPath)], narrowed := true }
def FnEndStillUptoSaid : Prop := fnEndStillUptoRow.holds Tryd.pinned (OpenSpec.upto fnEndStillSpec)

/-- 'laws.FnAlong', WHERE WHAT IT READS IS OF BULK AT MOST 1048576: true; the input reads as it did. -/
def fnAlongUptoRow : OpenClaim := { program := "ytgfclgpljhiicaadoor", sum := "f002c031a61682c4782592092076e7578d39475047481c3383c2572e249c343c", func := "loop.example/wayboard/laws.FnAlong", spec := "fnAlong", inPlace := ["internal/reflectlite.TypeOf"], unfollowed := true, recurses := true, named := ["loop.example/wayboard/impl.errPath", "internal/strconv.uint64pow10", "math/bits.deBruijn32tab", "math/bits.deBruijn64tab"], ifaces := true, plainKeys := false, apart := false, laid := [("math/bits.deBruijn32tab", laid_math_bits_deBruijn32tab), ("math/bits.deBruijn64tab", laid_math_bits_deBruijn64tab), ("internal/strconv.uint64pow10", laid_internal_strconv_uint64pow10), ("loop.example/wayboard/impl.errPath", laid_loop_example_wayboard_impl_errPath)], narrowed := true }
def FnAlongUptoSaid : Prop := fnAlongUptoRow.holds Tryd.pinned (OpenSpec.upto fnAlongSpec)

/-- 'laws.FnAllUp', WHERE WHAT IT READS IS OF BULK AT MOST 1048576: true; the input reads as it did. -/
def fnAllUpUptoRow : OpenClaim := { program := "ytgfclgpljhiicaadoor", sum := "f002c031a61682c4782592092076e7578d39475047481c3383c2572e249c343c", func := "loop.example/wayboard/laws.FnAllUp", spec := "fnAllUp", inPlace := ["internal/reflectlite.TypeOf"], unfollowed := true, recurses := true, named := ["loop.example/wayboard/impl.errPath", "internal/strconv.uint64pow10", "math/bits.deBruijn32tab", "math/bits.deBruijn64tab"], ifaces := true, plainKeys := false, apart := false, laid := [("math/bits.deBruijn32tab", laid_math_bits_deBruijn32tab), ("math/bits.deBruijn64tab", laid_math_bits_deBruijn64tab), ("internal/strconv.uint64pow10", laid_internal_strconv_uint64pow10), ("loop.example/wayboard/impl.errPath", laid_loop_example_wayboard_impl_errPath)], narrowed := true }
def FnAllUpUptoSaid : Prop := fnAllUpUptoRow.holds Tryd.pinned (OpenSpec.upto fnAllUpSpec)

/-- 'laws.FnNoValley', WHERE WHAT IT READS IS OF BULK AT MOST 1048576: true; the input reads as it did. -/
def fnNoValleyUptoRow : OpenClaim := { program := "ytgfclgpljhiicaadoor", sum := "f002c031a61682c4782592092076e7578d39475047481c3383c2572e249c343c", func := "loop.example/wayboard/laws.FnNoValley", spec := "fnNoValley", inPlace := ["internal/reflectlite.TypeOf"], unfollowed := true, recurses := true, named := ["loop.example/wayboard/impl.errPath", "internal/strconv.uint64pow10", "math/bits.deBruijn32tab", "math/bits.deBruijn64tab"], ifaces := true, plainKeys := false, apart := false, laid := [("math/bits.deBruijn32tab", laid_math_bits_deBruijn32tab), ("math/bits.deBruijn64tab", laid_math_bits_deBruijn64tab), ("internal/strconv.uint64pow10", laid_internal_strconv_uint64pow10), ("loop.example/wayboard/impl.errPath", laid_loop_example_wayboard_impl_errPath)], narrowed := true }
def FnNoValleyUptoSaid : Prop := fnNoValleyUptoRow.holds Tryd.pinned (OpenSpec.upto fnNoValleySpec)

/-- 'laws.FnShortest', WHERE WHAT IT READS IS OF BULK AT MOST 1048576: true; the input reads as it did. -/
def fnShortestUptoRow : OpenClaim := { program := "ytgfclgpljhiicaadoor", sum := "f002c031a61682c4782592092076e7578d39475047481c3383c2572e249c343c", func := "loop.example/wayboard/laws.FnShortest", spec := "fnShortest", inPlace := ["internal/reflectlite.TypeOf"], unfollowed := true, recurses := true, named := ["loop.example/wayboard/impl.errPath", "internal/strconv.uint64pow10", "math/bits.deBruijn32tab", "math/bits.deBruijn64tab"], ifaces := true, plainKeys := false, apart := false, laid := [("math/bits.deBruijn32tab", laid_math_bits_deBruijn32tab), ("math/bits.deBruijn64tab", laid_math_bits_deBruijn64tab), ("internal/strconv.uint64pow10", laid_internal_strconv_uint64pow10), ("loop.example/wayboard/impl.errPath", laid_loop_example_wayboard_impl_errPath)], narrowed := true }
def FnShortestUptoSaid : Prop := fnShortestUptoRow.holds Tryd.pinned (OpenSpec.upto fnShortestSpec)

/-- 'laws.FnSettlesAll', WHERE WHAT IT READS IS OF BULK AT MOST 1048576: true; the input reads as it did. -/
def fnSettlesAllUptoRow : OpenClaim := { program := "ytgfclgpljhiicaadoor", sum := "f002c031a61682c4782592092076e7578d39475047481c3383c2572e249c343c", func := "loop.example/wayboard/laws.FnSettlesAll", spec := "fnSettlesAll", inPlace := ["internal/reflectlite.TypeOf"], unfollowed := true, recurses := true, named := ["loop.example/wayboard/impl.errPath", "internal/strconv.uint64pow10", "math/bits.deBruijn32tab", "math/bits.deBruijn64tab"], ifaces := true, plainKeys := false, apart := false, laid := [("math/bits.deBruijn32tab", laid_math_bits_deBruijn32tab), ("math/bits.deBruijn64tab", laid_math_bits_deBruijn64tab), ("internal/strconv.uint64pow10", laid_internal_strconv_uint64pow10), ("loop.example/wayboard/impl.errPath", laid_loop_example_wayboard_impl_errPath)], narrowed := true }
def FnSettlesAllUptoSaid : Prop := fnSettlesAllUptoRow.holds Tryd.pinned (OpenSpec.upto fnSettlesAllSpec)

/-- 'laws.FnCutPeer', WHERE WHAT IT READS IS OF BULK AT MOST 1048576: true; the input reads as it did. -/
def fnCutPeerUptoRow : OpenClaim := { program := "ytgfclgpljhiicaadoor", sum := "f002c031a61682c4782592092076e7578d39475047481c3383c2572e249c343c", func := "loop.example/wayboard/laws.FnCutPeer", spec := "fnCutPeer", inPlace := ["internal/reflectlite.TypeOf"], unfollowed := true, recurses := true, named := ["loop.example/wayboard/impl.errPath", "internal/strconv.uint64pow10", "math/bits.deBruijn32tab", "math/bits.deBruijn64tab"], ifaces := true, plainKeys := false, apart := false, laid := [("math/bits.deBruijn32tab", laid_math_bits_deBruijn32tab), ("math/bits.deBruijn64tab", laid_math_bits_deBruijn64tab), ("internal/strconv.uint64pow10", laid_internal_strconv_uint64pow10), ("loop.example/wayboard/impl.errPath", laid_loop_example_wayboard_impl_errPath)], narrowed := true }
def FnCutPeerUptoSaid : Prop := fnCutPeerUptoRow.holds Tryd.pinned (OpenSpec.upto fnCutPeerSpec)

/-- 'laws.FnNobody', WHERE WHAT IT READS IS OF BULK AT MOST 1048576: true; the input reads as it did. -/
def fnNobodyUptoRow : OpenClaim := { program := "ytgfclgpljhiicaadoor", sum := "f002c031a61682c4782592092076e7578d39475047481c3383c2572e249c343c", func := "loop.example/wayboard/laws.FnNobody", spec := "fnNobody", inPlace := ["internal/reflectlite.TypeOf"], unfollowed := true, recurses := true, named := ["loop.example/wayboard/impl.errPath", "internal/strconv.uint64pow10", "math/bits.deBruijn32tab", "math/bits.deBruijn64tab"], ifaces := true, plainKeys := false, apart := false, laid := [("math/bits.deBruijn32tab", laid_math_bits_deBruijn32tab), ("math/bits.deBruijn64tab", laid_math_bits_deBruijn64tab), ("internal/strconv.uint64pow10", laid_internal_strconv_uint64pow10), ("loop.example/wayboard/impl.errPath", laid_loop_example_wayboard_impl_errPath)], narrowed := true }
def FnNobodyUptoSaid : Prop := fnNobodyUptoRow.holds Tryd.pinned (OpenSpec.upto fnNobodySpec)

/-- 'laws.FnHome', WHERE WHAT IT READS IS OF BULK AT MOST 1048576: true; the input reads as it did. -/
def fnHomeUptoRow : OpenClaim := { program := "ytgfclgpljhiicaadoor", sum := "f002c031a61682c4782592092076e7578d39475047481c3383c2572e249c343c", func := "loop.example/wayboard/laws.FnHome", spec := "fnHome", inPlace := ["internal/reflectlite.TypeOf"], unfollowed := true, recurses := true, named := ["loop.example/wayboard/impl.errPath", "internal/strconv.uint64pow10", "math/bits.deBruijn32tab", "math/bits.deBruijn64tab"], ifaces := true, plainKeys := false, apart := false, laid := [("math/bits.deBruijn32tab", laid_math_bits_deBruijn32tab), ("math/bits.deBruijn64tab", laid_math_bits_deBruijn64tab), ("internal/strconv.uint64pow10", laid_internal_strconv_uint64pow10), ("loop.example/wayboard/impl.errPath", laid_loop_example_wayboard_impl_errPath)], narrowed := true }
def FnHomeUptoSaid : Prop := fnHomeUptoRow.holds Tryd.pinned (OpenSpec.upto fnHomeSpec)

end Rows
end Go.Proofs.YtgfclgpljhiicaaDoor
