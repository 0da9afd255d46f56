/-
  DERIVED. GIVEN WITH THE SEED: THE CARDS: each row of YtpdinimclhhgdaaGreatDoorRows.lean that lists a variable, with what it lists TIED to the program's text (the seventh form; the later family's looks); each row that meets fmt, with fmt's text TOLD by the authors' own Lean function (tested against real Go, not proved from fmt's source: count such statements apart). THE CARD IS WHAT COUNTS. Prove the row's statement (the work); the ties are given (YtpdinimclhhgdaaGreatDoorTie.lean); close each card by the builder's one call (the guide's Derived/Test/ToyasCard.lean, 'card_holds'). Laid BY PROGRAM, IN A SANDBOX (cutbox-door.mjs). By AI agents, Wed Nov 11 2026. No macro, syntax, notation, axiom, sorry.
-/
import Derived.Test.YtpdinimclhhgdaaGreatDoorRows
import GoSem.ClaimSeven
namespace Go.Proofs.YtpdinimclhhgdaaGreatDoor
namespace Rows

/-- THE TIED CARD OF 'laws.FnPolicyDo'. -/
def fnPolicyDoCard : Claim7 := { stood := { row := fnPolicyDoRow, standIns := [], harness := (true, "e2dd67b1c9aea43118da6d878871e056a100d93a72e734095a2f0f8a27ee3dde"), looks := true }, kinds := [], alts := [], laidByText := true, laidKinds := [.data, .data, .data, .sentinel], laidTests := true, laidLooks := .later }
def FnPolicyDoCardSaid : Prop := Claim7.holds Tryz.pinned (.plain (OpenSpec.ofChange fnPolicyDoSpec)) fnPolicyDoCard

/-- THE TIED CARD OF 'laws.FnPolicyFirst'. -/
def fnPolicyFirstCard : Claim7 := { stood := { row := fnPolicyFirstRow, standIns := [], harness := (true, "e2dd67b1c9aea43118da6d878871e056a100d93a72e734095a2f0f8a27ee3dde"), looks := true }, kinds := [], alts := [], laidByText := true, laidKinds := [.data, .data, .data, .sentinel], laidTests := true, laidLooks := .later }
def FnPolicyFirstCardSaid : Prop := Claim7.holds Tryz.pinned (.plain (OpenSpec.ofChange fnPolicyFirstSpec)) fnPolicyFirstCard

/-- THE TIED CARD OF 'laws.FnPolicyMore'. -/
def fnPolicyMoreCard : Claim7 := { stood := { row := fnPolicyMoreRow, standIns := [], harness := (true, "e2dd67b1c9aea43118da6d878871e056a100d93a72e734095a2f0f8a27ee3dde"), looks := true }, kinds := [], alts := [], laidByText := true, laidKinds := [.data, .data, .data, .sentinel], laidTests := true, laidLooks := .later }
def FnPolicyMoreCardSaid : Prop := Claim7.holds Tryz.pinned (.plain (OpenSpec.ofChange fnPolicyMoreSpec)) fnPolicyMoreCard

/-- THE TIED CARD OF 'laws.FnPolicyNone'. -/
def fnPolicyNoneCard : Claim7 := { stood := { row := fnPolicyNoneRow, standIns := [], harness := (true, "e2dd67b1c9aea43118da6d878871e056a100d93a72e734095a2f0f8a27ee3dde"), looks := true }, kinds := [], alts := [], laidByText := true, laidKinds := [.data, .data, .data, .sentinel], laidTests := true, laidLooks := .later }
def FnPolicyNoneCardSaid : Prop := Claim7.holds Tryz.pinned (.plain (OpenSpec.ofChange fnPolicyNoneSpec)) fnPolicyNoneCard

/-- THE TIED CARD OF 'laws.FnPolicyTwice'. -/
def fnPolicyTwiceCard : Claim7 := { stood := { row := fnPolicyTwiceRow, standIns := [], harness := (true, "e2dd67b1c9aea43118da6d878871e056a100d93a72e734095a2f0f8a27ee3dde"), looks := true }, kinds := [], alts := [], laidByText := true, laidKinds := [.data, .data, .data, .sentinel], laidTests := true, laidLooks := .later }
def FnPolicyTwiceCardSaid : Prop := Claim7.holds Tryz.pinned (.plain (OpenSpec.ofChange fnPolicyTwiceSpec)) fnPolicyTwiceCard

/-- THE TIED CARD OF 'laws.FnPolicyWay'. -/
def fnPolicyWayCard : Claim7 := { stood := { row := fnPolicyWayRow, standIns := [], harness := (true, "e2dd67b1c9aea43118da6d878871e056a100d93a72e734095a2f0f8a27ee3dde"), looks := true }, kinds := [], alts := [], laidByText := true, laidKinds := [.data, .data, .data, .sentinel], laidTests := true, laidLooks := .later }
def FnPolicyWayCardSaid : Prop := Claim7.holds Tryz.pinned (.plain (OpenSpec.ofChange fnPolicyWaySpec)) fnPolicyWayCard

/-- THE TIED CARD OF 'laws.FnPolicyAll'. -/
def fnPolicyAllCard : Claim7 := { stood := { row := fnPolicyAllRow, standIns := [], harness := (true, "e2dd67b1c9aea43118da6d878871e056a100d93a72e734095a2f0f8a27ee3dde"), looks := true }, kinds := [], alts := [], laidByText := true, laidKinds := [.data, .data, .data, .sentinel], laidTests := true, laidLooks := .later }
def FnPolicyAllCardSaid : Prop := Claim7.holds Tryz.pinned (.plain (OpenSpec.ofChange fnPolicyAllSpec)) fnPolicyAllCard

/-- THE TIED CARD OF 'laws.FnRefuseAll'. -/
def fnRefuseAllCard : Claim7 := { stood := { row := fnRefuseAllRow, standIns := [], harness := (true, "e2dd67b1c9aea43118da6d878871e056a100d93a72e734095a2f0f8a27ee3dde"), looks := true }, kinds := [], alts := [], laidByText := true, laidKinds := [.data, .data, .data, .sentinel], laidTests := true, laidLooks := .later }
def FnRefuseAllCardSaid : Prop := Claim7.holds Tryz.pinned (.plain (OpenSpec.ofChange fnRefuseAllSpec)) fnRefuseAllCard

/-- THE TIED CARD OF 'laws.FnPickTable'. -/
def fnPickTableCard : Claim7 := { stood := { row := fnPickTableRow, standIns := [], harness := (true, "e2dd67b1c9aea43118da6d878871e056a100d93a72e734095a2f0f8a27ee3dde"), looks := true }, kinds := [], alts := [], laidByText := true, laidKinds := [.data, .data, .data, .sentinel], laidTests := true, laidLooks := .later }
def FnPickTableCardSaid : Prop := Claim7.holds Tryz.pinned (.plain (OpenSpec.ofChange fnPickTableSpec)) fnPickTableCard

/-- THE SECOND FORM's CARD OF 'laws.FnPolicyDo'. -/
def fnPolicyDoUptoCard : Claim7 := { stood := { row := fnPolicyDoUptoRow, standIns := [], harness := (true, "e2dd67b1c9aea43118da6d878871e056a100d93a72e734095a2f0f8a27ee3dde"), looks := true }, kinds := [], alts := [], laidByText := true, laidKinds := [.data, .data, .data, .sentinel], laidTests := true, laidLooks := .later }
def FnPolicyDoUptoCardSaid : Prop := Claim7.holds Tryz.pinned (.plain (OpenSpec.upto fnPolicyDoSpec)) fnPolicyDoUptoCard

/-- THE SECOND FORM's CARD OF 'laws.FnPolicyFirst'. -/
def fnPolicyFirstUptoCard : Claim7 := { stood := { row := fnPolicyFirstUptoRow, standIns := [], harness := (true, "e2dd67b1c9aea43118da6d878871e056a100d93a72e734095a2f0f8a27ee3dde"), looks := true }, kinds := [], alts := [], laidByText := true, laidKinds := [.data, .data, .data, .sentinel], laidTests := true, laidLooks := .later }
def FnPolicyFirstUptoCardSaid : Prop := Claim7.holds Tryz.pinned (.plain (OpenSpec.upto fnPolicyFirstSpec)) fnPolicyFirstUptoCard

/-- THE SECOND FORM's CARD OF 'laws.FnPolicyMore'. -/
def fnPolicyMoreUptoCard : Claim7 := { stood := { row := fnPolicyMoreUptoRow, standIns := [], harness := (true, "e2dd67b1c9aea43118da6d878871e056a100d93a72e734095a2f0f8a27ee3dde"), looks := true }, kinds := [], alts := [], laidByText := true, laidKinds := [.data, .data, .data, .sentinel], laidTests := true, laidLooks := .later }
def FnPolicyMoreUptoCardSaid : Prop := Claim7.holds Tryz.pinned (.plain (OpenSpec.upto fnPolicyMoreSpec)) fnPolicyMoreUptoCard

/-- THE SECOND FORM's CARD OF 'laws.FnPolicyNone'. -/
def fnPolicyNoneUptoCard : Claim7 := { stood := { row := fnPolicyNoneUptoRow, standIns := [], harness := (true, "e2dd67b1c9aea43118da6d878871e056a100d93a72e734095a2f0f8a27ee3dde"), looks := true }, kinds := [], alts := [], laidByText := true, laidKinds := [.data, .data, .data, .sentinel], laidTests := true, laidLooks := .later }
def FnPolicyNoneUptoCardSaid : Prop := Claim7.holds Tryz.pinned (.plain (OpenSpec.upto fnPolicyNoneSpec)) fnPolicyNoneUptoCard

/-- THE SECOND FORM's CARD OF 'laws.FnPolicyTwice'. -/
def fnPolicyTwiceUptoCard : Claim7 := { stood := { row := fnPolicyTwiceUptoRow, standIns := [], harness := (true, "e2dd67b1c9aea43118da6d878871e056a100d93a72e734095a2f0f8a27ee3dde"), looks := true }, kinds := [], alts := [], laidByText := true, laidKinds := [.data, .data, .data, .sentinel], laidTests := true, laidLooks := .later }
def FnPolicyTwiceUptoCardSaid : Prop := Claim7.holds Tryz.pinned (.plain (OpenSpec.upto fnPolicyTwiceSpec)) fnPolicyTwiceUptoCard

/-- THE SECOND FORM's CARD OF 'laws.FnPolicyWay'. -/
def fnPolicyWayUptoCard : Claim7 := { stood := { row := fnPolicyWayUptoRow, standIns := [], harness := (true, "e2dd67b1c9aea43118da6d878871e056a100d93a72e734095a2f0f8a27ee3dde"), looks := true }, kinds := [], alts := [], laidByText := true, laidKinds := [.data, .data, .data, .sentinel], laidTests := true, laidLooks := .later }
def FnPolicyWayUptoCardSaid : Prop := Claim7.holds Tryz.pinned (.plain (OpenSpec.upto fnPolicyWaySpec)) fnPolicyWayUptoCard

/-- THE SECOND FORM's CARD OF 'laws.FnPolicyAll'. -/
def fnPolicyAllUptoCard : Claim7 := { stood := { row := fnPolicyAllUptoRow, standIns := [], harness := (true, "e2dd67b1c9aea43118da6d878871e056a100d93a72e734095a2f0f8a27ee3dde"), looks := true }, kinds := [], alts := [], laidByText := true, laidKinds := [.data, .data, .data, .sentinel], laidTests := true, laidLooks := .later }
def FnPolicyAllUptoCardSaid : Prop := Claim7.holds Tryz.pinned (.plain (OpenSpec.upto fnPolicyAllSpec)) fnPolicyAllUptoCard

/-- THE SECOND FORM's CARD OF 'laws.FnRefuseAll'. -/
def fnRefuseAllUptoCard : Claim7 := { stood := { row := fnRefuseAllUptoRow, standIns := [], harness := (true, "e2dd67b1c9aea43118da6d878871e056a100d93a72e734095a2f0f8a27ee3dde"), looks := true }, kinds := [], alts := [], laidByText := true, laidKinds := [.data, .data, .data, .sentinel], laidTests := true, laidLooks := .later }
def FnRefuseAllUptoCardSaid : Prop := Claim7.holds Tryz.pinned (.plain (OpenSpec.upto fnRefuseAllSpec)) fnRefuseAllUptoCard

/-- THE SECOND FORM's CARD OF 'laws.FnPickTable'. -/
def fnPickTableUptoCard : Claim7 := { stood := { row := fnPickTableUptoRow, standIns := [], harness := (true, "e2dd67b1c9aea43118da6d878871e056a100d93a72e734095a2f0f8a27ee3dde"), looks := true }, kinds := [], alts := [], laidByText := true, laidKinds := [.data, .data, .data, .sentinel], laidTests := true, laidLooks := .later }
def FnPickTableUptoCardSaid : Prop := Claim7.holds Tryz.pinned (.plain (OpenSpec.upto fnPickTableSpec)) fnPickTableUptoCard
end Rows
end Go.Proofs.YtpdinimclhhgdaaGreatDoor
