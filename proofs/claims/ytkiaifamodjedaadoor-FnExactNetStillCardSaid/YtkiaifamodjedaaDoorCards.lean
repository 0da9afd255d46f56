/-
  DERIVED. GIVEN WITH THE SEED: THE CARDS: each row of YtkiaifamodjedaaDoorRows.lean that lists a variable, with what it lists TIED to the program's text (the seventh form; the later family's looks); each row that meets fmt, with fmt's text TOLD by the authors' own Lean function (tested against real Go, not proved from fmt's source: count such statements apart). THE CARD IS WHAT COUNTS. Prove the row's statement (the work); the ties are given (YtkiaifamodjedaaDoorTie.lean); close each card by the builder's one call (the guide's Derived/Test/ToyasCard.lean, 'card_holds'). Laid BY PROGRAM, IN A SANDBOX (cutbox-door.mjs). By AI agents, Wed Nov 11 2026. No macro, syntax, notation, axiom, sorry.
-/
import Derived.Test.YtkiaifamodjedaaDoorRows
import GoSem.ClaimSeven
namespace Go.Proofs.YtkiaifamodjedaaDoor
namespace Rows

/-- THE TIED CARD OF 'laws.FnNetPick'. -/
def fnNetPickCard : Claim7 := { stood := { row := fnNetPickRow, standIns := [], harness := (true, "148d0ea188ed08d2436290b70d6956063cfba44f6517ec097ec253566d2456e2"), looks := true }, kinds := [], alts := [], laidByText := true, laidKinds := [.data, .data, .data, .sentinel], laidTests := true, laidLooks := .later }
def FnNetPickCardSaid : Prop := Claim7.holds Tryd.pinned (.plain (OpenSpec.ofChange fnNetPickSpec)) fnNetPickCard

/-- THE TIED CARD OF 'laws.FnNetBest'. -/
def fnNetBestCard : Claim7 := { stood := { row := fnNetBestRow, standIns := [], harness := (true, "148d0ea188ed08d2436290b70d6956063cfba44f6517ec097ec253566d2456e2"), looks := true }, kinds := [], alts := [], laidByText := true, laidKinds := [.data, .data, .data, .sentinel], laidTests := true, laidLooks := .later }
def FnNetBestCardSaid : Prop := Claim7.holds Tryd.pinned (.plain (OpenSpec.ofChange fnNetBestSpec)) fnNetBestCard

/-- THE TIED CARD OF 'laws.FnNetStep'. -/
def fnNetStepCard : Claim7 := { stood := { row := fnNetStepRow, standIns := [], harness := (true, "148d0ea188ed08d2436290b70d6956063cfba44f6517ec097ec253566d2456e2"), looks := true }, kinds := [], alts := [], laidByText := true, laidKinds := [.data, .data, .data, .sentinel], laidTests := true, laidLooks := .later }
def FnNetStepCardSaid : Prop := Claim7.holds Tryd.pinned (.plain (OpenSpec.ofChange fnNetStepSpec)) fnNetStepCard

/-- THE TIED CARD OF 'laws.FnNetCut'. -/
def fnNetCutCard : Claim7 := { stood := { row := fnNetCutRow, standIns := [], harness := (true, "148d0ea188ed08d2436290b70d6956063cfba44f6517ec097ec253566d2456e2"), looks := true }, kinds := [], alts := [], laidByText := true, laidKinds := [.data, .data, .data, .sentinel], laidTests := true, laidLooks := .later }
def FnNetCutCardSaid : Prop := Claim7.holds Tryd.pinned (.plain (OpenSpec.ofChange fnNetCutSpec)) fnNetCutCard

/-- THE TIED CARD OF 'laws.FnWayHouses'. -/
def fnWayHousesCard : Claim7 := { stood := { row := fnWayHousesRow, standIns := [], harness := (true, "148d0ea188ed08d2436290b70d6956063cfba44f6517ec097ec253566d2456e2"), looks := true }, kinds := [], alts := [], laidByText := true, laidKinds := [.data, .data, .data, .sentinel], laidTests := true, laidLooks := .later }
def FnWayHousesCardSaid : Prop := Claim7.holds Tryd.pinned (.plain (OpenSpec.ofChange fnWayHousesSpec)) fnWayHousesCard

/-- THE TIED CARD OF 'laws.FnStill'. -/
def fnStillCard : Claim7 := { stood := { row := fnStillRow, standIns := [], harness := (true, "148d0ea188ed08d2436290b70d6956063cfba44f6517ec097ec253566d2456e2"), looks := true }, kinds := [], alts := [], laidByText := true, laidKinds := [.data, .data, .data, .sentinel], laidTests := true, laidLooks := .later }
def FnStillCardSaid : Prop := Claim7.holds Tryd.pinned (.plain (OpenSpec.ofChange fnStillSpec)) fnStillCard

/-- THE TIED CARD OF 'laws.FnStillOne'. -/
def fnStillOneCard : Claim7 := { stood := { row := fnStillOneRow, standIns := [], harness := (true, "148d0ea188ed08d2436290b70d6956063cfba44f6517ec097ec253566d2456e2"), looks := true }, kinds := [], alts := [], laidByText := true, laidKinds := [.data, .data, .data, .sentinel], laidTests := true, laidLooks := .later }
def FnStillOneCardSaid : Prop := Claim7.holds Tryd.pinned (.plain (OpenSpec.ofChange fnStillOneSpec)) fnStillOneCard

/-- THE TIED CARD OF 'laws.FnSettles'. -/
def fnSettlesCard : Claim7 := { stood := { row := fnSettlesRow, standIns := [], harness := (true, "148d0ea188ed08d2436290b70d6956063cfba44f6517ec097ec253566d2456e2"), looks := true }, kinds := [], alts := [], laidByText := true, laidKinds := [.data, .data, .data, .sentinel], laidTests := true, laidLooks := .later }
def FnSettlesCardSaid : Prop := Claim7.holds Tryd.pinned (.plain (OpenSpec.ofChange fnSettlesSpec)) fnSettlesCard

/-- THE TIED CARD OF 'laws.FnExactNetStill'. -/
def fnExactNetStillCard : Claim7 := { stood := { row := fnExactNetStillRow, standIns := [], harness := (true, "148d0ea188ed08d2436290b70d6956063cfba44f6517ec097ec253566d2456e2"), looks := true }, kinds := [], alts := [], laidByText := true, laidKinds := [.data, .data, .data, .sentinel], laidTests := true, laidLooks := .later }
def FnExactNetStillCardSaid : Prop := Claim7.holds Tryd.pinned (.plain (OpenSpec.ofChange fnExactNetStillSpec)) fnExactNetStillCard

/-- THE SECOND FORM's CARD OF 'laws.FnNetPick'. -/
def fnNetPickUptoCard : Claim7 := { stood := { row := fnNetPickUptoRow, standIns := [], harness := (true, "148d0ea188ed08d2436290b70d6956063cfba44f6517ec097ec253566d2456e2"), looks := true }, kinds := [], alts := [], laidByText := true, laidKinds := [.data, .data, .data, .sentinel], laidTests := true, laidLooks := .later }
def FnNetPickUptoCardSaid : Prop := Claim7.holds Tryd.pinned (.plain (OpenSpec.upto fnNetPickSpec)) fnNetPickUptoCard

/-- THE SECOND FORM's CARD OF 'laws.FnNetBest'. -/
def fnNetBestUptoCard : Claim7 := { stood := { row := fnNetBestUptoRow, standIns := [], harness := (true, "148d0ea188ed08d2436290b70d6956063cfba44f6517ec097ec253566d2456e2"), looks := true }, kinds := [], alts := [], laidByText := true, laidKinds := [.data, .data, .data, .sentinel], laidTests := true, laidLooks := .later }
def FnNetBestUptoCardSaid : Prop := Claim7.holds Tryd.pinned (.plain (OpenSpec.upto fnNetBestSpec)) fnNetBestUptoCard

/-- THE SECOND FORM's CARD OF 'laws.FnNetStep'. -/
def fnNetStepUptoCard : Claim7 := { stood := { row := fnNetStepUptoRow, standIns := [], harness := (true, "148d0ea188ed08d2436290b70d6956063cfba44f6517ec097ec253566d2456e2"), looks := true }, kinds := [], alts := [], laidByText := true, laidKinds := [.data, .data, .data, .sentinel], laidTests := true, laidLooks := .later }
def FnNetStepUptoCardSaid : Prop := Claim7.holds Tryd.pinned (.plain (OpenSpec.upto fnNetStepSpec)) fnNetStepUptoCard

/-- THE SECOND FORM's CARD OF 'laws.FnNetCut'. -/
def fnNetCutUptoCard : Claim7 := { stood := { row := fnNetCutUptoRow, standIns := [], harness := (true, "148d0ea188ed08d2436290b70d6956063cfba44f6517ec097ec253566d2456e2"), looks := true }, kinds := [], alts := [], laidByText := true, laidKinds := [.data, .data, .data, .sentinel], laidTests := true, laidLooks := .later }
def FnNetCutUptoCardSaid : Prop := Claim7.holds Tryd.pinned (.plain (OpenSpec.upto fnNetCutSpec)) fnNetCutUptoCard

/-- THE SECOND FORM's CARD OF 'laws.FnWayHouses'. -/
def fnWayHousesUptoCard : Claim7 := { stood := { row := fnWayHousesUptoRow, standIns := [], harness := (true, "148d0ea188ed08d2436290b70d6956063cfba44f6517ec097ec253566d2456e2"), looks := true }, kinds := [], alts := [], laidByText := true, laidKinds := [.data, .data, .data, .sentinel], laidTests := true, laidLooks := .later }
def FnWayHousesUptoCardSaid : Prop := Claim7.holds Tryd.pinned (.plain (OpenSpec.upto fnWayHousesSpec)) fnWayHousesUptoCard

/-- THE SECOND FORM's CARD OF 'laws.FnStill'. -/
def fnStillUptoCard : Claim7 := { stood := { row := fnStillUptoRow, standIns := [], harness := (true, "148d0ea188ed08d2436290b70d6956063cfba44f6517ec097ec253566d2456e2"), looks := true }, kinds := [], alts := [], laidByText := true, laidKinds := [.data, .data, .data, .sentinel], laidTests := true, laidLooks := .later }
def FnStillUptoCardSaid : Prop := Claim7.holds Tryd.pinned (.plain (OpenSpec.upto fnStillSpec)) fnStillUptoCard

/-- THE SECOND FORM's CARD OF 'laws.FnStillOne'. -/
def fnStillOneUptoCard : Claim7 := { stood := { row := fnStillOneUptoRow, standIns := [], harness := (true, "148d0ea188ed08d2436290b70d6956063cfba44f6517ec097ec253566d2456e2"), looks := true }, kinds := [], alts := [], laidByText := true, laidKinds := [.data, .data, .data, .sentinel], laidTests := true, laidLooks := .later }
def FnStillOneUptoCardSaid : Prop := Claim7.holds Tryd.pinned (.plain (OpenSpec.upto fnStillOneSpec)) fnStillOneUptoCard

/-- THE SECOND FORM's CARD OF 'laws.FnSettles'. -/
def fnSettlesUptoCard : Claim7 := { stood := { row := fnSettlesUptoRow, standIns := [], harness := (true, "148d0ea188ed08d2436290b70d6956063cfba44f6517ec097ec253566d2456e2"), looks := true }, kinds := [], alts := [], laidByText := true, laidKinds := [.data, .data, .data, .sentinel], laidTests := true, laidLooks := .later }
def FnSettlesUptoCardSaid : Prop := Claim7.holds Tryd.pinned (.plain (OpenSpec.upto fnSettlesSpec)) fnSettlesUptoCard

/-- THE SECOND FORM's CARD OF 'laws.FnExactNetStill'. -/
def fnExactNetStillUptoCard : Claim7 := { stood := { row := fnExactNetStillUptoRow, standIns := [], harness := (true, "148d0ea188ed08d2436290b70d6956063cfba44f6517ec097ec253566d2456e2"), looks := true }, kinds := [], alts := [], laidByText := true, laidKinds := [.data, .data, .data, .sentinel], laidTests := true, laidLooks := .later }
def FnExactNetStillUptoCardSaid : Prop := Claim7.holds Tryd.pinned (.plain (OpenSpec.upto fnExactNetStillSpec)) fnExactNetStillUptoCard
end Rows
end Go.Proofs.YtkiaifamodjedaaDoor
