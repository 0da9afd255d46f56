/-
  DERIVED. GIVEN WITH THE SEED: THE CARDS: each row of YtbjdeohccjmaiaaDoorRows.lean that lists a variable, with what it lists TIED to the program's text (the seventh form; the later family's looks); each row that meets fmt, with fmt's text TOLD by the authors' own Lean function (tested against real Go, not proved from fmt's source: count such statements apart). THE CARD IS WHAT COUNTS. Prove the row's statement (the work); the ties are given (YtbjdeohccjmaiaaDoorTie.lean); close each card by the builder's one call (the guide's Derived/Test/ToyasCard.lean, 'card_holds'). Laid BY PROGRAM, IN A SANDBOX (cutbox-door.mjs). By AI agents, Wed Nov 11 2026. No macro, syntax, notation, axiom, sorry.
-/
import Derived.Test.YtbjdeohccjmaiaaDoorRows
import GoSem.ClaimSeven
namespace Go.Proofs.YtbjdeohccjmaiaaDoor
namespace Rows

/-- THE TIED CARD OF 'laws.FnExactNetPick'. -/
def fnExactNetPickCard : Claim7 := { stood := { row := fnExactNetPickRow, standIns := [], harness := (true, "64c94b1d75558f674ccc2777a4dacde72d5392980a3a1b32aad75c7542ee6af5"), looks := true }, kinds := [], alts := [], laidByText := true, laidKinds := [.data, .data, .data, .sentinel], laidTests := true, laidLooks := .later }
def FnExactNetPickCardSaid : Prop := Claim7.holds Tryd.pinned (.plain (OpenSpec.ofChange fnExactNetPickSpec)) fnExactNetPickCard

/-- THE TIED CARD OF 'laws.FnExactNetEnd'. -/
def fnExactNetEndCard : Claim7 := { stood := { row := fnExactNetEndRow, standIns := [], harness := (true, "64c94b1d75558f674ccc2777a4dacde72d5392980a3a1b32aad75c7542ee6af5"), looks := true }, kinds := [], alts := [], laidByText := true, laidKinds := [.data, .data, .data, .sentinel], laidTests := true, laidLooks := .later }
def FnExactNetEndCardSaid : Prop := Claim7.holds Tryd.pinned (.plain (OpenSpec.ofChange fnExactNetEndSpec)) fnExactNetEndCard

/-- THE TIED CARD OF 'laws.FnExactNetStep'. -/
def fnExactNetStepCard : Claim7 := { stood := { row := fnExactNetStepRow, standIns := [], harness := (true, "64c94b1d75558f674ccc2777a4dacde72d5392980a3a1b32aad75c7542ee6af5"), looks := true }, kinds := [], alts := [], laidByText := true, laidKinds := [.data, .data, .data, .sentinel], laidTests := true, laidLooks := .later }
def FnExactNetStepCardSaid : Prop := Claim7.holds Tryd.pinned (.plain (OpenSpec.ofChange fnExactNetStepSpec)) fnExactNetStepCard

/-- THE TIED CARD OF 'laws.FnExactNetPlay'. -/
def fnExactNetPlayCard : Claim7 := { stood := { row := fnExactNetPlayRow, standIns := [], harness := (true, "64c94b1d75558f674ccc2777a4dacde72d5392980a3a1b32aad75c7542ee6af5"), looks := true }, kinds := [], alts := [], laidByText := true, laidKinds := [.data, .data, .data, .sentinel], laidTests := true, laidLooks := .later }
def FnExactNetPlayCardSaid : Prop := Claim7.holds Tryd.pinned (.plain (OpenSpec.ofChange fnExactNetPlaySpec)) fnExactNetPlayCard

/-- THE SECOND FORM's CARD OF 'laws.FnExactNetPick'. -/
def fnExactNetPickUptoCard : Claim7 := { stood := { row := fnExactNetPickUptoRow, standIns := [], harness := (true, "64c94b1d75558f674ccc2777a4dacde72d5392980a3a1b32aad75c7542ee6af5"), looks := true }, kinds := [], alts := [], laidByText := true, laidKinds := [.data, .data, .data, .sentinel], laidTests := true, laidLooks := .later }
def FnExactNetPickUptoCardSaid : Prop := Claim7.holds Tryd.pinned (.plain (OpenSpec.upto fnExactNetPickSpec)) fnExactNetPickUptoCard

/-- THE SECOND FORM's CARD OF 'laws.FnExactNetEnd'. -/
def fnExactNetEndUptoCard : Claim7 := { stood := { row := fnExactNetEndUptoRow, standIns := [], harness := (true, "64c94b1d75558f674ccc2777a4dacde72d5392980a3a1b32aad75c7542ee6af5"), looks := true }, kinds := [], alts := [], laidByText := true, laidKinds := [.data, .data, .data, .sentinel], laidTests := true, laidLooks := .later }
def FnExactNetEndUptoCardSaid : Prop := Claim7.holds Tryd.pinned (.plain (OpenSpec.upto fnExactNetEndSpec)) fnExactNetEndUptoCard

/-- THE SECOND FORM's CARD OF 'laws.FnExactNetStep'. -/
def fnExactNetStepUptoCard : Claim7 := { stood := { row := fnExactNetStepUptoRow, standIns := [], harness := (true, "64c94b1d75558f674ccc2777a4dacde72d5392980a3a1b32aad75c7542ee6af5"), looks := true }, kinds := [], alts := [], laidByText := true, laidKinds := [.data, .data, .data, .sentinel], laidTests := true, laidLooks := .later }
def FnExactNetStepUptoCardSaid : Prop := Claim7.holds Tryd.pinned (.plain (OpenSpec.upto fnExactNetStepSpec)) fnExactNetStepUptoCard

/-- THE SECOND FORM's CARD OF 'laws.FnExactNetPlay'. -/
def fnExactNetPlayUptoCard : Claim7 := { stood := { row := fnExactNetPlayUptoRow, standIns := [], harness := (true, "64c94b1d75558f674ccc2777a4dacde72d5392980a3a1b32aad75c7542ee6af5"), looks := true }, kinds := [], alts := [], laidByText := true, laidKinds := [.data, .data, .data, .sentinel], laidTests := true, laidLooks := .later }
def FnExactNetPlayUptoCardSaid : Prop := Claim7.holds Tryd.pinned (.plain (OpenSpec.upto fnExactNetPlaySpec)) fnExactNetPlayUptoCard
end Rows
end Go.Proofs.YtbjdeohccjmaiaaDoor
