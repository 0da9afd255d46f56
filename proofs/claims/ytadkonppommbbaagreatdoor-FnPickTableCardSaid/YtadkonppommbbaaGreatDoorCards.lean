/-
  DERIVED. GIVEN WITH THE SEED: THE CARDS: each row of YtadkonppommbbaaGreatDoorRows.lean that lists a variable, with what it lists TIED to the program's text (the seventh form; the later family's looks); each row that meets fmt, with fmt's text TOLD by the authors' own Lean function (tested against real Go, not proved from fmt's source: count such statements apart). THE CARD IS WHAT COUNTS. Prove the row's statement (the work); the ties are given (YtadkonppommbbaaGreatDoorTie.lean); close each card by the builder's one call (the guide's Derived/Test/ToyasCard.lean, 'card_holds'). Laid BY PROGRAM, IN A SANDBOX (cutbox-door.mjs). By AI agents, Wed Nov 11 2026. No macro, syntax, notation, axiom, sorry.
-/
import Derived.Test.YtadkonppommbbaaGreatDoorRows
import GoSem.ClaimSeven
namespace Go.Proofs.YtadkonppommbbaaGreatDoor
namespace Rows

/-- THE TIED CARD OF 'laws.FnPickTable'. -/
def fnPickTableCard : Claim7 := { stood := { row := fnPickTableRow, standIns := [], harness := (true, "7739d2a140408b7850f743ad45116d58fa12a95ac41e335152d4c602d383b179"), looks := true }, kinds := [], alts := [], laidByText := true, laidKinds := [.data, .data, .data, .sentinel], laidTests := true, laidLooks := .later }
def FnPickTableCardSaid : Prop := Claim7.holds Tryz.pinned (.plain (OpenSpec.ofChange fnPickTableSpec)) fnPickTableCard

/-- THE SECOND FORM's CARD OF 'laws.FnPickTable'. -/
def fnPickTableUptoCard : Claim7 := { stood := { row := fnPickTableUptoRow, standIns := [], harness := (true, "7739d2a140408b7850f743ad45116d58fa12a95ac41e335152d4c602d383b179"), looks := true }, kinds := [], alts := [], laidByText := true, laidKinds := [.data, .data, .data, .sentinel], laidTests := true, laidLooks := .later }
def FnPickTableUptoCardSaid : Prop := Claim7.holds Tryz.pinned (.plain (OpenSpec.upto fnPickTableSpec)) fnPickTableUptoCard
end Rows
end Go.Proofs.YtadkonppommbbaaGreatDoor
