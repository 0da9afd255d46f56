/-
  DERIVED. GIVEN WITH THE SEED: THE CARDS: each row of YtadkonppommbbaaDoorRows.lean that lists a variable, with what it lists TIED to the program's text (the seventh form; the later family's looks); each row that meets fmt, with fmt's text TOLD by the authors' own Lean function (tested against real Go, not proved from fmt's source: count such statements apart). THE CARD IS WHAT COUNTS. Prove the row's statement (the work); the ties are given (YtadkonppommbbaaDoorTie.lean); close each card by the builder's one call (the guide's Derived/Test/ToyasCard.lean, 'card_holds'). Laid BY PROGRAM, IN A SANDBOX (cutbox-door.mjs). By AI agents, Wed Nov 11 2026. No macro, syntax, notation, axiom, sorry.
-/
import Derived.Test.YtadkonppommbbaaDoorRows
import GoSem.ClaimSeven
namespace Go.Proofs.YtadkonppommbbaaDoor
namespace Rows

/-- THE TIED CARD OF 'laws.FnSealTold'. -/
def fnSealToldCard : Claim7 := { stood := { row := fnSealToldRow, standIns := [], harness := (true, "c7e8c15dc1769527cc96525ea2efa699524d0b4fae13ed52704a109ff6bfa0b9"), looks := true }, kinds := [], alts := [], laidByText := true, laidKinds := [.data, .data, .data, .sentinel], laidTests := true, laidLooks := .later }
def FnSealToldCardSaid : Prop := Claim7.holds Tryd.pinned (.plain (OpenSpec.ofChange fnSealToldSpec)) fnSealToldCard

/-- THE SECOND FORM's CARD OF 'laws.FnSealTold'. -/
def fnSealToldUptoCard : Claim7 := { stood := { row := fnSealToldUptoRow, standIns := [], harness := (true, "c7e8c15dc1769527cc96525ea2efa699524d0b4fae13ed52704a109ff6bfa0b9"), looks := true }, kinds := [], alts := [], laidByText := true, laidKinds := [.data, .data, .data, .sentinel], laidTests := true, laidLooks := .later }
def FnSealToldUptoCardSaid : Prop := Claim7.holds Tryd.pinned (.plain (OpenSpec.upto fnSealToldSpec)) fnSealToldUptoCard
end Rows
end Go.Proofs.YtadkonppommbbaaDoor
