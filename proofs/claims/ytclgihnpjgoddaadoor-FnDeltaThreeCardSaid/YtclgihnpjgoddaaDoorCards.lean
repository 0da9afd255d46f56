/-
  DERIVED. GIVEN WITH THE SEED: THE CARDS: each row of YtclgihnpjgoddaaDoorRows.lean that lists a variable, with what it lists TIED to the program's text (the seventh form; the later family's looks); each row that meets fmt, with fmt's text TOLD by the authors' own Lean function (tested against real Go, not proved from fmt's source: count such statements apart). THE CARD IS WHAT COUNTS. Prove the row's statement (the work); the ties are given (YtclgihnpjgoddaaDoorTie.lean); close each card by the builder's one call (the guide's Derived/Test/ToyasCard.lean, 'card_holds'). Laid BY PROGRAM, IN A SANDBOX (cutbox-door.mjs). By AI agents, Wed Nov 11 2026. No macro, syntax, notation, axiom, sorry.
-/
import Derived.Test.YtclgihnpjgoddaaDoorRows
import GoSem.ClaimSeven
namespace Go.Proofs.YtclgihnpjgoddaaDoor
namespace Rows

/-- THE TIED CARD OF 'laws.FnDeltaLeast'. -/
def fnDeltaLeastCard : Claim7 := { stood := { row := fnDeltaLeastRow, standIns := [], harness := (true, "72c8bc48098ff3e0474e8ab21512f4785ba5ad41c3ca85fd08446a1971ff1f8f"), looks := true }, kinds := [], alts := [], laidByText := true, laidKinds := [.data, .data, .data, .sentinel], laidTests := true, laidLooks := .later }
def FnDeltaLeastCardSaid : Prop := Claim7.holds Tryd.pinned (.plain (OpenSpec.ofChange fnDeltaLeastSpec)) fnDeltaLeastCard

/-- THE TIED CARD OF 'laws.FnDeltaDo'. -/
def fnDeltaDoCard : Claim7 := { stood := { row := fnDeltaDoRow, standIns := [], harness := (true, "72c8bc48098ff3e0474e8ab21512f4785ba5ad41c3ca85fd08446a1971ff1f8f"), looks := true }, kinds := [], alts := [], laidByText := true, laidKinds := [.data, .data, .data, .sentinel], laidTests := true, laidLooks := .later }
def FnDeltaDoCardSaid : Prop := Claim7.holds Tryd.pinned (.plain (OpenSpec.ofChange fnDeltaDoSpec)) fnDeltaDoCard

/-- THE TIED CARD OF 'laws.FnDropLost'. -/
def fnDropLostCard : Claim7 := { stood := { row := fnDropLostRow, standIns := [], harness := (true, "72c8bc48098ff3e0474e8ab21512f4785ba5ad41c3ca85fd08446a1971ff1f8f"), looks := true }, kinds := [], alts := [], laidByText := true, laidKinds := [.data, .data, .data, .sentinel], laidTests := true, laidLooks := .later }
def FnDropLostCardSaid : Prop := Claim7.holds Tryd.pinned (.plain (OpenSpec.ofChange fnDropLostSpec)) fnDropLostCard

/-- THE TIED CARD OF 'laws.FnDelta'. -/
def fnDeltaCard : Claim7 := { stood := { row := fnDeltaRow, standIns := [], harness := (true, "72c8bc48098ff3e0474e8ab21512f4785ba5ad41c3ca85fd08446a1971ff1f8f"), looks := true }, kinds := [], alts := [], laidByText := true, laidKinds := [.data, .data, .data, .sentinel], laidTests := true, laidLooks := .later }
def FnDeltaCardSaid : Prop := Claim7.holds Tryd.pinned (.plain (OpenSpec.ofChange fnDeltaSpec)) fnDeltaCard

/-- THE TIED CARD OF 'laws.FnDeltaBack'. -/
def fnDeltaBackCard : Claim7 := { stood := { row := fnDeltaBackRow, standIns := [], harness := (true, "72c8bc48098ff3e0474e8ab21512f4785ba5ad41c3ca85fd08446a1971ff1f8f"), looks := true }, kinds := [], alts := [], laidByText := true, laidKinds := [.data, .data, .data, .sentinel], laidTests := true, laidLooks := .later }
def FnDeltaBackCardSaid : Prop := Claim7.holds Tryd.pinned (.plain (OpenSpec.ofChange fnDeltaBackSpec)) fnDeltaBackCard

/-- THE TIED CARD OF 'laws.FnDeltaThree'. -/
def fnDeltaThreeCard : Claim7 := { stood := { row := fnDeltaThreeRow, standIns := [], harness := (true, "72c8bc48098ff3e0474e8ab21512f4785ba5ad41c3ca85fd08446a1971ff1f8f"), looks := true }, kinds := [], alts := [], laidByText := true, laidKinds := [.data, .data, .data, .sentinel], laidTests := true, laidLooks := .later }
def FnDeltaThreeCardSaid : Prop := Claim7.holds Tryd.pinned (.plain (OpenSpec.ofChange fnDeltaThreeSpec)) fnDeltaThreeCard

/-- THE SECOND FORM's CARD OF 'laws.FnDeltaLeast'. -/
def fnDeltaLeastUptoCard : Claim7 := { stood := { row := fnDeltaLeastUptoRow, standIns := [], harness := (true, "72c8bc48098ff3e0474e8ab21512f4785ba5ad41c3ca85fd08446a1971ff1f8f"), looks := true }, kinds := [], alts := [], laidByText := true, laidKinds := [.data, .data, .data, .sentinel], laidTests := true, laidLooks := .later }
def FnDeltaLeastUptoCardSaid : Prop := Claim7.holds Tryd.pinned (.plain (OpenSpec.upto fnDeltaLeastSpec)) fnDeltaLeastUptoCard

/-- THE SECOND FORM's CARD OF 'laws.FnDeltaDo'. -/
def fnDeltaDoUptoCard : Claim7 := { stood := { row := fnDeltaDoUptoRow, standIns := [], harness := (true, "72c8bc48098ff3e0474e8ab21512f4785ba5ad41c3ca85fd08446a1971ff1f8f"), looks := true }, kinds := [], alts := [], laidByText := true, laidKinds := [.data, .data, .data, .sentinel], laidTests := true, laidLooks := .later }
def FnDeltaDoUptoCardSaid : Prop := Claim7.holds Tryd.pinned (.plain (OpenSpec.upto fnDeltaDoSpec)) fnDeltaDoUptoCard

/-- THE SECOND FORM's CARD OF 'laws.FnDropLost'. -/
def fnDropLostUptoCard : Claim7 := { stood := { row := fnDropLostUptoRow, standIns := [], harness := (true, "72c8bc48098ff3e0474e8ab21512f4785ba5ad41c3ca85fd08446a1971ff1f8f"), looks := true }, kinds := [], alts := [], laidByText := true, laidKinds := [.data, .data, .data, .sentinel], laidTests := true, laidLooks := .later }
def FnDropLostUptoCardSaid : Prop := Claim7.holds Tryd.pinned (.plain (OpenSpec.upto fnDropLostSpec)) fnDropLostUptoCard

/-- THE SECOND FORM's CARD OF 'laws.FnDelta'. -/
def fnDeltaUptoCard : Claim7 := { stood := { row := fnDeltaUptoRow, standIns := [], harness := (true, "72c8bc48098ff3e0474e8ab21512f4785ba5ad41c3ca85fd08446a1971ff1f8f"), looks := true }, kinds := [], alts := [], laidByText := true, laidKinds := [.data, .data, .data, .sentinel], laidTests := true, laidLooks := .later }
def FnDeltaUptoCardSaid : Prop := Claim7.holds Tryd.pinned (.plain (OpenSpec.upto fnDeltaSpec)) fnDeltaUptoCard

/-- THE SECOND FORM's CARD OF 'laws.FnDeltaBack'. -/
def fnDeltaBackUptoCard : Claim7 := { stood := { row := fnDeltaBackUptoRow, standIns := [], harness := (true, "72c8bc48098ff3e0474e8ab21512f4785ba5ad41c3ca85fd08446a1971ff1f8f"), looks := true }, kinds := [], alts := [], laidByText := true, laidKinds := [.data, .data, .data, .sentinel], laidTests := true, laidLooks := .later }
def FnDeltaBackUptoCardSaid : Prop := Claim7.holds Tryd.pinned (.plain (OpenSpec.upto fnDeltaBackSpec)) fnDeltaBackUptoCard

/-- THE SECOND FORM's CARD OF 'laws.FnDeltaThree'. -/
def fnDeltaThreeUptoCard : Claim7 := { stood := { row := fnDeltaThreeUptoRow, standIns := [], harness := (true, "72c8bc48098ff3e0474e8ab21512f4785ba5ad41c3ca85fd08446a1971ff1f8f"), looks := true }, kinds := [], alts := [], laidByText := true, laidKinds := [.data, .data, .data, .sentinel], laidTests := true, laidLooks := .later }
def FnDeltaThreeUptoCardSaid : Prop := Claim7.holds Tryd.pinned (.plain (OpenSpec.upto fnDeltaThreeSpec)) fnDeltaThreeUptoCard
end Rows
end Go.Proofs.YtclgihnpjgoddaaDoor
