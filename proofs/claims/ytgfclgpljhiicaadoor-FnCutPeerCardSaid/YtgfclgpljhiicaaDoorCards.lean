/-
  DERIVED. GIVEN WITH THE SEED: THE CARDS: each row of YtgfclgpljhiicaaDoorRows.lean that lists a variable, with what it lists TIED to the program's text (the seventh form; the later family's looks); each row that meets fmt, with fmt's text TOLD by the authors' own Lean function (tested against real Go, not proved from fmt's source: count such statements apart). THE CARD IS WHAT COUNTS. Prove the row's statement (the work); the ties are given (YtgfclgpljhiicaaDoorTie.lean); close each card by the builder's one call (the guide's Derived/Test/ToyasCard.lean, 'card_holds'). Laid BY PROGRAM, IN A SANDBOX (cutbox-door.mjs). By AI agents, Wed Nov 11 2026. No macro, syntax, notation, axiom, sorry.
-/
import Derived.Test.YtgfclgpljhiicaaDoorRows
import GoSem.ClaimSeven
namespace Go.Proofs.YtgfclgpljhiicaaDoor
namespace Rows

/-- THE TIED CARD OF 'laws.FnEndStill'. -/
def fnEndStillCard : Claim7 := { stood := { row := fnEndStillRow, standIns := [], harness := (true, "ba63fbc0e05a3a75a6a320e482548edb5860bb1b8a63f678255a7023a81ac28d"), looks := true }, kinds := [], alts := [], laidByText := true, laidKinds := [.data, .data, .data, .sentinel], laidTests := true, laidLooks := .later }
def FnEndStillCardSaid : Prop := Claim7.holds Tryd.pinned (.plain (OpenSpec.ofChange fnEndStillSpec)) fnEndStillCard

/-- THE TIED CARD OF 'laws.FnAlong'. -/
def fnAlongCard : Claim7 := { stood := { row := fnAlongRow, standIns := [], harness := (true, "ba63fbc0e05a3a75a6a320e482548edb5860bb1b8a63f678255a7023a81ac28d"), looks := true }, kinds := [], alts := [], laidByText := true, laidKinds := [.data, .data, .data, .sentinel], laidTests := true, laidLooks := .later }
def FnAlongCardSaid : Prop := Claim7.holds Tryd.pinned (.plain (OpenSpec.ofChange fnAlongSpec)) fnAlongCard

/-- THE TIED CARD OF 'laws.FnAllUp'. -/
def fnAllUpCard : Claim7 := { stood := { row := fnAllUpRow, standIns := [], harness := (true, "ba63fbc0e05a3a75a6a320e482548edb5860bb1b8a63f678255a7023a81ac28d"), looks := true }, kinds := [], alts := [], laidByText := true, laidKinds := [.data, .data, .data, .sentinel], laidTests := true, laidLooks := .later }
def FnAllUpCardSaid : Prop := Claim7.holds Tryd.pinned (.plain (OpenSpec.ofChange fnAllUpSpec)) fnAllUpCard

/-- THE TIED CARD OF 'laws.FnNoValley'. -/
def fnNoValleyCard : Claim7 := { stood := { row := fnNoValleyRow, standIns := [], harness := (true, "ba63fbc0e05a3a75a6a320e482548edb5860bb1b8a63f678255a7023a81ac28d"), looks := true }, kinds := [], alts := [], laidByText := true, laidKinds := [.data, .data, .data, .sentinel], laidTests := true, laidLooks := .later }
def FnNoValleyCardSaid : Prop := Claim7.holds Tryd.pinned (.plain (OpenSpec.ofChange fnNoValleySpec)) fnNoValleyCard

/-- THE TIED CARD OF 'laws.FnShortest'. -/
def fnShortestCard : Claim7 := { stood := { row := fnShortestRow, standIns := [], harness := (true, "ba63fbc0e05a3a75a6a320e482548edb5860bb1b8a63f678255a7023a81ac28d"), looks := true }, kinds := [], alts := [], laidByText := true, laidKinds := [.data, .data, .data, .sentinel], laidTests := true, laidLooks := .later }
def FnShortestCardSaid : Prop := Claim7.holds Tryd.pinned (.plain (OpenSpec.ofChange fnShortestSpec)) fnShortestCard

/-- THE TIED CARD OF 'laws.FnSettlesAll'. -/
def fnSettlesAllCard : Claim7 := { stood := { row := fnSettlesAllRow, standIns := [], harness := (true, "ba63fbc0e05a3a75a6a320e482548edb5860bb1b8a63f678255a7023a81ac28d"), looks := true }, kinds := [], alts := [], laidByText := true, laidKinds := [.data, .data, .data, .sentinel], laidTests := true, laidLooks := .later }
def FnSettlesAllCardSaid : Prop := Claim7.holds Tryd.pinned (.plain (OpenSpec.ofChange fnSettlesAllSpec)) fnSettlesAllCard

/-- THE TIED CARD OF 'laws.FnCutPeer'. -/
def fnCutPeerCard : Claim7 := { stood := { row := fnCutPeerRow, standIns := [], harness := (true, "ba63fbc0e05a3a75a6a320e482548edb5860bb1b8a63f678255a7023a81ac28d"), looks := true }, kinds := [], alts := [], laidByText := true, laidKinds := [.data, .data, .data, .sentinel], laidTests := true, laidLooks := .later }
def FnCutPeerCardSaid : Prop := Claim7.holds Tryd.pinned (.plain (OpenSpec.ofChange fnCutPeerSpec)) fnCutPeerCard

/-- THE TIED CARD OF 'laws.FnNobody'. -/
def fnNobodyCard : Claim7 := { stood := { row := fnNobodyRow, standIns := [], harness := (true, "ba63fbc0e05a3a75a6a320e482548edb5860bb1b8a63f678255a7023a81ac28d"), looks := true }, kinds := [], alts := [], laidByText := true, laidKinds := [.data, .data, .data, .sentinel], laidTests := true, laidLooks := .later }
def FnNobodyCardSaid : Prop := Claim7.holds Tryd.pinned (.plain (OpenSpec.ofChange fnNobodySpec)) fnNobodyCard

/-- THE TIED CARD OF 'laws.FnHome'. -/
def fnHomeCard : Claim7 := { stood := { row := fnHomeRow, standIns := [], harness := (true, "ba63fbc0e05a3a75a6a320e482548edb5860bb1b8a63f678255a7023a81ac28d"), looks := true }, kinds := [], alts := [], laidByText := true, laidKinds := [.data, .data, .data, .sentinel], laidTests := true, laidLooks := .later }
def FnHomeCardSaid : Prop := Claim7.holds Tryd.pinned (.plain (OpenSpec.ofChange fnHomeSpec)) fnHomeCard

/-- THE SECOND FORM's CARD OF 'laws.FnEndStill'. -/
def fnEndStillUptoCard : Claim7 := { stood := { row := fnEndStillUptoRow, standIns := [], harness := (true, "ba63fbc0e05a3a75a6a320e482548edb5860bb1b8a63f678255a7023a81ac28d"), looks := true }, kinds := [], alts := [], laidByText := true, laidKinds := [.data, .data, .data, .sentinel], laidTests := true, laidLooks := .later }
def FnEndStillUptoCardSaid : Prop := Claim7.holds Tryd.pinned (.plain (OpenSpec.upto fnEndStillSpec)) fnEndStillUptoCard

/-- THE SECOND FORM's CARD OF 'laws.FnAlong'. -/
def fnAlongUptoCard : Claim7 := { stood := { row := fnAlongUptoRow, standIns := [], harness := (true, "ba63fbc0e05a3a75a6a320e482548edb5860bb1b8a63f678255a7023a81ac28d"), looks := true }, kinds := [], alts := [], laidByText := true, laidKinds := [.data, .data, .data, .sentinel], laidTests := true, laidLooks := .later }
def FnAlongUptoCardSaid : Prop := Claim7.holds Tryd.pinned (.plain (OpenSpec.upto fnAlongSpec)) fnAlongUptoCard

/-- THE SECOND FORM's CARD OF 'laws.FnAllUp'. -/
def fnAllUpUptoCard : Claim7 := { stood := { row := fnAllUpUptoRow, standIns := [], harness := (true, "ba63fbc0e05a3a75a6a320e482548edb5860bb1b8a63f678255a7023a81ac28d"), looks := true }, kinds := [], alts := [], laidByText := true, laidKinds := [.data, .data, .data, .sentinel], laidTests := true, laidLooks := .later }
def FnAllUpUptoCardSaid : Prop := Claim7.holds Tryd.pinned (.plain (OpenSpec.upto fnAllUpSpec)) fnAllUpUptoCard

/-- THE SECOND FORM's CARD OF 'laws.FnNoValley'. -/
def fnNoValleyUptoCard : Claim7 := { stood := { row := fnNoValleyUptoRow, standIns := [], harness := (true, "ba63fbc0e05a3a75a6a320e482548edb5860bb1b8a63f678255a7023a81ac28d"), looks := true }, kinds := [], alts := [], laidByText := true, laidKinds := [.data, .data, .data, .sentinel], laidTests := true, laidLooks := .later }
def FnNoValleyUptoCardSaid : Prop := Claim7.holds Tryd.pinned (.plain (OpenSpec.upto fnNoValleySpec)) fnNoValleyUptoCard

/-- THE SECOND FORM's CARD OF 'laws.FnShortest'. -/
def fnShortestUptoCard : Claim7 := { stood := { row := fnShortestUptoRow, standIns := [], harness := (true, "ba63fbc0e05a3a75a6a320e482548edb5860bb1b8a63f678255a7023a81ac28d"), looks := true }, kinds := [], alts := [], laidByText := true, laidKinds := [.data, .data, .data, .sentinel], laidTests := true, laidLooks := .later }
def FnShortestUptoCardSaid : Prop := Claim7.holds Tryd.pinned (.plain (OpenSpec.upto fnShortestSpec)) fnShortestUptoCard

/-- THE SECOND FORM's CARD OF 'laws.FnSettlesAll'. -/
def fnSettlesAllUptoCard : Claim7 := { stood := { row := fnSettlesAllUptoRow, standIns := [], harness := (true, "ba63fbc0e05a3a75a6a320e482548edb5860bb1b8a63f678255a7023a81ac28d"), looks := true }, kinds := [], alts := [], laidByText := true, laidKinds := [.data, .data, .data, .sentinel], laidTests := true, laidLooks := .later }
def FnSettlesAllUptoCardSaid : Prop := Claim7.holds Tryd.pinned (.plain (OpenSpec.upto fnSettlesAllSpec)) fnSettlesAllUptoCard

/-- THE SECOND FORM's CARD OF 'laws.FnCutPeer'. -/
def fnCutPeerUptoCard : Claim7 := { stood := { row := fnCutPeerUptoRow, standIns := [], harness := (true, "ba63fbc0e05a3a75a6a320e482548edb5860bb1b8a63f678255a7023a81ac28d"), looks := true }, kinds := [], alts := [], laidByText := true, laidKinds := [.data, .data, .data, .sentinel], laidTests := true, laidLooks := .later }
def FnCutPeerUptoCardSaid : Prop := Claim7.holds Tryd.pinned (.plain (OpenSpec.upto fnCutPeerSpec)) fnCutPeerUptoCard

/-- THE SECOND FORM's CARD OF 'laws.FnNobody'. -/
def fnNobodyUptoCard : Claim7 := { stood := { row := fnNobodyUptoRow, standIns := [], harness := (true, "ba63fbc0e05a3a75a6a320e482548edb5860bb1b8a63f678255a7023a81ac28d"), looks := true }, kinds := [], alts := [], laidByText := true, laidKinds := [.data, .data, .data, .sentinel], laidTests := true, laidLooks := .later }
def FnNobodyUptoCardSaid : Prop := Claim7.holds Tryd.pinned (.plain (OpenSpec.upto fnNobodySpec)) fnNobodyUptoCard

/-- THE SECOND FORM's CARD OF 'laws.FnHome'. -/
def fnHomeUptoCard : Claim7 := { stood := { row := fnHomeUptoRow, standIns := [], harness := (true, "ba63fbc0e05a3a75a6a320e482548edb5860bb1b8a63f678255a7023a81ac28d"), looks := true }, kinds := [], alts := [], laidByText := true, laidKinds := [.data, .data, .data, .sentinel], laidTests := true, laidLooks := .later }
def FnHomeUptoCardSaid : Prop := Claim7.holds Tryd.pinned (.plain (OpenSpec.upto fnHomeSpec)) fnHomeUptoCard
end Rows
end Go.Proofs.YtgfclgpljhiicaaDoor
