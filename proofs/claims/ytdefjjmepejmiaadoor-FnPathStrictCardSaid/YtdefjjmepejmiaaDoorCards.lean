/-
  DERIVED. GIVEN WITH THE SEED: THE CARDS: each row of YtdefjjmepejmiaaDoorRows.lean that lists a variable, with what it lists TIED to the program's text (the seventh form; the later family's looks); each row that meets fmt, with fmt's text TOLD by the authors' own Lean function (tested against real Go, not proved from fmt's source: count such statements apart). THE CARD IS WHAT COUNTS. Prove the row's statement (the work); the ties are given (YtdefjjmepejmiaaDoorTie.lean); close each card by the builder's one call (the guide's Derived/Test/ToyasCard.lean, 'card_holds'). Laid BY PROGRAM, IN A SANDBOX (cutbox-door.mjs). By AI agents, Wed Nov 11 2026. No macro, syntax, notation, axiom, sorry.
-/
import Derived.Test.YtdefjjmepejmiaaDoorRows
import GoSem.ClaimSeven
namespace Go.Proofs.YtdefjjmepejmiaaDoor
namespace Rows

/-- THE TIED CARD OF 'laws.FnClear'. -/
def fnClearCard : Claim7 := { stood := { row := fnClearRow, standIns := [], harness := (true, "960dd4e86332b962ddc1ee2b1ea672e51e529b4c49d486e51de1e1f34c2a6c1a"), looks := true }, kinds := [], alts := [], laidByText := true, laidKinds := [.data, .data, .data, .sentinel], laidTests := true, laidLooks := .later }
def FnClearCardSaid : Prop := Claim7.holds Tryd.pinned (.plain (OpenSpec.ofChange fnClearSpec)) fnClearCard

/-- THE TIED CARD OF 'laws.FnMark'. -/
def fnMarkCard : Claim7 := { stood := { row := fnMarkRow, standIns := [], harness := (true, "960dd4e86332b962ddc1ee2b1ea672e51e529b4c49d486e51de1e1f34c2a6c1a"), looks := true }, kinds := [], alts := [], laidByText := true, laidKinds := [.data, .data, .data, .sentinel], laidTests := true, laidLooks := .later }
def FnMarkCardSaid : Prop := Claim7.holds Tryd.pinned (.plain (OpenSpec.ofChange fnMarkSpec)) fnMarkCard

/-- THE TIED CARD OF 'laws.FnRangeBack'. -/
def fnRangeBackCard : Claim7 := { stood := { row := fnRangeBackRow, standIns := [], harness := (true, "960dd4e86332b962ddc1ee2b1ea672e51e529b4c49d486e51de1e1f34c2a6c1a"), looks := true }, kinds := [], alts := [], laidByText := true, laidKinds := [.data, .data, .data, .sentinel, .sentinel], laidTests := true, laidLooks := .later }
def FnRangeBackCardSaid : Prop := Claim7.holds Tryd.pinned (.plain (OpenSpec.ofChange fnRangeBackSpec)) fnRangeBackCard

/-- THE TIED CARD OF 'laws.FnRangeStrict'. -/
def fnRangeStrictCard : Claim7 := { stood := { row := fnRangeStrictRow, standIns := [], harness := (true, "960dd4e86332b962ddc1ee2b1ea672e51e529b4c49d486e51de1e1f34c2a6c1a"), looks := true }, kinds := [], alts := [], laidByText := true, laidKinds := [.data, .data, .data, .sentinel, .sentinel], laidTests := true, laidLooks := .later }
def FnRangeStrictCardSaid : Prop := Claim7.holds Tryd.pinned (.plain (OpenSpec.ofChange fnRangeStrictSpec)) fnRangeStrictCard

/-- THE TIED CARD OF 'laws.FnMarkCmp'. -/
def fnMarkCmpCard : Claim7 := { stood := { row := fnMarkCmpRow, standIns := [], harness := (true, "960dd4e86332b962ddc1ee2b1ea672e51e529b4c49d486e51de1e1f34c2a6c1a"), looks := true }, kinds := [], alts := [], laidByText := true, laidKinds := [.data, .data, .data, .sentinel], laidTests := true, laidLooks := .later }
def FnMarkCmpCardSaid : Prop := Claim7.holds Tryd.pinned (.plain (OpenSpec.ofChange fnMarkCmpSpec)) fnMarkCmpCard

/-- THE TIED CARD OF 'laws.FnRouteText'. -/
def fnRouteTextCard : Claim7 := { stood := { row := fnRouteTextRow, standIns := [], harness := (true, "960dd4e86332b962ddc1ee2b1ea672e51e529b4c49d486e51de1e1f34c2a6c1a"), looks := true }, kinds := [], alts := [], laidByText := true, laidKinds := [.data, .data, .data, .sentinel], laidTests := true, laidLooks := .later }
def FnRouteTextCardSaid : Prop := Claim7.holds Tryd.pinned (.plain (OpenSpec.ofChange fnRouteTextSpec)) fnRouteTextCard

/-- THE TIED CARD OF 'laws.FnPathBack'. -/
def fnPathBackCard : Claim7 := { stood := { row := fnPathBackRow, standIns := [], harness := (true, "960dd4e86332b962ddc1ee2b1ea672e51e529b4c49d486e51de1e1f34c2a6c1a"), looks := true }, kinds := [], alts := [], laidByText := true, laidKinds := [.data, .data, .data, .data, .sentinel, .sentinel, .sentinel, .pinned], laidTests := true, laidLooks := .later }
def FnPathBackCardSaid : Prop := Claim7.holds Tryd.pinned (.plain (OpenSpec.ofChange fnPathBackSpec)) fnPathBackCard

/-- THE TIED CARD OF 'laws.FnPathStrict'. -/
def fnPathStrictCard : Claim7 := { stood := { row := fnPathStrictRow, standIns := [], harness := (true, "960dd4e86332b962ddc1ee2b1ea672e51e529b4c49d486e51de1e1f34c2a6c1a"), looks := true }, kinds := [], alts := [], laidByText := true, laidKinds := [.data, .data, .data, .data, .sentinel, .sentinel, .sentinel, .pinned], laidTests := true, laidLooks := .later }
def FnPathStrictCardSaid : Prop := Claim7.holds Tryd.pinned (.plain (OpenSpec.ofChange fnPathStrictSpec)) fnPathStrictCard

/-- THE SECOND FORM's CARD OF 'laws.FnClear'. -/
def fnClearUptoCard : Claim7 := { stood := { row := fnClearUptoRow, standIns := [], harness := (true, "960dd4e86332b962ddc1ee2b1ea672e51e529b4c49d486e51de1e1f34c2a6c1a"), looks := true }, kinds := [], alts := [], laidByText := true, laidKinds := [.data, .data, .data, .sentinel], laidTests := true, laidLooks := .later }
def FnClearUptoCardSaid : Prop := Claim7.holds Tryd.pinned (.plain (OpenSpec.upto fnClearSpec)) fnClearUptoCard

/-- THE SECOND FORM's CARD OF 'laws.FnMark'. -/
def fnMarkUptoCard : Claim7 := { stood := { row := fnMarkUptoRow, standIns := [], harness := (true, "960dd4e86332b962ddc1ee2b1ea672e51e529b4c49d486e51de1e1f34c2a6c1a"), looks := true }, kinds := [], alts := [], laidByText := true, laidKinds := [.data, .data, .data, .sentinel], laidTests := true, laidLooks := .later }
def FnMarkUptoCardSaid : Prop := Claim7.holds Tryd.pinned (.plain (OpenSpec.upto fnMarkSpec)) fnMarkUptoCard

/-- THE SECOND FORM's CARD OF 'laws.FnRangeBack'. -/
def fnRangeBackUptoCard : Claim7 := { stood := { row := fnRangeBackUptoRow, standIns := [], harness := (true, "960dd4e86332b962ddc1ee2b1ea672e51e529b4c49d486e51de1e1f34c2a6c1a"), looks := true }, kinds := [], alts := [], laidByText := true, laidKinds := [.data, .data, .data, .sentinel, .sentinel], laidTests := true, laidLooks := .later }
def FnRangeBackUptoCardSaid : Prop := Claim7.holds Tryd.pinned (.plain (OpenSpec.upto fnRangeBackSpec)) fnRangeBackUptoCard

/-- THE SECOND FORM's CARD OF 'laws.FnRangeStrict'. -/
def fnRangeStrictUptoCard : Claim7 := { stood := { row := fnRangeStrictUptoRow, standIns := [], harness := (true, "960dd4e86332b962ddc1ee2b1ea672e51e529b4c49d486e51de1e1f34c2a6c1a"), looks := true }, kinds := [], alts := [], laidByText := true, laidKinds := [.data, .data, .data, .sentinel, .sentinel], laidTests := true, laidLooks := .later }
def FnRangeStrictUptoCardSaid : Prop := Claim7.holds Tryd.pinned (.plain (OpenSpec.upto fnRangeStrictSpec)) fnRangeStrictUptoCard

/-- THE SECOND FORM's CARD OF 'laws.FnMarkCmp'. -/
def fnMarkCmpUptoCard : Claim7 := { stood := { row := fnMarkCmpUptoRow, standIns := [], harness := (true, "960dd4e86332b962ddc1ee2b1ea672e51e529b4c49d486e51de1e1f34c2a6c1a"), looks := true }, kinds := [], alts := [], laidByText := true, laidKinds := [.data, .data, .data, .sentinel], laidTests := true, laidLooks := .later }
def FnMarkCmpUptoCardSaid : Prop := Claim7.holds Tryd.pinned (.plain (OpenSpec.upto fnMarkCmpSpec)) fnMarkCmpUptoCard

/-- THE SECOND FORM's CARD OF 'laws.FnRouteText'. -/
def fnRouteTextUptoCard : Claim7 := { stood := { row := fnRouteTextUptoRow, standIns := [], harness := (true, "960dd4e86332b962ddc1ee2b1ea672e51e529b4c49d486e51de1e1f34c2a6c1a"), looks := true }, kinds := [], alts := [], laidByText := true, laidKinds := [.data, .data, .data, .sentinel], laidTests := true, laidLooks := .later }
def FnRouteTextUptoCardSaid : Prop := Claim7.holds Tryd.pinned (.plain (OpenSpec.upto fnRouteTextSpec)) fnRouteTextUptoCard

/-- THE SECOND FORM's CARD OF 'laws.FnPathBack'. -/
def fnPathBackUptoCard : Claim7 := { stood := { row := fnPathBackUptoRow, standIns := [], harness := (true, "960dd4e86332b962ddc1ee2b1ea672e51e529b4c49d486e51de1e1f34c2a6c1a"), looks := true }, kinds := [], alts := [], laidByText := true, laidKinds := [.data, .data, .data, .data, .sentinel, .sentinel, .sentinel, .pinned], laidTests := true, laidLooks := .later }
def FnPathBackUptoCardSaid : Prop := Claim7.holds Tryd.pinned (.plain (OpenSpec.upto fnPathBackSpec)) fnPathBackUptoCard

/-- THE SECOND FORM's CARD OF 'laws.FnPathStrict'. -/
def fnPathStrictUptoCard : Claim7 := { stood := { row := fnPathStrictUptoRow, standIns := [], harness := (true, "960dd4e86332b962ddc1ee2b1ea672e51e529b4c49d486e51de1e1f34c2a6c1a"), looks := true }, kinds := [], alts := [], laidByText := true, laidKinds := [.data, .data, .data, .data, .sentinel, .sentinel, .sentinel, .pinned], laidTests := true, laidLooks := .later }
def FnPathStrictUptoCardSaid : Prop := Claim7.holds Tryd.pinned (.plain (OpenSpec.upto fnPathStrictSpec)) fnPathStrictUptoCard
end Rows
end Go.Proofs.YtdefjjmepejmiaaDoor
