/-
  DERIVED. GIVEN WITH THE SEED: THE CARDS: each row of YtpgilgnkiceggaaDoorRows.lean that lists a variable, with what it lists TIED to the program's text (the seventh form; the later family's looks); each row that meets fmt, with fmt's text TOLD by the authors' own Lean function (tested against real Go, not proved from fmt's source: count such statements apart). THE CARD IS WHAT COUNTS. Prove the row's statement (the work); the ties are given (YtpgilgnkiceggaaDoorTie.lean); close each card by the builder's one call (the guide's Derived/Test/ToyasCard.lean, 'card_holds'). Laid BY PROGRAM, IN A SANDBOX (cutbox-door.mjs). By AI agents, Wed Nov 11 2026. No macro, syntax, notation, axiom, sorry.
-/
import Derived.Test.YtpgilgnkiceggaaDoorRows
import GoSem.ClaimSeven
namespace Go.Proofs.YtpgilgnkiceggaaDoor
namespace Rows

/-- THE TIED CARD OF 'laws.FnRibFind'. -/
def fnRibFindCard : Claim7 := { stood := { row := fnRibFindRow, standIns := [], harness := (true, "1146d7efb40fd79220d82e6e6b42ab5d2fcd2d0cbfec64a09129e45ca00fcf86"), looks := true }, kinds := [], alts := [], laidByText := true, laidKinds := [.data, .data, .data, .sentinel], laidTests := true, laidLooks := .later }
def FnRibFindCardSaid : Prop := Claim7.holds Tryd.pinned (.plain (OpenSpec.ofChange fnRibFindSpec)) fnRibFindCard

/-- THE TIED CARD OF 'laws.FnPickForm'. -/
def fnPickFormCard : Claim7 := { stood := { row := fnPickFormRow, standIns := [], harness := (true, "1146d7efb40fd79220d82e6e6b42ab5d2fcd2d0cbfec64a09129e45ca00fcf86"), looks := true }, kinds := [], alts := [], laidByText := true, laidKinds := [.data, .data, .data, .sentinel], laidTests := true, laidLooks := .later }
def FnPickFormCardSaid : Prop := Claim7.holds Tryd.pinned (.plain (OpenSpec.ofChange fnPickFormSpec)) fnPickFormCard

/-- THE TIED CARD OF 'laws.FnDown'. -/
def fnDownCard : Claim7 := { stood := { row := fnDownRow, standIns := [], harness := (true, "1146d7efb40fd79220d82e6e6b42ab5d2fcd2d0cbfec64a09129e45ca00fcf86"), looks := true }, kinds := [], alts := [], laidByText := true, laidKinds := [.data, .data, .data, .sentinel], laidTests := true, laidLooks := .later }
def FnDownCardSaid : Prop := Claim7.holds Tryd.pinned (.plain (OpenSpec.ofChange fnDownSpec)) fnDownCard

/-- THE TIED CARD OF 'laws.FnEnd'. -/
def fnEndCard : Claim7 := { stood := { row := fnEndRow, standIns := [], harness := (true, "1146d7efb40fd79220d82e6e6b42ab5d2fcd2d0cbfec64a09129e45ca00fcf86"), looks := true }, kinds := [], alts := [], laidByText := true, laidKinds := [.data, .data, .data, .sentinel], laidTests := true, laidLooks := .later }
def FnEndCardSaid : Prop := Claim7.holds Tryd.pinned (.plain (OpenSpec.ofChange fnEndSpec)) fnEndCard

/-- THE SECOND FORM's CARD OF 'laws.FnRibFind'. -/
def fnRibFindUptoCard : Claim7 := { stood := { row := fnRibFindUptoRow, standIns := [], harness := (true, "1146d7efb40fd79220d82e6e6b42ab5d2fcd2d0cbfec64a09129e45ca00fcf86"), looks := true }, kinds := [], alts := [], laidByText := true, laidKinds := [.data, .data, .data, .sentinel], laidTests := true, laidLooks := .later }
def FnRibFindUptoCardSaid : Prop := Claim7.holds Tryd.pinned (.plain (OpenSpec.upto fnRibFindSpec)) fnRibFindUptoCard

/-- THE SECOND FORM's CARD OF 'laws.FnPickForm'. -/
def fnPickFormUptoCard : Claim7 := { stood := { row := fnPickFormUptoRow, standIns := [], harness := (true, "1146d7efb40fd79220d82e6e6b42ab5d2fcd2d0cbfec64a09129e45ca00fcf86"), looks := true }, kinds := [], alts := [], laidByText := true, laidKinds := [.data, .data, .data, .sentinel], laidTests := true, laidLooks := .later }
def FnPickFormUptoCardSaid : Prop := Claim7.holds Tryd.pinned (.plain (OpenSpec.upto fnPickFormSpec)) fnPickFormUptoCard

/-- THE SECOND FORM's CARD OF 'laws.FnDown'. -/
def fnDownUptoCard : Claim7 := { stood := { row := fnDownUptoRow, standIns := [], harness := (true, "1146d7efb40fd79220d82e6e6b42ab5d2fcd2d0cbfec64a09129e45ca00fcf86"), looks := true }, kinds := [], alts := [], laidByText := true, laidKinds := [.data, .data, .data, .sentinel], laidTests := true, laidLooks := .later }
def FnDownUptoCardSaid : Prop := Claim7.holds Tryd.pinned (.plain (OpenSpec.upto fnDownSpec)) fnDownUptoCard

/-- THE SECOND FORM's CARD OF 'laws.FnEnd'. -/
def fnEndUptoCard : Claim7 := { stood := { row := fnEndUptoRow, standIns := [], harness := (true, "1146d7efb40fd79220d82e6e6b42ab5d2fcd2d0cbfec64a09129e45ca00fcf86"), looks := true }, kinds := [], alts := [], laidByText := true, laidKinds := [.data, .data, .data, .sentinel], laidTests := true, laidLooks := .later }
def FnEndUptoCardSaid : Prop := Claim7.holds Tryd.pinned (.plain (OpenSpec.upto fnEndSpec)) fnEndUptoCard
end Rows
end Go.Proofs.YtpgilgnkiceggaaDoor
