/-
  DERIVED. GIVEN WITH THE SEED: THE CARDS: each row of YtpgilgnkiceggaaGreatDoorRows.lean that lists a variable, with what it lists TIED to the program's text (the seventh form; the later family's looks); each row that meets fmt, with fmt's text TOLD by the authors' own Lean function (tested against real Go, not proved from fmt's source: count such statements apart). THE CARD IS WHAT COUNTS. Prove the row's statement (the work); the ties are given (YtpgilgnkiceggaaGreatDoorTie.lean); close each card by the builder's one call (the guide's Derived/Test/ToyasCard.lean, 'card_holds'). Laid BY PROGRAM, IN A SANDBOX (cutbox-door.mjs). By AI agents, Wed Nov 11 2026. No macro, syntax, notation, axiom, sorry.
-/
import Derived.Test.YtpgilgnkiceggaaGreatDoorRows
import GoSem.ClaimSeven
namespace Go.Proofs.YtpgilgnkiceggaaGreatDoor
namespace Rows

/-- THE TIED CARD OF 'laws.FnTellTwice'. -/
def fnTellTwiceCard : Claim7 := { stood := { row := fnTellTwiceRow, standIns := [], harness := (true, "f7732f4cdb4531b1d684efdc66ce35ce3196a49befad2286f8b4b658bfa48e08"), looks := true }, kinds := [], alts := [], laidByText := true, laidKinds := [.data, .data, .data, .handle, .sentinel], laidTests := true, laidLooks := .later }
def FnTellTwiceCardSaid : Prop := Claim7.holds Tryz.pinned (.plain (OpenSpec.ofChange fnTellTwiceSpec)) fnTellTwiceCard

/-- THE TIED CARD OF 'laws.FnTell'. -/
def fnTellCard : Claim7 := { stood := { row := fnTellRow, standIns := [], harness := (true, "f7732f4cdb4531b1d684efdc66ce35ce3196a49befad2286f8b4b658bfa48e08"), looks := true }, kinds := [], alts := [], laidByText := true, laidKinds := [.data, .data, .data, .handle, .sentinel], laidTests := true, laidLooks := .later }
def FnTellCardSaid : Prop := Claim7.holds Tryz.pinned (.plain (OpenSpec.ofChange fnTellSpec)) fnTellCard

/-- THE TIED CARD OF 'laws.FnTellFull'. -/
def fnTellFullCard : Claim7 := { stood := { row := fnTellFullRow, standIns := [], harness := (true, "f7732f4cdb4531b1d684efdc66ce35ce3196a49befad2286f8b4b658bfa48e08"), looks := true }, kinds := [], alts := [], laidByText := true, laidKinds := [.data, .data, .data, .handle, .sentinel], laidTests := true, laidLooks := .later }
def FnTellFullCardSaid : Prop := Claim7.holds Tryz.pinned (.plain (OpenSpec.ofChange fnTellFullSpec)) fnTellFullCard

/-- THE TIED CARD OF 'laws.FnUp'. -/
def fnUpCard : Claim7 := { stood := { row := fnUpRow, standIns := [], harness := (true, "f7732f4cdb4531b1d684efdc66ce35ce3196a49befad2286f8b4b658bfa48e08"), looks := true }, kinds := [], alts := [], laidByText := true, laidKinds := [.data, .data, .data, .handle, .sentinel], laidTests := true, laidLooks := .later }
def FnUpCardSaid : Prop := Claim7.holds Tryz.pinned (.plain (OpenSpec.ofChange fnUpSpec)) fnUpCard

/-- THE TIED CARD OF 'laws.FnDrop'. -/
def fnDropCard : Claim7 := { stood := { row := fnDropRow, standIns := [], harness := (true, "f7732f4cdb4531b1d684efdc66ce35ce3196a49befad2286f8b4b658bfa48e08"), looks := true }, kinds := [], alts := [], laidByText := true, laidKinds := [.data, .data, .data, .handle, .sentinel], laidTests := true, laidLooks := .later }
def FnDropCardSaid : Prop := Claim7.holds Tryz.pinned (.plain (OpenSpec.ofChange fnDropSpec)) fnDropCard

/-- THE TIED CARD OF 'laws.FnTellGone'. -/
def fnTellGoneCard : Claim7 := { stood := { row := fnTellGoneRow, standIns := [], harness := (true, "f7732f4cdb4531b1d684efdc66ce35ce3196a49befad2286f8b4b658bfa48e08"), looks := true }, kinds := [], alts := [], laidByText := true, laidKinds := [.data, .data, .data, .handle, .sentinel], laidTests := true, laidLooks := .later }
def FnTellGoneCardSaid : Prop := Claim7.holds Tryz.pinned (.plain (OpenSpec.ofChange fnTellGoneSpec)) fnTellGoneCard

/-- THE TIED CARD OF 'laws.FnTellDrop'. -/
def fnTellDropCard : Claim7 := { stood := { row := fnTellDropRow, standIns := [], harness := (true, "f7732f4cdb4531b1d684efdc66ce35ce3196a49befad2286f8b4b658bfa48e08"), looks := true }, kinds := [], alts := [], laidByText := true, laidKinds := [.data, .data, .data, .handle, .sentinel], laidTests := true, laidLooks := .later }
def FnTellDropCardSaid : Prop := Claim7.holds Tryz.pinned (.plain (OpenSpec.ofChange fnTellDropSpec)) fnTellDropCard

/-- THE TIED CARD OF 'laws.FnBreak'. -/
def fnBreakCard : Claim7 := { stood := { row := fnBreakRow, standIns := [], harness := (true, "f7732f4cdb4531b1d684efdc66ce35ce3196a49befad2286f8b4b658bfa48e08"), looks := true }, kinds := [], alts := [], laidByText := true, laidKinds := [.data, .data, .data, .handle, .sentinel], laidTests := true, laidLooks := .later }
def FnBreakCardSaid : Prop := Claim7.holds Tryz.pinned (.plain (OpenSpec.ofChange fnBreakSpec)) fnBreakCard

/-- THE SECOND FORM's CARD OF 'laws.FnTellTwice'. -/
def fnTellTwiceUptoCard : Claim7 := { stood := { row := fnTellTwiceUptoRow, standIns := [], harness := (true, "f7732f4cdb4531b1d684efdc66ce35ce3196a49befad2286f8b4b658bfa48e08"), looks := true }, kinds := [], alts := [], laidByText := true, laidKinds := [.data, .data, .data, .handle, .sentinel], laidTests := true, laidLooks := .later }
def FnTellTwiceUptoCardSaid : Prop := Claim7.holds Tryz.pinned (.plain (OpenSpec.upto fnTellTwiceSpec)) fnTellTwiceUptoCard

/-- THE SECOND FORM's CARD OF 'laws.FnTell'. -/
def fnTellUptoCard : Claim7 := { stood := { row := fnTellUptoRow, standIns := [], harness := (true, "f7732f4cdb4531b1d684efdc66ce35ce3196a49befad2286f8b4b658bfa48e08"), looks := true }, kinds := [], alts := [], laidByText := true, laidKinds := [.data, .data, .data, .handle, .sentinel], laidTests := true, laidLooks := .later }
def FnTellUptoCardSaid : Prop := Claim7.holds Tryz.pinned (.plain (OpenSpec.upto fnTellSpec)) fnTellUptoCard

/-- THE SECOND FORM's CARD OF 'laws.FnTellFull'. -/
def fnTellFullUptoCard : Claim7 := { stood := { row := fnTellFullUptoRow, standIns := [], harness := (true, "f7732f4cdb4531b1d684efdc66ce35ce3196a49befad2286f8b4b658bfa48e08"), looks := true }, kinds := [], alts := [], laidByText := true, laidKinds := [.data, .data, .data, .handle, .sentinel], laidTests := true, laidLooks := .later }
def FnTellFullUptoCardSaid : Prop := Claim7.holds Tryz.pinned (.plain (OpenSpec.upto fnTellFullSpec)) fnTellFullUptoCard

/-- THE SECOND FORM's CARD OF 'laws.FnUp'. -/
def fnUpUptoCard : Claim7 := { stood := { row := fnUpUptoRow, standIns := [], harness := (true, "f7732f4cdb4531b1d684efdc66ce35ce3196a49befad2286f8b4b658bfa48e08"), looks := true }, kinds := [], alts := [], laidByText := true, laidKinds := [.data, .data, .data, .handle, .sentinel], laidTests := true, laidLooks := .later }
def FnUpUptoCardSaid : Prop := Claim7.holds Tryz.pinned (.plain (OpenSpec.upto fnUpSpec)) fnUpUptoCard

/-- THE SECOND FORM's CARD OF 'laws.FnDrop'. -/
def fnDropUptoCard : Claim7 := { stood := { row := fnDropUptoRow, standIns := [], harness := (true, "f7732f4cdb4531b1d684efdc66ce35ce3196a49befad2286f8b4b658bfa48e08"), looks := true }, kinds := [], alts := [], laidByText := true, laidKinds := [.data, .data, .data, .handle, .sentinel], laidTests := true, laidLooks := .later }
def FnDropUptoCardSaid : Prop := Claim7.holds Tryz.pinned (.plain (OpenSpec.upto fnDropSpec)) fnDropUptoCard

/-- THE SECOND FORM's CARD OF 'laws.FnTellGone'. -/
def fnTellGoneUptoCard : Claim7 := { stood := { row := fnTellGoneUptoRow, standIns := [], harness := (true, "f7732f4cdb4531b1d684efdc66ce35ce3196a49befad2286f8b4b658bfa48e08"), looks := true }, kinds := [], alts := [], laidByText := true, laidKinds := [.data, .data, .data, .handle, .sentinel], laidTests := true, laidLooks := .later }
def FnTellGoneUptoCardSaid : Prop := Claim7.holds Tryz.pinned (.plain (OpenSpec.upto fnTellGoneSpec)) fnTellGoneUptoCard

/-- THE SECOND FORM's CARD OF 'laws.FnTellDrop'. -/
def fnTellDropUptoCard : Claim7 := { stood := { row := fnTellDropUptoRow, standIns := [], harness := (true, "f7732f4cdb4531b1d684efdc66ce35ce3196a49befad2286f8b4b658bfa48e08"), looks := true }, kinds := [], alts := [], laidByText := true, laidKinds := [.data, .data, .data, .handle, .sentinel], laidTests := true, laidLooks := .later }
def FnTellDropUptoCardSaid : Prop := Claim7.holds Tryz.pinned (.plain (OpenSpec.upto fnTellDropSpec)) fnTellDropUptoCard

/-- THE SECOND FORM's CARD OF 'laws.FnBreak'. -/
def fnBreakUptoCard : Claim7 := { stood := { row := fnBreakUptoRow, standIns := [], harness := (true, "f7732f4cdb4531b1d684efdc66ce35ce3196a49befad2286f8b4b658bfa48e08"), looks := true }, kinds := [], alts := [], laidByText := true, laidKinds := [.data, .data, .data, .handle, .sentinel], laidTests := true, laidLooks := .later }
def FnBreakUptoCardSaid : Prop := Claim7.holds Tryz.pinned (.plain (OpenSpec.upto fnBreakSpec)) fnBreakUptoCard
end Rows
end Go.Proofs.YtpgilgnkiceggaaGreatDoor
