/-
  DERIVED. GIVEN WITH THE SEED: THE CARDS: each row of YtflobagimodmgaaGreatDoorRows.lean that lists a variable, with what it lists TIED to the program's text (the seventh form; the later family's looks); each row that meets fmt, with fmt's text TOLD by the authors' own Lean function (tested against real Go, not proved from fmt's source: count such statements apart). THE CARD IS WHAT COUNTS. Prove the row's statement (the work); the ties are given (YtflobagimodmgaaGreatDoorTie.lean); close each card by the builder's one call (the guide's Derived/Test/ToyasCard.lean, 'card_holds'). Laid BY PROGRAM, IN A SANDBOX (cutbox-door.mjs). By AI agents, Wed Nov 11 2026. No macro, syntax, notation, axiom, sorry.
-/
import Derived.Test.YtflobagimodmgaaGreatDoorRows
import GoSem.ClaimSeven
namespace Go.Proofs.YtflobagimodmgaaGreatDoor
namespace Rows

/-- THE TIED CARD OF 'straitlaw20.MinkHull'. -/
def minkHullCard : Claim7 := { stood := { row := minkHullRow, standIns := [], harness := (true, "1fe7630b78eb33c04aa8cb518878dd7db6d067c5a264c8db61122d8c20b0b5cb"), looks := false }, kinds := [], alts := [], laidByText := true, laidKinds := [.data], laidTests := true, laidLooks := .later }
def MinkHullCardSaid : Prop := Claim7.holds Tryz.pinned (.plain (OpenSpec.ofChange minkHullSpec)) minkHullCard

/-- THE TIED CARD OF 'straitlaw20.MinkSums'. -/
def minkSumsCard : Claim7 := { stood := { row := minkSumsRow, standIns := [], harness := (true, "1fe7630b78eb33c04aa8cb518878dd7db6d067c5a264c8db61122d8c20b0b5cb"), looks := false }, kinds := [], alts := [], laidByText := true, laidKinds := [.data], laidTests := true, laidLooks := .later }
def MinkSumsCardSaid : Prop := Claim7.holds Tryz.pinned (.plain (OpenSpec.ofChange minkSumsSpec)) minkSumsCard

/-- THE TIED CARD OF 'straitlaw20.MinkEdges'. -/
def minkEdgesCard : Claim7 := { stood := { row := minkEdgesRow, standIns := [], harness := (true, "1fe7630b78eb33c04aa8cb518878dd7db6d067c5a264c8db61122d8c20b0b5cb"), looks := false }, kinds := [], alts := [], laidByText := true, laidKinds := [.data], laidTests := true, laidLooks := .later }
def MinkEdgesCardSaid : Prop := Claim7.holds Tryz.pinned (.plain (OpenSpec.ofChange minkEdgesSpec)) minkEdgesCard

/-- THE TIED CARD OF 'straitlaw20.MinkWithin'. -/
def minkWithinCard : Claim7 := { stood := { row := minkWithinRow, standIns := [], harness := (true, "1fe7630b78eb33c04aa8cb518878dd7db6d067c5a264c8db61122d8c20b0b5cb"), looks := false }, kinds := [], alts := [], laidByText := true, laidKinds := [.data], laidTests := true, laidLooks := .later }
def MinkWithinCardSaid : Prop := Claim7.holds Tryz.pinned (.plain (OpenSpec.ofChange minkWithinSpec)) minkWithinCard

/-- THE TIED CARD OF 'straitlaw20.MinkMoved'. -/
def minkMovedCard : Claim7 := { stood := { row := minkMovedRow, standIns := [], harness := (true, "1fe7630b78eb33c04aa8cb518878dd7db6d067c5a264c8db61122d8c20b0b5cb"), looks := false }, kinds := [], alts := [], laidByText := true, laidKinds := [.data], laidTests := true, laidLooks := .later }
def MinkMovedCardSaid : Prop := Claim7.holds Tryz.pinned (.plain (OpenSpec.ofChange minkMovedSpec)) minkMovedCard

/-- THE TIED CARD OF 'straitlaw20.MinkTells'. -/
def minkTellsCard : Claim7 := { stood := { row := minkTellsRow, standIns := [], harness := (true, "1fe7630b78eb33c04aa8cb518878dd7db6d067c5a264c8db61122d8c20b0b5cb"), looks := false }, kinds := [], alts := [], laidByText := true, laidKinds := [.data], laidTests := true, laidLooks := .later }
def MinkTellsCardSaid : Prop := Claim7.holds Tryz.pinned (.plain (OpenSpec.ofChange minkTellsSpec)) minkTellsCard

/-- THE TIED CARD OF 'straitlaw23.LevelsRise'. -/
def levelsRiseCard : Claim7 := { stood := { row := levelsRiseRow, standIns := [], harness := (true, "1fe7630b78eb33c04aa8cb518878dd7db6d067c5a264c8db61122d8c20b0b5cb"), looks := false }, kinds := [], alts := [], laidByText := true, laidKinds := [.data], laidTests := true, laidLooks := .later }
def LevelsRiseCardSaid : Prop := Claim7.holds Tryz.pinned (.plain (OpenSpec.ofChange levelsRiseSpec)) levelsRiseCard

/-- THE TIED CARD OF 'straitlaw22.CutsTells'. -/
def cutsTellsCard : Claim7 := { stood := { row := cutsTellsRow, standIns := [], harness := (true, "1fe7630b78eb33c04aa8cb518878dd7db6d067c5a264c8db61122d8c20b0b5cb"), looks := false }, kinds := [], alts := [], laidByText := true, laidKinds := [.data], laidTests := true, laidLooks := .later }
def CutsTellsCardSaid : Prop := Claim7.holds Tryz.pinned (.plain (OpenSpec.ofChange cutsTellsSpec)) cutsTellsCard

/-- THE SECOND FORM's CARD OF 'straitlaw20.MinkHull'. -/
def minkHullUptoCard : Claim7 := { stood := { row := minkHullUptoRow, standIns := [], harness := (true, "1fe7630b78eb33c04aa8cb518878dd7db6d067c5a264c8db61122d8c20b0b5cb"), looks := false }, kinds := [], alts := [], laidByText := true, laidKinds := [.data], laidTests := true, laidLooks := .later }
def MinkHullUptoCardSaid : Prop := Claim7.holds Tryz.pinned (.plain (OpenSpec.upto minkHullSpec)) minkHullUptoCard

/-- THE SECOND FORM's CARD OF 'straitlaw20.MinkSums'. -/
def minkSumsUptoCard : Claim7 := { stood := { row := minkSumsUptoRow, standIns := [], harness := (true, "1fe7630b78eb33c04aa8cb518878dd7db6d067c5a264c8db61122d8c20b0b5cb"), looks := false }, kinds := [], alts := [], laidByText := true, laidKinds := [.data], laidTests := true, laidLooks := .later }
def MinkSumsUptoCardSaid : Prop := Claim7.holds Tryz.pinned (.plain (OpenSpec.upto minkSumsSpec)) minkSumsUptoCard

/-- THE SECOND FORM's CARD OF 'straitlaw20.MinkEdges'. -/
def minkEdgesUptoCard : Claim7 := { stood := { row := minkEdgesUptoRow, standIns := [], harness := (true, "1fe7630b78eb33c04aa8cb518878dd7db6d067c5a264c8db61122d8c20b0b5cb"), looks := false }, kinds := [], alts := [], laidByText := true, laidKinds := [.data], laidTests := true, laidLooks := .later }
def MinkEdgesUptoCardSaid : Prop := Claim7.holds Tryz.pinned (.plain (OpenSpec.upto minkEdgesSpec)) minkEdgesUptoCard

/-- THE SECOND FORM's CARD OF 'straitlaw20.MinkWithin'. -/
def minkWithinUptoCard : Claim7 := { stood := { row := minkWithinUptoRow, standIns := [], harness := (true, "1fe7630b78eb33c04aa8cb518878dd7db6d067c5a264c8db61122d8c20b0b5cb"), looks := false }, kinds := [], alts := [], laidByText := true, laidKinds := [.data], laidTests := true, laidLooks := .later }
def MinkWithinUptoCardSaid : Prop := Claim7.holds Tryz.pinned (.plain (OpenSpec.upto minkWithinSpec)) minkWithinUptoCard

/-- THE SECOND FORM's CARD OF 'straitlaw20.MinkMoved'. -/
def minkMovedUptoCard : Claim7 := { stood := { row := minkMovedUptoRow, standIns := [], harness := (true, "1fe7630b78eb33c04aa8cb518878dd7db6d067c5a264c8db61122d8c20b0b5cb"), looks := false }, kinds := [], alts := [], laidByText := true, laidKinds := [.data], laidTests := true, laidLooks := .later }
def MinkMovedUptoCardSaid : Prop := Claim7.holds Tryz.pinned (.plain (OpenSpec.upto minkMovedSpec)) minkMovedUptoCard

/-- THE SECOND FORM's CARD OF 'straitlaw20.MinkTells'. -/
def minkTellsUptoCard : Claim7 := { stood := { row := minkTellsUptoRow, standIns := [], harness := (true, "1fe7630b78eb33c04aa8cb518878dd7db6d067c5a264c8db61122d8c20b0b5cb"), looks := false }, kinds := [], alts := [], laidByText := true, laidKinds := [.data], laidTests := true, laidLooks := .later }
def MinkTellsUptoCardSaid : Prop := Claim7.holds Tryz.pinned (.plain (OpenSpec.upto minkTellsSpec)) minkTellsUptoCard

/-- THE SECOND FORM's CARD OF 'straitlaw23.LevelsRise'. -/
def levelsRiseUptoCard : Claim7 := { stood := { row := levelsRiseUptoRow, standIns := [], harness := (true, "1fe7630b78eb33c04aa8cb518878dd7db6d067c5a264c8db61122d8c20b0b5cb"), looks := false }, kinds := [], alts := [], laidByText := true, laidKinds := [.data], laidTests := true, laidLooks := .later }
def LevelsRiseUptoCardSaid : Prop := Claim7.holds Tryz.pinned (.plain (OpenSpec.upto levelsRiseSpec)) levelsRiseUptoCard

/-- THE SECOND FORM's CARD OF 'straitlaw22.CutsTells'. -/
def cutsTellsUptoCard : Claim7 := { stood := { row := cutsTellsUptoRow, standIns := [], harness := (true, "1fe7630b78eb33c04aa8cb518878dd7db6d067c5a264c8db61122d8c20b0b5cb"), looks := false }, kinds := [], alts := [], laidByText := true, laidKinds := [.data], laidTests := true, laidLooks := .later }
def CutsTellsUptoCardSaid : Prop := Claim7.holds Tryz.pinned (.plain (OpenSpec.upto cutsTellsSpec)) cutsTellsUptoCard
end Rows
end Go.Proofs.YtflobagimodmgaaGreatDoor
