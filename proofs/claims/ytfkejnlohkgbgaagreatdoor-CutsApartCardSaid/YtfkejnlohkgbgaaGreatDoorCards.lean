/-
  DERIVED. GIVEN WITH THE SEED: THE CARDS: each row of YtfkejnlohkgbgaaGreatDoorRows.lean that lists a variable, with what it lists TIED to the program's text (the seventh form; the later family's looks); each row that meets fmt, with fmt's text TOLD by the authors' own Lean function (tested against real Go, not proved from fmt's source: count such statements apart). THE CARD IS WHAT COUNTS. Prove the row's statement (the work); the ties are given (YtfkejnlohkgbgaaGreatDoorTie.lean); close each card by the builder's one call (the guide's Derived/Test/ToyasCard.lean, 'card_holds'). Laid BY PROGRAM, IN A SANDBOX (cutbox-door.mjs). By AI agents, Wed Nov 11 2026. No macro, syntax, notation, axiom, sorry.
-/
import Derived.Test.YtfkejnlohkgbgaaGreatDoorRows
import GoSem.ClaimSeven
namespace Go.Proofs.YtfkejnlohkgbgaaGreatDoor
namespace Rows

/-- THE TIED CARD OF 'straitlaw22.CutsFind'. -/
def cutsFindCard : Claim7 := { stood := { row := cutsFindRow, standIns := [], harness := (true, "6b072769c8bef9739bddd2be616c1b8b409e6737b899805b608e370b1a17cde9"), looks := false }, kinds := [], alts := [], laidByText := true, laidKinds := [.data], laidTests := true, laidLooks := .later }
def CutsFindCardSaid : Prop := Claim7.holds Tryz.pinned (.plain (OpenSpec.ofChange cutsFindSpec)) cutsFindCard

/-- THE TIED CARD OF 'straitlaw10.MeetTurns'. -/
def meetTurnsCard : Claim7 := { stood := { row := meetTurnsRow, standIns := [], harness := (true, "6b072769c8bef9739bddd2be616c1b8b409e6737b899805b608e370b1a17cde9"), looks := false }, kinds := [], alts := [], laidByText := true, laidKinds := [.data], laidTests := true, laidLooks := .later }
def MeetTurnsCardSaid : Prop := Claim7.holds Tryz.pinned (.plain (OpenSpec.ofChange meetTurnsSpec)) meetTurnsCard

/-- THE TIED CARD OF 'straitlaw10.MeetLies'. -/
def meetLiesCard : Claim7 := { stood := { row := meetLiesRow, standIns := [], harness := (true, "6b072769c8bef9739bddd2be616c1b8b409e6737b899805b608e370b1a17cde9"), looks := false }, kinds := [], alts := [], laidByText := true, laidKinds := [.data], laidTests := true, laidLooks := .later }
def MeetLiesCardSaid : Prop := Claim7.holds Tryz.pinned (.plain (OpenSpec.ofChange meetLiesSpec)) meetLiesCard

/-- THE TIED CARD OF 'straitlaw10.MeetHeights'. -/
def meetHeightsCard : Claim7 := { stood := { row := meetHeightsRow, standIns := [], harness := (true, "6b072769c8bef9739bddd2be616c1b8b409e6737b899805b608e370b1a17cde9"), looks := false }, kinds := [], alts := [], laidByText := true, laidKinds := [.data], laidTests := true, laidLooks := .later }
def MeetHeightsCardSaid : Prop := Claim7.holds Tryz.pinned (.plain (OpenSpec.ofChange meetHeightsSpec)) meetHeightsCard

/-- THE TIED CARD OF 'straitlaw10.MeetAll'. -/
def meetAllCard : Claim7 := { stood := { row := meetAllRow, standIns := [], harness := (true, "6b072769c8bef9739bddd2be616c1b8b409e6737b899805b608e370b1a17cde9"), looks := false }, kinds := [], alts := [], laidByText := true, laidKinds := [.data], laidTests := true, laidLooks := .later }
def MeetAllCardSaid : Prop := Claim7.holds Tryz.pinned (.plain (OpenSpec.ofChange meetAllSpec)) meetAllCard

/-- THE TIED CARD OF 'straitlaw23.LevelsFind'. -/
def levelsFindCard : Claim7 := { stood := { row := levelsFindRow, standIns := [], harness := (true, "6b072769c8bef9739bddd2be616c1b8b409e6737b899805b608e370b1a17cde9"), looks := false }, kinds := [], alts := [], laidByText := true, laidKinds := [.data], laidTests := true, laidLooks := .later }
def LevelsFindCardSaid : Prop := Claim7.holds Tryz.pinned (.plain (OpenSpec.ofChange levelsFindSpec)) levelsFindCard

/-- THE TIED CARD OF 'straitlaw23.LevelsOrder'. -/
def levelsOrderCard : Claim7 := { stood := { row := levelsOrderRow, standIns := [], harness := (true, "6b072769c8bef9739bddd2be616c1b8b409e6737b899805b608e370b1a17cde9"), looks := false }, kinds := [], alts := [], laidByText := true, laidKinds := [.data], laidTests := true, laidLooks := .later }
def LevelsOrderCardSaid : Prop := Claim7.holds Tryz.pinned (.plain (OpenSpec.ofChange levelsOrderSpec)) levelsOrderCard

/-- THE TIED CARD OF 'straitlaw23.LevelsRise'. -/
def levelsRiseCard : Claim7 := { stood := { row := levelsRiseRow, standIns := [], harness := (true, "6b072769c8bef9739bddd2be616c1b8b409e6737b899805b608e370b1a17cde9"), looks := false }, kinds := [], alts := [], laidByText := true, laidKinds := [.data], laidTests := true, laidLooks := .later }
def LevelsRiseCardSaid : Prop := Claim7.holds Tryz.pinned (.plain (OpenSpec.ofChange levelsRiseSpec)) levelsRiseCard

/-- THE TIED CARD OF 'straitlaw22.CutsTells'. -/
def cutsTellsCard : Claim7 := { stood := { row := cutsTellsRow, standIns := [], harness := (true, "6b072769c8bef9739bddd2be616c1b8b409e6737b899805b608e370b1a17cde9"), looks := false }, kinds := [], alts := [], laidByText := true, laidKinds := [.data], laidTests := true, laidLooks := .later }
def CutsTellsCardSaid : Prop := Claim7.holds Tryz.pinned (.plain (OpenSpec.ofChange cutsTellsSpec)) cutsTellsCard

/-- THE TIED CARD OF 'straitlaw22.CutsApart'. -/
def cutsApartCard : Claim7 := { stood := { row := cutsApartRow, standIns := [], harness := (true, "6b072769c8bef9739bddd2be616c1b8b409e6737b899805b608e370b1a17cde9"), looks := false }, kinds := [], alts := [], laidByText := true, laidKinds := [.data], laidTests := true, laidLooks := .later }
def CutsApartCardSaid : Prop := Claim7.holds Tryz.pinned (.plain (OpenSpec.ofChange cutsApartSpec)) cutsApartCard

/-- THE TIED CARD OF 'straitlaw22.CutsMore'. -/
def cutsMoreCard : Claim7 := { stood := { row := cutsMoreRow, standIns := [], harness := (true, "6b072769c8bef9739bddd2be616c1b8b409e6737b899805b608e370b1a17cde9"), looks := false }, kinds := [], alts := [], laidByText := true, laidKinds := [.data], laidTests := true, laidLooks := .later }
def CutsMoreCardSaid : Prop := Claim7.holds Tryz.pinned (.plain (OpenSpec.ofChange cutsMoreSpec)) cutsMoreCard

/-- THE TIED CARD OF 'straitlaw22.CutsMoved'. -/
def cutsMovedCard : Claim7 := { stood := { row := cutsMovedRow, standIns := [], harness := (true, "6b072769c8bef9739bddd2be616c1b8b409e6737b899805b608e370b1a17cde9"), looks := false }, kinds := [], alts := [], laidByText := true, laidKinds := [.data], laidTests := true, laidLooks := .later }
def CutsMovedCardSaid : Prop := Claim7.holds Tryz.pinned (.plain (OpenSpec.ofChange cutsMovedSpec)) cutsMovedCard

/-- THE SECOND FORM's CARD OF 'straitlaw22.CutsFind'. -/
def cutsFindUptoCard : Claim7 := { stood := { row := cutsFindUptoRow, standIns := [], harness := (true, "6b072769c8bef9739bddd2be616c1b8b409e6737b899805b608e370b1a17cde9"), looks := false }, kinds := [], alts := [], laidByText := true, laidKinds := [.data], laidTests := true, laidLooks := .later }
def CutsFindUptoCardSaid : Prop := Claim7.holds Tryz.pinned (.plain (OpenSpec.upto cutsFindSpec)) cutsFindUptoCard

/-- THE SECOND FORM's CARD OF 'straitlaw10.MeetTurns'. -/
def meetTurnsUptoCard : Claim7 := { stood := { row := meetTurnsUptoRow, standIns := [], harness := (true, "6b072769c8bef9739bddd2be616c1b8b409e6737b899805b608e370b1a17cde9"), looks := false }, kinds := [], alts := [], laidByText := true, laidKinds := [.data], laidTests := true, laidLooks := .later }
def MeetTurnsUptoCardSaid : Prop := Claim7.holds Tryz.pinned (.plain (OpenSpec.upto meetTurnsSpec)) meetTurnsUptoCard

/-- THE SECOND FORM's CARD OF 'straitlaw10.MeetLies'. -/
def meetLiesUptoCard : Claim7 := { stood := { row := meetLiesUptoRow, standIns := [], harness := (true, "6b072769c8bef9739bddd2be616c1b8b409e6737b899805b608e370b1a17cde9"), looks := false }, kinds := [], alts := [], laidByText := true, laidKinds := [.data], laidTests := true, laidLooks := .later }
def MeetLiesUptoCardSaid : Prop := Claim7.holds Tryz.pinned (.plain (OpenSpec.upto meetLiesSpec)) meetLiesUptoCard

/-- THE SECOND FORM's CARD OF 'straitlaw10.MeetHeights'. -/
def meetHeightsUptoCard : Claim7 := { stood := { row := meetHeightsUptoRow, standIns := [], harness := (true, "6b072769c8bef9739bddd2be616c1b8b409e6737b899805b608e370b1a17cde9"), looks := false }, kinds := [], alts := [], laidByText := true, laidKinds := [.data], laidTests := true, laidLooks := .later }
def MeetHeightsUptoCardSaid : Prop := Claim7.holds Tryz.pinned (.plain (OpenSpec.upto meetHeightsSpec)) meetHeightsUptoCard

/-- THE SECOND FORM's CARD OF 'straitlaw10.MeetAll'. -/
def meetAllUptoCard : Claim7 := { stood := { row := meetAllUptoRow, standIns := [], harness := (true, "6b072769c8bef9739bddd2be616c1b8b409e6737b899805b608e370b1a17cde9"), looks := false }, kinds := [], alts := [], laidByText := true, laidKinds := [.data], laidTests := true, laidLooks := .later }
def MeetAllUptoCardSaid : Prop := Claim7.holds Tryz.pinned (.plain (OpenSpec.upto meetAllSpec)) meetAllUptoCard

/-- THE SECOND FORM's CARD OF 'straitlaw23.LevelsFind'. -/
def levelsFindUptoCard : Claim7 := { stood := { row := levelsFindUptoRow, standIns := [], harness := (true, "6b072769c8bef9739bddd2be616c1b8b409e6737b899805b608e370b1a17cde9"), looks := false }, kinds := [], alts := [], laidByText := true, laidKinds := [.data], laidTests := true, laidLooks := .later }
def LevelsFindUptoCardSaid : Prop := Claim7.holds Tryz.pinned (.plain (OpenSpec.upto levelsFindSpec)) levelsFindUptoCard

/-- THE SECOND FORM's CARD OF 'straitlaw23.LevelsOrder'. -/
def levelsOrderUptoCard : Claim7 := { stood := { row := levelsOrderUptoRow, standIns := [], harness := (true, "6b072769c8bef9739bddd2be616c1b8b409e6737b899805b608e370b1a17cde9"), looks := false }, kinds := [], alts := [], laidByText := true, laidKinds := [.data], laidTests := true, laidLooks := .later }
def LevelsOrderUptoCardSaid : Prop := Claim7.holds Tryz.pinned (.plain (OpenSpec.upto levelsOrderSpec)) levelsOrderUptoCard

/-- THE SECOND FORM's CARD OF 'straitlaw23.LevelsRise'. -/
def levelsRiseUptoCard : Claim7 := { stood := { row := levelsRiseUptoRow, standIns := [], harness := (true, "6b072769c8bef9739bddd2be616c1b8b409e6737b899805b608e370b1a17cde9"), looks := false }, kinds := [], alts := [], laidByText := true, laidKinds := [.data], laidTests := true, laidLooks := .later }
def LevelsRiseUptoCardSaid : Prop := Claim7.holds Tryz.pinned (.plain (OpenSpec.upto levelsRiseSpec)) levelsRiseUptoCard

/-- THE SECOND FORM's CARD OF 'straitlaw22.CutsTells'. -/
def cutsTellsUptoCard : Claim7 := { stood := { row := cutsTellsUptoRow, standIns := [], harness := (true, "6b072769c8bef9739bddd2be616c1b8b409e6737b899805b608e370b1a17cde9"), looks := false }, kinds := [], alts := [], laidByText := true, laidKinds := [.data], laidTests := true, laidLooks := .later }
def CutsTellsUptoCardSaid : Prop := Claim7.holds Tryz.pinned (.plain (OpenSpec.upto cutsTellsSpec)) cutsTellsUptoCard

/-- THE SECOND FORM's CARD OF 'straitlaw22.CutsApart'. -/
def cutsApartUptoCard : Claim7 := { stood := { row := cutsApartUptoRow, standIns := [], harness := (true, "6b072769c8bef9739bddd2be616c1b8b409e6737b899805b608e370b1a17cde9"), looks := false }, kinds := [], alts := [], laidByText := true, laidKinds := [.data], laidTests := true, laidLooks := .later }
def CutsApartUptoCardSaid : Prop := Claim7.holds Tryz.pinned (.plain (OpenSpec.upto cutsApartSpec)) cutsApartUptoCard

/-- THE SECOND FORM's CARD OF 'straitlaw22.CutsMore'. -/
def cutsMoreUptoCard : Claim7 := { stood := { row := cutsMoreUptoRow, standIns := [], harness := (true, "6b072769c8bef9739bddd2be616c1b8b409e6737b899805b608e370b1a17cde9"), looks := false }, kinds := [], alts := [], laidByText := true, laidKinds := [.data], laidTests := true, laidLooks := .later }
def CutsMoreUptoCardSaid : Prop := Claim7.holds Tryz.pinned (.plain (OpenSpec.upto cutsMoreSpec)) cutsMoreUptoCard

/-- THE SECOND FORM's CARD OF 'straitlaw22.CutsMoved'. -/
def cutsMovedUptoCard : Claim7 := { stood := { row := cutsMovedUptoRow, standIns := [], harness := (true, "6b072769c8bef9739bddd2be616c1b8b409e6737b899805b608e370b1a17cde9"), looks := false }, kinds := [], alts := [], laidByText := true, laidKinds := [.data], laidTests := true, laidLooks := .later }
def CutsMovedUptoCardSaid : Prop := Claim7.holds Tryz.pinned (.plain (OpenSpec.upto cutsMovedSpec)) cutsMovedUptoCard
end Rows
end Go.Proofs.YtfkejnlohkgbgaaGreatDoor
