/-
  DERIVED. GIVEN WITH THE SEED: THE CARDS: each row of YtalkinejknjidaaGreatDoorRows.lean that lists a variable, with what it lists TIED to the program's text (the seventh form; the later family's looks); each row that meets fmt, with fmt's text TOLD by the authors' own Lean function (tested against real Go, not proved from fmt's source: count such statements apart). THE CARD IS WHAT COUNTS. Prove the row's statement (the work); the ties are given (YtalkinejknjidaaGreatDoorTie.lean); close each card by the builder's one call (the guide's Derived/Test/ToyasCard.lean, 'card_holds'). Laid BY PROGRAM, IN A SANDBOX (cutbox-door.mjs). By AI agents, Wed Nov 11 2026. No macro, syntax, notation, axiom, sorry.
-/
import Derived.Test.YtalkinejknjidaaGreatDoorRows
import GoSem.ClaimSeven
namespace Go.Proofs.YtalkinejknjidaaGreatDoor
namespace Rows

/-- THE TIED CARD OF 'straitlaw23.LevelsRise'. -/
def levelsRiseCard : Claim7 := { stood := { row := levelsRiseRow, standIns := [], harness := (true, "2bcb1c4b11ebc7996808298943174906a341c382926f7cd534c893b1bc631f19"), looks := false }, kinds := [], alts := [], laidByText := true, laidKinds := [.data], laidTests := true, laidLooks := .later }
def LevelsRiseCardSaid : Prop := Claim7.holds Tryz.pinned (.plain (OpenSpec.ofChange levelsRiseSpec)) levelsRiseCard

/-- THE TIED CARD OF 'straitlaw26.JoinsTells'. -/
def joinsTellsCard : Claim7 := { stood := { row := joinsTellsRow, standIns := [], harness := (true, "2bcb1c4b11ebc7996808298943174906a341c382926f7cd534c893b1bc631f19"), looks := false }, kinds := [], alts := [], laidByText := true, laidKinds := [.data], laidTests := true, laidLooks := .later }
def JoinsTellsCardSaid : Prop := Claim7.holds Tryz.pinned (.plain (OpenSpec.ofChange joinsTellsSpec)) joinsTellsCard

/-- THE TIED CARD OF 'straitlaw26.JoinsStraight'. -/
def joinsStraightCard : Claim7 := { stood := { row := joinsStraightRow, standIns := [], harness := (true, "2bcb1c4b11ebc7996808298943174906a341c382926f7cd534c893b1bc631f19"), looks := false }, kinds := [], alts := [], laidByText := true, laidKinds := [.data], laidTests := true, laidLooks := .later }
def JoinsStraightCardSaid : Prop := Claim7.holds Tryz.pinned (.plain (OpenSpec.ofChange joinsStraightSpec)) joinsStraightCard

/-- THE TIED CARD OF 'straitlaw26.JoinsFree'. -/
def joinsFreeCard : Claim7 := { stood := { row := joinsFreeRow, standIns := [], harness := (true, "2bcb1c4b11ebc7996808298943174906a341c382926f7cd534c893b1bc631f19"), looks := false }, kinds := [], alts := [], laidByText := true, laidKinds := [.data], laidTests := true, laidLooks := .later }
def JoinsFreeCardSaid : Prop := Claim7.holds Tryz.pinned (.plain (OpenSpec.ofChange joinsFreeSpec)) joinsFreeCard

/-- THE TIED CARD OF 'straitlaw26.JoinsLengths'. -/
def joinsLengthsCard : Claim7 := { stood := { row := joinsLengthsRow, standIns := [], harness := (true, "2bcb1c4b11ebc7996808298943174906a341c382926f7cd534c893b1bc631f19"), looks := false }, kinds := [], alts := [], laidByText := true, laidKinds := [.data], laidTests := true, laidLooks := .later }
def JoinsLengthsCardSaid : Prop := Claim7.holds Tryz.pinned (.plain (OpenSpec.ofChange joinsLengthsSpec)) joinsLengthsCard

/-- THE TIED CARD OF 'straitlaw26.JoinsFour'. -/
def joinsFourCard : Claim7 := { stood := { row := joinsFourRow, standIns := [], harness := (true, "2bcb1c4b11ebc7996808298943174906a341c382926f7cd534c893b1bc631f19"), looks := false }, kinds := [], alts := [], laidByText := true, laidKinds := [.data], laidTests := true, laidLooks := .later }
def JoinsFourCardSaid : Prop := Claim7.holds Tryz.pinned (.plain (OpenSpec.ofChange joinsFourSpec)) joinsFourCard

/-- THE TIED CARD OF 'straitlaw24.StrataOne'. -/
def strataOneCard : Claim7 := { stood := { row := strataOneRow, standIns := [], harness := (true, "2bcb1c4b11ebc7996808298943174906a341c382926f7cd534c893b1bc631f19"), looks := false }, kinds := [], alts := [], laidByText := true, laidKinds := [.data], laidTests := true, laidLooks := .later }
def StrataOneCardSaid : Prop := Claim7.holds Tryz.pinned (.plain (OpenSpec.ofChange strataOneSpec)) strataOneCard

/-- THE TIED CARD OF 'straitlaw24.StrataSame'. -/
def strataSameCard : Claim7 := { stood := { row := strataSameRow, standIns := [], harness := (true, "2bcb1c4b11ebc7996808298943174906a341c382926f7cd534c893b1bc631f19"), looks := false }, kinds := [], alts := [], laidByText := true, laidKinds := [.data], laidTests := true, laidLooks := .later }
def StrataSameCardSaid : Prop := Claim7.holds Tryz.pinned (.plain (OpenSpec.ofChange strataSameSpec)) strataSameCard

/-- THE TIED CARD OF 'straitlaw24.StrataClosed'. -/
def strataClosedCard : Claim7 := { stood := { row := strataClosedRow, standIns := [], harness := (true, "2bcb1c4b11ebc7996808298943174906a341c382926f7cd534c893b1bc631f19"), looks := false }, kinds := [], alts := [], laidByText := true, laidKinds := [.data], laidTests := true, laidLooks := .later }
def StrataClosedCardSaid : Prop := Claim7.holds Tryz.pinned (.plain (OpenSpec.ofChange strataClosedSpec)) strataClosedCard

/-- THE TIED CARD OF 'straitlaw24.StrataCounts'. -/
def strataCountsCard : Claim7 := { stood := { row := strataCountsRow, standIns := [], harness := (true, "2bcb1c4b11ebc7996808298943174906a341c382926f7cd534c893b1bc631f19"), looks := false }, kinds := [], alts := [], laidByText := true, laidKinds := [.data], laidTests := true, laidLooks := .later }
def StrataCountsCardSaid : Prop := Claim7.holds Tryz.pinned (.plain (OpenSpec.ofChange strataCountsSpec)) strataCountsCard

/-- THE SECOND FORM's CARD OF 'straitlaw23.LevelsRise'. -/
def levelsRiseUptoCard : Claim7 := { stood := { row := levelsRiseUptoRow, standIns := [], harness := (true, "2bcb1c4b11ebc7996808298943174906a341c382926f7cd534c893b1bc631f19"), looks := false }, kinds := [], alts := [], laidByText := true, laidKinds := [.data], laidTests := true, laidLooks := .later }
def LevelsRiseUptoCardSaid : Prop := Claim7.holds Tryz.pinned (.plain (OpenSpec.upto levelsRiseSpec)) levelsRiseUptoCard

/-- THE SECOND FORM's CARD OF 'straitlaw26.JoinsTells'. -/
def joinsTellsUptoCard : Claim7 := { stood := { row := joinsTellsUptoRow, standIns := [], harness := (true, "2bcb1c4b11ebc7996808298943174906a341c382926f7cd534c893b1bc631f19"), looks := false }, kinds := [], alts := [], laidByText := true, laidKinds := [.data], laidTests := true, laidLooks := .later }
def JoinsTellsUptoCardSaid : Prop := Claim7.holds Tryz.pinned (.plain (OpenSpec.upto joinsTellsSpec)) joinsTellsUptoCard

/-- THE SECOND FORM's CARD OF 'straitlaw26.JoinsStraight'. -/
def joinsStraightUptoCard : Claim7 := { stood := { row := joinsStraightUptoRow, standIns := [], harness := (true, "2bcb1c4b11ebc7996808298943174906a341c382926f7cd534c893b1bc631f19"), looks := false }, kinds := [], alts := [], laidByText := true, laidKinds := [.data], laidTests := true, laidLooks := .later }
def JoinsStraightUptoCardSaid : Prop := Claim7.holds Tryz.pinned (.plain (OpenSpec.upto joinsStraightSpec)) joinsStraightUptoCard

/-- THE SECOND FORM's CARD OF 'straitlaw26.JoinsFree'. -/
def joinsFreeUptoCard : Claim7 := { stood := { row := joinsFreeUptoRow, standIns := [], harness := (true, "2bcb1c4b11ebc7996808298943174906a341c382926f7cd534c893b1bc631f19"), looks := false }, kinds := [], alts := [], laidByText := true, laidKinds := [.data], laidTests := true, laidLooks := .later }
def JoinsFreeUptoCardSaid : Prop := Claim7.holds Tryz.pinned (.plain (OpenSpec.upto joinsFreeSpec)) joinsFreeUptoCard

/-- THE SECOND FORM's CARD OF 'straitlaw26.JoinsLengths'. -/
def joinsLengthsUptoCard : Claim7 := { stood := { row := joinsLengthsUptoRow, standIns := [], harness := (true, "2bcb1c4b11ebc7996808298943174906a341c382926f7cd534c893b1bc631f19"), looks := false }, kinds := [], alts := [], laidByText := true, laidKinds := [.data], laidTests := true, laidLooks := .later }
def JoinsLengthsUptoCardSaid : Prop := Claim7.holds Tryz.pinned (.plain (OpenSpec.upto joinsLengthsSpec)) joinsLengthsUptoCard

/-- THE SECOND FORM's CARD OF 'straitlaw26.JoinsFour'. -/
def joinsFourUptoCard : Claim7 := { stood := { row := joinsFourUptoRow, standIns := [], harness := (true, "2bcb1c4b11ebc7996808298943174906a341c382926f7cd534c893b1bc631f19"), looks := false }, kinds := [], alts := [], laidByText := true, laidKinds := [.data], laidTests := true, laidLooks := .later }
def JoinsFourUptoCardSaid : Prop := Claim7.holds Tryz.pinned (.plain (OpenSpec.upto joinsFourSpec)) joinsFourUptoCard

/-- THE SECOND FORM's CARD OF 'straitlaw24.StrataOne'. -/
def strataOneUptoCard : Claim7 := { stood := { row := strataOneUptoRow, standIns := [], harness := (true, "2bcb1c4b11ebc7996808298943174906a341c382926f7cd534c893b1bc631f19"), looks := false }, kinds := [], alts := [], laidByText := true, laidKinds := [.data], laidTests := true, laidLooks := .later }
def StrataOneUptoCardSaid : Prop := Claim7.holds Tryz.pinned (.plain (OpenSpec.upto strataOneSpec)) strataOneUptoCard

/-- THE SECOND FORM's CARD OF 'straitlaw24.StrataSame'. -/
def strataSameUptoCard : Claim7 := { stood := { row := strataSameUptoRow, standIns := [], harness := (true, "2bcb1c4b11ebc7996808298943174906a341c382926f7cd534c893b1bc631f19"), looks := false }, kinds := [], alts := [], laidByText := true, laidKinds := [.data], laidTests := true, laidLooks := .later }
def StrataSameUptoCardSaid : Prop := Claim7.holds Tryz.pinned (.plain (OpenSpec.upto strataSameSpec)) strataSameUptoCard

/-- THE SECOND FORM's CARD OF 'straitlaw24.StrataClosed'. -/
def strataClosedUptoCard : Claim7 := { stood := { row := strataClosedUptoRow, standIns := [], harness := (true, "2bcb1c4b11ebc7996808298943174906a341c382926f7cd534c893b1bc631f19"), looks := false }, kinds := [], alts := [], laidByText := true, laidKinds := [.data], laidTests := true, laidLooks := .later }
def StrataClosedUptoCardSaid : Prop := Claim7.holds Tryz.pinned (.plain (OpenSpec.upto strataClosedSpec)) strataClosedUptoCard

/-- THE SECOND FORM's CARD OF 'straitlaw24.StrataCounts'. -/
def strataCountsUptoCard : Claim7 := { stood := { row := strataCountsUptoRow, standIns := [], harness := (true, "2bcb1c4b11ebc7996808298943174906a341c382926f7cd534c893b1bc631f19"), looks := false }, kinds := [], alts := [], laidByText := true, laidKinds := [.data], laidTests := true, laidLooks := .later }
def StrataCountsUptoCardSaid : Prop := Claim7.holds Tryz.pinned (.plain (OpenSpec.upto strataCountsSpec)) strataCountsUptoCard
end Rows
end Go.Proofs.YtalkinejknjidaaGreatDoor
