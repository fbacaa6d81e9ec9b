/-
  NARROWER THAN 'FOR EVERY INPUT', by the rows' own cells (each row's printed sentence says how): CutsFind: laid · MeetTurns: laid · MeetLies: laid · MeetHeights: laid · MeetAll: laid · LevelsFind: laid · LevelsOrder: laid · LevelsRise: laid · CutsTells: laid · CutsApart: laid · CutsMore: laid · CutsMoved: laid.
  DERIVED. THE GIVEN ROWS OF THIS SEAT. 12 by the template 'for every input the law returns true; each argument reads behind the call as it read before'; 0 by the template 'total and deterministic' (their statements: YtfkejnlohkgbgaaGreatDoorTotals.lean).
  GIVEN WITH THE SEED: the statements are not yours to turn. If you find one false, say at which input.
  Laid BY PROGRAM, IN A SANDBOX (cutbox-rows.mjs): the forced cells as the released guide's own fill.sh prints them over the translation 697ce810e773bf05… (all of the seat's roots in one cut). By AI agents, Wed Nov 11 2026. No macro, syntax, notation, axiom, sorry.
-/
import Derived.Test.YtfkejnlohkgbgaaGreatDoorChecked
import GoSem.Claim
import GoSem.ClaimJoined
import GoSem.ClaimMapViews
import Derived.JoinedTies
import Derived.KernelRfl
namespace Go.Proofs.YtfkejnlohkgbgaaGreatDoor
/- THE CELL 'sum', in the pinned program and in every row, IS THE sha256 OF THE DUMP (.gsa) THAT YtfkejnlohkgbgaaGreatDoorProg.lean LOADS. Nothing in Lean hashes anything: it is a label: what it is worth is what the hold of that sum in a sandbox is worth. -/
noncomputable def Tryz.pinned : Pinned := { name := "ytfkejnlohkgbgaagreatdoor", sum := "697ce810e773bf054bd1032cf7f78a0bdddb9b8ef809ee0474e49c1efb14517d", checked := Tryz.checked }
namespace Rows
def none {H : Type} : Left H := { results := [], args := [] }

/- WHAT THE LISTED PACKAGE-LEVEL VARIABLES READ AS WHEN THE CALL BEGINS. Each datum BY PROGRAM (the guide's laid-datum.mjs) off the statement by which the dump's own 'gosem.cut.vars' lays the variable. In a bare row this is a premise. The card (YtfkejnlohkgbgaaGreatDoorCards.lean) ties it to the program's text. -/
def laid_math_bits_deBruijn64tab {H : Type} : DataW H := .agg [.lit (.int .u8 0), .lit (.int .u8 1), .lit (.int .u8 56), .lit (.int .u8 2), .lit (.int .u8 57), .lit (.int .u8 49), .lit (.int .u8 28), .lit (.int .u8 3), .lit (.int .u8 61), .lit (.int .u8 58), .lit (.int .u8 42), .lit (.int .u8 50), .lit (.int .u8 38), .lit (.int .u8 29), .lit (.int .u8 17), .lit (.int .u8 4), .lit (.int .u8 62), .lit (.int .u8 47), .lit (.int .u8 59), .lit (.int .u8 36), .lit (.int .u8 45), .lit (.int .u8 43), .lit (.int .u8 51), .lit (.int .u8 22), .lit (.int .u8 53), .lit (.int .u8 39), .lit (.int .u8 33), .lit (.int .u8 30), .lit (.int .u8 24), .lit (.int .u8 18), .lit (.int .u8 12), .lit (.int .u8 5), .lit (.int .u8 63), .lit (.int .u8 55), .lit (.int .u8 48), .lit (.int .u8 27), .lit (.int .u8 60), .lit (.int .u8 41), .lit (.int .u8 37), .lit (.int .u8 16), .lit (.int .u8 46), .lit (.int .u8 35), .lit (.int .u8 44), .lit (.int .u8 21), .lit (.int .u8 52), .lit (.int .u8 32), .lit (.int .u8 23), .lit (.int .u8 11), .lit (.int .u8 54), .lit (.int .u8 26), .lit (.int .u8 40), .lit (.int .u8 15), .lit (.int .u8 34), .lit (.int .u8 20), .lit (.int .u8 31), .lit (.int .u8 10), .lit (.int .u8 25), .lit (.int .u8 14), .lit (.int .u8 19), .lit (.int .u8 9), .lit (.int .u8 13), .lit (.int .u8 8), .lit (.int .u8 7), .lit (.int .u8 6)]

/-- 'straitlaw22.CutsFind': WHATEVER THE INPUT: true; the input reads as it did. -/
def cutsFindSpec : ChangeSpec := { name := "cutsFind", fn := fun _ => fun
  | [d] => { results := [.lit (.bool true)], args := [d] }
  | _ => none }
def cutsFindRow : OpenClaim := { program := "ytfkejnlohkgbgaagreatdoor", sum := "697ce810e773bf054bd1032cf7f78a0bdddb9b8ef809ee0474e49c1efb14517d", func := "strait/straitlaw22.CutsFind", spec := "cutsFind", inPlace := ["math/bits.Add64"], unfollowed := true, recurses := true, named := ["math/bits.deBruijn64tab"], apart := false, laid := [("math/bits.deBruijn64tab", laid_math_bits_deBruijn64tab)] }
def CutsFindSaid : Prop := cutsFindRow.holds Tryz.pinned (OpenSpec.ofChange cutsFindSpec)

/-- ITS FALSE NEIGHBOUR: 'it returns false'. Refute it at one input. -/
def cutsFindWrong : ChangeSpec := { name := "cutsFind", fn := fun _ => fun
  | [d] => { results := [.lit (.bool false)], args := [d] }
  | _ => none }
def CutsFindWrongFalsely : Prop := cutsFindRow.holds Tryz.pinned (OpenSpec.ofChange cutsFindWrong)

/-- 'straitlaw10.MeetTurns': WHATEVER THE INPUT: true; the input reads as it did. -/
def meetTurnsSpec : ChangeSpec := { name := "meetTurns", fn := fun _ => fun
  | [d1, d2, d3, d4, d5] => { results := [.lit (.bool true)], args := [d1, d2, d3, d4, d5] }
  | _ => none }
def meetTurnsRow : OpenClaim := { program := "ytfkejnlohkgbgaagreatdoor", sum := "697ce810e773bf054bd1032cf7f78a0bdddb9b8ef809ee0474e49c1efb14517d", func := "strait/straitlaw10.MeetTurns", spec := "meetTurns", inPlace := ["math/bits.Add64"], unfollowed := true, recurses := true, named := ["math/bits.deBruijn64tab"], apart := false, laid := [("math/bits.deBruijn64tab", laid_math_bits_deBruijn64tab)] }
def MeetTurnsSaid : Prop := meetTurnsRow.holds Tryz.pinned (OpenSpec.ofChange meetTurnsSpec)

/-- ITS FALSE NEIGHBOUR: 'it returns false'. Refute it at one input. -/
def meetTurnsWrong : ChangeSpec := { name := "meetTurns", fn := fun _ => fun
  | [d1, d2, d3, d4, d5] => { results := [.lit (.bool false)], args := [d1, d2, d3, d4, d5] }
  | _ => none }
def MeetTurnsWrongFalsely : Prop := meetTurnsRow.holds Tryz.pinned (OpenSpec.ofChange meetTurnsWrong)

/-- 'straitlaw10.MeetLies': WHATEVER THE INPUT: true; the input reads as it did. -/
def meetLiesSpec : ChangeSpec := { name := "meetLies", fn := fun _ => fun
  | [d1, d2, d3, d4] => { results := [.lit (.bool true)], args := [d1, d2, d3, d4] }
  | _ => none }
def meetLiesRow : OpenClaim := { program := "ytfkejnlohkgbgaagreatdoor", sum := "697ce810e773bf054bd1032cf7f78a0bdddb9b8ef809ee0474e49c1efb14517d", func := "strait/straitlaw10.MeetLies", spec := "meetLies", inPlace := ["math/bits.Add64"], unfollowed := true, recurses := true, named := ["math/bits.deBruijn64tab"], apart := false, laid := [("math/bits.deBruijn64tab", laid_math_bits_deBruijn64tab)] }
def MeetLiesSaid : Prop := meetLiesRow.holds Tryz.pinned (OpenSpec.ofChange meetLiesSpec)

/-- ITS FALSE NEIGHBOUR: 'it returns false'. Refute it at one input. -/
def meetLiesWrong : ChangeSpec := { name := "meetLies", fn := fun _ => fun
  | [d1, d2, d3, d4] => { results := [.lit (.bool false)], args := [d1, d2, d3, d4] }
  | _ => none }
def MeetLiesWrongFalsely : Prop := meetLiesRow.holds Tryz.pinned (OpenSpec.ofChange meetLiesWrong)

/-- 'straitlaw10.MeetHeights': WHATEVER THE INPUT: true; the input reads as it did. -/
def meetHeightsSpec : ChangeSpec := { name := "meetHeights", fn := fun _ => fun
  | [d1, d2, d3] => { results := [.lit (.bool true)], args := [d1, d2, d3] }
  | _ => none }
def meetHeightsRow : OpenClaim := { program := "ytfkejnlohkgbgaagreatdoor", sum := "697ce810e773bf054bd1032cf7f78a0bdddb9b8ef809ee0474e49c1efb14517d", func := "strait/straitlaw10.MeetHeights", spec := "meetHeights", inPlace := ["math/bits.Add64"], unfollowed := true, recurses := true, named := ["math/bits.deBruijn64tab"], apart := false, laid := [("math/bits.deBruijn64tab", laid_math_bits_deBruijn64tab)] }
def MeetHeightsSaid : Prop := meetHeightsRow.holds Tryz.pinned (OpenSpec.ofChange meetHeightsSpec)

/-- ITS FALSE NEIGHBOUR: 'it returns false'. Refute it at one input. -/
def meetHeightsWrong : ChangeSpec := { name := "meetHeights", fn := fun _ => fun
  | [d1, d2, d3] => { results := [.lit (.bool false)], args := [d1, d2, d3] }
  | _ => none }
def MeetHeightsWrongFalsely : Prop := meetHeightsRow.holds Tryz.pinned (OpenSpec.ofChange meetHeightsWrong)

/-- 'straitlaw10.MeetAll': WHATEVER THE INPUT: true; the input reads as it did. -/
def meetAllSpec : ChangeSpec := { name := "meetAll", fn := fun _ => fun
  | [d1, d2] => { results := [.lit (.bool true)], args := [d1, d2] }
  | _ => none }
def meetAllRow : OpenClaim := { program := "ytfkejnlohkgbgaagreatdoor", sum := "697ce810e773bf054bd1032cf7f78a0bdddb9b8ef809ee0474e49c1efb14517d", func := "strait/straitlaw10.MeetAll", spec := "meetAll", inPlace := ["math/bits.Add64"], unfollowed := true, recurses := true, named := ["math/bits.deBruijn64tab"], apart := false, laid := [("math/bits.deBruijn64tab", laid_math_bits_deBruijn64tab)] }
def MeetAllSaid : Prop := meetAllRow.holds Tryz.pinned (OpenSpec.ofChange meetAllSpec)

/-- ITS FALSE NEIGHBOUR: 'it returns false'. Refute it at one input. -/
def meetAllWrong : ChangeSpec := { name := "meetAll", fn := fun _ => fun
  | [d1, d2] => { results := [.lit (.bool false)], args := [d1, d2] }
  | _ => none }
def MeetAllWrongFalsely : Prop := meetAllRow.holds Tryz.pinned (OpenSpec.ofChange meetAllWrong)

/-- 'straitlaw23.LevelsFind': WHATEVER THE INPUT: true; the input reads as it did. -/
def levelsFindSpec : ChangeSpec := { name := "levelsFind", fn := fun _ => fun
  | [d1, d2, d3, d4, d5, d6] => { results := [.lit (.bool true)], args := [d1, d2, d3, d4, d5, d6] }
  | _ => none }
def levelsFindRow : OpenClaim := { program := "ytfkejnlohkgbgaagreatdoor", sum := "697ce810e773bf054bd1032cf7f78a0bdddb9b8ef809ee0474e49c1efb14517d", func := "strait/straitlaw23.LevelsFind", spec := "levelsFind", inPlace := ["math/bits.Add64"], unfollowed := true, recurses := true, named := ["math/bits.deBruijn64tab"], apart := false, laid := [("math/bits.deBruijn64tab", laid_math_bits_deBruijn64tab)] }
def LevelsFindSaid : Prop := levelsFindRow.holds Tryz.pinned (OpenSpec.ofChange levelsFindSpec)

/-- ITS FALSE NEIGHBOUR: 'it returns false'. Refute it at one input. -/
def levelsFindWrong : ChangeSpec := { name := "levelsFind", fn := fun _ => fun
  | [d1, d2, d3, d4, d5, d6] => { results := [.lit (.bool false)], args := [d1, d2, d3, d4, d5, d6] }
  | _ => none }
def LevelsFindWrongFalsely : Prop := levelsFindRow.holds Tryz.pinned (OpenSpec.ofChange levelsFindWrong)

/-- 'straitlaw23.LevelsOrder': WHATEVER THE INPUT: true; the input reads as it did. -/
def levelsOrderSpec : ChangeSpec := { name := "levelsOrder", fn := fun _ => fun
  | [d1, d2, d3, d4, d5] => { results := [.lit (.bool true)], args := [d1, d2, d3, d4, d5] }
  | _ => none }
def levelsOrderRow : OpenClaim := { program := "ytfkejnlohkgbgaagreatdoor", sum := "697ce810e773bf054bd1032cf7f78a0bdddb9b8ef809ee0474e49c1efb14517d", func := "strait/straitlaw23.LevelsOrder", spec := "levelsOrder", inPlace := ["math/bits.Add64"], unfollowed := true, recurses := true, named := ["math/bits.deBruijn64tab"], apart := false, laid := [("math/bits.deBruijn64tab", laid_math_bits_deBruijn64tab)] }
def LevelsOrderSaid : Prop := levelsOrderRow.holds Tryz.pinned (OpenSpec.ofChange levelsOrderSpec)

/-- ITS FALSE NEIGHBOUR: 'it returns false'. Refute it at one input. -/
def levelsOrderWrong : ChangeSpec := { name := "levelsOrder", fn := fun _ => fun
  | [d1, d2, d3, d4, d5] => { results := [.lit (.bool false)], args := [d1, d2, d3, d4, d5] }
  | _ => none }
def LevelsOrderWrongFalsely : Prop := levelsOrderRow.holds Tryz.pinned (OpenSpec.ofChange levelsOrderWrong)

/-- 'straitlaw23.LevelsRise': WHATEVER THE INPUT: true; the input reads as it did. -/
def levelsRiseSpec : ChangeSpec := { name := "levelsRise", fn := fun _ => fun
  | [d1, d2, d3] => { results := [.lit (.bool true)], args := [d1, d2, d3] }
  | _ => none }
def levelsRiseRow : OpenClaim := { program := "ytfkejnlohkgbgaagreatdoor", sum := "697ce810e773bf054bd1032cf7f78a0bdddb9b8ef809ee0474e49c1efb14517d", func := "strait/straitlaw23.LevelsRise", spec := "levelsRise", inPlace := ["math/bits.Add64"], unfollowed := true, recurses := true, named := ["math/bits.deBruijn64tab"], apart := false, laid := [("math/bits.deBruijn64tab", laid_math_bits_deBruijn64tab)] }
def LevelsRiseSaid : Prop := levelsRiseRow.holds Tryz.pinned (OpenSpec.ofChange levelsRiseSpec)

/-- ITS FALSE NEIGHBOUR: 'it returns false'. Refute it at one input. -/
def levelsRiseWrong : ChangeSpec := { name := "levelsRise", fn := fun _ => fun
  | [d1, d2, d3] => { results := [.lit (.bool false)], args := [d1, d2, d3] }
  | _ => none }
def LevelsRiseWrongFalsely : Prop := levelsRiseRow.holds Tryz.pinned (OpenSpec.ofChange levelsRiseWrong)

/-- 'straitlaw22.CutsTells': WHATEVER THE INPUT: true; the input reads as it did. -/
def cutsTellsSpec : ChangeSpec := { name := "cutsTells", fn := fun _ => fun
  | [d1, d2, d3, d4] => { results := [.lit (.bool true)], args := [d1, d2, d3, d4] }
  | _ => none }
def cutsTellsRow : OpenClaim := { program := "ytfkejnlohkgbgaagreatdoor", sum := "697ce810e773bf054bd1032cf7f78a0bdddb9b8ef809ee0474e49c1efb14517d", func := "strait/straitlaw22.CutsTells", spec := "cutsTells", inPlace := ["math/bits.Add64"], unfollowed := true, recurses := true, named := ["math/bits.deBruijn64tab"], apart := false, laid := [("math/bits.deBruijn64tab", laid_math_bits_deBruijn64tab)] }
def CutsTellsSaid : Prop := cutsTellsRow.holds Tryz.pinned (OpenSpec.ofChange cutsTellsSpec)

/-- ITS FALSE NEIGHBOUR: 'it returns false'. Refute it at one input. -/
def cutsTellsWrong : ChangeSpec := { name := "cutsTells", fn := fun _ => fun
  | [d1, d2, d3, d4] => { results := [.lit (.bool false)], args := [d1, d2, d3, d4] }
  | _ => none }
def CutsTellsWrongFalsely : Prop := cutsTellsRow.holds Tryz.pinned (OpenSpec.ofChange cutsTellsWrong)

/-- 'straitlaw22.CutsApart': WHATEVER THE INPUT: true; the input reads as it did. -/
def cutsApartSpec : ChangeSpec := { name := "cutsApart", fn := fun _ => fun
  | [d1, d2, d3, d4, d5] => { results := [.lit (.bool true)], args := [d1, d2, d3, d4, d5] }
  | _ => none }
def cutsApartRow : OpenClaim := { program := "ytfkejnlohkgbgaagreatdoor", sum := "697ce810e773bf054bd1032cf7f78a0bdddb9b8ef809ee0474e49c1efb14517d", func := "strait/straitlaw22.CutsApart", spec := "cutsApart", inPlace := ["math/bits.Add64"], unfollowed := true, recurses := true, named := ["math/bits.deBruijn64tab"], apart := false, laid := [("math/bits.deBruijn64tab", laid_math_bits_deBruijn64tab)] }
def CutsApartSaid : Prop := cutsApartRow.holds Tryz.pinned (OpenSpec.ofChange cutsApartSpec)

/-- ITS FALSE NEIGHBOUR: 'it returns false'. Refute it at one input. -/
def cutsApartWrong : ChangeSpec := { name := "cutsApart", fn := fun _ => fun
  | [d1, d2, d3, d4, d5] => { results := [.lit (.bool false)], args := [d1, d2, d3, d4, d5] }
  | _ => none }
def CutsApartWrongFalsely : Prop := cutsApartRow.holds Tryz.pinned (OpenSpec.ofChange cutsApartWrong)

/-- 'straitlaw22.CutsMore': WHATEVER THE INPUT: true; the input reads as it did. -/
def cutsMoreSpec : ChangeSpec := { name := "cutsMore", fn := fun _ => fun
  | [d1, d2, d3] => { results := [.lit (.bool true)], args := [d1, d2, d3] }
  | _ => none }
def cutsMoreRow : OpenClaim := { program := "ytfkejnlohkgbgaagreatdoor", sum := "697ce810e773bf054bd1032cf7f78a0bdddb9b8ef809ee0474e49c1efb14517d", func := "strait/straitlaw22.CutsMore", spec := "cutsMore", inPlace := ["math/bits.Add64"], unfollowed := true, recurses := true, named := ["math/bits.deBruijn64tab"], apart := false, laid := [("math/bits.deBruijn64tab", laid_math_bits_deBruijn64tab)] }
def CutsMoreSaid : Prop := cutsMoreRow.holds Tryz.pinned (OpenSpec.ofChange cutsMoreSpec)

/-- ITS FALSE NEIGHBOUR: 'it returns false'. Refute it at one input. -/
def cutsMoreWrong : ChangeSpec := { name := "cutsMore", fn := fun _ => fun
  | [d1, d2, d3] => { results := [.lit (.bool false)], args := [d1, d2, d3] }
  | _ => none }
def CutsMoreWrongFalsely : Prop := cutsMoreRow.holds Tryz.pinned (OpenSpec.ofChange cutsMoreWrong)

/-- 'straitlaw22.CutsMoved': WHATEVER THE INPUT: true; the input reads as it did. -/
def cutsMovedSpec : ChangeSpec := { name := "cutsMoved", fn := fun _ => fun
  | [d1, d2, d3] => { results := [.lit (.bool true)], args := [d1, d2, d3] }
  | _ => none }
def cutsMovedRow : OpenClaim := { program := "ytfkejnlohkgbgaagreatdoor", sum := "697ce810e773bf054bd1032cf7f78a0bdddb9b8ef809ee0474e49c1efb14517d", func := "strait/straitlaw22.CutsMoved", spec := "cutsMoved", inPlace := ["math/bits.Add64"], unfollowed := true, recurses := true, named := ["math/bits.deBruijn64tab"], apart := false, laid := [("math/bits.deBruijn64tab", laid_math_bits_deBruijn64tab)] }
def CutsMovedSaid : Prop := cutsMovedRow.holds Tryz.pinned (OpenSpec.ofChange cutsMovedSpec)

/-- ITS FALSE NEIGHBOUR: 'it returns false'. Refute it at one input. -/
def cutsMovedWrong : ChangeSpec := { name := "cutsMoved", fn := fun _ => fun
  | [d1, d2, d3] => { results := [.lit (.bool false)], args := [d1, d2, d3] }
  | _ => none }
def CutsMovedWrongFalsely : Prop := cutsMovedRow.holds Tryz.pinned (OpenSpec.ofChange cutsMovedWrong)

/- THE SECOND FORM. 'bulk': how many values and letters a reading holds, each counted each time it is reached (what is shared counts as often as it is met; a slice's spare places count too). A statement '..UptoSaid' is the law's where the arguments, and the package variables that the reading takes, are together of bulk at most 1048576: NARROWER than '..Said'. Prove '..Said' where nothing that the law and all that it calls make is longer than what came in: it says more and counts as full. Else prove '..UptoSaid'. A law counts once. -/
mutual
def uptoBulk {H : Type} : DataW H → Nat
  | .lit (.string bytes) => bytes.length + 1
  | .lit _ => 1
  | .nil => 1
  | .ptr d => uptoBulk d + 1
  | .slice elems spare => uptoBulkAll elems + uptoBulkAll spare + 1
  | .agg parts => uptoBulkAll parts + 1
  | .iface _ d => uptoBulk d + 1
  | .map entries => uptoBulkEntries entries + 1
  | .held _ => 1
def uptoBulkAll {H : Type} : List (DataW H) → Nat
  | [] => 0
  | d :: r => uptoBulk d + uptoBulkAll r
def uptoBulkEntries {H : Type} : List (Lit × DataW H) → Nat
  | [] => 0
  | x :: r => uptoBulkEntry x + uptoBulkEntries r
def uptoBulkEntry {H : Type} : Lit × DataW H → Nat
  | (.string bytes, d) => bytes.length + uptoBulk d + 1
  | (_, d) => uptoBulk d + 1
 end
def uptoSmall : (H : Type) → List (DataW H) → Bool := fun _ ds => decide (uptoBulkAll ds ≤ 1048576)
def OpenSpec.upto (s : _root_.Go.ChangeSpec) : _root_.Go.OpenSpec := { _root_.Go.OpenSpec.ofChange s with cond := some uptoSmall }

/-- 'straitlaw22.CutsFind', WHERE WHAT IT READS IS OF BULK AT MOST 1048576: true; the input reads as it did. -/
def cutsFindUptoRow : OpenClaim := { program := "ytfkejnlohkgbgaagreatdoor", sum := "697ce810e773bf054bd1032cf7f78a0bdddb9b8ef809ee0474e49c1efb14517d", func := "strait/straitlaw22.CutsFind", spec := "cutsFind", inPlace := ["math/bits.Add64"], unfollowed := true, recurses := true, named := ["math/bits.deBruijn64tab"], apart := false, laid := [("math/bits.deBruijn64tab", laid_math_bits_deBruijn64tab)], narrowed := true }
def CutsFindUptoSaid : Prop := cutsFindUptoRow.holds Tryz.pinned (OpenSpec.upto cutsFindSpec)

/-- 'straitlaw10.MeetTurns', WHERE WHAT IT READS IS OF BULK AT MOST 1048576: true; the input reads as it did. -/
def meetTurnsUptoRow : OpenClaim := { program := "ytfkejnlohkgbgaagreatdoor", sum := "697ce810e773bf054bd1032cf7f78a0bdddb9b8ef809ee0474e49c1efb14517d", func := "strait/straitlaw10.MeetTurns", spec := "meetTurns", inPlace := ["math/bits.Add64"], unfollowed := true, recurses := true, named := ["math/bits.deBruijn64tab"], apart := false, laid := [("math/bits.deBruijn64tab", laid_math_bits_deBruijn64tab)], narrowed := true }
def MeetTurnsUptoSaid : Prop := meetTurnsUptoRow.holds Tryz.pinned (OpenSpec.upto meetTurnsSpec)

/-- 'straitlaw10.MeetLies', WHERE WHAT IT READS IS OF BULK AT MOST 1048576: true; the input reads as it did. -/
def meetLiesUptoRow : OpenClaim := { program := "ytfkejnlohkgbgaagreatdoor", sum := "697ce810e773bf054bd1032cf7f78a0bdddb9b8ef809ee0474e49c1efb14517d", func := "strait/straitlaw10.MeetLies", spec := "meetLies", inPlace := ["math/bits.Add64"], unfollowed := true, recurses := true, named := ["math/bits.deBruijn64tab"], apart := false, laid := [("math/bits.deBruijn64tab", laid_math_bits_deBruijn64tab)], narrowed := true }
def MeetLiesUptoSaid : Prop := meetLiesUptoRow.holds Tryz.pinned (OpenSpec.upto meetLiesSpec)

/-- 'straitlaw10.MeetHeights', WHERE WHAT IT READS IS OF BULK AT MOST 1048576: true; the input reads as it did. -/
def meetHeightsUptoRow : OpenClaim := { program := "ytfkejnlohkgbgaagreatdoor", sum := "697ce810e773bf054bd1032cf7f78a0bdddb9b8ef809ee0474e49c1efb14517d", func := "strait/straitlaw10.MeetHeights", spec := "meetHeights", inPlace := ["math/bits.Add64"], unfollowed := true, recurses := true, named := ["math/bits.deBruijn64tab"], apart := false, laid := [("math/bits.deBruijn64tab", laid_math_bits_deBruijn64tab)], narrowed := true }
def MeetHeightsUptoSaid : Prop := meetHeightsUptoRow.holds Tryz.pinned (OpenSpec.upto meetHeightsSpec)

/-- 'straitlaw10.MeetAll', WHERE WHAT IT READS IS OF BULK AT MOST 1048576: true; the input reads as it did. -/
def meetAllUptoRow : OpenClaim := { program := "ytfkejnlohkgbgaagreatdoor", sum := "697ce810e773bf054bd1032cf7f78a0bdddb9b8ef809ee0474e49c1efb14517d", func := "strait/straitlaw10.MeetAll", spec := "meetAll", inPlace := ["math/bits.Add64"], unfollowed := true, recurses := true, named := ["math/bits.deBruijn64tab"], apart := false, laid := [("math/bits.deBruijn64tab", laid_math_bits_deBruijn64tab)], narrowed := true }
def MeetAllUptoSaid : Prop := meetAllUptoRow.holds Tryz.pinned (OpenSpec.upto meetAllSpec)

/-- 'straitlaw23.LevelsFind', WHERE WHAT IT READS IS OF BULK AT MOST 1048576: true; the input reads as it did. -/
def levelsFindUptoRow : OpenClaim := { program := "ytfkejnlohkgbgaagreatdoor", sum := "697ce810e773bf054bd1032cf7f78a0bdddb9b8ef809ee0474e49c1efb14517d", func := "strait/straitlaw23.LevelsFind", spec := "levelsFind", inPlace := ["math/bits.Add64"], unfollowed := true, recurses := true, named := ["math/bits.deBruijn64tab"], apart := false, laid := [("math/bits.deBruijn64tab", laid_math_bits_deBruijn64tab)], narrowed := true }
def LevelsFindUptoSaid : Prop := levelsFindUptoRow.holds Tryz.pinned (OpenSpec.upto levelsFindSpec)

/-- 'straitlaw23.LevelsOrder', WHERE WHAT IT READS IS OF BULK AT MOST 1048576: true; the input reads as it did. -/
def levelsOrderUptoRow : OpenClaim := { program := "ytfkejnlohkgbgaagreatdoor", sum := "697ce810e773bf054bd1032cf7f78a0bdddb9b8ef809ee0474e49c1efb14517d", func := "strait/straitlaw23.LevelsOrder", spec := "levelsOrder", inPlace := ["math/bits.Add64"], unfollowed := true, recurses := true, named := ["math/bits.deBruijn64tab"], apart := false, laid := [("math/bits.deBruijn64tab", laid_math_bits_deBruijn64tab)], narrowed := true }
def LevelsOrderUptoSaid : Prop := levelsOrderUptoRow.holds Tryz.pinned (OpenSpec.upto levelsOrderSpec)

/-- 'straitlaw23.LevelsRise', WHERE WHAT IT READS IS OF BULK AT MOST 1048576: true; the input reads as it did. -/
def levelsRiseUptoRow : OpenClaim := { program := "ytfkejnlohkgbgaagreatdoor", sum := "697ce810e773bf054bd1032cf7f78a0bdddb9b8ef809ee0474e49c1efb14517d", func := "strait/straitlaw23.LevelsRise", spec := "levelsRise", inPlace := ["math/bits.Add64"], unfollowed := true, recurses := true, named := ["math/bits.deBruijn64tab"], apart := false, laid := [("math/bits.deBruijn64tab", laid_math_bits_deBruijn64tab)], narrowed := true }
def LevelsRiseUptoSaid : Prop := levelsRiseUptoRow.holds Tryz.pinned (OpenSpec.upto levelsRiseSpec)

/-- 'straitlaw22.CutsTells', WHERE WHAT IT READS IS OF BULK AT MOST 1048576: true; the input reads as it did. -/
def cutsTellsUptoRow : OpenClaim := { program := "ytfkejnlohkgbgaagreatdoor", sum := "697ce810e773bf054bd1032cf7f78a0bdddb9b8ef809ee0474e49c1efb14517d", func := "strait/straitlaw22.CutsTells", spec := "cutsTells", inPlace := ["math/bits.Add64"], unfollowed := true, recurses := true, named := ["math/bits.deBruijn64tab"], apart := false, laid := [("math/bits.deBruijn64tab", laid_math_bits_deBruijn64tab)], narrowed := true }
def CutsTellsUptoSaid : Prop := cutsTellsUptoRow.holds Tryz.pinned (OpenSpec.upto cutsTellsSpec)

/-- 'straitlaw22.CutsApart', WHERE WHAT IT READS IS OF BULK AT MOST 1048576: true; the input reads as it did. -/
def cutsApartUptoRow : OpenClaim := { program := "ytfkejnlohkgbgaagreatdoor", sum := "697ce810e773bf054bd1032cf7f78a0bdddb9b8ef809ee0474e49c1efb14517d", func := "strait/straitlaw22.CutsApart", spec := "cutsApart", inPlace := ["math/bits.Add64"], unfollowed := true, recurses := true, named := ["math/bits.deBruijn64tab"], apart := false, laid := [("math/bits.deBruijn64tab", laid_math_bits_deBruijn64tab)], narrowed := true }
def CutsApartUptoSaid : Prop := cutsApartUptoRow.holds Tryz.pinned (OpenSpec.upto cutsApartSpec)

/-- 'straitlaw22.CutsMore', WHERE WHAT IT READS IS OF BULK AT MOST 1048576: true; the input reads as it did. -/
def cutsMoreUptoRow : OpenClaim := { program := "ytfkejnlohkgbgaagreatdoor", sum := "697ce810e773bf054bd1032cf7f78a0bdddb9b8ef809ee0474e49c1efb14517d", func := "strait/straitlaw22.CutsMore", spec := "cutsMore", inPlace := ["math/bits.Add64"], unfollowed := true, recurses := true, named := ["math/bits.deBruijn64tab"], apart := false, laid := [("math/bits.deBruijn64tab", laid_math_bits_deBruijn64tab)], narrowed := true }
def CutsMoreUptoSaid : Prop := cutsMoreUptoRow.holds Tryz.pinned (OpenSpec.upto cutsMoreSpec)

/-- 'straitlaw22.CutsMoved', WHERE WHAT IT READS IS OF BULK AT MOST 1048576: true; the input reads as it did. -/
def cutsMovedUptoRow : OpenClaim := { program := "ytfkejnlohkgbgaagreatdoor", sum := "697ce810e773bf054bd1032cf7f78a0bdddb9b8ef809ee0474e49c1efb14517d", func := "strait/straitlaw22.CutsMoved", spec := "cutsMoved", inPlace := ["math/bits.Add64"], unfollowed := true, recurses := true, named := ["math/bits.deBruijn64tab"], apart := false, laid := [("math/bits.deBruijn64tab", laid_math_bits_deBruijn64tab)], narrowed := true }
def CutsMovedUptoSaid : Prop := cutsMovedUptoRow.holds Tryz.pinned (OpenSpec.upto cutsMovedSpec)

end Rows
end Go.Proofs.YtfkejnlohkgbgaaGreatDoor
