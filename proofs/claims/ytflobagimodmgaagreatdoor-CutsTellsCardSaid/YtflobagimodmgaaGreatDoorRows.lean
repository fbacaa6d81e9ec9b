/-
  NARROWER THAN 'FOR EVERY INPUT', by the rows' own cells (each row's printed sentence says how): MinkHull: laid · MinkSums: laid · MinkEdges: laid · MinkWithin: laid · MinkMoved: laid · MinkTells: laid · LevelsRise: laid · CutsTells: laid.
  DERIVED. THE GIVEN ROWS OF THIS SEAT. 8 by the template 'for every input the law returns true; each argument reads behind the call as it read before'; 0 by the template 'total and deterministic' (their statements: YtflobagimodmgaaGreatDoorTotals.lean).
  GIVEN WITH THE SEED: the statements are not yours to turn. If you find one false, say at which input.
  Laid BY PROGRAM, IN A SANDBOX (cutbox-rows.mjs): the forced cells as the released guide's own fill.sh prints them over the translation 74cd94af2df68573… (all of the seat's roots in one cut). By AI agents, Wed Nov 11 2026. No macro, syntax, notation, axiom, sorry.
-/
import Derived.Test.YtflobagimodmgaaGreatDoorChecked
import GoSem.Claim
import GoSem.ClaimJoined
import GoSem.ClaimMapViews
import Derived.JoinedTies
import Derived.KernelRfl
namespace Go.Proofs.YtflobagimodmgaaGreatDoor
/- THE CELL 'sum', in the pinned program and in every row, IS THE sha256 OF THE DUMP (.gsa) THAT YtflobagimodmgaaGreatDoorProg.lean LOADS. Nothing in Lean hashes anything: it is a label: what it is worth is what the hold of that sum in a sandbox is worth. -/
noncomputable def Tryz.pinned : Pinned := { name := "ytflobagimodmgaagreatdoor", sum := "74cd94af2df685730bf850ab06069b2572c091d02ec85a462fc4214ca1ae2496", checked := Tryz.checked }
namespace Rows
def none {H : Type} : Left H := { results := [], args := [] }

/- WHAT THE LISTED PACKAGE-LEVEL VARIABLES READ AS WHEN THE CALL BEGINS. Each datum BY PROGRAM (the guide's laid-datum.mjs) off the statement by which the dump's own 'gosem.cut.vars' lays the variable. In a bare row this is a premise. The card (YtflobagimodmgaaGreatDoorCards.lean) ties it to the program's text. -/
def laid_math_bits_deBruijn64tab {H : Type} : DataW H := .agg [.lit (.int .u8 0), .lit (.int .u8 1), .lit (.int .u8 56), .lit (.int .u8 2), .lit (.int .u8 57), .lit (.int .u8 49), .lit (.int .u8 28), .lit (.int .u8 3), .lit (.int .u8 61), .lit (.int .u8 58), .lit (.int .u8 42), .lit (.int .u8 50), .lit (.int .u8 38), .lit (.int .u8 29), .lit (.int .u8 17), .lit (.int .u8 4), .lit (.int .u8 62), .lit (.int .u8 47), .lit (.int .u8 59), .lit (.int .u8 36), .lit (.int .u8 45), .lit (.int .u8 43), .lit (.int .u8 51), .lit (.int .u8 22), .lit (.int .u8 53), .lit (.int .u8 39), .lit (.int .u8 33), .lit (.int .u8 30), .lit (.int .u8 24), .lit (.int .u8 18), .lit (.int .u8 12), .lit (.int .u8 5), .lit (.int .u8 63), .lit (.int .u8 55), .lit (.int .u8 48), .lit (.int .u8 27), .lit (.int .u8 60), .lit (.int .u8 41), .lit (.int .u8 37), .lit (.int .u8 16), .lit (.int .u8 46), .lit (.int .u8 35), .lit (.int .u8 44), .lit (.int .u8 21), .lit (.int .u8 52), .lit (.int .u8 32), .lit (.int .u8 23), .lit (.int .u8 11), .lit (.int .u8 54), .lit (.int .u8 26), .lit (.int .u8 40), .lit (.int .u8 15), .lit (.int .u8 34), .lit (.int .u8 20), .lit (.int .u8 31), .lit (.int .u8 10), .lit (.int .u8 25), .lit (.int .u8 14), .lit (.int .u8 19), .lit (.int .u8 9), .lit (.int .u8 13), .lit (.int .u8 8), .lit (.int .u8 7), .lit (.int .u8 6)]

/-- 'straitlaw20.MinkHull': WHATEVER THE INPUT: true; the input reads as it did. -/
def minkHullSpec : ChangeSpec := { name := "minkHull", fn := fun _ => fun
  | [d] => { results := [.lit (.bool true)], args := [d] }
  | _ => none }
def minkHullRow : OpenClaim := { program := "ytflobagimodmgaagreatdoor", sum := "74cd94af2df685730bf850ab06069b2572c091d02ec85a462fc4214ca1ae2496", func := "strait/straitlaw20.MinkHull", spec := "minkHull", inPlace := ["math/bits.Add64"], unfollowed := true, recurses := true, named := ["math/bits.deBruijn64tab"], apart := false, laid := [("math/bits.deBruijn64tab", laid_math_bits_deBruijn64tab)] }
def MinkHullSaid : Prop := minkHullRow.holds Tryz.pinned (OpenSpec.ofChange minkHullSpec)

/-- ITS FALSE NEIGHBOUR: 'it returns false'. Refute it at one input. -/
def minkHullWrong : ChangeSpec := { name := "minkHull", fn := fun _ => fun
  | [d] => { results := [.lit (.bool false)], args := [d] }
  | _ => none }
def MinkHullWrongFalsely : Prop := minkHullRow.holds Tryz.pinned (OpenSpec.ofChange minkHullWrong)

/-- 'straitlaw20.MinkSums': WHATEVER THE INPUT: true; the input reads as it did. -/
def minkSumsSpec : ChangeSpec := { name := "minkSums", fn := fun _ => fun
  | [d1, d2, d3, d4] => { results := [.lit (.bool true)], args := [d1, d2, d3, d4] }
  | _ => none }
def minkSumsRow : OpenClaim := { program := "ytflobagimodmgaagreatdoor", sum := "74cd94af2df685730bf850ab06069b2572c091d02ec85a462fc4214ca1ae2496", func := "strait/straitlaw20.MinkSums", spec := "minkSums", inPlace := ["math/bits.Add64"], unfollowed := true, recurses := true, named := ["math/bits.deBruijn64tab"], apart := false, laid := [("math/bits.deBruijn64tab", laid_math_bits_deBruijn64tab)] }
def MinkSumsSaid : Prop := minkSumsRow.holds Tryz.pinned (OpenSpec.ofChange minkSumsSpec)

/-- ITS FALSE NEIGHBOUR: 'it returns false'. Refute it at one input. -/
def minkSumsWrong : ChangeSpec := { name := "minkSums", fn := fun _ => fun
  | [d1, d2, d3, d4] => { results := [.lit (.bool false)], args := [d1, d2, d3, d4] }
  | _ => none }
def MinkSumsWrongFalsely : Prop := minkSumsRow.holds Tryz.pinned (OpenSpec.ofChange minkSumsWrong)

/-- 'straitlaw20.MinkEdges': WHATEVER THE INPUT: true; the input reads as it did. -/
def minkEdgesSpec : ChangeSpec := { name := "minkEdges", fn := fun _ => fun
  | [d1, d2] => { results := [.lit (.bool true)], args := [d1, d2] }
  | _ => none }
def minkEdgesRow : OpenClaim := { program := "ytflobagimodmgaagreatdoor", sum := "74cd94af2df685730bf850ab06069b2572c091d02ec85a462fc4214ca1ae2496", func := "strait/straitlaw20.MinkEdges", spec := "minkEdges", inPlace := ["math/bits.Add64"], unfollowed := true, recurses := true, named := ["math/bits.deBruijn64tab"], apart := false, laid := [("math/bits.deBruijn64tab", laid_math_bits_deBruijn64tab)] }
def MinkEdgesSaid : Prop := minkEdgesRow.holds Tryz.pinned (OpenSpec.ofChange minkEdgesSpec)

/-- ITS FALSE NEIGHBOUR: 'it returns false'. Refute it at one input. -/
def minkEdgesWrong : ChangeSpec := { name := "minkEdges", fn := fun _ => fun
  | [d1, d2] => { results := [.lit (.bool false)], args := [d1, d2] }
  | _ => none }
def MinkEdgesWrongFalsely : Prop := minkEdgesRow.holds Tryz.pinned (OpenSpec.ofChange minkEdgesWrong)

/-- 'straitlaw20.MinkWithin': WHATEVER THE INPUT: true; the input reads as it did. -/
def minkWithinSpec : ChangeSpec := { name := "minkWithin", fn := fun _ => fun
  | [d1, d2, d3] => { results := [.lit (.bool true)], args := [d1, d2, d3] }
  | _ => none }
def minkWithinRow : OpenClaim := { program := "ytflobagimodmgaagreatdoor", sum := "74cd94af2df685730bf850ab06069b2572c091d02ec85a462fc4214ca1ae2496", func := "strait/straitlaw20.MinkWithin", spec := "minkWithin", inPlace := ["math/bits.Add64"], unfollowed := true, recurses := true, named := ["math/bits.deBruijn64tab"], apart := false, laid := [("math/bits.deBruijn64tab", laid_math_bits_deBruijn64tab)] }
def MinkWithinSaid : Prop := minkWithinRow.holds Tryz.pinned (OpenSpec.ofChange minkWithinSpec)

/-- ITS FALSE NEIGHBOUR: 'it returns false'. Refute it at one input. -/
def minkWithinWrong : ChangeSpec := { name := "minkWithin", fn := fun _ => fun
  | [d1, d2, d3] => { results := [.lit (.bool false)], args := [d1, d2, d3] }
  | _ => none }
def MinkWithinWrongFalsely : Prop := minkWithinRow.holds Tryz.pinned (OpenSpec.ofChange minkWithinWrong)

/-- 'straitlaw20.MinkMoved': WHATEVER THE INPUT: true; the input reads as it did. -/
def minkMovedSpec : ChangeSpec := { name := "minkMoved", fn := fun _ => fun
  | [d1, d2, d3] => { results := [.lit (.bool true)], args := [d1, d2, d3] }
  | _ => none }
def minkMovedRow : OpenClaim := { program := "ytflobagimodmgaagreatdoor", sum := "74cd94af2df685730bf850ab06069b2572c091d02ec85a462fc4214ca1ae2496", func := "strait/straitlaw20.MinkMoved", spec := "minkMoved", inPlace := ["math/bits.Add64"], unfollowed := true, recurses := true, named := ["math/bits.deBruijn64tab"], apart := false, laid := [("math/bits.deBruijn64tab", laid_math_bits_deBruijn64tab)] }
def MinkMovedSaid : Prop := minkMovedRow.holds Tryz.pinned (OpenSpec.ofChange minkMovedSpec)

/-- ITS FALSE NEIGHBOUR: 'it returns false'. Refute it at one input. -/
def minkMovedWrong : ChangeSpec := { name := "minkMoved", fn := fun _ => fun
  | [d1, d2, d3] => { results := [.lit (.bool false)], args := [d1, d2, d3] }
  | _ => none }
def MinkMovedWrongFalsely : Prop := minkMovedRow.holds Tryz.pinned (OpenSpec.ofChange minkMovedWrong)

/-- 'straitlaw20.MinkTells': WHATEVER THE INPUT: true; the input reads as it did. -/
def minkTellsSpec : ChangeSpec := { name := "minkTells", fn := fun _ => fun
  | [d1, d2, d3] => { results := [.lit (.bool true)], args := [d1, d2, d3] }
  | _ => none }
def minkTellsRow : OpenClaim := { program := "ytflobagimodmgaagreatdoor", sum := "74cd94af2df685730bf850ab06069b2572c091d02ec85a462fc4214ca1ae2496", func := "strait/straitlaw20.MinkTells", spec := "minkTells", inPlace := ["math/bits.Add64"], unfollowed := true, recurses := true, named := ["math/bits.deBruijn64tab"], apart := false, laid := [("math/bits.deBruijn64tab", laid_math_bits_deBruijn64tab)] }
def MinkTellsSaid : Prop := minkTellsRow.holds Tryz.pinned (OpenSpec.ofChange minkTellsSpec)

/-- ITS FALSE NEIGHBOUR: 'it returns false'. Refute it at one input. -/
def minkTellsWrong : ChangeSpec := { name := "minkTells", fn := fun _ => fun
  | [d1, d2, d3] => { results := [.lit (.bool false)], args := [d1, d2, d3] }
  | _ => none }
def MinkTellsWrongFalsely : Prop := minkTellsRow.holds Tryz.pinned (OpenSpec.ofChange minkTellsWrong)

/-- 'straitlaw23.LevelsRise': WHATEVER THE INPUT: true; the input reads as it did. -/
def levelsRiseSpec : ChangeSpec := { name := "levelsRise", fn := fun _ => fun
  | [d1, d2, d3] => { results := [.lit (.bool true)], args := [d1, d2, d3] }
  | _ => none }
def levelsRiseRow : OpenClaim := { program := "ytflobagimodmgaagreatdoor", sum := "74cd94af2df685730bf850ab06069b2572c091d02ec85a462fc4214ca1ae2496", func := "strait/straitlaw23.LevelsRise", spec := "levelsRise", inPlace := ["math/bits.Add64"], unfollowed := true, recurses := true, named := ["math/bits.deBruijn64tab"], apart := false, laid := [("math/bits.deBruijn64tab", laid_math_bits_deBruijn64tab)] }
def LevelsRiseSaid : Prop := levelsRiseRow.holds Tryz.pinned (OpenSpec.ofChange levelsRiseSpec)

/-- ITS FALSE NEIGHBOUR: 'it returns false'. Refute it at one input. -/
def levelsRiseWrong : ChangeSpec := { name := "levelsRise", fn := fun _ => fun
  | [d1, d2, d3] => { results := [.lit (.bool false)], args := [d1, d2, d3] }
  | _ => none }
def LevelsRiseWrongFalsely : Prop := levelsRiseRow.holds Tryz.pinned (OpenSpec.ofChange levelsRiseWrong)

/-- 'straitlaw22.CutsTells': WHATEVER THE INPUT: true; the input reads as it did. -/
def cutsTellsSpec : ChangeSpec := { name := "cutsTells", fn := fun _ => fun
  | [d1, d2, d3, d4] => { results := [.lit (.bool true)], args := [d1, d2, d3, d4] }
  | _ => none }
def cutsTellsRow : OpenClaim := { program := "ytflobagimodmgaagreatdoor", sum := "74cd94af2df685730bf850ab06069b2572c091d02ec85a462fc4214ca1ae2496", func := "strait/straitlaw22.CutsTells", spec := "cutsTells", inPlace := ["math/bits.Add64"], unfollowed := true, recurses := true, named := ["math/bits.deBruijn64tab"], apart := false, laid := [("math/bits.deBruijn64tab", laid_math_bits_deBruijn64tab)] }
def CutsTellsSaid : Prop := cutsTellsRow.holds Tryz.pinned (OpenSpec.ofChange cutsTellsSpec)

/-- ITS FALSE NEIGHBOUR: 'it returns false'. Refute it at one input. -/
def cutsTellsWrong : ChangeSpec := { name := "cutsTells", fn := fun _ => fun
  | [d1, d2, d3, d4] => { results := [.lit (.bool false)], args := [d1, d2, d3, d4] }
  | _ => none }
def CutsTellsWrongFalsely : Prop := cutsTellsRow.holds Tryz.pinned (OpenSpec.ofChange cutsTellsWrong)

/- THE SECOND FORM. 'bulk': how many values and letters a reading holds, each counted each time it is reached (what is shared counts as often as it is met; a slice's spare places count too). A statement '..UptoSaid' is the law's where the arguments, and the package variables that the reading takes, are together of bulk at most 1048576: NARROWER than '..Said'. Prove '..Said' where nothing that the law and all that it calls make is longer than what came in: it says more and counts as full. Else prove '..UptoSaid'. A law counts once. -/
mutual
def uptoBulk {H : Type} : DataW H → Nat
  | .lit (.string bytes) => bytes.length + 1
  | .lit _ => 1
  | .nil => 1
  | .ptr d => uptoBulk d + 1
  | .slice elems spare => uptoBulkAll elems + uptoBulkAll spare + 1
  | .agg parts => uptoBulkAll parts + 1
  | .iface _ d => uptoBulk d + 1
  | .map entries => uptoBulkEntries entries + 1
  | .held _ => 1
def uptoBulkAll {H : Type} : List (DataW H) → Nat
  | [] => 0
  | d :: r => uptoBulk d + uptoBulkAll r
def uptoBulkEntries {H : Type} : List (Lit × DataW H) → Nat
  | [] => 0
  | x :: r => uptoBulkEntry x + uptoBulkEntries r
def uptoBulkEntry {H : Type} : Lit × DataW H → Nat
  | (.string bytes, d) => bytes.length + uptoBulk d + 1
  | (_, d) => uptoBulk d + 1
 end
def uptoSmall : (H : Type) → List (DataW H) → Bool := fun _ ds => decide (uptoBulkAll ds ≤ 1048576)
def OpenSpec.upto (s : _root_.Go.ChangeSpec) : _root_.Go.OpenSpec := { _root_.Go.OpenSpec.ofChange s with cond := some uptoSmall }

/-- 'straitlaw20.MinkHull', WHERE WHAT IT READS IS OF BULK AT MOST 1048576: true; the input reads as it did. -/
def minkHullUptoRow : OpenClaim := { program := "ytflobagimodmgaagreatdoor", sum := "74cd94af2df685730bf850ab06069b2572c091d02ec85a462fc4214ca1ae2496", func := "strait/straitlaw20.MinkHull", spec := "minkHull", inPlace := ["math/bits.Add64"], unfollowed := true, recurses := true, named := ["math/bits.deBruijn64tab"], apart := false, laid := [("math/bits.deBruijn64tab", laid_math_bits_deBruijn64tab)], narrowed := true }
def MinkHullUptoSaid : Prop := minkHullUptoRow.holds Tryz.pinned (OpenSpec.upto minkHullSpec)

/-- 'straitlaw20.MinkSums', WHERE WHAT IT READS IS OF BULK AT MOST 1048576: true; the input reads as it did. -/
def minkSumsUptoRow : OpenClaim := { program := "ytflobagimodmgaagreatdoor", sum := "74cd94af2df685730bf850ab06069b2572c091d02ec85a462fc4214ca1ae2496", func := "strait/straitlaw20.MinkSums", spec := "minkSums", inPlace := ["math/bits.Add64"], unfollowed := true, recurses := true, named := ["math/bits.deBruijn64tab"], apart := false, laid := [("math/bits.deBruijn64tab", laid_math_bits_deBruijn64tab)], narrowed := true }
def MinkSumsUptoSaid : Prop := minkSumsUptoRow.holds Tryz.pinned (OpenSpec.upto minkSumsSpec)

/-- 'straitlaw20.MinkEdges', WHERE WHAT IT READS IS OF BULK AT MOST 1048576: true; the input reads as it did. -/
def minkEdgesUptoRow : OpenClaim := { program := "ytflobagimodmgaagreatdoor", sum := "74cd94af2df685730bf850ab06069b2572c091d02ec85a462fc4214ca1ae2496", func := "strait/straitlaw20.MinkEdges", spec := "minkEdges", inPlace := ["math/bits.Add64"], unfollowed := true, recurses := true, named := ["math/bits.deBruijn64tab"], apart := false, laid := [("math/bits.deBruijn64tab", laid_math_bits_deBruijn64tab)], narrowed := true }
def MinkEdgesUptoSaid : Prop := minkEdgesUptoRow.holds Tryz.pinned (OpenSpec.upto minkEdgesSpec)

/-- 'straitlaw20.MinkWithin', WHERE WHAT IT READS IS OF BULK AT MOST 1048576: true; the input reads as it did. -/
def minkWithinUptoRow : OpenClaim := { program := "ytflobagimodmgaagreatdoor", sum := "74cd94af2df685730bf850ab06069b2572c091d02ec85a462fc4214ca1ae2496", func := "strait/straitlaw20.MinkWithin", spec := "minkWithin", inPlace := ["math/bits.Add64"], unfollowed := true, recurses := true, named := ["math/bits.deBruijn64tab"], apart := false, laid := [("math/bits.deBruijn64tab", laid_math_bits_deBruijn64tab)], narrowed := true }
def MinkWithinUptoSaid : Prop := minkWithinUptoRow.holds Tryz.pinned (OpenSpec.upto minkWithinSpec)

/-- 'straitlaw20.MinkMoved', WHERE WHAT IT READS IS OF BULK AT MOST 1048576: true; the input reads as it did. -/
def minkMovedUptoRow : OpenClaim := { program := "ytflobagimodmgaagreatdoor", sum := "74cd94af2df685730bf850ab06069b2572c091d02ec85a462fc4214ca1ae2496", func := "strait/straitlaw20.MinkMoved", spec := "minkMoved", inPlace := ["math/bits.Add64"], unfollowed := true, recurses := true, named := ["math/bits.deBruijn64tab"], apart := false, laid := [("math/bits.deBruijn64tab", laid_math_bits_deBruijn64tab)], narrowed := true }
def MinkMovedUptoSaid : Prop := minkMovedUptoRow.holds Tryz.pinned (OpenSpec.upto minkMovedSpec)

/-- 'straitlaw20.MinkTells', WHERE WHAT IT READS IS OF BULK AT MOST 1048576: true; the input reads as it did. -/
def minkTellsUptoRow : OpenClaim := { program := "ytflobagimodmgaagreatdoor", sum := "74cd94af2df685730bf850ab06069b2572c091d02ec85a462fc4214ca1ae2496", func := "strait/straitlaw20.MinkTells", spec := "minkTells", inPlace := ["math/bits.Add64"], unfollowed := true, recurses := true, named := ["math/bits.deBruijn64tab"], apart := false, laid := [("math/bits.deBruijn64tab", laid_math_bits_deBruijn64tab)], narrowed := true }
def MinkTellsUptoSaid : Prop := minkTellsUptoRow.holds Tryz.pinned (OpenSpec.upto minkTellsSpec)

/-- 'straitlaw23.LevelsRise', WHERE WHAT IT READS IS OF BULK AT MOST 1048576: true; the input reads as it did. -/
def levelsRiseUptoRow : OpenClaim := { program := "ytflobagimodmgaagreatdoor", sum := "74cd94af2df685730bf850ab06069b2572c091d02ec85a462fc4214ca1ae2496", func := "strait/straitlaw23.LevelsRise", spec := "levelsRise", inPlace := ["math/bits.Add64"], unfollowed := true, recurses := true, named := ["math/bits.deBruijn64tab"], apart := false, laid := [("math/bits.deBruijn64tab", laid_math_bits_deBruijn64tab)], narrowed := true }
def LevelsRiseUptoSaid : Prop := levelsRiseUptoRow.holds Tryz.pinned (OpenSpec.upto levelsRiseSpec)

/-- 'straitlaw22.CutsTells', WHERE WHAT IT READS IS OF BULK AT MOST 1048576: true; the input reads as it did. -/
def cutsTellsUptoRow : OpenClaim := { program := "ytflobagimodmgaagreatdoor", sum := "74cd94af2df685730bf850ab06069b2572c091d02ec85a462fc4214ca1ae2496", func := "strait/straitlaw22.CutsTells", spec := "cutsTells", inPlace := ["math/bits.Add64"], unfollowed := true, recurses := true, named := ["math/bits.deBruijn64tab"], apart := false, laid := [("math/bits.deBruijn64tab", laid_math_bits_deBruijn64tab)], narrowed := true }
def CutsTellsUptoSaid : Prop := cutsTellsUptoRow.holds Tryz.pinned (OpenSpec.upto cutsTellsSpec)

end Rows
end Go.Proofs.YtflobagimodmgaaGreatDoor
