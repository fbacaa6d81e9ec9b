/-
  NARROWER THAN 'FOR EVERY INPUT', by the rows' own cells (each row's printed sentence says how): LevelsRise: laid · JoinsTells: laid · JoinsStraight: laid · JoinsFree: laid · JoinsLengths: laid · JoinsFour: laid · StrataOne: laid · StrataSame: laid · StrataClosed: laid · StrataCounts: laid.
  DERIVED. THE GIVEN ROWS OF THIS SEAT. 10 by the template 'for every input the law returns true; each argument reads behind the call as it read before'; 0 by the template 'total and deterministic' (their statements: YtalkinejknjidaaGreatDoorTotals.lean).
  GIVEN WITH THE SEED: the statements are not yours to turn. If you find one false, say at which input.
  Laid BY PROGRAM, IN A SANDBOX (cutbox-rows.mjs): the forced cells as the released guide's own fill.sh prints them over the translation 8d127ed122fc61cc… (all of the seat's roots in one cut). By AI agents, Wed Nov 11 2026. No macro, syntax, notation, axiom, sorry.
-/
import Derived.Test.YtalkinejknjidaaGreatDoorChecked
import GoSem.Claim
import GoSem.ClaimJoined
import GoSem.ClaimMapViews
import Derived.JoinedTies
import Derived.KernelRfl
namespace Go.Proofs.YtalkinejknjidaaGreatDoor
/- THE CELL 'sum', in the pinned program and in every row, IS THE sha256 OF THE DUMP (.gsa) THAT YtalkinejknjidaaGreatDoorProg.lean LOADS. Nothing in Lean hashes anything: it is a label: what it is worth is what the hold of that sum in a sandbox is worth. -/
noncomputable def Tryz.pinned : Pinned := { name := "ytalkinejknjidaagreatdoor", sum := "8d127ed122fc61ccbf1c16a13598de01df3391fb4cb0cce4716a107a4df07594", checked := Tryz.checked }
namespace Rows
def none {H : Type} : Left H := { results := [], args := [] }

/- WHAT THE LISTED PACKAGE-LEVEL VARIABLES READ AS WHEN THE CALL BEGINS. Each datum BY PROGRAM (the guide's laid-datum.mjs) off the statement by which the dump's own 'gosem.cut.vars' lays the variable. In a bare row this is a premise. The card (YtalkinejknjidaaGreatDoorCards.lean) ties it to the program's text. -/
def laid_math_bits_deBruijn64tab {H : Type} : DataW H := .agg [.lit (.int .u8 0), .lit (.int .u8 1), .lit (.int .u8 56), .lit (.int .u8 2), .lit (.int .u8 57), .lit (.int .u8 49), .lit (.int .u8 28), .lit (.int .u8 3), .lit (.int .u8 61), .lit (.int .u8 58), .lit (.int .u8 42), .lit (.int .u8 50), .lit (.int .u8 38), .lit (.int .u8 29), .lit (.int .u8 17), .lit (.int .u8 4), .lit (.int .u8 62), .lit (.int .u8 47), .lit (.int .u8 59), .lit (.int .u8 36), .lit (.int .u8 45), .lit (.int .u8 43), .lit (.int .u8 51), .lit (.int .u8 22), .lit (.int .u8 53), .lit (.int .u8 39), .lit (.int .u8 33), .lit (.int .u8 30), .lit (.int .u8 24), .lit (.int .u8 18), .lit (.int .u8 12), .lit (.int .u8 5), .lit (.int .u8 63), .lit (.int .u8 55), .lit (.int .u8 48), .lit (.int .u8 27), .lit (.int .u8 60), .lit (.int .u8 41), .lit (.int .u8 37), .lit (.int .u8 16), .lit (.int .u8 46), .lit (.int .u8 35), .lit (.int .u8 44), .lit (.int .u8 21), .lit (.int .u8 52), .lit (.int .u8 32), .lit (.int .u8 23), .lit (.int .u8 11), .lit (.int .u8 54), .lit (.int .u8 26), .lit (.int .u8 40), .lit (.int .u8 15), .lit (.int .u8 34), .lit (.int .u8 20), .lit (.int .u8 31), .lit (.int .u8 10), .lit (.int .u8 25), .lit (.int .u8 14), .lit (.int .u8 19), .lit (.int .u8 9), .lit (.int .u8 13), .lit (.int .u8 8), .lit (.int .u8 7), .lit (.int .u8 6)]

/-- 'straitlaw23.LevelsRise': WHATEVER THE INPUT: true; the input reads as it did. -/
def levelsRiseSpec : ChangeSpec := { name := "levelsRise", fn := fun _ => fun
  | [d1, d2, d3] => { results := [.lit (.bool true)], args := [d1, d2, d3] }
  | _ => none }
def levelsRiseRow : OpenClaim := { program := "ytalkinejknjidaagreatdoor", sum := "8d127ed122fc61ccbf1c16a13598de01df3391fb4cb0cce4716a107a4df07594", func := "strait/straitlaw23.LevelsRise", spec := "levelsRise", inPlace := ["math/bits.Add64"], unfollowed := true, recurses := true, named := ["math/bits.deBruijn64tab"], apart := false, laid := [("math/bits.deBruijn64tab", laid_math_bits_deBruijn64tab)] }
def LevelsRiseSaid : Prop := levelsRiseRow.holds Tryz.pinned (OpenSpec.ofChange levelsRiseSpec)

/-- ITS FALSE NEIGHBOUR: 'it returns false'. Refute it at one input. -/
def levelsRiseWrong : ChangeSpec := { name := "levelsRise", fn := fun _ => fun
  | [d1, d2, d3] => { results := [.lit (.bool false)], args := [d1, d2, d3] }
  | _ => none }
def LevelsRiseWrongFalsely : Prop := levelsRiseRow.holds Tryz.pinned (OpenSpec.ofChange levelsRiseWrong)

/-- 'straitlaw26.JoinsTells': WHATEVER THE INPUT: true; the input reads as it did. -/
def joinsTellsSpec : ChangeSpec := { name := "joinsTells", fn := fun _ => fun
  | [d1, d2, d3, d4, d5] => { results := [.lit (.bool true)], args := [d1, d2, d3, d4, d5] }
  | _ => none }
def joinsTellsRow : OpenClaim := { program := "ytalkinejknjidaagreatdoor", sum := "8d127ed122fc61ccbf1c16a13598de01df3391fb4cb0cce4716a107a4df07594", func := "strait/straitlaw26.JoinsTells", spec := "joinsTells", inPlace := ["math/bits.Add64"], unfollowed := true, recurses := true, named := ["math/bits.deBruijn64tab"], apart := false, laid := [("math/bits.deBruijn64tab", laid_math_bits_deBruijn64tab)] }
def JoinsTellsSaid : Prop := joinsTellsRow.holds Tryz.pinned (OpenSpec.ofChange joinsTellsSpec)

/-- ITS FALSE NEIGHBOUR: 'it returns false'. Refute it at one input. -/
def joinsTellsWrong : ChangeSpec := { name := "joinsTells", fn := fun _ => fun
  | [d1, d2, d3, d4, d5] => { results := [.lit (.bool false)], args := [d1, d2, d3, d4, d5] }
  | _ => none }
def JoinsTellsWrongFalsely : Prop := joinsTellsRow.holds Tryz.pinned (OpenSpec.ofChange joinsTellsWrong)

/-- 'straitlaw26.JoinsStraight': WHATEVER THE INPUT: true; the input reads as it did. -/
def joinsStraightSpec : ChangeSpec := { name := "joinsStraight", fn := fun _ => fun
  | [d1, d2, d3, d4] => { results := [.lit (.bool true)], args := [d1, d2, d3, d4] }
  | _ => none }
def joinsStraightRow : OpenClaim := { program := "ytalkinejknjidaagreatdoor", sum := "8d127ed122fc61ccbf1c16a13598de01df3391fb4cb0cce4716a107a4df07594", func := "strait/straitlaw26.JoinsStraight", spec := "joinsStraight", inPlace := ["math/bits.Add64"], unfollowed := true, recurses := true, named := ["math/bits.deBruijn64tab"], apart := false, laid := [("math/bits.deBruijn64tab", laid_math_bits_deBruijn64tab)] }
def JoinsStraightSaid : Prop := joinsStraightRow.holds Tryz.pinned (OpenSpec.ofChange joinsStraightSpec)

/-- ITS FALSE NEIGHBOUR: 'it returns false'. Refute it at one input. -/
def joinsStraightWrong : ChangeSpec := { name := "joinsStraight", fn := fun _ => fun
  | [d1, d2, d3, d4] => { results := [.lit (.bool false)], args := [d1, d2, d3, d4] }
  | _ => none }
def JoinsStraightWrongFalsely : Prop := joinsStraightRow.holds Tryz.pinned (OpenSpec.ofChange joinsStraightWrong)

/-- 'straitlaw26.JoinsFree': WHATEVER THE INPUT: true; the input reads as it did. -/
def joinsFreeSpec : ChangeSpec := { name := "joinsFree", fn := fun _ => fun
  | [d1, d2, d3, d4] => { results := [.lit (.bool true)], args := [d1, d2, d3, d4] }
  | _ => none }
def joinsFreeRow : OpenClaim := { program := "ytalkinejknjidaagreatdoor", sum := "8d127ed122fc61ccbf1c16a13598de01df3391fb4cb0cce4716a107a4df07594", func := "strait/straitlaw26.JoinsFree", spec := "joinsFree", inPlace := ["math/bits.Add64"], unfollowed := true, recurses := true, named := ["math/bits.deBruijn64tab"], apart := false, laid := [("math/bits.deBruijn64tab", laid_math_bits_deBruijn64tab)] }
def JoinsFreeSaid : Prop := joinsFreeRow.holds Tryz.pinned (OpenSpec.ofChange joinsFreeSpec)

/-- ITS FALSE NEIGHBOUR: 'it returns false'. Refute it at one input. -/
def joinsFreeWrong : ChangeSpec := { name := "joinsFree", fn := fun _ => fun
  | [d1, d2, d3, d4] => { results := [.lit (.bool false)], args := [d1, d2, d3, d4] }
  | _ => none }
def JoinsFreeWrongFalsely : Prop := joinsFreeRow.holds Tryz.pinned (OpenSpec.ofChange joinsFreeWrong)

/-- 'straitlaw26.JoinsLengths': WHATEVER THE INPUT: true; the input reads as it did. -/
def joinsLengthsSpec : ChangeSpec := { name := "joinsLengths", fn := fun _ => fun
  | [d1, d2, d3, d4, d5] => { results := [.lit (.bool true)], args := [d1, d2, d3, d4, d5] }
  | _ => none }
def joinsLengthsRow : OpenClaim := { program := "ytalkinejknjidaagreatdoor", sum := "8d127ed122fc61ccbf1c16a13598de01df3391fb4cb0cce4716a107a4df07594", func := "strait/straitlaw26.JoinsLengths", spec := "joinsLengths", inPlace := ["math/bits.Add64"], unfollowed := true, recurses := true, named := ["math/bits.deBruijn64tab"], apart := false, laid := [("math/bits.deBruijn64tab", laid_math_bits_deBruijn64tab)] }
def JoinsLengthsSaid : Prop := joinsLengthsRow.holds Tryz.pinned (OpenSpec.ofChange joinsLengthsSpec)

/-- ITS FALSE NEIGHBOUR: 'it returns false'. Refute it at one input. -/
def joinsLengthsWrong : ChangeSpec := { name := "joinsLengths", fn := fun _ => fun
  | [d1, d2, d3, d4, d5] => { results := [.lit (.bool false)], args := [d1, d2, d3, d4, d5] }
  | _ => none }
def JoinsLengthsWrongFalsely : Prop := joinsLengthsRow.holds Tryz.pinned (OpenSpec.ofChange joinsLengthsWrong)

/-- 'straitlaw26.JoinsFour': WHATEVER THE INPUT: true; the input reads as it did. -/
def joinsFourSpec : ChangeSpec := { name := "joinsFour", fn := fun _ => fun
  | [d1, d2, d3] => { results := [.lit (.bool true)], args := [d1, d2, d3] }
  | _ => none }
def joinsFourRow : OpenClaim := { program := "ytalkinejknjidaagreatdoor", sum := "8d127ed122fc61ccbf1c16a13598de01df3391fb4cb0cce4716a107a4df07594", func := "strait/straitlaw26.JoinsFour", spec := "joinsFour", inPlace := ["math/bits.Add64"], unfollowed := true, recurses := true, named := ["math/bits.deBruijn64tab"], apart := false, laid := [("math/bits.deBruijn64tab", laid_math_bits_deBruijn64tab)] }
def JoinsFourSaid : Prop := joinsFourRow.holds Tryz.pinned (OpenSpec.ofChange joinsFourSpec)

/-- ITS FALSE NEIGHBOUR: 'it returns false'. Refute it at one input. -/
def joinsFourWrong : ChangeSpec := { name := "joinsFour", fn := fun _ => fun
  | [d1, d2, d3] => { results := [.lit (.bool false)], args := [d1, d2, d3] }
  | _ => none }
def JoinsFourWrongFalsely : Prop := joinsFourRow.holds Tryz.pinned (OpenSpec.ofChange joinsFourWrong)

/-- 'straitlaw24.StrataOne': WHATEVER THE INPUT: true; the input reads as it did. -/
def strataOneSpec : ChangeSpec := { name := "strataOne", fn := fun _ => fun
  | [d1, d2, d3] => { results := [.lit (.bool true)], args := [d1, d2, d3] }
  | _ => none }
def strataOneRow : OpenClaim := { program := "ytalkinejknjidaagreatdoor", sum := "8d127ed122fc61ccbf1c16a13598de01df3391fb4cb0cce4716a107a4df07594", func := "strait/straitlaw24.StrataOne", spec := "strataOne", inPlace := ["math/bits.Add64"], unfollowed := true, recurses := true, named := ["math/bits.deBruijn64tab"], apart := false, laid := [("math/bits.deBruijn64tab", laid_math_bits_deBruijn64tab)] }
def StrataOneSaid : Prop := strataOneRow.holds Tryz.pinned (OpenSpec.ofChange strataOneSpec)

/-- ITS FALSE NEIGHBOUR: 'it returns false'. Refute it at one input. -/
def strataOneWrong : ChangeSpec := { name := "strataOne", fn := fun _ => fun
  | [d1, d2, d3] => { results := [.lit (.bool false)], args := [d1, d2, d3] }
  | _ => none }
def StrataOneWrongFalsely : Prop := strataOneRow.holds Tryz.pinned (OpenSpec.ofChange strataOneWrong)

/-- 'straitlaw24.StrataSame': WHATEVER THE INPUT: true; the input reads as it did. -/
def strataSameSpec : ChangeSpec := { name := "strataSame", fn := fun _ => fun
  | [d1, d2, d3] => { results := [.lit (.bool true)], args := [d1, d2, d3] }
  | _ => none }
def strataSameRow : OpenClaim := { program := "ytalkinejknjidaagreatdoor", sum := "8d127ed122fc61ccbf1c16a13598de01df3391fb4cb0cce4716a107a4df07594", func := "strait/straitlaw24.StrataSame", spec := "strataSame", inPlace := ["math/bits.Add64"], unfollowed := true, recurses := true, named := ["math/bits.deBruijn64tab"], apart := false, laid := [("math/bits.deBruijn64tab", laid_math_bits_deBruijn64tab)] }
def StrataSameSaid : Prop := strataSameRow.holds Tryz.pinned (OpenSpec.ofChange strataSameSpec)

/-- ITS FALSE NEIGHBOUR: 'it returns false'. Refute it at one input. -/
def strataSameWrong : ChangeSpec := { name := "strataSame", fn := fun _ => fun
  | [d1, d2, d3] => { results := [.lit (.bool false)], args := [d1, d2, d3] }
  | _ => none }
def StrataSameWrongFalsely : Prop := strataSameRow.holds Tryz.pinned (OpenSpec.ofChange strataSameWrong)

/-- 'straitlaw24.StrataClosed': WHATEVER THE INPUT: true; the input reads as it did. -/
def strataClosedSpec : ChangeSpec := { name := "strataClosed", fn := fun _ => fun
  | [d1, d2, d3, d4, d5] => { results := [.lit (.bool true)], args := [d1, d2, d3, d4, d5] }
  | _ => none }
def strataClosedRow : OpenClaim := { program := "ytalkinejknjidaagreatdoor", sum := "8d127ed122fc61ccbf1c16a13598de01df3391fb4cb0cce4716a107a4df07594", func := "strait/straitlaw24.StrataClosed", spec := "strataClosed", inPlace := ["math/bits.Add64"], unfollowed := true, recurses := true, named := ["math/bits.deBruijn64tab"], apart := false, laid := [("math/bits.deBruijn64tab", laid_math_bits_deBruijn64tab)] }
def StrataClosedSaid : Prop := strataClosedRow.holds Tryz.pinned (OpenSpec.ofChange strataClosedSpec)

/-- ITS FALSE NEIGHBOUR: 'it returns false'. Refute it at one input. -/
def strataClosedWrong : ChangeSpec := { name := "strataClosed", fn := fun _ => fun
  | [d1, d2, d3, d4, d5] => { results := [.lit (.bool false)], args := [d1, d2, d3, d4, d5] }
  | _ => none }
def StrataClosedWrongFalsely : Prop := strataClosedRow.holds Tryz.pinned (OpenSpec.ofChange strataClosedWrong)

/-- 'straitlaw24.StrataCounts': WHATEVER THE INPUT: true; the input reads as it did. -/
def strataCountsSpec : ChangeSpec := { name := "strataCounts", fn := fun _ => fun
  | [d1, d2] => { results := [.lit (.bool true)], args := [d1, d2] }
  | _ => none }
def strataCountsRow : OpenClaim := { program := "ytalkinejknjidaagreatdoor", sum := "8d127ed122fc61ccbf1c16a13598de01df3391fb4cb0cce4716a107a4df07594", func := "strait/straitlaw24.StrataCounts", spec := "strataCounts", inPlace := ["math/bits.Add64"], unfollowed := true, recurses := true, named := ["math/bits.deBruijn64tab"], apart := false, laid := [("math/bits.deBruijn64tab", laid_math_bits_deBruijn64tab)] }
def StrataCountsSaid : Prop := strataCountsRow.holds Tryz.pinned (OpenSpec.ofChange strataCountsSpec)

/-- ITS FALSE NEIGHBOUR: 'it returns false'. Refute it at one input. -/
def strataCountsWrong : ChangeSpec := { name := "strataCounts", fn := fun _ => fun
  | [d1, d2] => { results := [.lit (.bool false)], args := [d1, d2] }
  | _ => none }
def StrataCountsWrongFalsely : Prop := strataCountsRow.holds Tryz.pinned (OpenSpec.ofChange strataCountsWrong)

/- THE SECOND FORM. 'bulk': how many values and letters a reading holds, each counted each time it is reached (what is shared counts as often as it is met; a slice's spare places count too). A statement '..UptoSaid' is the law's where the arguments, and the package variables that the reading takes, are together of bulk at most 1048576: NARROWER than '..Said'. Prove '..Said' where nothing that the law and all that it calls make is longer than what came in: it says more and counts as full. Else prove '..UptoSaid'. A law counts once. -/
mutual
def uptoBulk {H : Type} : DataW H → Nat
  | .lit (.string bytes) => bytes.length + 1
  | .lit _ => 1
  | .nil => 1
  | .ptr d => uptoBulk d + 1
  | .slice elems spare => uptoBulkAll elems + uptoBulkAll spare + 1
  | .agg parts => uptoBulkAll parts + 1
  | .iface _ d => uptoBulk d + 1
  | .map entries => uptoBulkEntries entries + 1
  | .held _ => 1
def uptoBulkAll {H : Type} : List (DataW H) → Nat
  | [] => 0
  | d :: r => uptoBulk d + uptoBulkAll r
def uptoBulkEntries {H : Type} : List (Lit × DataW H) → Nat
  | [] => 0
  | x :: r => uptoBulkEntry x + uptoBulkEntries r
def uptoBulkEntry {H : Type} : Lit × DataW H → Nat
  | (.string bytes, d) => bytes.length + uptoBulk d + 1
  | (_, d) => uptoBulk d + 1
 end
def uptoSmall : (H : Type) → List (DataW H) → Bool := fun _ ds => decide (uptoBulkAll ds ≤ 1048576)
def OpenSpec.upto (s : _root_.Go.ChangeSpec) : _root_.Go.OpenSpec := { _root_.Go.OpenSpec.ofChange s with cond := some uptoSmall }

/-- 'straitlaw23.LevelsRise', WHERE WHAT IT READS IS OF BULK AT MOST 1048576: true; the input reads as it did. -/
def levelsRiseUptoRow : OpenClaim := { program := "ytalkinejknjidaagreatdoor", sum := "8d127ed122fc61ccbf1c16a13598de01df3391fb4cb0cce4716a107a4df07594", func := "strait/straitlaw23.LevelsRise", spec := "levelsRise", inPlace := ["math/bits.Add64"], unfollowed := true, recurses := true, named := ["math/bits.deBruijn64tab"], apart := false, laid := [("math/bits.deBruijn64tab", laid_math_bits_deBruijn64tab)], narrowed := true }
def LevelsRiseUptoSaid : Prop := levelsRiseUptoRow.holds Tryz.pinned (OpenSpec.upto levelsRiseSpec)

/-- 'straitlaw26.JoinsTells', WHERE WHAT IT READS IS OF BULK AT MOST 1048576: true; the input reads as it did. -/
def joinsTellsUptoRow : OpenClaim := { program := "ytalkinejknjidaagreatdoor", sum := "8d127ed122fc61ccbf1c16a13598de01df3391fb4cb0cce4716a107a4df07594", func := "strait/straitlaw26.JoinsTells", spec := "joinsTells", inPlace := ["math/bits.Add64"], unfollowed := true, recurses := true, named := ["math/bits.deBruijn64tab"], apart := false, laid := [("math/bits.deBruijn64tab", laid_math_bits_deBruijn64tab)], narrowed := true }
def JoinsTellsUptoSaid : Prop := joinsTellsUptoRow.holds Tryz.pinned (OpenSpec.upto joinsTellsSpec)

/-- 'straitlaw26.JoinsStraight', WHERE WHAT IT READS IS OF BULK AT MOST 1048576: true; the input reads as it did. -/
def joinsStraightUptoRow : OpenClaim := { program := "ytalkinejknjidaagreatdoor", sum := "8d127ed122fc61ccbf1c16a13598de01df3391fb4cb0cce4716a107a4df07594", func := "strait/straitlaw26.JoinsStraight", spec := "joinsStraight", inPlace := ["math/bits.Add64"], unfollowed := true, recurses := true, named := ["math/bits.deBruijn64tab"], apart := false, laid := [("math/bits.deBruijn64tab", laid_math_bits_deBruijn64tab)], narrowed := true }
def JoinsStraightUptoSaid : Prop := joinsStraightUptoRow.holds Tryz.pinned (OpenSpec.upto joinsStraightSpec)

/-- 'straitlaw26.JoinsFree', WHERE WHAT IT READS IS OF BULK AT MOST 1048576: true; the input reads as it did. -/
def joinsFreeUptoRow : OpenClaim := { program := "ytalkinejknjidaagreatdoor", sum := "8d127ed122fc61ccbf1c16a13598de01df3391fb4cb0cce4716a107a4df07594", func := "strait/straitlaw26.JoinsFree", spec := "joinsFree", inPlace := ["math/bits.Add64"], unfollowed := true, recurses := true, named := ["math/bits.deBruijn64tab"], apart := false, laid := [("math/bits.deBruijn64tab", laid_math_bits_deBruijn64tab)], narrowed := true }
def JoinsFreeUptoSaid : Prop := joinsFreeUptoRow.holds Tryz.pinned (OpenSpec.upto joinsFreeSpec)

/-- 'straitlaw26.JoinsLengths', WHERE WHAT IT READS IS OF BULK AT MOST 1048576: true; the input reads as it did. -/
def joinsLengthsUptoRow : OpenClaim := { program := "ytalkinejknjidaagreatdoor", sum := "8d127ed122fc61ccbf1c16a13598de01df3391fb4cb0cce4716a107a4df07594", func := "strait/straitlaw26.JoinsLengths", spec := "joinsLengths", inPlace := ["math/bits.Add64"], unfollowed := true, recurses := true, named := ["math/bits.deBruijn64tab"], apart := false, laid := [("math/bits.deBruijn64tab", laid_math_bits_deBruijn64tab)], narrowed := true }
def JoinsLengthsUptoSaid : Prop := joinsLengthsUptoRow.holds Tryz.pinned (OpenSpec.upto joinsLengthsSpec)

/-- 'straitlaw26.JoinsFour', WHERE WHAT IT READS IS OF BULK AT MOST 1048576: true; the input reads as it did. -/
def joinsFourUptoRow : OpenClaim := { program := "ytalkinejknjidaagreatdoor", sum := "8d127ed122fc61ccbf1c16a13598de01df3391fb4cb0cce4716a107a4df07594", func := "strait/straitlaw26.JoinsFour", spec := "joinsFour", inPlace := ["math/bits.Add64"], unfollowed := true, recurses := true, named := ["math/bits.deBruijn64tab"], apart := false, laid := [("math/bits.deBruijn64tab", laid_math_bits_deBruijn64tab)], narrowed := true }
def JoinsFourUptoSaid : Prop := joinsFourUptoRow.holds Tryz.pinned (OpenSpec.upto joinsFourSpec)

/-- 'straitlaw24.StrataOne', WHERE WHAT IT READS IS OF BULK AT MOST 1048576: true; the input reads as it did. -/
def strataOneUptoRow : OpenClaim := { program := "ytalkinejknjidaagreatdoor", sum := "8d127ed122fc61ccbf1c16a13598de01df3391fb4cb0cce4716a107a4df07594", func := "strait/straitlaw24.StrataOne", spec := "strataOne", inPlace := ["math/bits.Add64"], unfollowed := true, recurses := true, named := ["math/bits.deBruijn64tab"], apart := false, laid := [("math/bits.deBruijn64tab", laid_math_bits_deBruijn64tab)], narrowed := true }
def StrataOneUptoSaid : Prop := strataOneUptoRow.holds Tryz.pinned (OpenSpec.upto strataOneSpec)

/-- 'straitlaw24.StrataSame', WHERE WHAT IT READS IS OF BULK AT MOST 1048576: true; the input reads as it did. -/
def strataSameUptoRow : OpenClaim := { program := "ytalkinejknjidaagreatdoor", sum := "8d127ed122fc61ccbf1c16a13598de01df3391fb4cb0cce4716a107a4df07594", func := "strait/straitlaw24.StrataSame", spec := "strataSame", inPlace := ["math/bits.Add64"], unfollowed := true, recurses := true, named := ["math/bits.deBruijn64tab"], apart := false, laid := [("math/bits.deBruijn64tab", laid_math_bits_deBruijn64tab)], narrowed := true }
def StrataSameUptoSaid : Prop := strataSameUptoRow.holds Tryz.pinned (OpenSpec.upto strataSameSpec)

/-- 'straitlaw24.StrataClosed', WHERE WHAT IT READS IS OF BULK AT MOST 1048576: true; the input reads as it did. -/
def strataClosedUptoRow : OpenClaim := { program := "ytalkinejknjidaagreatdoor", sum := "8d127ed122fc61ccbf1c16a13598de01df3391fb4cb0cce4716a107a4df07594", func := "strait/straitlaw24.StrataClosed", spec := "strataClosed", inPlace := ["math/bits.Add64"], unfollowed := true, recurses := true, named := ["math/bits.deBruijn64tab"], apart := false, laid := [("math/bits.deBruijn64tab", laid_math_bits_deBruijn64tab)], narrowed := true }
def StrataClosedUptoSaid : Prop := strataClosedUptoRow.holds Tryz.pinned (OpenSpec.upto strataClosedSpec)

/-- 'straitlaw24.StrataCounts', WHERE WHAT IT READS IS OF BULK AT MOST 1048576: true; the input reads as it did. -/
def strataCountsUptoRow : OpenClaim := { program := "ytalkinejknjidaagreatdoor", sum := "8d127ed122fc61ccbf1c16a13598de01df3391fb4cb0cce4716a107a4df07594", func := "strait/straitlaw24.StrataCounts", spec := "strataCounts", inPlace := ["math/bits.Add64"], unfollowed := true, recurses := true, named := ["math/bits.deBruijn64tab"], apart := false, laid := [("math/bits.deBruijn64tab", laid_math_bits_deBruijn64tab)], narrowed := true }
def StrataCountsUptoSaid : Prop := strataCountsUptoRow.holds Tryz.pinned (OpenSpec.upto strataCountsSpec)

end Rows
end Go.Proofs.YtalkinejknjidaaGreatDoor
