/-
  No cell of these rows narrows 'for every input' (looked for: loops, veiled, ifaces, maps, wideKeys, modest, calm, conditions, laid).
  DERIVED. THE GIVEN ROWS OF THIS SEAT. 13 by the template 'for every input the law returns true; each argument reads behind the call as it read before'; 0 by the template 'total and deterministic' (their statements: YtffakiheophioaaTotals.lean).
  GIVEN WITH THE SEED: the statements are not yours to turn. If you find one false, say at which input.
  Laid BY PROGRAM, IN A SANDBOX (cutbox-rows.mjs): the forced cells as the released guide's own fill.sh prints them over the translation 85fdd7891526881d… (all of the seat's roots in one cut). By AI agents, Wed Nov 11 2026. No macro, syntax, notation, axiom, sorry.
-/
import Derived.Test.YtffakiheophioaaChecked
import GoSem.Claim
import GoSem.ClaimJoined
import GoSem.ClaimMapViews
import Derived.JoinedTies
import Derived.KernelRfl
namespace Go.Proofs.Ytffakiheophioaa
/- THE CELL 'sum', in the pinned program and in every row, IS THE sha256 OF THE DUMP (.gsa) THAT YtffakiheophioaaProg.lean LOADS. Nothing in Lean hashes anything: it is a label: what it is worth is what the hold of that sum in a sandbox is worth. -/
noncomputable def Try.pinned : Pinned := { name := "ytffakiheophioaa", sum := "85fdd7891526881df4ee7a3493b5e957449d0f7f1c277ca1f07b30f682988019", checked := Try.checked }
namespace Rows
def none {H : Type} : Left H := { results := [], args := [] }

/-- 'straitlaw01.NatTells': WHATEVER THE INPUT: true; the input reads as it did. -/
def natTellsSpec : ChangeSpec := { name := "natTells", fn := fun _ => fun
  | [d1, d2, d3, d4] => { results := [.lit (.bool true)], args := [d1, d2, d3, d4] }
  | _ => none }
def natTellsRow : OpenClaim := { program := "ytffakiheophioaa", sum := "85fdd7891526881df4ee7a3493b5e957449d0f7f1c277ca1f07b30f682988019", func := "strait/straitlaw01.NatTells", spec := "natTells", unfollowed := true, recurses := true, apart := false }
def NatTellsSaid : Prop := natTellsRow.holds Try.pinned (OpenSpec.ofChange natTellsSpec)

/-- ITS FALSE NEIGHBOUR: 'it returns false'. Refute it at one input. -/
def natTellsWrong : ChangeSpec := { name := "natTells", fn := fun _ => fun
  | [d1, d2, d3, d4] => { results := [.lit (.bool false)], args := [d1, d2, d3, d4] }
  | _ => none }
def NatTellsWrongFalsely : Prop := natTellsRow.holds Try.pinned (OpenSpec.ofChange natTellsWrong)

/-- 'straitlaw01.NatSums': WHATEVER THE INPUT: true; the input reads as it did. -/
def natSumsSpec : ChangeSpec := { name := "natSums", fn := fun _ => fun
  | [d1, d2, d3] => { results := [.lit (.bool true)], args := [d1, d2, d3] }
  | _ => none }
def natSumsRow : OpenClaim := { program := "ytffakiheophioaa", sum := "85fdd7891526881df4ee7a3493b5e957449d0f7f1c277ca1f07b30f682988019", func := "strait/straitlaw01.NatSums", spec := "natSums", unfollowed := true, recurses := true, apart := false }
def NatSumsSaid : Prop := natSumsRow.holds Try.pinned (OpenSpec.ofChange natSumsSpec)

/-- ITS FALSE NEIGHBOUR: 'it returns false'. Refute it at one input. -/
def natSumsWrong : ChangeSpec := { name := "natSums", fn := fun _ => fun
  | [d1, d2, d3] => { results := [.lit (.bool false)], args := [d1, d2, d3] }
  | _ => none }
def NatSumsWrongFalsely : Prop := natSumsRow.holds Try.pinned (OpenSpec.ofChange natSumsWrong)

/-- 'straitlaw01.NatOrder': WHATEVER THE INPUT: true; the input reads as it did. -/
def natOrderSpec : ChangeSpec := { name := "natOrder", fn := fun _ => fun
  | [d1, d2, d3] => { results := [.lit (.bool true)], args := [d1, d2, d3] }
  | _ => none }
def natOrderRow : OpenClaim := { program := "ytffakiheophioaa", sum := "85fdd7891526881df4ee7a3493b5e957449d0f7f1c277ca1f07b30f682988019", func := "strait/straitlaw01.NatOrder", spec := "natOrder", unfollowed := true, recurses := true, apart := false }
def NatOrderSaid : Prop := natOrderRow.holds Try.pinned (OpenSpec.ofChange natOrderSpec)

/-- ITS FALSE NEIGHBOUR: 'it returns false'. Refute it at one input. -/
def natOrderWrong : ChangeSpec := { name := "natOrder", fn := fun _ => fun
  | [d1, d2, d3] => { results := [.lit (.bool false)], args := [d1, d2, d3] }
  | _ => none }
def NatOrderWrongFalsely : Prop := natOrderRow.holds Try.pinned (OpenSpec.ofChange natOrderWrong)

/-- 'straitlaw01.NatSmall': WHATEVER THE INPUT: true; the input reads as it did. -/
def natSmallSpec : ChangeSpec := { name := "natSmall", fn := fun _ => fun
  | [d1, d2, d3] => { results := [.lit (.bool true)], args := [d1, d2, d3] }
  | _ => none }
def natSmallRow : OpenClaim := { program := "ytffakiheophioaa", sum := "85fdd7891526881df4ee7a3493b5e957449d0f7f1c277ca1f07b30f682988019", func := "strait/straitlaw01.NatSmall", spec := "natSmall", unfollowed := true, recurses := true, apart := false }
def NatSmallSaid : Prop := natSmallRow.holds Try.pinned (OpenSpec.ofChange natSmallSpec)

/-- ITS FALSE NEIGHBOUR: 'it returns false'. Refute it at one input. -/
def natSmallWrong : ChangeSpec := { name := "natSmall", fn := fun _ => fun
  | [d1, d2, d3] => { results := [.lit (.bool false)], args := [d1, d2, d3] }
  | _ => none }
def NatSmallWrongFalsely : Prop := natSmallRow.holds Try.pinned (OpenSpec.ofChange natSmallWrong)

/-- 'straitlaw01.NatOwn': WHATEVER THE INPUT: true; the input reads as it did. -/
def natOwnSpec : ChangeSpec := { name := "natOwn", fn := fun _ => fun
  | [d1, d2] => { results := [.lit (.bool true)], args := [d1, d2] }
  | _ => none }
def natOwnRow : OpenClaim := { program := "ytffakiheophioaa", sum := "85fdd7891526881df4ee7a3493b5e957449d0f7f1c277ca1f07b30f682988019", func := "strait/straitlaw01.NatOwn", spec := "natOwn", unfollowed := true, recurses := true, apart := false }
def NatOwnSaid : Prop := natOwnRow.holds Try.pinned (OpenSpec.ofChange natOwnSpec)

/-- ITS FALSE NEIGHBOUR: 'it returns false'. Refute it at one input. -/
def natOwnWrong : ChangeSpec := { name := "natOwn", fn := fun _ => fun
  | [d1, d2] => { results := [.lit (.bool false)], args := [d1, d2] }
  | _ => none }
def NatOwnWrongFalsely : Prop := natOwnRow.holds Try.pinned (OpenSpec.ofChange natOwnWrong)

/-- 'straitlaw02.ProdBits': WHATEVER THE INPUT: true; the input reads as it did. -/
def prodBitsSpec : ChangeSpec := { name := "prodBits", fn := fun _ => fun
  | [d1, d2] => { results := [.lit (.bool true)], args := [d1, d2] }
  | _ => none }
def prodBitsRow : OpenClaim := { program := "ytffakiheophioaa", sum := "85fdd7891526881df4ee7a3493b5e957449d0f7f1c277ca1f07b30f682988019", func := "strait/straitlaw02.ProdBits", spec := "prodBits", unfollowed := true, recurses := true, apart := false }
def ProdBitsSaid : Prop := prodBitsRow.holds Try.pinned (OpenSpec.ofChange prodBitsSpec)

/-- ITS FALSE NEIGHBOUR: 'it returns false'. Refute it at one input. -/
def prodBitsWrong : ChangeSpec := { name := "prodBits", fn := fun _ => fun
  | [d1, d2] => { results := [.lit (.bool false)], args := [d1, d2] }
  | _ => none }
def ProdBitsWrongFalsely : Prop := prodBitsRow.holds Try.pinned (OpenSpec.ofChange prodBitsWrong)

/-- 'straitlaw02.ProdOrder': WHATEVER THE INPUT: true; the input reads as it did. -/
def prodOrderSpec : ChangeSpec := { name := "prodOrder", fn := fun _ => fun
  | [d1, d2, d3] => { results := [.lit (.bool true)], args := [d1, d2, d3] }
  | _ => none }
def prodOrderRow : OpenClaim := { program := "ytffakiheophioaa", sum := "85fdd7891526881df4ee7a3493b5e957449d0f7f1c277ca1f07b30f682988019", func := "strait/straitlaw02.ProdOrder", spec := "prodOrder", unfollowed := true, recurses := true, apart := false }
def ProdOrderSaid : Prop := prodOrderRow.holds Try.pinned (OpenSpec.ofChange prodOrderSpec)

/-- ITS FALSE NEIGHBOUR: 'it returns false'. Refute it at one input. -/
def prodOrderWrong : ChangeSpec := { name := "prodOrder", fn := fun _ => fun
  | [d1, d2, d3] => { results := [.lit (.bool false)], args := [d1, d2, d3] }
  | _ => none }
def ProdOrderWrongFalsely : Prop := prodOrderRow.holds Try.pinned (OpenSpec.ofChange prodOrderWrong)

/-- 'straitlaw02.ProdShifts': WHATEVER THE INPUT: true; the input reads as it did. -/
def prodShiftsSpec : ChangeSpec := { name := "prodShifts", fn := fun _ => fun
  | [d1, d2, d3] => { results := [.lit (.bool true)], args := [d1, d2, d3] }
  | _ => none }
def prodShiftsRow : OpenClaim := { program := "ytffakiheophioaa", sum := "85fdd7891526881df4ee7a3493b5e957449d0f7f1c277ca1f07b30f682988019", func := "strait/straitlaw02.ProdShifts", spec := "prodShifts", unfollowed := true, recurses := true, apart := false }
def ProdShiftsSaid : Prop := prodShiftsRow.holds Try.pinned (OpenSpec.ofChange prodShiftsSpec)

/-- ITS FALSE NEIGHBOUR: 'it returns false'. Refute it at one input. -/
def prodShiftsWrong : ChangeSpec := { name := "prodShifts", fn := fun _ => fun
  | [d1, d2, d3] => { results := [.lit (.bool false)], args := [d1, d2, d3] }
  | _ => none }
def ProdShiftsWrongFalsely : Prop := prodShiftsRow.holds Try.pinned (OpenSpec.ofChange prodShiftsWrong)

/-- 'straitlaw02.ProdPowers': WHATEVER THE INPUT: true; the input reads as it did. -/
def prodPowersSpec : ChangeSpec := { name := "prodPowers", fn := fun _ => fun
  | [d1, d2, d3] => { results := [.lit (.bool true)], args := [d1, d2, d3] }
  | _ => none }
def prodPowersRow : OpenClaim := { program := "ytffakiheophioaa", sum := "85fdd7891526881df4ee7a3493b5e957449d0f7f1c277ca1f07b30f682988019", func := "strait/straitlaw02.ProdPowers", spec := "prodPowers", unfollowed := true, recurses := true, apart := false }
def ProdPowersSaid : Prop := prodPowersRow.holds Try.pinned (OpenSpec.ofChange prodPowersSpec)

/-- ITS FALSE NEIGHBOUR: 'it returns false'. Refute it at one input. -/
def prodPowersWrong : ChangeSpec := { name := "prodPowers", fn := fun _ => fun
  | [d1, d2, d3] => { results := [.lit (.bool false)], args := [d1, d2, d3] }
  | _ => none }
def ProdPowersWrongFalsely : Prop := prodPowersRow.holds Try.pinned (OpenSpec.ofChange prodPowersWrong)

/-- 'straitlaw02.ProdTells': WHATEVER THE INPUT: true; the input reads as it did. -/
def prodTellsSpec : ChangeSpec := { name := "prodTells", fn := fun _ => fun
  | [d1, d2, d3, d4, d5] => { results := [.lit (.bool true)], args := [d1, d2, d3, d4, d5] }
  | _ => none }
def prodTellsRow : OpenClaim := { program := "ytffakiheophioaa", sum := "85fdd7891526881df4ee7a3493b5e957449d0f7f1c277ca1f07b30f682988019", func := "strait/straitlaw02.ProdTells", spec := "prodTells", unfollowed := true, recurses := true, apart := false }
def ProdTellsSaid : Prop := prodTellsRow.holds Try.pinned (OpenSpec.ofChange prodTellsSpec)

/-- ITS FALSE NEIGHBOUR: 'it returns false'. Refute it at one input. -/
def prodTellsWrong : ChangeSpec := { name := "prodTells", fn := fun _ => fun
  | [d1, d2, d3, d4, d5] => { results := [.lit (.bool false)], args := [d1, d2, d3, d4, d5] }
  | _ => none }
def ProdTellsWrongFalsely : Prop := prodTellsRow.holds Try.pinned (OpenSpec.ofChange prodTellsWrong)

/-- 'straitlaw03.QuotBack': WHATEVER THE INPUT: true; the input reads as it did. -/
def quotBackSpec : ChangeSpec := { name := "quotBack", fn := fun _ => fun
  | [d1, d2, d3] => { results := [.lit (.bool true)], args := [d1, d2, d3] }
  | _ => none }
def quotBackRow : OpenClaim := { program := "ytffakiheophioaa", sum := "85fdd7891526881df4ee7a3493b5e957449d0f7f1c277ca1f07b30f682988019", func := "strait/straitlaw03.QuotBack", spec := "quotBack", inPlace := ["math/bits.Add64"], unfollowed := true, recurses := true, apart := false }
def QuotBackSaid : Prop := quotBackRow.holds Try.pinned (OpenSpec.ofChange quotBackSpec)

/-- ITS FALSE NEIGHBOUR: 'it returns false'. Refute it at one input. -/
def quotBackWrong : ChangeSpec := { name := "quotBack", fn := fun _ => fun
  | [d1, d2, d3] => { results := [.lit (.bool false)], args := [d1, d2, d3] }
  | _ => none }
def QuotBackWrongFalsely : Prop := quotBackRow.holds Try.pinned (OpenSpec.ofChange quotBackWrong)

/-- 'straitlaw03.QuotMakes': WHATEVER THE INPUT: true; the input reads as it did. -/
def quotMakesSpec : ChangeSpec := { name := "quotMakes", fn := fun _ => fun
  | [d1, d2, d3] => { results := [.lit (.bool true)], args := [d1, d2, d3] }
  | _ => none }
def quotMakesRow : OpenClaim := { program := "ytffakiheophioaa", sum := "85fdd7891526881df4ee7a3493b5e957449d0f7f1c277ca1f07b30f682988019", func := "strait/straitlaw03.QuotMakes", spec := "quotMakes", inPlace := ["math/bits.Add64"], unfollowed := true, recurses := true, apart := false }
def QuotMakesSaid : Prop := quotMakesRow.holds Try.pinned (OpenSpec.ofChange quotMakesSpec)

/-- ITS FALSE NEIGHBOUR: 'it returns false'. Refute it at one input. -/
def quotMakesWrong : ChangeSpec := { name := "quotMakes", fn := fun _ => fun
  | [d1, d2, d3] => { results := [.lit (.bool false)], args := [d1, d2, d3] }
  | _ => none }
def QuotMakesWrongFalsely : Prop := quotMakesRow.holds Try.pinned (OpenSpec.ofChange quotMakesWrong)

/-- 'straitlaw03.QuotTwice': WHATEVER THE INPUT: true; the input reads as it did. -/
def quotTwiceSpec : ChangeSpec := { name := "quotTwice", fn := fun _ => fun
  | [d1, d2, d3] => { results := [.lit (.bool true)], args := [d1, d2, d3] }
  | _ => none }
def quotTwiceRow : OpenClaim := { program := "ytffakiheophioaa", sum := "85fdd7891526881df4ee7a3493b5e957449d0f7f1c277ca1f07b30f682988019", func := "strait/straitlaw03.QuotTwice", spec := "quotTwice", inPlace := ["math/bits.Add64"], unfollowed := true, recurses := true, apart := false }
def QuotTwiceSaid : Prop := quotTwiceRow.holds Try.pinned (OpenSpec.ofChange quotTwiceSpec)

/-- ITS FALSE NEIGHBOUR: 'it returns false'. Refute it at one input. -/
def quotTwiceWrong : ChangeSpec := { name := "quotTwice", fn := fun _ => fun
  | [d1, d2, d3] => { results := [.lit (.bool false)], args := [d1, d2, d3] }
  | _ => none }
def QuotTwiceWrongFalsely : Prop := quotTwiceRow.holds Try.pinned (OpenSpec.ofChange quotTwiceWrong)

/- THE SECOND FORM. 'bulk': how many values and letters a reading holds, each counted each time it is reached (what is shared counts as often as it is met; a slice's spare places count too). A statement '..UptoSaid' is the law's where the arguments, and the package variables that the reading takes, are together of bulk at most 1048576: NARROWER than '..Said'. Prove '..Said' where nothing that the law and all that it calls make is longer than what came in: it says more and counts as full. Else prove '..UptoSaid'. A law counts once. -/
mutual
def uptoBulk {H : Type} : DataW H → Nat
  | .lit (.string bytes) => bytes.length + 1
  | .lit _ => 1
  | .nil => 1
  | .ptr d => uptoBulk d + 1
  | .slice elems spare => uptoBulkAll elems + uptoBulkAll spare + 1
  | .agg parts => uptoBulkAll parts + 1
  | .iface _ d => uptoBulk d + 1
  | .map entries => uptoBulkEntries entries + 1
  | .held _ => 1
def uptoBulkAll {H : Type} : List (DataW H) → Nat
  | [] => 0
  | d :: r => uptoBulk d + uptoBulkAll r
def uptoBulkEntries {H : Type} : List (Lit × DataW H) → Nat
  | [] => 0
  | x :: r => uptoBulkEntry x + uptoBulkEntries r
def uptoBulkEntry {H : Type} : Lit × DataW H → Nat
  | (.string bytes, d) => bytes.length + uptoBulk d + 1
  | (_, d) => uptoBulk d + 1
 end
def uptoSmall : (H : Type) → List (DataW H) → Bool := fun _ ds => decide (uptoBulkAll ds ≤ 1048576)
def OpenSpec.upto (s : _root_.Go.ChangeSpec) : _root_.Go.OpenSpec := { _root_.Go.OpenSpec.ofChange s with cond := some uptoSmall }

/-- 'straitlaw01.NatTells', WHERE WHAT IT READS IS OF BULK AT MOST 1048576: true; the input reads as it did. -/
def natTellsUptoRow : OpenClaim := { program := "ytffakiheophioaa", sum := "85fdd7891526881df4ee7a3493b5e957449d0f7f1c277ca1f07b30f682988019", func := "strait/straitlaw01.NatTells", spec := "natTells", unfollowed := true, recurses := true, apart := false, narrowed := true }
def NatTellsUptoSaid : Prop := natTellsUptoRow.holds Try.pinned (OpenSpec.upto natTellsSpec)

/-- 'straitlaw01.NatSums', WHERE WHAT IT READS IS OF BULK AT MOST 1048576: true; the input reads as it did. -/
def natSumsUptoRow : OpenClaim := { program := "ytffakiheophioaa", sum := "85fdd7891526881df4ee7a3493b5e957449d0f7f1c277ca1f07b30f682988019", func := "strait/straitlaw01.NatSums", spec := "natSums", unfollowed := true, recurses := true, apart := false, narrowed := true }
def NatSumsUptoSaid : Prop := natSumsUptoRow.holds Try.pinned (OpenSpec.upto natSumsSpec)

/-- 'straitlaw01.NatOrder', WHERE WHAT IT READS IS OF BULK AT MOST 1048576: true; the input reads as it did. -/
def natOrderUptoRow : OpenClaim := { program := "ytffakiheophioaa", sum := "85fdd7891526881df4ee7a3493b5e957449d0f7f1c277ca1f07b30f682988019", func := "strait/straitlaw01.NatOrder", spec := "natOrder", unfollowed := true, recurses := true, apart := false, narrowed := true }
def NatOrderUptoSaid : Prop := natOrderUptoRow.holds Try.pinned (OpenSpec.upto natOrderSpec)

/-- 'straitlaw01.NatSmall', WHERE WHAT IT READS IS OF BULK AT MOST 1048576: true; the input reads as it did. -/
def natSmallUptoRow : OpenClaim := { program := "ytffakiheophioaa", sum := "85fdd7891526881df4ee7a3493b5e957449d0f7f1c277ca1f07b30f682988019", func := "strait/straitlaw01.NatSmall", spec := "natSmall", unfollowed := true, recurses := true, apart := false, narrowed := true }
def NatSmallUptoSaid : Prop := natSmallUptoRow.holds Try.pinned (OpenSpec.upto natSmallSpec)

/-- 'straitlaw01.NatOwn', WHERE WHAT IT READS IS OF BULK AT MOST 1048576: true; the input reads as it did. -/
def natOwnUptoRow : OpenClaim := { program := "ytffakiheophioaa", sum := "85fdd7891526881df4ee7a3493b5e957449d0f7f1c277ca1f07b30f682988019", func := "strait/straitlaw01.NatOwn", spec := "natOwn", unfollowed := true, recurses := true, apart := false, narrowed := true }
def NatOwnUptoSaid : Prop := natOwnUptoRow.holds Try.pinned (OpenSpec.upto natOwnSpec)

/-- 'straitlaw02.ProdBits', WHERE WHAT IT READS IS OF BULK AT MOST 1048576: true; the input reads as it did. -/
def prodBitsUptoRow : OpenClaim := { program := "ytffakiheophioaa", sum := "85fdd7891526881df4ee7a3493b5e957449d0f7f1c277ca1f07b30f682988019", func := "strait/straitlaw02.ProdBits", spec := "prodBits", unfollowed := true, recurses := true, apart := false, narrowed := true }
def ProdBitsUptoSaid : Prop := prodBitsUptoRow.holds Try.pinned (OpenSpec.upto prodBitsSpec)

/-- 'straitlaw02.ProdOrder', WHERE WHAT IT READS IS OF BULK AT MOST 1048576: true; the input reads as it did. -/
def prodOrderUptoRow : OpenClaim := { program := "ytffakiheophioaa", sum := "85fdd7891526881df4ee7a3493b5e957449d0f7f1c277ca1f07b30f682988019", func := "strait/straitlaw02.ProdOrder", spec := "prodOrder", unfollowed := true, recurses := true, apart := false, narrowed := true }
def ProdOrderUptoSaid : Prop := prodOrderUptoRow.holds Try.pinned (OpenSpec.upto prodOrderSpec)

/-- 'straitlaw02.ProdShifts', WHERE WHAT IT READS IS OF BULK AT MOST 1048576: true; the input reads as it did. -/
def prodShiftsUptoRow : OpenClaim := { program := "ytffakiheophioaa", sum := "85fdd7891526881df4ee7a3493b5e957449d0f7f1c277ca1f07b30f682988019", func := "strait/straitlaw02.ProdShifts", spec := "prodShifts", unfollowed := true, recurses := true, apart := false, narrowed := true }
def ProdShiftsUptoSaid : Prop := prodShiftsUptoRow.holds Try.pinned (OpenSpec.upto prodShiftsSpec)

/-- 'straitlaw02.ProdPowers', WHERE WHAT IT READS IS OF BULK AT MOST 1048576: true; the input reads as it did. -/
def prodPowersUptoRow : OpenClaim := { program := "ytffakiheophioaa", sum := "85fdd7891526881df4ee7a3493b5e957449d0f7f1c277ca1f07b30f682988019", func := "strait/straitlaw02.ProdPowers", spec := "prodPowers", unfollowed := true, recurses := true, apart := false, narrowed := true }
def ProdPowersUptoSaid : Prop := prodPowersUptoRow.holds Try.pinned (OpenSpec.upto prodPowersSpec)

/-- 'straitlaw02.ProdTells', WHERE WHAT IT READS IS OF BULK AT MOST 1048576: true; the input reads as it did. -/
def prodTellsUptoRow : OpenClaim := { program := "ytffakiheophioaa", sum := "85fdd7891526881df4ee7a3493b5e957449d0f7f1c277ca1f07b30f682988019", func := "strait/straitlaw02.ProdTells", spec := "prodTells", unfollowed := true, recurses := true, apart := false, narrowed := true }
def ProdTellsUptoSaid : Prop := prodTellsUptoRow.holds Try.pinned (OpenSpec.upto prodTellsSpec)

/-- 'straitlaw03.QuotBack', WHERE WHAT IT READS IS OF BULK AT MOST 1048576: true; the input reads as it did. -/
def quotBackUptoRow : OpenClaim := { program := "ytffakiheophioaa", sum := "85fdd7891526881df4ee7a3493b5e957449d0f7f1c277ca1f07b30f682988019", func := "strait/straitlaw03.QuotBack", spec := "quotBack", inPlace := ["math/bits.Add64"], unfollowed := true, recurses := true, apart := false, narrowed := true }
def QuotBackUptoSaid : Prop := quotBackUptoRow.holds Try.pinned (OpenSpec.upto quotBackSpec)

/-- 'straitlaw03.QuotMakes', WHERE WHAT IT READS IS OF BULK AT MOST 1048576: true; the input reads as it did. -/
def quotMakesUptoRow : OpenClaim := { program := "ytffakiheophioaa", sum := "85fdd7891526881df4ee7a3493b5e957449d0f7f1c277ca1f07b30f682988019", func := "strait/straitlaw03.QuotMakes", spec := "quotMakes", inPlace := ["math/bits.Add64"], unfollowed := true, recurses := true, apart := false, narrowed := true }
def QuotMakesUptoSaid : Prop := quotMakesUptoRow.holds Try.pinned (OpenSpec.upto quotMakesSpec)

/-- 'straitlaw03.QuotTwice', WHERE WHAT IT READS IS OF BULK AT MOST 1048576: true; the input reads as it did. -/
def quotTwiceUptoRow : OpenClaim := { program := "ytffakiheophioaa", sum := "85fdd7891526881df4ee7a3493b5e957449d0f7f1c277ca1f07b30f682988019", func := "strait/straitlaw03.QuotTwice", spec := "quotTwice", inPlace := ["math/bits.Add64"], unfollowed := true, recurses := true, apart := false, narrowed := true }
def QuotTwiceUptoSaid : Prop := quotTwiceUptoRow.holds Try.pinned (OpenSpec.upto quotTwiceSpec)

end Rows
end Go.Proofs.Ytffakiheophioaa
