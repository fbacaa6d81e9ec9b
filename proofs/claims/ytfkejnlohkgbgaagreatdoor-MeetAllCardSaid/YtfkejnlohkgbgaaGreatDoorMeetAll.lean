/- PROVED: the tied card of the statement 'straitlaw10.MeetAll' of the seat: points of polygons' edges are each on an edge of both, each once, in order; of a polygon with itself its corners are among them: for every input the law returns true and its arguments read as before. Its conditions: those of the row (the package-level table math/bits.deBruijn64tab holds what the program's text lays), and none else. -/
import Derived.Test.YtfkejnlohkgbgaaGreatDoorMeetAllA
set_option linter.unusedVariables false
namespace Go.Proofs.YtfkejnlohkgbgaaGreatDoor
open Go.ChangeShapes Go.WideShapes Go.ChangeAt Go.RowKit Go.SL
namespace meetAllCard
theorem kMain : Tryz.checked.prog.mainIs = some (true, "6b072769c8bef9739bddd2be616c1b8b409e6737b899805b608e370b1a17cde9".toList) := by kernel_rfl
theorem kLooks : false = Tryz.checked.prog.looks [] := by kernel_rfl
theorem kGoes : false = Rows.meetAllRow.goesBy Tryz.checked.prog := by kernel_rfl
theorem kNamed : Tryz.checked.prog.funcNamed "strait/straitlaw10.MeetAll" = some 7 := by kernel_rfl
theorem card : Rows.MeetAllCardSaid :=
  Claim7.holds_tied_plain_at .later [] [.data] true (true, "6b072769c8bef9739bddd2be616c1b8b409e6737b899805b608e370b1a17cde9") false
    proved (fun _ h => by cases h) (by kernel_rfl) (fun _ h => by cases h) meetAll_row_tie rfl ⟨rfl, rfl⟩ kMain rfl
    (fun f fn hf hfn => by
      obtain rfl : f = 7 := Option.some.inj (kNamed.symm.trans hf) |>.symm
      obtain rfl : fn = Tryz.f7 := (Option.some.inj (Tryz.func7.symm.trans hfn)).symm
      exact ⟨kLooks, fun j t ht => by
        rw [Tryz.params7] at ht
        have hm : t ∈ [63] := by
          have := Array.mem_of_getElem? ht
          simp at this
          simp [this]
        have hall : ([63].all fun u => !Tryz.prog.wantsStandIn u) = true := by kernel_rfl
        exact (show Tryz.prog.wantsStandIn t = false by simpa using List.all_eq_true.1 hall t hm)⟩)
    kGoes
end meetAllCard
theorem meetAllCardProved : Rows.MeetAllCardSaid := meetAllCard.card
#print axioms meetAllCardProved
end Go.Proofs.YtfkejnlohkgbgaaGreatDoor
