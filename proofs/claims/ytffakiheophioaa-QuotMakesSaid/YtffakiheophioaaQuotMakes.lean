/- PROVED: the statement 'straitlaw03.QuotMakes' of the seat: for every input the law returns true and its arguments read as before. Its conditions: none but the row's own. -/
import Derived.Test.YtffakiheophioaaRows
import Derived.Test.YtffakiheophioaaW25
import Derived.Test.YtffakiheophioaaSLr
set_option linter.unusedVariables false
namespace Go.Proofs.Ytffakiheophioaa
open Go.ChangeShapes Go.WideShapes Go.ChangeAt Go.RowKit Go.SL
namespace QuotMakes
theorem own : ownKnob Try.prog.godebug = none := by kernel_rfl
theorem laid : laidOutB Try.prog = true := by kernel_rfl
theorem rowed : ∀ t ∈ Try.f14.params.toList, Try.prog.readableRec t = true ∧ t < Try.prog.types.size := by
  have h : Try.f14.params.toList.all (fun t => Try.prog.readableRec t && decide (t < Try.prog.types.size)) = true := by kernel_rfl
  intro t ht
  have := List.all_eq_true.1 h t ht
  simpa using this
theorem told : Try.f14.resultTypes = #[4] := by kernel_rfl
set_option maxRecDepth 100000 in
theorem lifted (os : Os) (started : os.Started) (H : Type) (enc : TypeId × Value → H) :
    ReturnsInHanded {} Try.checked os 14 .any (Rows.quotMakesSpec.pre6 enc Try.prog Try.f14 Rows.quotMakesRow.domain false) (Rows.quotMakesSpec.post enc Try.prog Try.f14 false true false false) := by
  refine returnsInHanded_of_change (C := Try.checked) own started (by kernel_rfl) Try.func14
    (ChangeSpec.witness6 (enc := enc) (C := Try.checked) false ⟨#[], #[.slice none 0 0, .slice none 0 0, .slice none 0 0], []⟩ 8 (by kernel_rfl) (by kernel_rfl) (by kernel_rfl) (by kernel_rfl)) ?_
  intro W base args ds gs before hval0 hW hcnd _
  have hval : ∀ (j : Nat) t v, Try.f14.params[j]? = some t → args[j]? = some v → Value.okWide Try.prog W .any base t v := hval0
  have hW' := hW
  obtain ⟨p, q, hA0, hV, rfl, hfz, hnd⟩ := hW
  have hA : DataW.TrodAll enc Try.prog W 0 (fun _ => true) true Try.f14.params.toList args.toList ds p := hA0
  rw [Try.params14] at hA hval
  obtain ⟨v0, r0, d0, s0, p0, q0, hargs, rfl, rfl, h0, hA0⟩ := trodAll_cons hA
  obtain ⟨v1, r1, d1, s1, p1, q1, rfl, rfl, rfl, h1, hA1⟩ := trodAll_cons hA0
  obtain ⟨v2, r2, d2, s2, p2, q2, rfl, rfl, rfl, h2, hA2⟩ := trodAll_cons hA1
  obtain ⟨rfl, rfl, rfl⟩ := trodAll_nil hA2
  obtain rfl : args = #[v0, v1, v2] := by cases args; simp_all
  obtain ⟨x0, o0⟩ := open_nat Try.underlying23 Try.underlying43 (by kernel_rfl) (hval 0 23 v0 rfl rfl) h0
  obtain ⟨x1, o1⟩ := open_nat Try.underlying23 Try.underlying43 (by kernel_rfl) (hval 1 23 v1 rfl rfl) h1
  obtain ⟨x2, o2⟩ := open_nat Try.underlying23 Try.underlying43 (by kernel_rfl) (hval 2 23 v2 rfl rfl) h2
  have hM : OkM (fun _ => False) W := fun _ h => h.elim
  have hc := quotMakes_c o0 o1 o2 hM
  unfold CallsV at hc
  refine Calls.mono hc fun e W' he => ?_
  obtain ⟨v, rfl, hB, rfl⟩ := he
  exact ⟨_, rfl, law_post (P := Try.prog) (f := Try.f14) (s := Rows.quotMakesSpec) (tb := 4) laid rowed Try.underlying4 told rfl hW' rfl rfl rfl hB⟩
theorem proved : Rows.QuotMakesSaid :=
  OpenClaim.holds_of_wide 14 Try.f14 rfl rfl rfl rfl rfl rfl rfl ⟨rfl, rfl, rfl, rfl, rfl⟩ rfl rfl rfl rfl rfl (by kernel_rfl) Try.func14 (by kernel_rfl)
    (of_decide_eq_true (by kernel_rfl)) (by unfold Func.isWrapper; first | (rw [if_pos (by decide +kernel)]; kernel_rfl) | (rw [if_neg (by decide +kernel)]; exact ⟨rfl, rfl⟩))
    (fun os started H enc _ => lifted os started H enc)
end QuotMakes
theorem quotMakesProved : Rows.QuotMakesSaid := QuotMakes.proved
#print axioms quotMakesProved
end Go.Proofs.Ytffakiheophioaa
