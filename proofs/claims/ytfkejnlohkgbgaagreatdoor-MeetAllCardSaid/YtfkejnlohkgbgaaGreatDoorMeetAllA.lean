/- The row of the statement; the card is proved in the text behind this one. -/
import Derived.Test.YtfkejnlohkgbgaaGreatDoorRows
import Derived.Test.YtfkejnlohkgbgaaGreatDoorCards
import Derived.Test.YtfkejnlohkgbgaaGreatDoorTie
import Derived.Test.YtfkejnlohkgbgaaGreatDoorPf
import Derived.ChangeSame
import Derived.ChangeVars
import Derived.JoinedOf
import Derived.RowKit
import Derived.Lay
import Derived.MakeChecks
import Derived.Lib.LaidTab
import Derived.SevenTiedAt
set_option linter.unusedVariables false
namespace Go.Proofs.YtfkejnlohkgbgaaGreatDoor
open Go.ChangeShapes Go.WideShapes Go.ChangeAt Go.RowKit Go.SL
namespace meetAllCard
theorem own : ownKnob Tryz.prog.godebug = none := by kernel_rfl
theorem laidOut : laidOutB Tryz.prog = true := by kernel_rfl
theorem rowed : ∀ t ∈ Tryz.f7.params.toList, Tryz.prog.readableRec t = true ∧ t < Tryz.prog.types.size := by
  have h : Tryz.f7.params.toList.all (fun t => Tryz.prog.readableRec t && decide (t < Tryz.prog.types.size)) = true := by kernel_rfl
  intro t ht
  have := List.all_eq_true.1 h t ht
  simpa using this
theorem told : Tryz.f7.resultTypes = #[4] := by kernel_rfl
theorem pts : PtTypes Tryz.prog 39 33 31 29 4 107 where
  p := ⟨_, _, _, Tryz.underlying39, by rfl, by rfl, rfl, rfl, rfl, rfl⟩
  r := ⟨_, _, _, Tryz.underlying33, by rfl, by rfl, rfl, rfl, rfl, rfl⟩
  i := ⟨_, _, _, Tryz.underlying31, by rfl, by rfl, rfl, rfl, rfl, rfl⟩
  n := Tryz.underlying29
  w := Tryz.underlying107
  b := Tryz.underlying4
  cp := by kernel_rfl
  cr := by kernel_rfl
  ci := by kernel_rfl
  cn := by kernel_rfl
  cw := by kernel_rfl
  cb := by kernel_rfl
theorem tab_of {W : World} (h : laidMetH Tryz.prog Rows.meetAllRow.laid W) : Tab (fun _ => False) W := by
  rw [MakeChecks.laidMetH_plain _ _ _ (by kernel_rfl)] at h
  have h1 : laidMet Tryz.prog (("math/bits.deBruijn64tab", Lib.tabData .u8 (fW.map fun (x : Nat) => (x : Int))) :: []) W := h
  have ht := Lib.tabIs_of_head (g := 0) (t := 299) (e := 5) (n := 64) (by kernel_rfl) (by kernel_rfl) (by kernel_rfl) (by kernel_rfl) (by kernel_rfl) (by kernel_rfl) h1
  have hg : Tryz.prog.globalNamed "math/bits.deBruijn64tab" = some 0 := by kernel_rfl
  have hc := World.var?_cell hg ht
  refine ⟨id, ?_⟩
  have h0 := hc 0
  simp only [World.cell?] at h0
  split at h0
  · rename_i cur t fz hb
    refine ⟨cur, t, fz, hb, fun j u hj => ?_⟩
    have hj2 : W.cell? ⟨0, j, none⟩ = cur[j]? := by simp [World.cell?, hb]
    rw [Nat.zero_add, ← hj2, hc j]
    simpa [tabV, List.map_map, Function.comp_def] using hj
  · simp [fW] at h0
set_option maxRecDepth 100000 in
theorem lifted (os : Os) (started : os.Started) (H : Type) (enc : TypeId × Value → H) :
    ReturnsInHanded {} Tryz.checked os 7 .any (fun w args => (Rows.meetAllSpec.pre enc Tryz.prog Tryz.f7 Rows.meetAllRow.domain false w args ∧ laidMetH Tryz.prog Rows.meetAllRow.laid w) ∧ sizedMet enc Tryz.prog Tryz.f7 (OpenSpec.ofChange Rows.meetAllSpec) false w args)
      (Rows.meetAllSpec.post enc Tryz.prog Tryz.f7 false true false false) := by
  refine returnsInHanded_of_change_and (C := Tryz.checked) (X := fun w _ => laidMetH Tryz.prog Rows.meetAllRow.laid w) (fun _ _ _ hh h => h.of_heap hh) own started (by kernel_rfl) Tryz.func7
    (ChangeSpec.witness_shaped (enc := enc) (C := Tryz.checked) (os := os) (X := fun w _ => laidMetH Tryz.prog Rows.meetAllRow.laid w) false (World.laidAll Tryz.prog os Rows.meetAllRow.laid) #[.slice none 0 0, .slice none 0 0] 8 (World.laidAll_os _ _ _)
      (World.shaped_of_ZipB (by kernel_rfl) (by kernel_rfl)) (by kernel_rfl) (by kernel_rfl) (by kernel_rfl)
      (by rw [MakeChecks.laidMetH_plain _ _ _ (by kernel_rfl)]; exact laidMet_laidAll _ (by kernel_rfl) (by kernel_rfl))) ?_
  intro W base args ds gs before hval0 hW hcnd _ hL _
  have hval : ∀ (j : Nat) t v, Tryz.f7.params[j]? = some t → args[j]? = some v → Value.okWide Tryz.prog W .any base t v := hval0
  have hW' := hW
  obtain ⟨p, q, hA0, hV, rfl, hfz, hnd⟩ := hW
  have hA : DataW.TrodAll enc Tryz.prog W 0 (fun _ => true) true Tryz.f7.params.toList args.toList ds p := hA0
  rw [Tryz.params7] at hA hval
  obtain ⟨v0, r0, d0, s0, p0, q0, hargs, rfl, rfl, h0, hA0⟩ := trodAll_cons hA
  obtain ⟨v1, r1, d1, s1, p1, q1, rfl, rfl, rfl, h1, hA1⟩ := trodAll_cons hA0
  obtain ⟨rfl, rfl, rfl⟩ := trodAll_nil hA1
  obtain rfl : args = #[v0, v1] := by cases args; simp_all
  obtain ⟨l0, i0⟩ := open_pts pts Tryz.underlying63 (hval 0 63 v0 rfl rfl) h0
  obtain ⟨l1, i1⟩ := open_pts pts Tryz.underlying63 (hval 1 63 v1 rfl rfl) h1
  have hM : OkM (fun _ => False) W := fun _ h => h.elim
  have hc := law_MeetAll (M := fun _ => False) (tab_of hL) (pl_of i0) (pl_of i1) (q4l_of i0) len4_len long_mx (q4l_of i1) len4_len long_mx hM
  unfold CallsV at hc
  refine Calls.mono hc fun e W' he => ?_
  obtain ⟨v, rfl, hB, rfl⟩ := he
  exact ⟨_, rfl, law_post (P := Tryz.prog) (f := Tryz.f7) (s := Rows.meetAllSpec) (tb := 4) laidOut rowed Tryz.underlying4 told rfl hW' rfl rfl rfl hB⟩
set_option maxHeartbeats 4000000 in
set_option maxRecDepth 100000 in
theorem facts : joinedFacts Tryz.prog 7 Tryz.f7 Rows.meetAllSpec Rows.meetAllRow = true := by
  unfold joinedFacts
  simp only [Bool.and_eq_true]
  repeat' apply And.intro
  all_goals (as_aux_lemma => kernel_rfl)
theorem proved : Rows.MeetAllSaid :=
  OpenClaim.holds_of_wide 7 Tryz.f7 rfl rfl rfl rfl rfl rfl rfl ⟨rfl, rfl, rfl, rfl, rfl⟩ rfl rfl rfl rfl rfl (by kernel_rfl) Tryz.func7 facts
    (of_decide_eq_true (by kernel_rfl)) (by unfold Func.isWrapper; first | (rw [if_pos (by decide +kernel)]; kernel_rfl) | (rw [if_neg (by decide +kernel)]; exact ⟨rfl, rfl⟩))
    (fun os started H enc _ => lifted os started H enc)
end meetAllCard
end Go.Proofs.YtfkejnlohkgbgaaGreatDoor
