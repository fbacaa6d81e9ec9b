/- PROVED: the tied card of the statement 'straitlaw24.StrataClosed' of the seat: the corners of the closure of a cell, the middle of any two of them and the representative are in the closure; of a cell that the model does not have there are none: for every input the law returns true and its arguments read as before. Its conditions: those of the row (the package-level table math/bits.deBruijn64tab holds what the program's text lays), and none else. -/
import Derived.Test.YtalkinejknjidaaGreatDoorRows
import Derived.Test.YtalkinejknjidaaGreatDoorCards
import Derived.Test.YtalkinejknjidaaGreatDoorTie
import Derived.Test.YtalkinejknjidaaGreatDoorPf
import Derived.ChangeSame
import Derived.ChangeVars
import Derived.JoinedOf
import Derived.RowKit
import Derived.Lay
import Derived.MakeChecks
import Derived.Lib.LaidTab
import Derived.SevenTiedAt
set_option linter.unusedVariables false
namespace Go.Proofs.YtalkinejknjidaaGreatDoor
open Go.ChangeShapes Go.WideShapes Go.ChangeAt Go.RowKit Go.SL
namespace strataClosedCard
theorem own : ownKnob Tryz.prog.godebug = none := by kernel_rfl
theorem laidOut : laidOutB Tryz.prog = true := by kernel_rfl
theorem rowed : ∀ t ∈ Tryz.f11.params.toList, Tryz.prog.readableRec t = true ∧ t < Tryz.prog.types.size := by
  have h : Tryz.f11.params.toList.all (fun t => Tryz.prog.readableRec t && decide (t < Tryz.prog.types.size)) = true := by kernel_rfl
  intro t ht
  have := List.all_eq_true.1 h t ht
  simpa using this
theorem told : Tryz.f11.resultTypes = #[4] := by kernel_rfl
theorem nums : NumTypes Tryz.prog 39 29 27 25 4 155 where
  p := ⟨_, _, _, Tryz.underlying39, by rfl, by rfl, rfl, rfl, rfl, rfl, by kernel_rfl⟩
  r := ⟨_, _, _, Tryz.underlying29, by rfl, by rfl, rfl, rfl, rfl, rfl, by kernel_rfl⟩
  i := ⟨_, _, _, Tryz.underlying27, by rfl, by rfl, rfl, rfl, rfl, rfl, by kernel_rfl⟩
  n := Tryz.underlying25
  w := Tryz.underlying155
  b := Tryz.underlying4
  cn := by kernel_rfl
  cw := by kernel_rfl
  cb := by kernel_rfl
  hb := of_decide_eq_true (by kernel_rfl)
theorem tab_of {W : World} (h : laidMetH Tryz.prog Rows.strataClosedRow.laid W) : Tab (fun _ => False) W := by
  rw [MakeChecks.laidMetH_plain _ _ _ (by kernel_rfl)] at h
  have h1 : laidMet Tryz.prog (("math/bits.deBruijn64tab", Lib.tabData .u8 (tabL.map fun (x : Nat) => (x : Int))) :: []) W := h
  have ht := Lib.tabIs_of_head (g := 0) (t := 363) (e := 5) (n := 64) (by kernel_rfl) (by kernel_rfl) (by kernel_rfl) (by kernel_rfl) (by kernel_rfl) (by kernel_rfl) h1
  have hg : Tryz.prog.globalNamed "math/bits.deBruijn64tab" = some 0 := by kernel_rfl
  have hc := World.var?_cell hg ht
  refine ⟨id, ?_⟩
  have h0 := hc 0
  simp only [World.cell?] at h0
  split at h0
  · rename_i cur t fz hb
    refine ⟨cur, t, fz, hb, fun j u hj => ?_⟩
    have hj2 : W.cell? ⟨0, j, none⟩ = cur[j]? := by simp [World.cell?, hb]
    rw [Nat.zero_add, ← hj2, hc j]
    simpa [tabV, List.map_map, Function.comp_def] using hj
  · simp [tabL] at h0
set_option maxRecDepth 100000 in
theorem lifted (os : Os) (started : os.Started) (H : Type) (enc : TypeId × Value → H) :
    ReturnsInHanded {} Tryz.checked os 11 .any (fun w args => (Rows.strataClosedSpec.pre enc Tryz.prog Tryz.f11 Rows.strataClosedRow.domain false w args ∧ laidMetH Tryz.prog Rows.strataClosedRow.laid w) ∧ sizedMet enc Tryz.prog Tryz.f11 (OpenSpec.ofChange Rows.strataClosedSpec) false w args)
      (Rows.strataClosedSpec.post enc Tryz.prog Tryz.f11 false true false false) := by
  refine returnsInHanded_of_change_and (C := Tryz.checked) (X := fun w _ => laidMetH Tryz.prog Rows.strataClosedRow.laid w) (fun _ _ _ hh h => h.of_heap hh) own started (by kernel_rfl) Tryz.func11
    (ChangeSpec.witness_shaped (enc := enc) (C := Tryz.checked) (os := os) (X := fun w _ => laidMetH Tryz.prog Rows.strataClosedRow.laid w) false (World.laidAll Tryz.prog os Rows.strataClosedRow.laid) #[.slice none 0 0, .slice none 0 0, .int .i64 0, .int .i64 0, .int .i64 0] 8 (World.laidAll_os _ _ _)
      (World.shaped_of_ZipB (by kernel_rfl) (by kernel_rfl)) (by kernel_rfl) (by kernel_rfl) (by kernel_rfl)
      (by rw [MakeChecks.laidMetH_plain _ _ _ (by kernel_rfl)]; exact laidMet_laidAll _ (by kernel_rfl) (by kernel_rfl))) ?_
  intro W base args ds gs before hval0 hW hcnd hwt hL _
  have hval : ∀ (j : Nat) t v, Tryz.f11.params[j]? = some t → args[j]? = some v → Value.okWide Tryz.prog W .any base t v := hval0
  have hW' := hW
  obtain ⟨p, q, hA0, hV, rfl, hfz, hnd⟩ := hW
  have hA : DataW.TrodAll enc Tryz.prog W 0 (fun _ => true) true Tryz.f11.params.toList args.toList ds p := hA0
  rw [Tryz.params11] at hA hval
  obtain ⟨v0, r0, d0, s0, p0, q0, hargs, rfl, rfl, h0, hA0⟩ := trodAll_cons hA
  obtain ⟨v1, r1, d1, s1, p1, q1, rfl, rfl, rfl, h1, hA1⟩ := trodAll_cons hA0
  obtain ⟨v2, r2, d2, s2, p2, q2, rfl, rfl, rfl, h2, hA2⟩ := trodAll_cons hA1
  obtain ⟨v3, r3, d3, s3, p3, q3, rfl, rfl, rfl, h3, hA3⟩ := trodAll_cons hA2
  obtain ⟨v4, r4, d4, s4, p4, q4, rfl, rfl, rfl, h4, hA4⟩ := trodAll_cons hA3
  obtain ⟨rfl, rfl, rfl⟩ := trodAll_nil hA4
  obtain rfl : args = #[v0, v1, v2, v3, v4] := by cases args; simp_all
  have hwm : ∀ m ∈ DataW.weightsEach Tryz.prog (Tryz.f11.params.toList ++ Rows.strataClosedSpec.plain.varTypes Tryz.prog) ([d0, d1, d2, d3, d4] ++ gs), m ≤ reachBytes := fun m hm => by simpa using List.all_eq_true.1 hwt m hm
  rw [Tryz.params11] at hwm
  obtain ⟨a0, z0, y0⟩ := top_slice (opn_pcx nums Tryz.underlying22 (by kernel_rfl)) Tryz.underlying22 (hval 0 22 v0 rfl rfl) (fun m hm => hwm m (DataW.weights_mem_each (j := 0) rfl rfl m hm)) h0
  obtain ⟨a1, z1, y1⟩ := top_slice (opn_slicew Tryz.underlying23 (by kernel_rfl) (opn_tri Tryz.underlying100 (by kernel_rfl) (opn_ptx nums)) (by omega)) Tryz.underlying23 (hval 1 23 v1 rfl rfl) (fun m hm => hwm m (DataW.weights_mem_each (j := 1) rfl rfl m hm)) h1
  obtain ⟨a2, z2, y2⟩ := top_int (W := W) Tryz.underlying3 (hval 2 3 v2 rfl rfl)
  obtain ⟨a3, z3, y3⟩ := top_int (W := W) Tryz.underlying3 (hval 3 3 v3 rfl rfl)
  obtain ⟨a4, z4, y4⟩ := top_int (W := W) Tryz.underlying3 (hval 4 3 v4 rfl rfl)
  have hM : OkM F0 W := fun _ h => h.elim
  have hR := reach_le
  have hc := (law_StrataClosed ).run F0 W _ hM (tab_of hL) ⟨v0, _, rfl, z0, v1, _, rfl, z1, v2, _, rfl, z2, v3, _, rfl, z3, v4, _, rfl, z4, rfl⟩
  unfold CallsV at hc
  refine Calls.mono hc fun e W' he => ?_
  obtain ⟨v, rfl, hB, hv⟩ := he
  obtain rfl : v = .bool true := hv
  exact ⟨_, rfl, law_post (P := Tryz.prog) (f := Tryz.f11) (s := Rows.strataClosedSpec) (tb := 4) laidOut rowed Tryz.underlying4 told rfl hW' rfl rfl rfl hB⟩
set_option maxHeartbeats 4000000 in
set_option maxRecDepth 100000 in
theorem facts : joinedFacts Tryz.prog 11 Tryz.f11 Rows.strataClosedSpec Rows.strataClosedRow = true := by
  unfold joinedFacts
  simp only [Bool.and_eq_true]
  repeat' apply And.intro
  all_goals (as_aux_lemma => kernel_rfl)
theorem proved : Rows.StrataClosedSaid :=
  OpenClaim.holds_of_wide 11 Tryz.f11 rfl rfl rfl rfl rfl rfl rfl ⟨rfl, rfl, rfl, rfl, rfl⟩ rfl rfl rfl rfl rfl (by kernel_rfl) Tryz.func11 facts
    (of_decide_eq_true (by kernel_rfl)) (by unfold Func.isWrapper; first | (rw [if_pos (by decide +kernel)]; kernel_rfl) | (rw [if_neg (by decide +kernel)]; exact ⟨rfl, rfl⟩))
    (fun os started H enc _ => lifted os started H enc)
theorem kMain : Tryz.checked.prog.mainIs = some (true, "2bcb1c4b11ebc7996808298943174906a341c382926f7cd534c893b1bc631f19".toList) := by kernel_rfl
theorem kLooks : false = Tryz.checked.prog.looks [] := by kernel_rfl
theorem kGoes : false = Rows.strataClosedRow.goesBy Tryz.checked.prog := by kernel_rfl
theorem kNamed : Tryz.checked.prog.funcNamed "strait/straitlaw24.StrataClosed" = some 11 := by kernel_rfl
theorem card : Rows.StrataClosedCardSaid :=
  Claim7.holds_tied_plain_at .later [] [.data] true (true, "2bcb1c4b11ebc7996808298943174906a341c382926f7cd534c893b1bc631f19") false
    proved (fun _ h => by cases h) (by kernel_rfl) (fun _ h => by cases h) strataClosed_row_tie rfl ⟨rfl, rfl⟩ kMain rfl
    (fun f fn hf hfn => by
      obtain rfl : f = 11 := Option.some.inj (kNamed.symm.trans hf) |>.symm
      obtain rfl : fn = Tryz.f11 := (Option.some.inj (Tryz.func11.symm.trans hfn)).symm
      exact ⟨kLooks, fun j t ht => by
        rw [Tryz.params11] at ht
        have hm : t ∈ [22, 23, 3] := by
          have := Array.mem_of_getElem? ht
          simp at this
          simp [this]
        have hall : ([22, 23, 3].all fun u => !Tryz.prog.wantsStandIn u) = true := by kernel_rfl
        exact (show Tryz.prog.wantsStandIn t = false by simpa using List.all_eq_true.1 hall t hm)⟩)
    kGoes
end strataClosedCard
theorem strataClosedCardProved : Rows.StrataClosedCardSaid := strataClosedCard.card
#print axioms strataClosedCardProved
end Go.Proofs.YtalkinejknjidaaGreatDoor
