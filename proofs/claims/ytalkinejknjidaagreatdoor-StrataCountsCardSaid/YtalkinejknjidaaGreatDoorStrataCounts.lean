/- PROVED: the tied card of the statement 'straitlaw24.StrataCounts' of the seat: a wall of n points has n less one gaps, a slab of n levels as many between, walls are one more than slabs, and each wall goes from the bottom of the box to its top: for every input the law returns true and its arguments read as before. Its conditions: those of the row (the package-level table math/bits.deBruijn64tab holds what the program's text lays), and none else. -/
import Derived.Test.YtalkinejknjidaaGreatDoorRows
import Derived.Test.YtalkinejknjidaaGreatDoorCards
import Derived.Test.YtalkinejknjidaaGreatDoorTie
import Derived.Test.YtalkinejknjidaaGreatDoorPf
import Derived.ChangeSame
import Derived.ChangeVars
import Derived.JoinedOf
import Derived.RowKit
import Derived.Lay
import Derived.MakeChecks
import Derived.Lib.LaidTab
import Derived.SevenTiedAt
set_option linter.unusedVariables false
namespace Go.Proofs.YtalkinejknjidaaGreatDoor
open Go.ChangeShapes Go.WideShapes Go.ChangeAt Go.RowKit Go.SL
namespace strataCountsCard
theorem own : ownKnob Tryz.prog.godebug = none := by kernel_rfl
theorem laidOut : laidOutB Tryz.prog = true := by kernel_rfl
theorem rowed : ∀ t ∈ Tryz.f12.params.toList, Tryz.prog.readableRec t = true ∧ t < Tryz.prog.types.size := by
  have h : Tryz.f12.params.toList.all (fun t => Tryz.prog.readableRec t && decide (t < Tryz.prog.types.size)) = true := by kernel_rfl
  intro t ht
  have := List.all_eq_true.1 h t ht
  simpa using this
theorem told : Tryz.f12.resultTypes = #[4] := by kernel_rfl
theorem nums : NumTypes Tryz.prog 39 29 27 25 4 155 where
  p := ⟨_, _, _, Tryz.underlying39, by rfl, by rfl, rfl, rfl, rfl, rfl, by kernel_rfl⟩
  r := ⟨_, _, _, Tryz.underlying29, by rfl, by rfl, rfl, rfl, rfl, rfl, by kernel_rfl⟩
  i := ⟨_, _, _, Tryz.underlying27, by rfl, by rfl, rfl, rfl, rfl, rfl, by kernel_rfl⟩
  n := Tryz.underlying25
  w := Tryz.underlying155
  b := Tryz.underlying4
  cn := by kernel_rfl
  cw := by kernel_rfl
  cb := by kernel_rfl
  hb := of_decide_eq_true (by kernel_rfl)
theorem tab_of {W : World} (h : laidMetH Tryz.prog Rows.strataCountsRow.laid W) : Tab (fun _ => False) W := by
  rw [MakeChecks.laidMetH_plain _ _ _ (by kernel_rfl)] at h
  have h1 : laidMet Tryz.prog (("math/bits.deBruijn64tab", Lib.tabData .u8 (tabL.map fun (x : Nat) => (x : Int))) :: []) W := h
  have ht := Lib.tabIs_of_head (g := 0) (t := 363) (e := 5) (n := 64) (by kernel_rfl) (by kernel_rfl) (by kernel_rfl) (by kernel_rfl) (by kernel_rfl) (by kernel_rfl) h1
  have hg : Tryz.prog.globalNamed "math/bits.deBruijn64tab" = some 0 := by kernel_rfl
  have hc := World.var?_cell hg ht
  refine ⟨id, ?_⟩
  have h0 := hc 0
  simp only [World.cell?] at h0
  split at h0
  · rename_i cur t fz hb
    refine ⟨cur, t, fz, hb, fun j u hj => ?_⟩
    have hj2 : W.cell? ⟨0, j, none⟩ = cur[j]? := by simp [World.cell?, hb]
    rw [Nat.zero_add, ← hj2, hc j]
    simpa [tabV, List.map_map, Function.comp_def] using hj
  · simp [tabL] at h0
set_option maxRecDepth 100000 in
theorem lifted (os : Os) (started : os.Started) (H : Type) (enc : TypeId × Value → H) :
    ReturnsInHanded {} Tryz.checked os 12 .any (fun w args => (Rows.strataCountsSpec.pre enc Tryz.prog Tryz.f12 Rows.strataCountsRow.domain false w args ∧ laidMetH Tryz.prog Rows.strataCountsRow.laid w) ∧ sizedMet enc Tryz.prog Tryz.f12 (OpenSpec.ofChange Rows.strataCountsSpec) false w args)
      (Rows.strataCountsSpec.post enc Tryz.prog Tryz.f12 false true false false) := by
  refine returnsInHanded_of_change_and (C := Tryz.checked) (X := fun w _ => laidMetH Tryz.prog Rows.strataCountsRow.laid w) (fun _ _ _ hh h => h.of_heap hh) own started (by kernel_rfl) Tryz.func12
    (ChangeSpec.witness_shaped (enc := enc) (C := Tryz.checked) (os := os) (X := fun w _ => laidMetH Tryz.prog Rows.strataCountsRow.laid w) false (World.laidAll Tryz.prog os Rows.strataCountsRow.laid) #[.slice none 0 0, .slice none 0 0] 8 (World.laidAll_os _ _ _)
      (World.shaped_of_ZipB (by kernel_rfl) (by kernel_rfl)) (by kernel_rfl) (by kernel_rfl) (by kernel_rfl)
      (by rw [MakeChecks.laidMetH_plain _ _ _ (by kernel_rfl)]; exact laidMet_laidAll _ (by kernel_rfl) (by kernel_rfl))) ?_
  intro W base args ds gs before hval0 hW hcnd hwt hL _
  have hval : ∀ (j : Nat) t v, Tryz.f12.params[j]? = some t → args[j]? = some v → Value.okWide Tryz.prog W .any base t v := hval0
  have hW' := hW
  obtain ⟨p, q, hA0, hV, rfl, hfz, hnd⟩ := hW
  have hA : DataW.TrodAll enc Tryz.prog W 0 (fun _ => true) true Tryz.f12.params.toList args.toList ds p := hA0
  rw [Tryz.params12] at hA hval
  obtain ⟨v0, r0, d0, s0, p0, q0, hargs, rfl, rfl, h0, hA0⟩ := trodAll_cons hA
  obtain ⟨v1, r1, d1, s1, p1, q1, rfl, rfl, rfl, h1, hA1⟩ := trodAll_cons hA0
  obtain ⟨rfl, rfl, rfl⟩ := trodAll_nil hA1
  obtain rfl : args = #[v0, v1] := by cases args; simp_all
  have hwm : ∀ m ∈ DataW.weightsEach Tryz.prog (Tryz.f12.params.toList ++ Rows.strataCountsSpec.plain.varTypes Tryz.prog) ([d0, d1] ++ gs), m ≤ reachBytes := fun m hm => by simpa using List.all_eq_true.1 hwt m hm
  rw [Tryz.params12] at hwm
  obtain ⟨a0, z0, y0⟩ := top_slice (opn_pcx nums Tryz.underlying22 (by kernel_rfl)) Tryz.underlying22 (hval 0 22 v0 rfl rfl) (fun m hm => hwm m (DataW.weights_mem_each (j := 0) rfl rfl m hm)) h0
  obtain ⟨a1, z1, y1⟩ := top_slice (opn_slicew Tryz.underlying23 (by kernel_rfl) (opn_tri Tryz.underlying100 (by kernel_rfl) (opn_ptx nums)) (by omega)) Tryz.underlying23 (hval 1 23 v1 rfl rfl) (fun m hm => hwm m (DataW.weights_mem_each (j := 1) rfl rfl m hm)) h1
  have hM : OkM F0 W := fun _ h => h.elim
  have hR := reach_le
  have hc := (law_StrataCounts ).run F0 W _ hM (tab_of hL) ⟨v0, _, rfl, z0, v1, _, rfl, z1, rfl⟩
  unfold CallsV at hc
  refine Calls.mono hc fun e W' he => ?_
  obtain ⟨v, rfl, hB, hv⟩ := he
  obtain rfl : v = .bool true := hv
  exact ⟨_, rfl, law_post (P := Tryz.prog) (f := Tryz.f12) (s := Rows.strataCountsSpec) (tb := 4) laidOut rowed Tryz.underlying4 told rfl hW' rfl rfl rfl hB⟩
set_option maxHeartbeats 4000000 in
set_option maxRecDepth 100000 in
theorem facts : joinedFacts Tryz.prog 12 Tryz.f12 Rows.strataCountsSpec Rows.strataCountsRow = true := by
  unfold joinedFacts
  simp only [Bool.and_eq_true]
  repeat' apply And.intro
  all_goals (as_aux_lemma => kernel_rfl)
theorem proved : Rows.StrataCountsSaid :=
  OpenClaim.holds_of_wide 12 Tryz.f12 rfl rfl rfl rfl rfl rfl rfl ⟨rfl, rfl, rfl, rfl, rfl⟩ rfl rfl rfl rfl rfl (by kernel_rfl) Tryz.func12 facts
    (of_decide_eq_true (by kernel_rfl)) (by unfold Func.isWrapper; first | (rw [if_pos (by decide +kernel)]; kernel_rfl) | (rw [if_neg (by decide +kernel)]; exact ⟨rfl, rfl⟩))
    (fun os started H enc _ => lifted os started H enc)
theorem kMain : Tryz.checked.prog.mainIs = some (true, "2bcb1c4b11ebc7996808298943174906a341c382926f7cd534c893b1bc631f19".toList) := by kernel_rfl
theorem kLooks : false = Tryz.checked.prog.looks [] := by kernel_rfl
theorem kGoes : false = Rows.strataCountsRow.goesBy Tryz.checked.prog := by kernel_rfl
theorem kNamed : Tryz.checked.prog.funcNamed "strait/straitlaw24.StrataCounts" = some 12 := by kernel_rfl
theorem card : Rows.StrataCountsCardSaid :=
  Claim7.holds_tied_plain_at .later [] [.data] true (true, "2bcb1c4b11ebc7996808298943174906a341c382926f7cd534c893b1bc631f19") false
    proved (fun _ h => by cases h) (by kernel_rfl) (fun _ h => by cases h) strataCounts_row_tie rfl ⟨rfl, rfl⟩ kMain rfl
    (fun f fn hf hfn => by
      obtain rfl : f = 12 := Option.some.inj (kNamed.symm.trans hf) |>.symm
      obtain rfl : fn = Tryz.f12 := (Option.some.inj (Tryz.func12.symm.trans hfn)).symm
      exact ⟨kLooks, fun j t ht => by
        rw [Tryz.params12] at ht
        have hm : t ∈ [22, 23] := by
          have := Array.mem_of_getElem? ht
          simp at this
          simp [this]
        have hall : ([22, 23].all fun u => !Tryz.prog.wantsStandIn u) = true := by kernel_rfl
        exact (show Tryz.prog.wantsStandIn t = false by simpa using List.all_eq_true.1 hall t hm)⟩)
    kGoes
end strataCountsCard
theorem strataCountsCardProved : Rows.StrataCountsCardSaid := strataCountsCard.card
#print axioms strataCountsCardProved
end Go.Proofs.YtalkinejknjidaaGreatDoor
