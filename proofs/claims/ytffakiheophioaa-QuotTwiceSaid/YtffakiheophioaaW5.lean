import Derived.Test.YtffakiheophioaaW4
import Derived.Test.YtffakiheophioaaSLn
set_option linter.unusedVariables false
set_option linter.unusedSimpArgs false
set_option maxRecDepth 100000
namespace Go.Proofs.Ytffakiheophioaa
open Go.SL Go.RowKit Go.Proofs
theorem limbs_w : limbs 4294967296 = [0, 1] := by
  rw [limbs_pos (by decide), limbs_pos (by decide), show (4294967296 / 4294967296 / 4294967296 : Nat) = 0 by decide, limbs_zero]
theorem limbs_m : limbs 4294967295 = [4294967295] := by
  rw [limbs_pos (by decide), show (4294967295 / 4294967296 : Nat) = 0 by decide, limbs_zero]
theorem len1 (a : Nat) : [a].length = 1 := rfl
theorem len2 (a b : Nat) : [a, b].length = 2 := rfl

theorem wakes1_c {M : Nat → Prop} {w : World} (hM : OkM M w) :
    CallsV Try.prog 17 [] w fun r w' => Below w.heap.size w w' ∧ r = .bool true := by
  obtain ⟨Fz, hFz⟩ : ∃ Fz : Nat → Prop, Fz = (· < w.heap.size) := ⟨_, rfl⟩
  have hF : FOk Fz w := by subst hFz; exact fun _ h => h
  have l1 := len1 1; have l2 := len1 2; have l3 := len2 0 1; have l4 := len1 4294967295
  have LL := Le.refl Fz M w; have hM0 := hM
  refine calls_intro Try.func17 rfl Try.ntmps17 rfl ?_
  refine SL.wp_seq ?_
  refine SL.wp_region ?_
  refine ops_assign rfl rfl ?_
  refine ops_nil ?_
  refine SL.wp_seq ?_
  refine SL.wp_region ?_
  refine ops_callv rfl bod27 rfl rfl ?_
  refine (of_c (n := 4294967295) (M := M) (by omega) hM).mono ?_
  rintro v8 w1 ⟨hB8, hf8⟩
  have hM8 := hM; have hS8 := LL.size
  have Lw1 := Le.of_below (Fz := Fz) (M := M) hB8
  replace LL := LL.trans Lw1
  replace hM := hM.mono Lw1
  replace hF := hF.mono Lw1
  rw [limbs_m] at hf8; have hn8 := hf8.nat hM8; replace hf8 := hf8.less hS8
  refine ops_buildSlice rfl Try.underlying23 sz43 rfl rfl rfl (by simp [Value.oneCell', lw]) rfl (fun w2 b9 N9 => ?_)
  have hBw2 := N9.below
  have nM9 := hM.new N9; have B9 := N9.blk
  have Lw2 := Le.of_below (Fz := Fz) (M := M) hBw2
  replace LL := LL.trans Lw2
  replace hM := hM.mono Lw2
  replace hF := hF.mono Lw2
  replace hn8 := hn8.mono Lw2
  have hn9 : IsNat M w2 (.slice (some ⟨b9, 0, none⟩) 1 1) [1] := blk_nat (xs := [1]) B9 nM9 rfl (by simp) (by simp)
  refine ops_buildSlice rfl Try.underlying24 sz23 rfl rfl rfl (one2 (by first | rfl | exact nat_one (by assumption) | exact own_one (by assumption)) (by first | rfl | exact nat_one (by assumption) | exact own_one (by assumption))) rfl (fun w3 b10 N10 => ?_)
  have hBw3 := N10.below
  have nM10 := hM.new N10; have B10 := N10.blk
  have Lw3 := Le.of_below (Fz := Fz) (M := M) hBw3
  replace LL := LL.trans Lw3
  replace hM := hM.mono Lw3
  replace hF := hF.mono Lw3
  replace hn8 := hn8.mono Lw3
  replace hn9 := hn9.mono Lw3
  have hn10 := nats2 B10 nM10 (by assumption) (by assumption)
  refine ops_callv rfl bod29 rfl rfl ?_
  refine (add_c (M := M) (by assumption) (by simp) (by simp) hM).mono ?_
  rintro v11 w4 ⟨hB11, hf11⟩
  have hM11 := hM; have hS11 := LL.size
  have Lw4 := Le.of_below (Fz := Fz) (M := M) hB11
  replace LL := LL.trans Lw4
  replace hM := hM.mono Lw4
  replace hF := hF.mono Lw4
  replace hn8 := hn8.mono Lw4
  replace hn9 := hn9.mono Lw4
  replace hn10 := hn10.mono Lw4
  rw [show (([[4294967295], [1]] : List (List Nat)).map val).sum = 4294967296 by decide, limbs_w] at hf11; have hn11 := hf11.nat hM11; replace hf11 := hf11.less hS11
  refine ops_assign rfl rfl ?_
  refine ops_nil ?_
  refine SL.wp_seq ?_
  refine SL.wp_region ?_
  refine ops_buildSlice rfl Try.underlying23 sz43 rfl rfl rfl (by simp [Value.oneCell', lw]) rfl (fun w5 b13 N13 => ?_)
  have hBw5 := N13.below
  have nM13 := hM.new N13; have B13 := N13.blk
  have Lw5 := Le.of_below (Fz := Fz) (M := M) hBw5
  replace LL := LL.trans Lw5
  replace hM := hM.mono Lw5
  replace hF := hF.mono Lw5
  replace hn8 := hn8.mono Lw5
  replace hn9 := hn9.mono Lw5
  replace hn10 := hn10.mono Lw5
  replace hn11 := hn11.mono Lw5
  have hn13 : IsNat M w5 (.slice (some ⟨b13, 0, none⟩) 1 1) [1] := blk_nat (xs := [1]) B13 nM13 rfl (by simp) (by simp)
  refine ops_buildSlice rfl Try.underlying23 sz43 rfl rfl rfl (by simp [Value.oneCell', lw]) rfl (fun w6 b14 N14 => ?_)
  have hBw6 := N14.below
  have nM14 := hM.new N14; have B14 := N14.blk
  have Lw6 := Le.of_below (Fz := Fz) (M := M) hBw6
  replace LL := LL.trans Lw6
  replace hM := hM.mono Lw6
  replace hF := hF.mono Lw6
  replace hn8 := hn8.mono Lw6
  replace hn9 := hn9.mono Lw6
  replace hn10 := hn10.mono Lw6
  replace hn11 := hn11.mono Lw6
  replace hn13 := hn13.mono Lw6
  have hn14 : IsNat M w6 (.slice (some ⟨b14, 0, none⟩) 1 1) [2] := blk_nat (xs := [2]) B14 nM14 rfl (by simp) (by simp)
  refine ops_callv rfl bod20 rfl rfl ?_
  refine (sub_c (M := M) hn13 hn14 (by omega) (by omega) hM).mono ?_
  rintro v15 w7 ⟨hB15, h15⟩
  have hM15 := hM; have hS15 := LL.size
  have Lw7 := Le.of_below (Fz := Fz) (M := M) hB15
  replace LL := LL.trans Lw7
  replace hM := hM.mono Lw7
  replace hF := hF.mono Lw7
  replace hn8 := hn8.mono Lw7
  replace hn9 := hn9.mono Lw7
  replace hn10 := hn10.mono Lw7
  replace hn11 := hn11.mono Lw7
  replace hn13 := hn13.mono Lw7
  replace hn14 := hn14.mono Lw7
  obtain ⟨_, rfl⟩ : val [1] < val [2] ∧ v15 = .tuple #[.slice none 0 0, .int .i64 10] := by
    rcases h15 with h | ⟨h, _⟩
    · exact h
    · simp [val] at h
  refine ops_move rfl rfl ?_
  refine ops_extract rfl rfl rfl ?_
  refine ops_extract rfl rfl rfl ?_
  refine ops_assign rfl rfl ?_
  refine ops_assign rfl rfl ?_
  refine ops_nil ?_
  refine SL.wp_seq ?_
  refine SL.wp_region ?_
  refine ops_move rfl rfl ?_
  refine ops_buildSlice rfl Try.underlying23 sz43 rfl rfl rfl (by simp [Value.oneCell', lw]) rfl (fun w8 b20 N20 => ?_)
  have hBw8 := N20.below
  have nM20 := hM.new N20; have B20 := N20.blk
  have Lw8 := Le.of_below (Fz := Fz) (M := M) hBw8
  replace LL := LL.trans Lw8
  replace hM := hM.mono Lw8
  replace hF := hF.mono Lw8
  replace hn8 := hn8.mono Lw8
  replace hn9 := hn9.mono Lw8
  replace hn10 := hn10.mono Lw8
  replace hn11 := hn11.mono Lw8
  replace hn13 := hn13.mono Lw8
  replace hn14 := hn14.mono Lw8
  have hn20 : IsNat M w8 (.slice (some ⟨b20, 0, none⟩) 1 1) [1] := blk_nat (xs := [1]) B20 nM20 rfl (by simp) (by simp)
  refine ops_callv rfl bod20 rfl rfl ?_
  refine (sub_c (M := M) hn11 hn20 (by omega) (by omega) hM).mono ?_
  rintro v21 w9 ⟨hB21, h21⟩
  have hM21 := hM; have hS21 := LL.size
  have Lw9 := Le.of_below (Fz := Fz) (M := M) hB21
  replace LL := LL.trans Lw9
  replace hM := hM.mono Lw9
  replace hF := hF.mono Lw9
  replace hn8 := hn8.mono Lw9
  replace hn9 := hn9.mono Lw9
  replace hn10 := hn10.mono Lw9
  replace hn11 := hn11.mono Lw9
  replace hn13 := hn13.mono Lw9
  replace hn14 := hn14.mono Lw9
  replace hn20 := hn20.mono Lw9
  obtain ⟨_, q21, rfl, hf21⟩ : val [1] ≤ val [0, 1] ∧ ∃ q, v21 = .tuple #[q, .int .i64 0] ∧ Fresh 43 w8 w9 q (limbs (val [0, 1] - val [1])) := by
    rcases h21 with ⟨h, _⟩ | h
    · simp [val] at h
    · exact h
  rw [show val [0, 1] - val [1] = 4294967295 by decide, limbs_m] at hf21
  have hn21 := hf21.nat hM21; replace hf21 := hf21.less hS21
  refine ops_move rfl rfl ?_
  refine ops_extract rfl rfl rfl ?_
  refine ops_extract rfl rfl rfl ?_
  refine ops_assign rfl rfl ?_
  refine ops_assign rfl rfl ?_
  refine ops_nil ?_
  refine SL.wp_seq ?_
  refine SL.wp_region ?_
  refine ops_move rfl rfl ?_
  refine ops_callv rfl bod18 rfl rfl ?_
  refine (small_c (M := M) hn11 (by omega) hM).mono ?_
  rintro v26 w10 ⟨hB26, rfl⟩
  have Lw10 := Le.of_below (Fz := Fz) (M := M) hB26
  replace LL := LL.trans Lw10
  replace hM := hM.mono Lw10
  replace hF := hF.mono Lw10
  replace hn8 := hn8.mono Lw10
  replace hn9 := hn9.mono Lw10
  replace hn10 := hn10.mono Lw10
  replace hn11 := hn11.mono Lw10
  replace hn13 := hn13.mono Lw10
  replace hn14 := hn14.mono Lw10
  replace hn20 := hn20.mono Lw10
  replace hn21 := hn21.mono Lw10
  refine ops_move rfl rfl ?_
  refine ops_extract rfl rfl rfl ?_
  refine ops_extract rfl rfl rfl ?_
  refine ops_assign rfl rfl ?_
  refine ops_assign rfl rfl ?_
  refine ops_nil ?_
  refine SL.wp_seq ?_
  refine SL.wp_region ?_
  refine ops_move rfl rfl ?_
  first | refine ops_len rfl Try.underlying23 rfl ?_ | refine ops_lens rfl Try.underlying23 rfl (IsNat.slc (by assumption)) ?_ | refine ops_lenn rfl Try.underlying23 rfl (by assumption) ?_ | refine ops_leno rfl Try.underlying23 rfl (by assumption) ?_
  refine ops_eq rfl rfl rfl ?_
  refine ops_move rfl rfl ?_
  refine ops_dt (d := 32) rfl (by first | rfl | decide | (simp [val, smallN, cmpN, lst])) ?_
  refine ops_guard_t rfl rfl ?_
  refine ops_move rfl rfl ?_
  refine ops_guard_t rfl rfl ?_
  refine ops_idxn (0) rfl Try.underlying23 sz43 rfl rfl (by assumption) (by omega) (by omega) (fun b34 o34 hc34 hb34 => ?_)
  refine ops_guard_t rfl rfl ?_
  refine ops_load rfl flat43 rfl hc34 ?_
  refine ops_guard_t rfl rfl ?_
  refine ops_eq rfl rfl rfl ?_
  refine ops_pick rfl rfl rfl ?_
  refine ops_move rfl rfl ?_
  refine ops_dt (d := 38) rfl (by first | rfl | decide | (simp [val, smallN, cmpN, lst])) ?_
  refine ops_guard_t rfl rfl ?_
  refine ops_move rfl rfl ?_
  refine ops_guard_t rfl rfl ?_
  refine ops_idxn (1) rfl Try.underlying23 sz43 rfl rfl (by assumption) (by omega) (by omega) (fun b40 o40 hc40 hb40 => ?_)
  refine ops_guard_t rfl rfl ?_
  refine ops_load rfl flat43 rfl hc40 ?_
  refine ops_guard_t rfl rfl ?_
  refine ops_eq rfl rfl rfl ?_
  refine ops_pick rfl rfl rfl ?_
  refine ops_move rfl rfl ?_
  refine ops_dt (d := 44) rfl (by first | rfl | decide | (simp [val, smallN, cmpN, lst])) ?_
  refine ops_guard_t rfl rfl ?_
  refine ops_move rfl rfl ?_
  refine ops_guard_t rfl rfl ?_
  refine ops_eq rfl rfl rfl ?_
  refine ops_pick rfl rfl rfl ?_
  refine ops_move rfl rfl ?_
  refine ops_dt (d := 48) rfl (by first | rfl | decide | (simp [val, smallN, cmpN, lst])) ?_
  refine ops_guard_t rfl rfl ?_
  refine ops_move rfl rfl ?_
  refine ops_guard_t rfl rfl ?_
  refine ops_eq rfl rfl rfl ?_
  refine ops_pick rfl rfl rfl ?_
  refine ops_move rfl rfl ?_
  refine ops_dt (d := 52) rfl (by first | rfl | decide | (simp [val, smallN, cmpN, lst])) ?_
  refine ops_guard_t rfl rfl ?_
  refine ops_move rfl rfl ?_
  refine ops_guard_t rfl rfl ?_
  first | refine ops_len rfl Try.underlying23 rfl ?_ | refine ops_lens rfl Try.underlying23 rfl (IsNat.slc (by assumption)) ?_ | refine ops_lenn rfl Try.underlying23 rfl (by assumption) ?_ | refine ops_leno rfl Try.underlying23 rfl (by assumption) ?_
  refine ops_guard_t rfl rfl ?_
  refine ops_eq rfl rfl rfl ?_
  refine ops_pick rfl rfl rfl ?_
  refine ops_move rfl rfl ?_
  refine ops_dt (d := 57) rfl (by first | rfl | decide | (simp [val, smallN, cmpN, lst])) ?_
  refine ops_guard_t rfl rfl ?_
  refine ops_move rfl rfl ?_
  refine ops_guard_t rfl rfl ?_
  refine ops_eq rfl rfl rfl ?_
  refine ops_pick rfl rfl rfl ?_
  refine ops_move rfl rfl ?_
  refine ops_dt (d := 61) rfl (by first | rfl | decide | (simp [val, smallN, cmpN, lst])) ?_
  refine ops_guard_t rfl rfl ?_
  refine ops_move rfl rfl ?_
  refine ops_pick rfl rfl rfl ?_
  refine ops_move rfl rfl ?_
  refine ops_dt (d := 64) rfl (by first | rfl | decide | (simp [val, smallN, cmpN, lst])) ?_
  refine ops_guard_t rfl rfl ?_
  refine ops_move rfl rfl ?_
  refine ops_guard_t rfl rfl ?_
  refine ops_move rfl rfl ?_
  refine ops_guard_t rfl rfl ?_
  refine ops_callv rfl bod23 rfl rfl ?_
  refine (cmp_c (M := M) hn11 hn21 (by omega) (by omega) hM).mono ?_
  rintro v67 w11 ⟨hB67, rfl⟩
  have Lw11 := Le.of_below (Fz := Fz) (M := M) hB67
  replace LL := LL.trans Lw11
  replace hM := hM.mono Lw11
  replace hF := hF.mono Lw11
  replace hn8 := hn8.mono Lw11
  replace hn9 := hn9.mono Lw11
  replace hn10 := hn10.mono Lw11
  replace hn11 := hn11.mono Lw11
  replace hn13 := hn13.mono Lw11
  replace hn14 := hn14.mono Lw11
  replace hn20 := hn20.mono Lw11
  replace hn21 := hn21.mono Lw11
  refine ops_guard_t rfl rfl ?_
  refine ops_eq rfl rfl rfl ?_
  refine ops_pick rfl rfl rfl ?_
  refine ops_move rfl rfl ?_
  refine ops_dt (d := 70) rfl (by first | rfl | decide | (simp [val, smallN, cmpN, lst])) ?_
  refine ops_guard_t rfl rfl ?_
  refine ops_move rfl rfl ?_
  refine ops_guard_t rfl rfl ?_
  refine ops_move rfl rfl ?_
  refine ops_guard_t rfl rfl ?_
  refine ops_buildSlice rfl Try.underlying24 sz23 rfl rfl rfl (one2 (by first | rfl | exact nat_one (by assumption) | exact own_one (by assumption)) (by first | rfl | exact nat_one (by assumption) | exact own_one (by assumption))) rfl (fun w12 b73 N73 => ?_)
  have hBw12 := N73.below
  have nM73 := hM.new N73; have B73 := N73.blk
  have Lw12 := Le.of_below (Fz := Fz) (M := M) hBw12
  replace LL := LL.trans Lw12
  replace hM := hM.mono Lw12
  replace hF := hF.mono Lw12
  replace hn8 := hn8.mono Lw12
  replace hn9 := hn9.mono Lw12
  replace hn10 := hn10.mono Lw12
  replace hn11 := hn11.mono Lw12
  replace hn13 := hn13.mono Lw12
  replace hn14 := hn14.mono Lw12
  replace hn20 := hn20.mono Lw12
  replace hn21 := hn21.mono Lw12
  have hn73 := nats2 B73 nM73 hn11 hn21
  refine ops_guard_t rfl rfl ?_
  refine ops_callv rfl bod31 rfl rfl ?_
  refine (least_c (M := M) hn73 (by simp) (by simp) hM).mono ?_
  rintro v74 w13 ⟨hB74, rfl⟩
  have Lw13 := Le.of_below (Fz := Fz) (M := M) hB74
  replace LL := LL.trans Lw13
  replace hM := hM.mono Lw13
  replace hF := hF.mono Lw13
  replace hn8 := hn8.mono Lw13
  replace hn9 := hn9.mono Lw13
  replace hn10 := hn10.mono Lw13
  replace hn11 := hn11.mono Lw13
  replace hn13 := hn13.mono Lw13
  replace hn14 := hn14.mono Lw13
  replace hn20 := hn20.mono Lw13
  replace hn21 := hn21.mono Lw13
  replace hn73 := hn73.mono Lw13
  refine ops_guard_t rfl rfl ?_
  refine ops_eq rfl rfl rfl ?_
  refine ops_pick rfl rfl rfl ?_
  refine ops_assign rfl rfl ?_
  refine ops_nil ?_
  refine SL.wp_ret ?_
  refine leave_nil ⟨[_], ⟨rfl, trivial⟩, ?_⟩
  dsimp only [resVal]
  subst hFz
  exact ⟨LL.below (Nat.le_refl _), by first | rfl | decide⟩

end Go.Proofs.Ytffakiheophioaa
