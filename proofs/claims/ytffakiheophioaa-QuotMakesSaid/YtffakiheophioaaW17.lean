import Derived.Test.YtffakiheophioaaW16
import Derived.Test.YtffakiheophioaaSLp
import Derived.Test.YtffakiheophioaaSLo
import Derived.Test.YtffakiheophioaaSLn
set_option linter.unusedVariables false
set_option linter.unusedSimpArgs false
set_option maxRecDepth 100000
namespace Go.Proofs.Ytffakiheophioaa
open Go.SL Go.RowKit Go.Proofs

theorem pow_c {M : Nat → Prop} {w : World} {v : Value} {xs : List Nat} {j : Int} {L : Nat} (hL : L ≤ 1000) (h : IsNat M w v xs) (hl : xs.length ≤ L) (hM : OkM M w) :
    CallsV Try.prog 40 [v, .int .i64 j] w fun r w' => Below w.heap.size w w' ∧ IsNat M w' r (limbs (val xs ^ cntN j 256)) := by
  obtain ⟨Fz, hFz⟩ : ∃ Fz : Nat → Prop, Fz = (· < w.heap.size) := ⟨_, rfl⟩
  have hF : FOk Fz w := by subst hFz; exact fun _ h => h
  have hvl := val_lt_pow h.lt hl
  have hqq := (cntN_is (k := j) (m := 256) (by omega)).2.2
  generalize hq : cntN j 256 = q at hqq ⊢
  have LL := Le.refl Fz M w; have hM0 := hM
  refine calls_intro Try.func40 rfl Try.ntmps40 rfl ?_
  refine SL.wp_seq ?_
  refine SL.wp_region ?_
  refine ops_assign rfl rfl ?_
  refine ops_nil ?_
  refine SL.wp_seq ?_
  refine SL.wp_region ?_
  refine ops_buildSlice rfl Try.underlying23 sz43 rfl rfl rfl (by simp [Value.oneCell', lw]) rfl (fun w1 b6 N6 => ?_)
  have hBw1 := N6.below
  have nM6 := hM.new N6; have B6 := N6.blk
  have Lw1 := Le.of_below (Fz := Fz) (M := M) hBw1
  replace LL := LL.trans Lw1
  replace hM := hM.mono Lw1
  replace hF := hF.mono Lw1
  replace h := h.mono Lw1
  have hn6 : IsNat M w1 (.slice (some ⟨b6, 0, none⟩) 1 1) [1] := blk_nat (xs := [1]) B6 nM6 rfl (by simp) (by simp)
  refine ops_assign rfl rfl ?_
  refine ops_nil ?_
  refine SL.wp_seq ?_
  refine SL.wp_seq ?_
  refine SL.wp_region ?_
  refine ops_move rfl rfl ?_
  refine ops_callv rfl bod66 rfl rfl ?_
  refine (count_q (M := M) hq (by omega) hM).mono ?_
  rintro v8 w2 ⟨hB8, rfl⟩
  have Lw2 := Le.of_below (Fz := Fz) (M := M) hB8
  replace LL := LL.trans Lw2
  replace hM := hM.mono Lw2
  replace hF := hF.mono Lw2
  replace h := h.mono Lw2
  replace hn6 := hn6.mono Lw2
  refine ops_assign rfl rfl ?_
  refine ops_nil ?_
  refine SL.wp_block ?_
  refine SL.wp_loopc (σ := Nat × Nat × Nat × Value × Value) [] (fun s => [(0, s.2.2.2.2), (1, .int .i64 ((s.2.1 : Nat) : Int)), (5, s.2.2.2.1)]) (fun s w3 => Le Fz M w2 M w3 ∧ s.2.1 ≤ 256 ∧ IsNat M w3 s.2.2.2.1 (limbs (val xs ^ s.2.2.1)) ∧ ∃ bs : List Nat, IsNat M w3 s.2.2.2.2 bs ∧ val bs = val xs ^ 2 ^ s.1 ∧ bs.length ≤ L * 2 ^ s.1 + 1 ∧ s.2.2.1 + 2 ^ s.1 * s.2.1 = q) (fun s => s.2.1) ((0, q, 0, _, v)) (sub_cons rfl (sub_cons rfl (sub_cons rfl sub_nil))) ?_ (fun s w3 hJ => ?_)
  · dsimp only
    exact ⟨Le.refl _ _ _, by omega, by simpa [one_limbs] using hn6, xs, h, by simp, by omega, by omega⟩
  · obtain ⟨i, k, r, y, a⟩ := s
    dsimp only at hJ ⊢
    obtain ⟨LR, hk, hy, bs, ha, hav, hal, hr⟩ := hJ
    have hyl := limbs_length_le (pow_lt_pow hvl r)
    have hrl : L * r ≤ 1000 * 256 := Nat.mul_le_mul hL (by omega)
    have hil : 0 < k → L * 2 ^ (i + 1) ≤ 1000 * 512 := fun hk => Nat.mul_le_mul hL (by
      have h1 : 2 ^ i * 1 ≤ 2 ^ i * k := Nat.mul_le_mul_left _ hk
      rw [Nat.pow_succ]; omega)
    have hi2 : L * 2 ^ i ≤ L * 2 ^ (i + 1) := Nat.mul_le_mul_left _ (Nat.pow_le_pow_right (by omega) (by omega))
    replace LL := LL.trans LR
    replace hM := hM.mono LR
    replace hF := hF.mono LR
    replace h := h.mono LR
    replace hn6 := hn6.mono LR
    refine SL.wp_seq ?_
    refine SL.wp_seq ?_
    refine SL.wp_region ?_
    refine ops_move rfl rfl ?_
    refine ops_gt rfl rfl rfl ?_
    refine ops_nil ?_
    refine SL.wp_cond_d rfl (fun hc0 => ?_) (fun hc0 => ?_)
    · have hil2 := hil (by omega)
      refine SL.wp_skip ?_
      refine SL.wp_seq ?_
      refine SL.wp_block ?_
      refine SL.wp_seq ?_
      refine SL.wp_seq ?_
      refine SL.wp_region ?_
      refine ops_move rfl rfl ?_
      refine ops_rem rfl rfl rfl (by omega) ?_
      refine ops_eq rfl rfl rfl ?_
      refine ops_nil ?_
      refine SL.wp_cond_d rfl (fun hc1 => ?_) (fun hc1 => ?_)
      · refine SL.wp_region ?_
        refine ops_move rfl rfl ?_
        refine ops_move rfl rfl ?_
        refine ops_callv rfl bod36 rfl rfl ?_
        refine (mul_c (M := M) hy ha (by omega) (by omega) hM).mono ?_
        rintro v18 w4 ⟨hB18, hf18⟩
        have hM18 := hM; have hS18 := LL.size
        have Lw4 := Le.of_below (Fz := Fz) (M := M) hB18
        replace LL := LL.trans Lw4
        replace LR := LR.trans Lw4
        replace hM := hM.mono Lw4
        replace hF := hF.mono Lw4
        replace h := h.mono Lw4
        replace hn6 := hn6.mono Lw4
        replace hy := hy.mono Lw4
        replace ha := ha.mono Lw4
        have hn18 := hf18.nat hM18; replace hf18 := hf18.less hS18
        refine ops_assign rfl rfl ?_
        refine ops_nil ?_
        refine SL.wp_region ?_
        refine ops_move rfl rfl ?_
        refine ops_move rfl rfl ?_
        refine ops_callv rfl bod36 rfl rfl ?_
        refine (mul_c (M := M) ha ha (by omega) (by omega) hM).mono ?_
        rintro v21 w5 ⟨hB21, hf21⟩
        have hM21 := hM; have hS21 := LL.size
        have Lw5 := Le.of_below (Fz := Fz) (M := M) hB21
        replace LL := LL.trans Lw5
        replace LR := LR.trans Lw5
        replace hM := hM.mono Lw5
        replace hF := hF.mono Lw5
        replace h := h.mono Lw5
        replace hn6 := hn6.mono Lw5
        replace hy := hy.mono Lw5
        replace ha := ha.mono Lw5
        replace hn18 := hn18.mono Lw5
        have hn21 := hf21.nat hM21; replace hf21 := hf21.less hS21
        refine ops_assign rfl rfl ?_
        refine ops_nil ?_
        refine SL.wp_region ?_
        refine ops_move rfl rfl ?_
        refine ops_quo rfl rfl rfl (by omega) ?_
        refine ops_assign rfl rfl ?_
        refine ops_nil ?_
        refine ⟨rfl, (i + 1, k / 2, r + 2 ^ i, v18, v21), (sub_cons' rfl (rfl) (sub_cons' rfl (rfl) (sub_cons' rfl (rfl) sub_nil))), ?_, ?_⟩
        dsimp only
        have e2 : 2 ^ (i + 1) = 2 ^ i * 2 := Nat.pow_succ _ _
        have ep : val xs ^ 2 ^ (i + 1) = val xs ^ 2 ^ i * val xs ^ 2 ^ i := by rw [e2, Nat.mul_two, Nat.pow_add]
        have em : 2 ^ (i + 1) * (k / 2) = 2 ^ i * (2 * (k / 2)) := by rw [e2, Nat.mul_assoc]
        have ek : 2 ^ i * k = 2 ^ i * (2 * (k / 2)) + 2 ^ i * (k % 2) := by rw [← Nat.mul_add, Nat.div_add_mod]
        have hl2 := limbs_length_le (pow_lt_pow hvl (2 ^ (i + 1)))
        rw [val_limbs, hav, ← Nat.pow_add] at hn18
        have e1 : k % 2 = 1 := by omega
        rw [e1] at ek
        rw [hav, ← ep] at hn21
        exact ⟨LR, by omega, hn18, _, hn21, by rw [val_limbs], by omega, by rw [em]; omega⟩
        dsimp only
        omega
      · refine SL.wp_skip ?_
        refine SL.wp_region ?_
        refine ops_move rfl rfl ?_
        refine ops_move rfl rfl ?_
        refine ops_callv rfl bod36 rfl rfl ?_
        refine (mul_c (M := M) ha ha (by omega) (by omega) hM).mono ?_
        rintro v21 w6 ⟨hB21, hf21⟩
        have hM21 := hM; have hS21 := LL.size
        have Lw6 := Le.of_below (Fz := Fz) (M := M) hB21
        replace LL := LL.trans Lw6
        replace LR := LR.trans Lw6
        replace hM := hM.mono Lw6
        replace hF := hF.mono Lw6
        replace h := h.mono Lw6
        replace hn6 := hn6.mono Lw6
        replace hy := hy.mono Lw6
        replace ha := ha.mono Lw6
        have hn21 := hf21.nat hM21; replace hf21 := hf21.less hS21
        refine ops_assign rfl rfl ?_
        refine ops_nil ?_
        refine SL.wp_region ?_
        refine ops_move rfl rfl ?_
        refine ops_quo rfl rfl rfl (by omega) ?_
        refine ops_assign rfl rfl ?_
        refine ops_nil ?_
        refine ⟨rfl, (i + 1, k / 2, r, y, v21), (sub_cons' rfl (rfl) (sub_cons' rfl (rfl) (sub_cons' rfl (rfl) sub_nil))), ?_, ?_⟩
        dsimp only
        have e2 : 2 ^ (i + 1) = 2 ^ i * 2 := Nat.pow_succ _ _
        have ep : val xs ^ 2 ^ (i + 1) = val xs ^ 2 ^ i * val xs ^ 2 ^ i := by rw [e2, Nat.mul_two, Nat.pow_add]
        have em : 2 ^ (i + 1) * (k / 2) = 2 ^ i * (2 * (k / 2)) := by rw [e2, Nat.mul_assoc]
        have ek : 2 ^ i * k = 2 ^ i * (2 * (k / 2)) + 2 ^ i * (k % 2) := by rw [← Nat.mul_add, Nat.div_add_mod]
        have hl2 := limbs_length_le (pow_lt_pow hvl (2 ^ (i + 1)))
        have e1 : k % 2 = 0 := by omega
        rw [e1] at ek
        rw [hav, ← ep] at hn21
        exact ⟨LR, by omega, hy, _, hn21, by rw [val_limbs], by omega, by rw [em]; omega⟩
        dsimp only
        omega
    · refine SL.wp_exit ?_
      refine upd_hit ?_
      refine SL.wp_seq ?_
      refine SL.wp_region ?_
      refine ops_move rfl rfl ?_
      refine ops_assign rfl rfl ?_
      refine ops_nil ?_
      refine SL.wp_ret ?_
      refine leave_nil ⟨[_], ⟨rfl, trivial⟩, ?_⟩
      dsimp only [resVal]
      subst hFz
      obtain rfl : k = 0 := by omega
      obtain rfl : r = q := by omega
      exact ⟨LL.below (Nat.le_refl _), hy⟩

theorem limbs_sq : limbs (val [4294967295] * val [4294967295]) = [1, 4294967294] := by
  rw [show val [4294967295] * val [4294967295] = 1 + 4294967296 * 4294967294 by decide, limbs_pos (by decide), show (1 + 4294967296 * 4294967294) % 4294967296 = 1 by decide, show (1 + 4294967296 * 4294967294) / 4294967296 = 4294967294 by decide, limbs_pos (by decide), show (4294967294 / 4294967296 : Nat) = 0 by decide, limbs_zero]
theorem limbs_33 : limbs (val [1] * 2 ^ cntN 33 65536) = [0, 2] := by
  rw [show val [1] * 2 ^ cntN 33 65536 = 8589934592 by decide +kernel, limbs_pos (by decide), show (8589934592 : Nat) % 4294967296 = 0 by decide, show (8589934592 : Nat) / 4294967296 = 2 by decide, limbs_pos (by decide), show (2 / 4294967296 : Nat) = 0 by decide, limbs_zero]

theorem wakes2_c {M : Nat → Prop} {w : World} (hM : OkM M w) :
    CallsV Try.prog 34 [] w fun r w' => Below w.heap.size w w' ∧ r = .bool true := by
  obtain ⟨Fz, hFz⟩ : ∃ Fz : Nat → Prop, Fz = (· < w.heap.size) := ⟨_, rfl⟩
  have hF : FOk Fz w := by subst hFz; exact fun _ h => h
  have l1 := len2 1 4294967294; have l2 := len2 0 2; have l3 := len1 4294967295; have l4 := len1 1; have l5 := len1 255
  have LL := Le.refl Fz M w; have hM0 := hM
  refine calls_intro Try.func34 rfl Try.ntmps34 rfl ?_
  refine SL.wp_seq ?_
  refine SL.wp_region ?_
  refine ops_assign rfl rfl ?_
  refine ops_nil ?_
  refine SL.wp_seq ?_
  refine SL.wp_region ?_
  refine ops_buildSlice rfl Try.underlying23 sz43 rfl rfl rfl (by simp [Value.oneCell', lw]) rfl (fun w1 b3 N3 => ?_)
  have hBw1 := N3.below
  have nM3 := hM.new N3; have B3 := N3.blk
  have Lw1 := Le.of_below (Fz := Fz) (M := M) hBw1
  replace LL := LL.trans Lw1
  replace hM := hM.mono Lw1
  replace hF := hF.mono Lw1
  have hn3 : IsNat M w1 (.slice (some ⟨b3, 0, none⟩) 1 1) [4294967295] := blk_nat (xs := [4294967295]) B3 nM3 rfl (by simp) (by simp)
  refine ops_buildSlice rfl Try.underlying23 sz43 rfl rfl rfl (by simp [Value.oneCell', lw]) rfl (fun w2 b4 N4 => ?_)
  have hBw2 := N4.below
  have nM4 := hM.new N4; have B4 := N4.blk
  have Lw2 := Le.of_below (Fz := Fz) (M := M) hBw2
  replace LL := LL.trans Lw2
  replace hM := hM.mono Lw2
  replace hF := hF.mono Lw2
  replace hn3 := hn3.mono Lw2
  have hn4 : IsNat M w2 (.slice (some ⟨b4, 0, none⟩) 1 1) [4294967295] := blk_nat (xs := [4294967295]) B4 nM4 rfl (by simp) (by simp)
  refine ops_callv rfl bod36 rfl rfl ?_
  refine (mul_c (M := M) hn3 hn4 (by omega) (by omega) hM).mono ?_
  rintro v5 w3 ⟨hB5, hf5⟩
  have hM5 := hM; have hS5 := LL.size
  have Lw3 := Le.of_below (Fz := Fz) (M := M) hB5
  replace LL := LL.trans Lw3
  replace hM := hM.mono Lw3
  replace hF := hF.mono Lw3
  replace hn3 := hn3.mono Lw3
  replace hn4 := hn4.mono Lw3
  rw [limbs_sq] at hf5
  have hn5 := hf5.nat hM5; replace hf5 := hf5.less hS5
  refine ops_assign rfl rfl ?_
  refine ops_nil ?_
  refine SL.wp_seq ?_
  refine SL.wp_region ?_
  refine ops_buildSlice rfl Try.underlying23 sz43 rfl rfl rfl (by simp [Value.oneCell', lw]) rfl (fun w4 b6 N6 => ?_)
  have hBw4 := N6.below
  have nM6 := hM.new N6; have B6 := N6.blk
  have Lw4 := Le.of_below (Fz := Fz) (M := M) hBw4
  replace LL := LL.trans Lw4
  replace hM := hM.mono Lw4
  replace hF := hF.mono Lw4
  replace hn3 := hn3.mono Lw4
  replace hn4 := hn4.mono Lw4
  replace hn5 := hn5.mono Lw4
  have hn6 : IsNat M w4 (.slice (some ⟨b6, 0, none⟩) 1 1) [1] := blk_nat (xs := [1]) B6 nM6 rfl (by simp) (by simp)
  refine ops_callv rfl bod37 rfl rfl ?_
  refine (up_c (M := M) hn6 (by omega) hM).mono ?_
  rintro v7 w5 ⟨hB7, hf7⟩
  have hM7 := hM; have hS7 := LL.size
  have Lw5 := Le.of_below (Fz := Fz) (M := M) hB7
  replace LL := LL.trans Lw5
  replace hM := hM.mono Lw5
  replace hF := hF.mono Lw5
  replace hn3 := hn3.mono Lw5
  replace hn4 := hn4.mono Lw5
  replace hn5 := hn5.mono Lw5
  replace hn6 := hn6.mono Lw5
  rw [limbs_33] at hf7
  have hn7 := hf7.nat hM7; replace hf7 := hf7.less hS7
  refine ops_assign rfl rfl ?_
  refine ops_nil ?_
  refine SL.wp_seq ?_
  refine SL.wp_region ?_
  refine ops_move rfl rfl ?_
  first | refine ops_len rfl Try.underlying23 rfl ?_ | refine ops_lens rfl Try.underlying23 rfl (IsNat.slc (by assumption)) ?_ | refine ops_lenn rfl Try.underlying23 rfl (by assumption) ?_ | refine ops_leno rfl Try.underlying23 rfl (by assumption) ?_
  refine ops_eq rfl rfl rfl ?_
  refine ops_move rfl rfl ?_
  refine ops_dt (d := 11) rfl (by first | rfl | decide | (simp [val]; done) | decide +kernel) ?_
  refine ops_guard_t rfl rfl ?_
  refine ops_move rfl rfl ?_
  refine ops_guard_t rfl rfl ?_
  refine ops_idxn (0) rfl Try.underlying23 sz43 rfl rfl (by assumption) (by omega) (by omega) (fun b13 o13 hc13 hb13 => ?_)
  refine ops_guard_t rfl rfl ?_
  refine ops_load rfl flat43 rfl hc13 ?_
  refine ops_guard_t rfl rfl ?_
  refine ops_eq rfl rfl rfl ?_
  refine ops_pick rfl rfl rfl ?_
  refine ops_move rfl rfl ?_
  refine ops_dt (d := 17) rfl (by first | rfl | decide | (simp [val]; done) | decide +kernel) ?_
  refine ops_guard_t rfl rfl ?_
  refine ops_move rfl rfl ?_
  refine ops_guard_t rfl rfl ?_
  refine ops_idxn (1) rfl Try.underlying23 sz43 rfl rfl (by assumption) (by omega) (by omega) (fun b19 o19 hc19 hb19 => ?_)
  refine ops_guard_t rfl rfl ?_
  refine ops_load rfl flat43 rfl hc19 ?_
  refine ops_guard_t rfl rfl ?_
  refine ops_eq rfl rfl rfl ?_
  refine ops_pick rfl rfl rfl ?_
  refine ops_move rfl rfl ?_
  refine ops_dt (d := 23) rfl (by first | rfl | decide | (simp [val]; done) | decide +kernel) ?_
  refine ops_guard_t rfl rfl ?_
  refine ops_move rfl rfl ?_
  refine ops_guard_t rfl rfl ?_
  first | refine ops_len rfl Try.underlying23 rfl ?_ | refine ops_lens rfl Try.underlying23 rfl (IsNat.slc (by assumption)) ?_ | refine ops_lenn rfl Try.underlying23 rfl (by assumption) ?_ | refine ops_leno rfl Try.underlying23 rfl (by assumption) ?_
  refine ops_guard_t rfl rfl ?_
  refine ops_eq rfl rfl rfl ?_
  refine ops_pick rfl rfl rfl ?_
  refine ops_move rfl rfl ?_
  refine ops_dt (d := 28) rfl (by first | rfl | decide | (simp [val]; done) | decide +kernel) ?_
  refine ops_guard_t rfl rfl ?_
  refine ops_move rfl rfl ?_
  refine ops_guard_t rfl rfl ?_
  refine ops_idxn (0) rfl Try.underlying23 sz43 rfl rfl (by assumption) (by omega) (by omega) (fun b30 o30 hc30 hb30 => ?_)
  refine ops_guard_t rfl rfl ?_
  refine ops_load rfl flat43 rfl hc30 ?_
  refine ops_guard_t rfl rfl ?_
  refine ops_eq rfl rfl rfl ?_
  refine ops_pick rfl rfl rfl ?_
  refine ops_move rfl rfl ?_
  refine ops_dt (d := 34) rfl (by first | rfl | decide | (simp [val]; done) | decide +kernel) ?_
  refine ops_guard_t rfl rfl ?_
  refine ops_move rfl rfl ?_
  refine ops_guard_t rfl rfl ?_
  refine ops_idxn (1) rfl Try.underlying23 sz43 rfl rfl (by assumption) (by omega) (by omega) (fun b36 o36 hc36 hb36 => ?_)
  refine ops_guard_t rfl rfl ?_
  refine ops_load rfl flat43 rfl hc36 ?_
  refine ops_guard_t rfl rfl ?_
  refine ops_eq rfl rfl rfl ?_
  refine ops_pick rfl rfl rfl ?_
  refine ops_move rfl rfl ?_
  refine ops_dt (d := 40) rfl (by first | rfl | decide | (simp [val]; done) | decide +kernel) ?_
  refine ops_guard_t rfl rfl ?_
  refine ops_callv rfl bod35 rfl rfl ?_
  refine (bits_c (M := M) isNat_nil (by simp) hM).mono ?_
  rintro v41 w6 ⟨hB41, rfl⟩
  have Lw6 := Le.of_below (Fz := Fz) (M := M) hB41
  replace LL := LL.trans Lw6
  replace hM := hM.mono Lw6
  replace hF := hF.mono Lw6
  replace hn3 := hn3.mono Lw6
  replace hn4 := hn4.mono Lw6
  replace hn5 := hn5.mono Lw6
  replace hn6 := hn6.mono Lw6
  replace hn7 := hn7.mono Lw6
  refine ops_guard_t rfl rfl ?_
  refine ops_eq rfl rfl rfl ?_
  refine ops_pick rfl rfl rfl ?_
  refine ops_move rfl rfl ?_
  refine ops_dt (d := 44) rfl (by first | rfl | decide | (simp [val]; done) | decide +kernel) ?_
  refine ops_guard_t rfl rfl ?_
  refine ops_buildSlice rfl Try.underlying23 sz43 rfl rfl rfl (by simp [Value.oneCell', lw]) rfl (fun w7 b45 N45 => ?_)
  have hBw7 := N45.below
  have nM45 := hM.new N45; have B45 := N45.blk
  have Lw7 := Le.of_below (Fz := Fz) (M := M) hBw7
  replace LL := LL.trans Lw7
  replace hM := hM.mono Lw7
  replace hF := hF.mono Lw7
  replace hn3 := hn3.mono Lw7
  replace hn4 := hn4.mono Lw7
  replace hn5 := hn5.mono Lw7
  replace hn6 := hn6.mono Lw7
  replace hn7 := hn7.mono Lw7
  have hn45 : IsNat M w7 (.slice (some ⟨b45, 0, none⟩) 1 1) [255] := blk_nat (xs := [255]) B45 nM45 rfl (by simp) (by simp)
  refine ops_guard_t rfl rfl ?_
  refine ops_callv rfl bod35 rfl rfl ?_
  refine (bits_c (M := M) hn45 (by omega) hM).mono ?_
  rintro v46 w8 ⟨hB46, rfl⟩
  have Lw8 := Le.of_below (Fz := Fz) (M := M) hB46
  replace LL := LL.trans Lw8
  replace hM := hM.mono Lw8
  replace hF := hF.mono Lw8
  replace hn3 := hn3.mono Lw8
  replace hn4 := hn4.mono Lw8
  replace hn5 := hn5.mono Lw8
  replace hn6 := hn6.mono Lw8
  replace hn7 := hn7.mono Lw8
  replace hn45 := hn45.mono Lw8
  refine ops_guard_t rfl rfl ?_
  refine ops_eq rfl rfl rfl ?_
  refine ops_pick rfl rfl rfl ?_
  refine ops_assign rfl rfl ?_
  refine ops_nil ?_
  refine SL.wp_ret ?_
  refine leave_nil ⟨[_], ⟨rfl, trivial⟩, ?_⟩
  dsimp only [resVal]
  subst hFz
  exact ⟨LL.below (Nat.le_refl _), by first | rfl | decide | decide +kernel⟩

end Go.Proofs.Ytffakiheophioaa
