import Derived.Test.YtffakiheophioaaW18
import Derived.Test.YtffakiheophioaaSLp
import Derived.Test.YtffakiheophioaaSLo
import Derived.Test.YtffakiheophioaaSLn
set_option linter.unusedVariables false
set_option linter.unusedSimpArgs false
set_option maxRecDepth 100000
namespace Go.Proofs.Ytffakiheophioaa
open Go.SL Go.RowKit Go.Proofs

theorem prodBits_c {M : Nat → Prop} {w : World} {v1 v2 : Value} {xs ys : List Nat} (h1 : IsNat M w v1 xs) (h2 : IsNat M w v2 ys) (hM : OkM M w) :
    CallsV Try.prog 8 [v1, v2] w fun r w' => Below w.heap.size w w' ∧ r = .bool true := by
  obtain ⟨Fz, hFz⟩ : ∃ Fz : Nat → Prop, Fz = (· < w.heap.size) := ⟨_, rfl⟩
  have hF : FOk Fz w := by subst hFz; exact fun _ h => h
  have LL := Le.refl Fz M w; have hM0 := hM
  refine calls_intro Try.func8 rfl Try.ntmps8 rfl ?_
  refine SL.wp_seq ?_
  refine SL.wp_region ?_
  refine ops_assign rfl rfl ?_
  refine ops_nil ?_
  refine SL.wp_seq ?_
  refine SL.wp_seq ?_
  refine SL.wp_region ?_
  refine ops_move rfl rfl ?_
  refine ops_move rfl rfl ?_
  refine ops_buildSlice rfl Try.underlying24 sz23 rfl rfl rfl (one2 (by first | rfl | exact nat_one (by assumption) | exact own_one (by assumption)) (by first | rfl | exact nat_one (by assumption) | exact own_one (by assumption))) rfl (fun w1 b10 N10 => ?_)
  have hBw1 := N10.below
  have nM10 := hM.new N10; have B10 := N10.blk
  have Lw1 := Le.of_below (Fz := Fz) (M := M) hBw1
  replace LL := LL.trans Lw1
  replace hM := hM.mono Lw1
  replace hF := hF.mono Lw1
  replace h1 := h1.mono Lw1
  replace h2 := h2.mono Lw1
  have hn10 := nats2 B10 nM10 h1 h2
  refine ops_callv rfl bod33 rfl rfl ?_
  refine (great2_c (M := M) (by assumption) hM).mono ?_
  rintro v11 w2 ⟨hB11, rfl⟩
  have Lw2 := Le.of_below (Fz := Fz) (M := M) hB11
  replace LL := LL.trans Lw2
  replace hM := hM.mono Lw2
  replace hF := hF.mono Lw2
  replace h1 := h1.mono Lw2
  replace h2 := h2.mono Lw2
  replace hn10 := hn10.mono Lw2
  refine ops_nil ?_
  refine SL.wp_cond_d rfl (fun hc0 => ?_) (fun hc0 => ?_)
  · refine SL.wp_seq ?_
    refine SL.wp_region ?_
    refine ops_callv rfl bod34 rfl rfl ?_
    refine (wakes2_c (M := M) hM).mono ?_
    rintro v12 w3 ⟨hB12, rfl⟩
    have Lw3 := Le.of_below (Fz := Fz) (M := M) hB12
    replace LL := LL.trans Lw3
    replace hM := hM.mono Lw3
    replace hF := hF.mono Lw3
    replace h1 := h1.mono Lw3
    replace h2 := h2.mono Lw3
    replace hn10 := hn10.mono Lw3
    refine ops_assign rfl rfl ?_
    refine ops_nil ?_
    refine SL.wp_ret ?_
    refine leave_nil ⟨[_], ⟨rfl, trivial⟩, ?_⟩
    dsimp only [resVal]
    subst hFz
    exact ⟨LL.below (Nat.le_refl _), by first | rfl | simp⟩
  · have hg := not_gr hc0
    have hq4 := hg.2 xs (by simp); have hq5 := hg.2 ys (by simp)
    have hl1 := mul_len (val_lt_pow h1.lt hq4) (val_lt_pow h2.lt hq5)
    have hbx : bitsN (val xs) ≤ 32 * xs.length := bitsN_le_of_lt (by have := val_lt xs h1.lt; rw [base_pow] at this; exact this)
    have hby : bitsN (val ys) ≤ 32 * ys.length := bitsN_le_of_lt (by have := val_lt ys h2.lt; rw [base_pow] at this; exact this)
    have hbm : bitsN (val (limbs (val xs * val ys))) ≤ 32 * (120 + 120) := by
      rw [val_limbs]; exact bitsN_le_of_lt (by have := mul_lt_pow (val_lt_pow h1.lt hq4) (val_lt_pow h2.lt hq5); rw [base_pow] at this; exact this)
    refine SL.wp_skip ?_
    refine SL.wp_seq ?_
    refine SL.wp_region ?_
    refine ops_move rfl rfl ?_
    refine ops_callv rfl bod35 rfl rfl ?_
    refine (bits_c (M := M) (by assumption) (by omega) hM).mono ?_
    rintro v14 w4 ⟨hB14, rfl⟩
    have Lw4 := Le.of_below (Fz := Fz) (M := M) hB14
    replace LL := LL.trans Lw4
    replace hM := hM.mono Lw4
    replace hF := hF.mono Lw4
    replace h1 := h1.mono Lw4
    replace h2 := h2.mono Lw4
    replace hn10 := hn10.mono Lw4
    refine ops_move rfl rfl ?_
    refine ops_callv rfl bod35 rfl rfl ?_
    refine (bits_c (M := M) (by assumption) (by omega) hM).mono ?_
    rintro v16 w5 ⟨hB16, rfl⟩
    have Lw5 := Le.of_below (Fz := Fz) (M := M) hB16
    replace LL := LL.trans Lw5
    replace hM := hM.mono Lw5
    replace hF := hF.mono Lw5
    replace h1 := h1.mono Lw5
    replace h2 := h2.mono Lw5
    replace hn10 := hn10.mono Lw5
    refine ops_assign rfl rfl ?_
    refine ops_assign rfl rfl ?_
    refine ops_nil ?_
    refine SL.wp_seq ?_
    refine SL.wp_region ?_
    refine ops_move rfl rfl ?_
    refine ops_move rfl rfl ?_
    refine ops_callv rfl bod36 rfl rfl ?_
    refine (mul_c (M := M) (by assumption) (by assumption) (by omega) (by omega) hM).mono ?_
    rintro v19 w6 ⟨hB19, hf19⟩
    have hM19 := hM; have hS19 := LL.size
    have Lw6 := Le.of_below (Fz := Fz) (M := M) hB19
    replace LL := LL.trans Lw6
    replace hM := hM.mono Lw6
    replace hF := hF.mono Lw6
    replace h1 := h1.mono Lw6
    replace h2 := h2.mono Lw6
    replace hn10 := hn10.mono Lw6
    have hn19 := hf19.nat hM19; replace hf19 := hf19.less hS19
    refine ops_callv rfl bod35 rfl rfl ?_
    refine (bits_c (M := M) (by assumption) (by omega) hM).mono ?_
    rintro v20 w7 ⟨hB20, rfl⟩
    have Lw7 := Le.of_below (Fz := Fz) (M := M) hB20
    replace LL := LL.trans Lw7
    replace hM := hM.mono Lw7
    replace hF := hF.mono Lw7
    replace h1 := h1.mono Lw7
    replace h2 := h2.mono Lw7
    replace hn10 := hn10.mono Lw7
    replace hn19 := hn19.mono Lw7
    refine ops_assign rfl rfl ?_
    refine ops_nil ?_
    refine SL.wp_seq ?_
    refine SL.wp_seq ?_
    refine SL.wp_region ?_
    refine ops_move rfl rfl ?_
    refine ops_eq rfl rfl rfl ?_
    refine ops_move rfl rfl ?_
    refine ops_dcase (d := 23) rfl (fun hg5_2 => ?_) (fun hg5_2 => ?_)
    · have hz : val xs * val ys = 0 := by rw [bitsN_eq_zero.1 (show bitsN (val xs) = 0 by omega), Nat.zero_mul]
      refine ops_guard_f rfl rfl rfl rfl ?_
      refine ops_guard_f rfl rfl rfl rfl ?_
      refine ops_pick rfl rfl rfl ?_
      refine ops_nil ?_
      refine SL.wp_cond_t rfl ?_
      refine SL.wp_seq ?_
      refine SL.wp_region ?_
      refine ops_move rfl rfl ?_
      refine ops_eq rfl rfl rfl ?_
      refine ops_move rfl rfl ?_
      refine ops_bt (d := 29) rfl (decide_eq_true (by rw [val_limbs, hz, bitsN_zero]; rfl)) ?_
      refine ops_guard_t rfl rfl ?_
      refine ops_move rfl rfl ?_
      refine ops_guard_t rfl rfl ?_
      refine ops_ne rfl rfl rfl ?_
      refine ops_guard_t rfl rfl ?_
      refine ops_move rfl rfl ?_
      refine ops_dcase (d := 32) rfl (fun hg6_5 => ?_) (fun hg6_5 => ?_)
      · refine ops_guard_f rfl rfl rfl rfl ?_
        refine ops_guard_f rfl rfl rfl rfl ?_
        refine ops_guard_f rfl rfl rfl rfl ?_
        refine ops_guard_f rfl rfl rfl rfl ?_
        refine ops_guard_t rfl rfl ?_
        refine ops_pick rfl rfl rfl ?_
        refine ops_pick rfl rfl rfl ?_
        refine ops_move rfl rfl ?_
        refine ops_guard_t rfl rfl ?_
        refine ops_move rfl rfl ?_
        refine ops_guard_t rfl rfl ?_
        refine ops_ne rfl rfl rfl ?_
        refine ops_guard_t rfl rfl ?_
        refine ops_move rfl rfl ?_
        refine ops_dcase (d := 42) rfl (fun hg6_15 => ?_) (fun hg6_15 => ?_)
        · refine ops_guard_f rfl rfl rfl rfl ?_
          refine ops_guard_f rfl rfl rfl rfl ?_
          refine ops_guard_f rfl rfl rfl rfl ?_
          refine ops_guard_f rfl rfl rfl rfl ?_
          refine ops_guard_t rfl rfl ?_
          refine ops_pick rfl rfl rfl ?_
          refine ops_pick rfl rfl rfl ?_
          refine ops_move rfl rfl ?_
          refine ops_guard_t rfl rfl ?_
          refine ops_callv rfl bod34 rfl rfl ?_
          refine (wakes2_c (M := M) hM).mono ?_
          rintro v50 w8 ⟨hB50, rfl⟩
          have Lw8 := Le.of_below (Fz := Fz) (M := M) hB50
          replace LL := LL.trans Lw8
          replace hM := hM.mono Lw8
          replace hF := hF.mono Lw8
          replace h1 := h1.mono Lw8
          replace h2 := h2.mono Lw8
          replace hn10 := hn10.mono Lw8
          replace hn19 := hn19.mono Lw8
          refine ops_pick rfl rfl rfl ?_
          refine ops_assign rfl rfl ?_
          refine ops_nil ?_
          refine SL.wp_ret ?_
          refine leave_nil ⟨[_], ⟨rfl, trivial⟩, ?_⟩
          dsimp only [resVal]
          subst hFz
          exact ⟨LL.below (Nat.le_refl _), by first | rfl | simp⟩
        · refine ops_guard_t rfl rfl ?_
          refine ops_move rfl rfl ?_
          refine ops_guard_t rfl rfl ?_
          refine ops_callv rfl bod26 rfl rfl ?_
          refine (rtrim_c (M := M) (by assumption) (by omega) hM).mono ?_
          rintro v44 w9 ⟨hB44, hf44⟩
          have hM44 := hM; have hS44 := LL.size
          have Lw9 := Le.of_below (Fz := Fz) (M := M) hB44
          replace LL := LL.trans Lw9
          replace hM := hM.mono Lw9
          replace hF := hF.mono Lw9
          replace h1 := h1.mono Lw9
          replace h2 := h2.mono Lw9
          replace hn10 := hn10.mono Lw9
          replace hn19 := hn19.mono Lw9
          have hn44 := hf44.nat hM44; replace hf44 := hf44.less hS44
          refine ops_guard_t rfl rfl ?_
          first | refine ops_len rfl Try.underlying23 rfl ?_ | refine ops_lens rfl Try.underlying23 rfl (IsNat.slc (by assumption)) ?_ | refine ops_lenn rfl Try.underlying23 rfl (by assumption) ?_ | refine ops_leno rfl Try.underlying23 rfl (by assumption) ?_
          refine ops_guard_t rfl rfl ?_
          refine ops_eq rfl rfl rfl ?_
          refine ops_bt (d := 46) rfl (decide_eq_true (by rw [bitsN_eq_zero.1 (show bitsN (val ys) = 0 by omega), limbs_zero]; rfl)) ?_
          refine ops_guard_t rfl rfl ?_
          refine ops_pick rfl rfl rfl ?_
          refine ops_pick rfl rfl rfl ?_
          refine ops_move rfl rfl ?_
          refine ops_guard_t rfl rfl ?_
          refine ops_callv rfl bod34 rfl rfl ?_
          refine (wakes2_c (M := M) hM).mono ?_
          rintro v50 w10 ⟨hB50, rfl⟩
          have Lw10 := Le.of_below (Fz := Fz) (M := M) hB50
          replace LL := LL.trans Lw10
          replace hM := hM.mono Lw10
          replace hF := hF.mono Lw10
          replace h1 := h1.mono Lw10
          replace h2 := h2.mono Lw10
          replace hn10 := hn10.mono Lw10
          replace hn19 := hn19.mono Lw10
          replace hn44 := hn44.mono Lw10
          refine ops_pick rfl rfl rfl ?_
          refine ops_assign rfl rfl ?_
          refine ops_nil ?_
          refine SL.wp_ret ?_
          refine leave_nil ⟨[_], ⟨rfl, trivial⟩, ?_⟩
          dsimp only [resVal]
          subst hFz
          exact ⟨LL.below (Nat.le_refl _), by first | rfl | simp⟩
      · refine ops_guard_t rfl rfl ?_
        refine ops_move rfl rfl ?_
        refine ops_guard_t rfl rfl ?_
        refine ops_callv rfl bod26 rfl rfl ?_
        refine (rtrim_c (M := M) (by assumption) (by omega) hM).mono ?_
        rintro v34 w11 ⟨hB34, hf34⟩
        have hM34 := hM; have hS34 := LL.size
        have Lw11 := Le.of_below (Fz := Fz) (M := M) hB34
        replace LL := LL.trans Lw11
        replace hM := hM.mono Lw11
        replace hF := hF.mono Lw11
        replace h1 := h1.mono Lw11
        replace h2 := h2.mono Lw11
        replace hn10 := hn10.mono Lw11
        replace hn19 := hn19.mono Lw11
        have hn34 := hf34.nat hM34; replace hf34 := hf34.less hS34
        refine ops_guard_t rfl rfl ?_
        first | refine ops_len rfl Try.underlying23 rfl ?_ | refine ops_lens rfl Try.underlying23 rfl (IsNat.slc (by assumption)) ?_ | refine ops_lenn rfl Try.underlying23 rfl (by assumption) ?_ | refine ops_leno rfl Try.underlying23 rfl (by assumption) ?_
        refine ops_guard_t rfl rfl ?_
        refine ops_eq rfl rfl rfl ?_
        refine ops_bt (d := 36) rfl (decide_eq_true (by rw [bitsN_eq_zero.1 (show bitsN (val xs) = 0 by omega), limbs_zero]; rfl)) ?_
        refine ops_guard_t rfl rfl ?_
        refine ops_pick rfl rfl rfl ?_
        refine ops_pick rfl rfl rfl ?_
        refine ops_move rfl rfl ?_
        refine ops_guard_t rfl rfl ?_
        refine ops_move rfl rfl ?_
        refine ops_guard_t rfl rfl ?_
        refine ops_ne rfl rfl rfl ?_
        refine ops_guard_t rfl rfl ?_
        refine ops_move rfl rfl ?_
        refine ops_dcase (d := 42) rfl (fun hg6_15 => ?_) (fun hg6_15 => ?_)
        · refine ops_guard_f rfl rfl rfl rfl ?_
          refine ops_guard_f rfl rfl rfl rfl ?_
          refine ops_guard_f rfl rfl rfl rfl ?_
          refine ops_guard_f rfl rfl rfl rfl ?_
          refine ops_guard_t rfl rfl ?_
          refine ops_pick rfl rfl rfl ?_
          refine ops_pick rfl rfl rfl ?_
          refine ops_move rfl rfl ?_
          refine ops_guard_t rfl rfl ?_
          refine ops_callv rfl bod34 rfl rfl ?_
          refine (wakes2_c (M := M) hM).mono ?_
          rintro v50 w12 ⟨hB50, rfl⟩
          have Lw12 := Le.of_below (Fz := Fz) (M := M) hB50
          replace LL := LL.trans Lw12
          replace hM := hM.mono Lw12
          replace hF := hF.mono Lw12
          replace h1 := h1.mono Lw12
          replace h2 := h2.mono Lw12
          replace hn10 := hn10.mono Lw12
          replace hn19 := hn19.mono Lw12
          replace hn34 := hn34.mono Lw12
          refine ops_pick rfl rfl rfl ?_
          refine ops_assign rfl rfl ?_
          refine ops_nil ?_
          refine SL.wp_ret ?_
          refine leave_nil ⟨[_], ⟨rfl, trivial⟩, ?_⟩
          dsimp only [resVal]
          subst hFz
          exact ⟨LL.below (Nat.le_refl _), by first | rfl | simp⟩
        · refine ops_guard_t rfl rfl ?_
          refine ops_move rfl rfl ?_
          refine ops_guard_t rfl rfl ?_
          refine ops_callv rfl bod26 rfl rfl ?_
          refine (rtrim_c (M := M) (by assumption) (by omega) hM).mono ?_
          rintro v44 w13 ⟨hB44, hf44⟩
          have hM44 := hM; have hS44 := LL.size
          have Lw13 := Le.of_below (Fz := Fz) (M := M) hB44
          replace LL := LL.trans Lw13
          replace hM := hM.mono Lw13
          replace hF := hF.mono Lw13
          replace h1 := h1.mono Lw13
          replace h2 := h2.mono Lw13
          replace hn10 := hn10.mono Lw13
          replace hn19 := hn19.mono Lw13
          replace hn34 := hn34.mono Lw13
          have hn44 := hf44.nat hM44; replace hf44 := hf44.less hS44
          refine ops_guard_t rfl rfl ?_
          first | refine ops_len rfl Try.underlying23 rfl ?_ | refine ops_lens rfl Try.underlying23 rfl (IsNat.slc (by assumption)) ?_ | refine ops_lenn rfl Try.underlying23 rfl (by assumption) ?_ | refine ops_leno rfl Try.underlying23 rfl (by assumption) ?_
          refine ops_guard_t rfl rfl ?_
          refine ops_eq rfl rfl rfl ?_
          refine ops_bt (d := 46) rfl (decide_eq_true (by rw [bitsN_eq_zero.1 (show bitsN (val ys) = 0 by omega), limbs_zero]; rfl)) ?_
          refine ops_guard_t rfl rfl ?_
          refine ops_pick rfl rfl rfl ?_
          refine ops_pick rfl rfl rfl ?_
          refine ops_move rfl rfl ?_
          refine ops_guard_t rfl rfl ?_
          refine ops_callv rfl bod34 rfl rfl ?_
          refine (wakes2_c (M := M) hM).mono ?_
          rintro v50 w14 ⟨hB50, rfl⟩
          have Lw14 := Le.of_below (Fz := Fz) (M := M) hB50
          replace LL := LL.trans Lw14
          replace hM := hM.mono Lw14
          replace hF := hF.mono Lw14
          replace h1 := h1.mono Lw14
          replace h2 := h2.mono Lw14
          replace hn10 := hn10.mono Lw14
          replace hn19 := hn19.mono Lw14
          replace hn34 := hn34.mono Lw14
          replace hn44 := hn44.mono Lw14
          refine ops_pick rfl rfl rfl ?_
          refine ops_assign rfl rfl ?_
          refine ops_nil ?_
          refine SL.wp_ret ?_
          refine leave_nil ⟨[_], ⟨rfl, trivial⟩, ?_⟩
          dsimp only [resVal]
          subst hFz
          exact ⟨LL.below (Nat.le_refl _), by first | rfl | simp⟩
    · refine ops_guard_t rfl rfl ?_
      refine ops_move rfl rfl ?_
      refine ops_guard_t rfl rfl ?_
      refine ops_eq rfl rfl rfl ?_
      refine ops_pick rfl rfl rfl ?_
      refine ops_nil ?_
      refine SL.wp_cond_d rfl (fun hc1 => ?_) (fun hc1 => ?_)
      · have hz : val xs * val ys = 0 := by rw [bitsN_eq_zero.1 (show bitsN (val ys) = 0 by omega), Nat.mul_zero]
        refine SL.wp_seq ?_
        refine SL.wp_region ?_
        refine ops_move rfl rfl ?_
        refine ops_eq rfl rfl rfl ?_
        refine ops_move rfl rfl ?_
        refine ops_bt (d := 29) rfl (decide_eq_true (by rw [val_limbs, hz, bitsN_zero]; rfl)) ?_
        refine ops_guard_t rfl rfl ?_
        refine ops_move rfl rfl ?_
        refine ops_guard_t rfl rfl ?_
        refine ops_ne rfl rfl rfl ?_
        refine ops_guard_t rfl rfl ?_
        refine ops_move rfl rfl ?_
        refine ops_dcase (d := 32) rfl (fun hg6_5 => ?_) (fun hg6_5 => ?_)
        · refine ops_guard_f rfl rfl rfl rfl ?_
          refine ops_guard_f rfl rfl rfl rfl ?_
          refine ops_guard_f rfl rfl rfl rfl ?_
          refine ops_guard_f rfl rfl rfl rfl ?_
          refine ops_guard_t rfl rfl ?_
          refine ops_pick rfl rfl rfl ?_
          refine ops_pick rfl rfl rfl ?_
          refine ops_move rfl rfl ?_
          refine ops_guard_t rfl rfl ?_
          refine ops_move rfl rfl ?_
          refine ops_guard_t rfl rfl ?_
          refine ops_ne rfl rfl rfl ?_
          refine ops_guard_t rfl rfl ?_
          refine ops_move rfl rfl ?_
          refine ops_dcase (d := 42) rfl (fun hg6_15 => ?_) (fun hg6_15 => ?_)
          · refine ops_guard_f rfl rfl rfl rfl ?_
            refine ops_guard_f rfl rfl rfl rfl ?_
            refine ops_guard_f rfl rfl rfl rfl ?_
            refine ops_guard_f rfl rfl rfl rfl ?_
            refine ops_guard_t rfl rfl ?_
            refine ops_pick rfl rfl rfl ?_
            refine ops_pick rfl rfl rfl ?_
            refine ops_move rfl rfl ?_
            refine ops_guard_t rfl rfl ?_
            refine ops_callv rfl bod34 rfl rfl ?_
            refine (wakes2_c (M := M) hM).mono ?_
            rintro v50 w15 ⟨hB50, rfl⟩
            have Lw15 := Le.of_below (Fz := Fz) (M := M) hB50
            replace LL := LL.trans Lw15
            replace hM := hM.mono Lw15
            replace hF := hF.mono Lw15
            replace h1 := h1.mono Lw15
            replace h2 := h2.mono Lw15
            replace hn10 := hn10.mono Lw15
            replace hn19 := hn19.mono Lw15
            refine ops_pick rfl rfl rfl ?_
            refine ops_assign rfl rfl ?_
            refine ops_nil ?_
            refine SL.wp_ret ?_
            refine leave_nil ⟨[_], ⟨rfl, trivial⟩, ?_⟩
            dsimp only [resVal]
            subst hFz
            exact ⟨LL.below (Nat.le_refl _), by first | rfl | simp⟩
          · refine ops_guard_t rfl rfl ?_
            refine ops_move rfl rfl ?_
            refine ops_guard_t rfl rfl ?_
            refine ops_callv rfl bod26 rfl rfl ?_
            refine (rtrim_c (M := M) (by assumption) (by omega) hM).mono ?_
            rintro v44 w16 ⟨hB44, hf44⟩
            have hM44 := hM; have hS44 := LL.size
            have Lw16 := Le.of_below (Fz := Fz) (M := M) hB44
            replace LL := LL.trans Lw16
            replace hM := hM.mono Lw16
            replace hF := hF.mono Lw16
            replace h1 := h1.mono Lw16
            replace h2 := h2.mono Lw16
            replace hn10 := hn10.mono Lw16
            replace hn19 := hn19.mono Lw16
            have hn44 := hf44.nat hM44; replace hf44 := hf44.less hS44
            refine ops_guard_t rfl rfl ?_
            first | refine ops_len rfl Try.underlying23 rfl ?_ | refine ops_lens rfl Try.underlying23 rfl (IsNat.slc (by assumption)) ?_ | refine ops_lenn rfl Try.underlying23 rfl (by assumption) ?_ | refine ops_leno rfl Try.underlying23 rfl (by assumption) ?_
            refine ops_guard_t rfl rfl ?_
            refine ops_eq rfl rfl rfl ?_
            refine ops_bt (d := 46) rfl (decide_eq_true (by rw [bitsN_eq_zero.1 (show bitsN (val ys) = 0 by omega), limbs_zero]; rfl)) ?_
            refine ops_guard_t rfl rfl ?_
            refine ops_pick rfl rfl rfl ?_
            refine ops_pick rfl rfl rfl ?_
            refine ops_move rfl rfl ?_
            refine ops_guard_t rfl rfl ?_
            refine ops_callv rfl bod34 rfl rfl ?_
            refine (wakes2_c (M := M) hM).mono ?_
            rintro v50 w17 ⟨hB50, rfl⟩
            have Lw17 := Le.of_below (Fz := Fz) (M := M) hB50
            replace LL := LL.trans Lw17
            replace hM := hM.mono Lw17
            replace hF := hF.mono Lw17
            replace h1 := h1.mono Lw17
            replace h2 := h2.mono Lw17
            replace hn10 := hn10.mono Lw17
            replace hn19 := hn19.mono Lw17
            replace hn44 := hn44.mono Lw17
            refine ops_pick rfl rfl rfl ?_
            refine ops_assign rfl rfl ?_
            refine ops_nil ?_
            refine SL.wp_ret ?_
            refine leave_nil ⟨[_], ⟨rfl, trivial⟩, ?_⟩
            dsimp only [resVal]
            subst hFz
            exact ⟨LL.below (Nat.le_refl _), by first | rfl | simp⟩
        · refine ops_guard_t rfl rfl ?_
          refine ops_move rfl rfl ?_
          refine ops_guard_t rfl rfl ?_
          refine ops_callv rfl bod26 rfl rfl ?_
          refine (rtrim_c (M := M) (by assumption) (by omega) hM).mono ?_
          rintro v34 w18 ⟨hB34, hf34⟩
          have hM34 := hM; have hS34 := LL.size
          have Lw18 := Le.of_below (Fz := Fz) (M := M) hB34
          replace LL := LL.trans Lw18
          replace hM := hM.mono Lw18
          replace hF := hF.mono Lw18
          replace h1 := h1.mono Lw18
          replace h2 := h2.mono Lw18
          replace hn10 := hn10.mono Lw18
          replace hn19 := hn19.mono Lw18
          have hn34 := hf34.nat hM34; replace hf34 := hf34.less hS34
          refine ops_guard_t rfl rfl ?_
          first | refine ops_len rfl Try.underlying23 rfl ?_ | refine ops_lens rfl Try.underlying23 rfl (IsNat.slc (by assumption)) ?_ | refine ops_lenn rfl Try.underlying23 rfl (by assumption) ?_ | refine ops_leno rfl Try.underlying23 rfl (by assumption) ?_
          refine ops_guard_t rfl rfl ?_
          refine ops_eq rfl rfl rfl ?_
          refine ops_bt (d := 36) rfl (decide_eq_true (by rw [bitsN_eq_zero.1 (show bitsN (val xs) = 0 by omega), limbs_zero]; rfl)) ?_
          refine ops_guard_t rfl rfl ?_
          refine ops_pick rfl rfl rfl ?_
          refine ops_pick rfl rfl rfl ?_
          refine ops_move rfl rfl ?_
          refine ops_guard_t rfl rfl ?_
          refine ops_move rfl rfl ?_
          refine ops_guard_t rfl rfl ?_
          refine ops_ne rfl rfl rfl ?_
          refine ops_guard_t rfl rfl ?_
          refine ops_move rfl rfl ?_
          refine ops_dcase (d := 42) rfl (fun hg6_15 => ?_) (fun hg6_15 => ?_)
          · refine ops_guard_f rfl rfl rfl rfl ?_
            refine ops_guard_f rfl rfl rfl rfl ?_
            refine ops_guard_f rfl rfl rfl rfl ?_
            refine ops_guard_f rfl rfl rfl rfl ?_
            refine ops_guard_t rfl rfl ?_
            refine ops_pick rfl rfl rfl ?_
            refine ops_pick rfl rfl rfl ?_
            refine ops_move rfl rfl ?_
            refine ops_guard_t rfl rfl ?_
            refine ops_callv rfl bod34 rfl rfl ?_
            refine (wakes2_c (M := M) hM).mono ?_
            rintro v50 w19 ⟨hB50, rfl⟩
            have Lw19 := Le.of_below (Fz := Fz) (M := M) hB50
            replace LL := LL.trans Lw19
            replace hM := hM.mono Lw19
            replace hF := hF.mono Lw19
            replace h1 := h1.mono Lw19
            replace h2 := h2.mono Lw19
            replace hn10 := hn10.mono Lw19
            replace hn19 := hn19.mono Lw19
            replace hn34 := hn34.mono Lw19
            refine ops_pick rfl rfl rfl ?_
            refine ops_assign rfl rfl ?_
            refine ops_nil ?_
            refine SL.wp_ret ?_
            refine leave_nil ⟨[_], ⟨rfl, trivial⟩, ?_⟩
            dsimp only [resVal]
            subst hFz
            exact ⟨LL.below (Nat.le_refl _), by first | rfl | simp⟩
          · refine ops_guard_t rfl rfl ?_
            refine ops_move rfl rfl ?_
            refine ops_guard_t rfl rfl ?_
            refine ops_callv rfl bod26 rfl rfl ?_
            refine (rtrim_c (M := M) (by assumption) (by omega) hM).mono ?_
            rintro v44 w20 ⟨hB44, hf44⟩
            have hM44 := hM; have hS44 := LL.size
            have Lw20 := Le.of_below (Fz := Fz) (M := M) hB44
            replace LL := LL.trans Lw20
            replace hM := hM.mono Lw20
            replace hF := hF.mono Lw20
            replace h1 := h1.mono Lw20
            replace h2 := h2.mono Lw20
            replace hn10 := hn10.mono Lw20
            replace hn19 := hn19.mono Lw20
            replace hn34 := hn34.mono Lw20
            have hn44 := hf44.nat hM44; replace hf44 := hf44.less hS44
            refine ops_guard_t rfl rfl ?_
            first | refine ops_len rfl Try.underlying23 rfl ?_ | refine ops_lens rfl Try.underlying23 rfl (IsNat.slc (by assumption)) ?_ | refine ops_lenn rfl Try.underlying23 rfl (by assumption) ?_ | refine ops_leno rfl Try.underlying23 rfl (by assumption) ?_
            refine ops_guard_t rfl rfl ?_
            refine ops_eq rfl rfl rfl ?_
            refine ops_bt (d := 46) rfl (decide_eq_true (by rw [bitsN_eq_zero.1 (show bitsN (val ys) = 0 by omega), limbs_zero]; rfl)) ?_
            refine ops_guard_t rfl rfl ?_
            refine ops_pick rfl rfl rfl ?_
            refine ops_pick rfl rfl rfl ?_
            refine ops_move rfl rfl ?_
            refine ops_guard_t rfl rfl ?_
            refine ops_callv rfl bod34 rfl rfl ?_
            refine (wakes2_c (M := M) hM).mono ?_
            rintro v50 w21 ⟨hB50, rfl⟩
            have Lw21 := Le.of_below (Fz := Fz) (M := M) hB50
            replace LL := LL.trans Lw21
            replace hM := hM.mono Lw21
            replace hF := hF.mono Lw21
            replace h1 := h1.mono Lw21
            replace h2 := h2.mono Lw21
            replace hn10 := hn10.mono Lw21
            replace hn19 := hn19.mono Lw21
            replace hn34 := hn34.mono Lw21
            replace hn44 := hn44.mono Lw21
            refine ops_pick rfl rfl rfl ?_
            refine ops_assign rfl rfl ?_
            refine ops_nil ?_
            refine SL.wp_ret ?_
            refine leave_nil ⟨[_], ⟨rfl, trivial⟩, ?_⟩
            dsimp only [resVal]
            subst hFz
            exact ⟨LL.below (Nat.le_refl _), by first | rfl | simp⟩
      · have hx0 : 0 < val xs := Nat.pos_of_ne_zero fun h => hg5_2 (by rw [h, bitsN_zero]; rfl)
        have hy0 : 0 < val ys := Nat.pos_of_ne_zero fun h => hc1 (by rw [h, bitsN_zero]; rfl)
        have hbb := bits_mul hx0 hy0
        rw [← val_limbs (val xs * val ys)] at hbb
        have hcn1 : cntN (bitsN (val xs) : Int) 65536 = bitsN (val xs) := cntN_nat (m := 65536) (by omega)
        have hcn2 : cntN ((bitsN (val xs) : Int) - 1) 65536 = bitsN (val xs) - 1 := by rw [show ((bitsN (val xs) : Nat) : Int) - 1 = ((bitsN (val xs) - 1 : Nat) : Int) by omega]; exact cntN_nat (m := 65536) (by omega)
        have hlu1 : (limbs (val [1] * 2 ^ cntN (bitsN (val xs) : Int) 65536)).length ≤ 1000000000 := up_one_len _
        have hlu2 : (limbs (val [1] * 2 ^ cntN ((bitsN (val xs) : Int) - 1) 65536)).length ≤ 1000000000 := up_one_len _
        refine SL.wp_skip ?_
        refine SL.wp_seq ?_
        refine SL.wp_seq ?_
        refine SL.wp_region ?_
        refine ops_move rfl rfl ?_
        refine ops_move rfl rfl ?_
        refine ops_move rfl rfl ?_
        refine ops_add rfl rfl rfl (by omega) ?_
        refine ops_ne rfl rfl rfl ?_
        refine ops_move rfl rfl ?_
        refine ops_dcase (d := 57) rfl (fun hg7_5 => ?_) (fun hg7_5 => ?_)
        · refine ops_guard_t rfl rfl ?_
          refine ops_move rfl rfl ?_
          refine ops_guard_t rfl rfl ?_
          refine ops_move rfl rfl ?_
          refine ops_guard_t rfl rfl ?_
          refine ops_move rfl rfl ?_
          refine ops_guard_t rfl rfl ?_
          refine ops_add rfl rfl rfl (by omega) ?_
          refine ops_guard_t rfl rfl ?_
          refine ops_sub rfl rfl rfl (by omega) ?_
          refine ops_guard_t rfl rfl ?_
          refine ops_ne rfl rfl rfl ?_
          refine ops_bf (d := 63) rfl (decide_eq_false (by omega)) ?_
          refine ops_pick rfl rfl rfl ?_
          refine ops_move rfl rfl ?_
          refine ops_guard_t rfl rfl ?_
          refine ops_move rfl rfl ?_
          refine ops_guard_t rfl rfl ?_
          refine ops_move rfl rfl ?_
          refine ops_guard_t rfl rfl ?_
          first | refine ops_len rfl Try.underlying23 rfl ?_ | refine ops_lens rfl Try.underlying23 rfl (IsNat.slc (by assumption)) ?_ | refine ops_lenn rfl Try.underlying23 rfl (by assumption) ?_ | refine ops_leno rfl Try.underlying23 rfl (by assumption) ?_
          refine ops_guard_t rfl rfl ?_
          refine ops_mul rfl rfl rfl (by omega) ?_
          refine ops_guard_t rfl rfl ?_
          refine ops_gt rfl rfl rfl ?_
          refine ops_bf (d := 70) rfl (decide_eq_false (by omega)) ?_
          refine ops_pick rfl rfl rfl ?_
          refine ops_nil ?_
          refine SL.wp_cond_f rfl ?_
          refine SL.wp_skip ?_
          refine SL.wp_seq ?_
          refine SL.wp_region ?_
          refine ops_move rfl rfl ?_
          refine ops_buildSlice rfl Try.underlying23 sz43 rfl rfl rfl (by simp [Value.oneCell', lw]) rfl (fun w22 b73 N73 => ?_)
          have hBw22 := N73.below
          have nM73 := hM.new N73; have B73 := N73.blk
          have Lw22 := Le.of_below (Fz := Fz) (M := M) hBw22
          replace LL := LL.trans Lw22
          replace hM := hM.mono Lw22
          replace hF := hF.mono Lw22
          replace h1 := h1.mono Lw22
          replace h2 := h2.mono Lw22
          replace hn10 := hn10.mono Lw22
          replace hn19 := hn19.mono Lw22
          have hn73 : IsNat M w22 (.slice (some ⟨b73, 0, none⟩) 1 1) [1] := blk_nat (xs := [1]) B73 nM73 rfl (by simp) (by simp)
          refine ops_move rfl rfl ?_
          refine ops_callv rfl bod37 rfl rfl ?_
          refine (up_c (M := M) (by assumption) (by first | omega | simp) hM).mono ?_
          rintro v75 w23 ⟨hB75, hf75⟩
          have hM75 := hM; have hS75 := LL.size
          have Lw23 := Le.of_below (Fz := Fz) (M := M) hB75
          replace LL := LL.trans Lw23
          replace hM := hM.mono Lw23
          replace hF := hF.mono Lw23
          replace h1 := h1.mono Lw23
          replace h2 := h2.mono Lw23
          replace hn10 := hn10.mono Lw23
          replace hn19 := hn19.mono Lw23
          replace hn73 := hn73.mono Lw23
          have hn75 := hf75.nat hM75; replace hf75 := hf75.less hS75
          refine ops_callv rfl bod24 rfl rfl ?_
          refine (rcmp_c (M := M) h1 (by assumption) (by omega) (by omega) hM).mono ?_
          rintro v76 w24 ⟨hB76, rfl⟩
          have Lw24 := Le.of_below (Fz := Fz) (M := M) hB76
          replace LL := LL.trans Lw24
          replace hM := hM.mono Lw24
          replace hF := hF.mono Lw24
          replace h1 := h1.mono Lw24
          replace h2 := h2.mono Lw24
          replace hn10 := hn10.mono Lw24
          replace hn19 := hn19.mono Lw24
          replace hn73 := hn73.mono Lw24
          replace hn75 := hn75.mono Lw24
          refine ops_lt rfl rfl rfl ?_
          refine ops_move rfl rfl ?_
          refine ops_bt (d := 78) rfl (decide_eq_true (by rw [cmpN_neg, val_limbs, hcn1, show val [1] = 1 by decide, Nat.one_mul]; exact bitsN_lt _)) ?_
          refine ops_guard_t rfl rfl ?_
          refine ops_move rfl rfl ?_
          refine ops_guard_t rfl rfl ?_
          refine ops_buildSlice rfl Try.underlying23 sz43 rfl rfl rfl (by simp [Value.oneCell', lw]) rfl (fun w25 b80 N80 => ?_)
          have hBw25 := N80.below
          have nM80 := hM.new N80; have B80 := N80.blk
          have Lw25 := Le.of_below (Fz := Fz) (M := M) hBw25
          replace LL := LL.trans Lw25
          replace hM := hM.mono Lw25
          replace hF := hF.mono Lw25
          replace h1 := h1.mono Lw25
          replace h2 := h2.mono Lw25
          replace hn10 := hn10.mono Lw25
          replace hn19 := hn19.mono Lw25
          replace hn73 := hn73.mono Lw25
          replace hn75 := hn75.mono Lw25
          have hn80 : IsNat M w25 (.slice (some ⟨b80, 0, none⟩) 1 1) [1] := blk_nat (xs := [1]) B80 nM80 rfl (by simp) (by simp)
          refine ops_guard_t rfl rfl ?_
          refine ops_move rfl rfl ?_
          refine ops_guard_t rfl rfl ?_
          refine ops_sub rfl rfl rfl (by omega) ?_
          refine ops_guard_t rfl rfl ?_
          refine ops_callv rfl bod37 rfl rfl ?_
          refine (up_c (M := M) (by assumption) (by first | omega | simp) hM).mono ?_
          rintro v83 w26 ⟨hB83, hf83⟩
          have hM83 := hM; have hS83 := LL.size
          have Lw26 := Le.of_below (Fz := Fz) (M := M) hB83
          replace LL := LL.trans Lw26
          replace hM := hM.mono Lw26
          replace hF := hF.mono Lw26
          replace h1 := h1.mono Lw26
          replace h2 := h2.mono Lw26
          replace hn10 := hn10.mono Lw26
          replace hn19 := hn19.mono Lw26
          replace hn73 := hn73.mono Lw26
          replace hn75 := hn75.mono Lw26
          replace hn80 := hn80.mono Lw26
          have hn83 := hf83.nat hM83; replace hf83 := hf83.less hS83
          refine ops_guard_t rfl rfl ?_
          refine ops_callv rfl bod24 rfl rfl ?_
          refine (rcmp_c (M := M) h1 (by assumption) (by omega) (by omega) hM).mono ?_
          rintro v84 w27 ⟨hB84, rfl⟩
          have Lw27 := Le.of_below (Fz := Fz) (M := M) hB84
          replace LL := LL.trans Lw27
          replace hM := hM.mono Lw27
          replace hF := hF.mono Lw27
          replace h1 := h1.mono Lw27
          replace h2 := h2.mono Lw27
          replace hn10 := hn10.mono Lw27
          replace hn19 := hn19.mono Lw27
          replace hn73 := hn73.mono Lw27
          replace hn75 := hn75.mono Lw27
          replace hn80 := hn80.mono Lw27
          replace hn83 := hn83.mono Lw27
          refine ops_guard_t rfl rfl ?_
          refine ops_ge rfl rfl rfl ?_
          refine ops_bt (d := 85) rfl (decide_eq_true (by refine cmpN_nonneg.2 ?_; rw [val_limbs, hcn2, show val [1] = 1 by decide, Nat.one_mul]; exact bitsN_le hx0)) ?_
          refine ops_pick rfl rfl rfl ?_
          refine ops_move rfl rfl ?_
          refine ops_guard_t rfl rfl ?_
          refine ops_callv rfl bod34 rfl rfl ?_
          refine (wakes2_c (M := M) hM).mono ?_
          rintro v88 w28 ⟨hB88, rfl⟩
          have Lw28 := Le.of_below (Fz := Fz) (M := M) hB88
          replace LL := LL.trans Lw28
          replace hM := hM.mono Lw28
          replace hF := hF.mono Lw28
          replace h1 := h1.mono Lw28
          replace h2 := h2.mono Lw28
          replace hn10 := hn10.mono Lw28
          replace hn19 := hn19.mono Lw28
          replace hn73 := hn73.mono Lw28
          replace hn75 := hn75.mono Lw28
          replace hn80 := hn80.mono Lw28
          replace hn83 := hn83.mono Lw28
          refine ops_pick rfl rfl rfl ?_
          refine ops_assign rfl rfl ?_
          refine ops_nil ?_
          refine SL.wp_ret ?_
          refine leave_nil ⟨[_], ⟨rfl, trivial⟩, ?_⟩
          dsimp only [resVal]
          subst hFz
          exact ⟨LL.below (Nat.le_refl _), by first | rfl | simp⟩
        · refine ops_guard_f rfl rfl rfl rfl ?_
          refine ops_guard_f rfl rfl rfl rfl ?_
          refine ops_guard_f rfl rfl rfl rfl ?_
          refine ops_guard_f rfl rfl rfl rfl ?_
          refine ops_guard_f rfl rfl rfl rfl ?_
          refine ops_guard_f rfl rfl rfl rfl ?_
          refine ops_pick rfl rfl rfl ?_
          refine ops_move rfl rfl ?_
          refine ops_guard_t rfl rfl ?_
          refine ops_move rfl rfl ?_
          refine ops_guard_t rfl rfl ?_
          refine ops_move rfl rfl ?_
          refine ops_guard_t rfl rfl ?_
          first | refine ops_len rfl Try.underlying23 rfl ?_ | refine ops_lens rfl Try.underlying23 rfl (IsNat.slc (by assumption)) ?_ | refine ops_lenn rfl Try.underlying23 rfl (by assumption) ?_ | refine ops_leno rfl Try.underlying23 rfl (by assumption) ?_
          refine ops_guard_t rfl rfl ?_
          refine ops_mul rfl rfl rfl (by omega) ?_
          refine ops_guard_t rfl rfl ?_
          refine ops_gt rfl rfl rfl ?_
          refine ops_bf (d := 70) rfl (decide_eq_false (by omega)) ?_
          refine ops_pick rfl rfl rfl ?_
          refine ops_nil ?_
          refine SL.wp_cond_f rfl ?_
          refine SL.wp_skip ?_
          refine SL.wp_seq ?_
          refine SL.wp_region ?_
          refine ops_move rfl rfl ?_
          refine ops_buildSlice rfl Try.underlying23 sz43 rfl rfl rfl (by simp [Value.oneCell', lw]) rfl (fun w29 b73 N73 => ?_)
          have hBw29 := N73.below
          have nM73 := hM.new N73; have B73 := N73.blk
          have Lw29 := Le.of_below (Fz := Fz) (M := M) hBw29
          replace LL := LL.trans Lw29
          replace hM := hM.mono Lw29
          replace hF := hF.mono Lw29
          replace h1 := h1.mono Lw29
          replace h2 := h2.mono Lw29
          replace hn10 := hn10.mono Lw29
          replace hn19 := hn19.mono Lw29
          have hn73 : IsNat M w29 (.slice (some ⟨b73, 0, none⟩) 1 1) [1] := blk_nat (xs := [1]) B73 nM73 rfl (by simp) (by simp)
          refine ops_move rfl rfl ?_
          refine ops_callv rfl bod37 rfl rfl ?_
          refine (up_c (M := M) (by assumption) (by first | omega | simp) hM).mono ?_
          rintro v75 w30 ⟨hB75, hf75⟩
          have hM75 := hM; have hS75 := LL.size
          have Lw30 := Le.of_below (Fz := Fz) (M := M) hB75
          replace LL := LL.trans Lw30
          replace hM := hM.mono Lw30
          replace hF := hF.mono Lw30
          replace h1 := h1.mono Lw30
          replace h2 := h2.mono Lw30
          replace hn10 := hn10.mono Lw30
          replace hn19 := hn19.mono Lw30
          replace hn73 := hn73.mono Lw30
          have hn75 := hf75.nat hM75; replace hf75 := hf75.less hS75
          refine ops_callv rfl bod24 rfl rfl ?_
          refine (rcmp_c (M := M) h1 (by assumption) (by omega) (by omega) hM).mono ?_
          rintro v76 w31 ⟨hB76, rfl⟩
          have Lw31 := Le.of_below (Fz := Fz) (M := M) hB76
          replace LL := LL.trans Lw31
          replace hM := hM.mono Lw31
          replace hF := hF.mono Lw31
          replace h1 := h1.mono Lw31
          replace h2 := h2.mono Lw31
          replace hn10 := hn10.mono Lw31
          replace hn19 := hn19.mono Lw31
          replace hn73 := hn73.mono Lw31
          replace hn75 := hn75.mono Lw31
          refine ops_lt rfl rfl rfl ?_
          refine ops_move rfl rfl ?_
          refine ops_bt (d := 78) rfl (decide_eq_true (by rw [cmpN_neg, val_limbs, hcn1, show val [1] = 1 by decide, Nat.one_mul]; exact bitsN_lt _)) ?_
          refine ops_guard_t rfl rfl ?_
          refine ops_move rfl rfl ?_
          refine ops_guard_t rfl rfl ?_
          refine ops_buildSlice rfl Try.underlying23 sz43 rfl rfl rfl (by simp [Value.oneCell', lw]) rfl (fun w32 b80 N80 => ?_)
          have hBw32 := N80.below
          have nM80 := hM.new N80; have B80 := N80.blk
          have Lw32 := Le.of_below (Fz := Fz) (M := M) hBw32
          replace LL := LL.trans Lw32
          replace hM := hM.mono Lw32
          replace hF := hF.mono Lw32
          replace h1 := h1.mono Lw32
          replace h2 := h2.mono Lw32
          replace hn10 := hn10.mono Lw32
          replace hn19 := hn19.mono Lw32
          replace hn73 := hn73.mono Lw32
          replace hn75 := hn75.mono Lw32
          have hn80 : IsNat M w32 (.slice (some ⟨b80, 0, none⟩) 1 1) [1] := blk_nat (xs := [1]) B80 nM80 rfl (by simp) (by simp)
          refine ops_guard_t rfl rfl ?_
          refine ops_move rfl rfl ?_
          refine ops_guard_t rfl rfl ?_
          refine ops_sub rfl rfl rfl (by omega) ?_
          refine ops_guard_t rfl rfl ?_
          refine ops_callv rfl bod37 rfl rfl ?_
          refine (up_c (M := M) (by assumption) (by first | omega | simp) hM).mono ?_
          rintro v83 w33 ⟨hB83, hf83⟩
          have hM83 := hM; have hS83 := LL.size
          have Lw33 := Le.of_below (Fz := Fz) (M := M) hB83
          replace LL := LL.trans Lw33
          replace hM := hM.mono Lw33
          replace hF := hF.mono Lw33
          replace h1 := h1.mono Lw33
          replace h2 := h2.mono Lw33
          replace hn10 := hn10.mono Lw33
          replace hn19 := hn19.mono Lw33
          replace hn73 := hn73.mono Lw33
          replace hn75 := hn75.mono Lw33
          replace hn80 := hn80.mono Lw33
          have hn83 := hf83.nat hM83; replace hf83 := hf83.less hS83
          refine ops_guard_t rfl rfl ?_
          refine ops_callv rfl bod24 rfl rfl ?_
          refine (rcmp_c (M := M) h1 (by assumption) (by omega) (by omega) hM).mono ?_
          rintro v84 w34 ⟨hB84, rfl⟩
          have Lw34 := Le.of_below (Fz := Fz) (M := M) hB84
          replace LL := LL.trans Lw34
          replace hM := hM.mono Lw34
          replace hF := hF.mono Lw34
          replace h1 := h1.mono Lw34
          replace h2 := h2.mono Lw34
          replace hn10 := hn10.mono Lw34
          replace hn19 := hn19.mono Lw34
          replace hn73 := hn73.mono Lw34
          replace hn75 := hn75.mono Lw34
          replace hn80 := hn80.mono Lw34
          replace hn83 := hn83.mono Lw34
          refine ops_guard_t rfl rfl ?_
          refine ops_ge rfl rfl rfl ?_
          refine ops_bt (d := 85) rfl (decide_eq_true (by refine cmpN_nonneg.2 ?_; rw [val_limbs, hcn2, show val [1] = 1 by decide, Nat.one_mul]; exact bitsN_le hx0)) ?_
          refine ops_pick rfl rfl rfl ?_
          refine ops_move rfl rfl ?_
          refine ops_guard_t rfl rfl ?_
          refine ops_callv rfl bod34 rfl rfl ?_
          refine (wakes2_c (M := M) hM).mono ?_
          rintro v88 w35 ⟨hB88, rfl⟩
          have Lw35 := Le.of_below (Fz := Fz) (M := M) hB88
          replace LL := LL.trans Lw35
          replace hM := hM.mono Lw35
          replace hF := hF.mono Lw35
          replace h1 := h1.mono Lw35
          replace h2 := h2.mono Lw35
          replace hn10 := hn10.mono Lw35
          replace hn19 := hn19.mono Lw35
          replace hn73 := hn73.mono Lw35
          replace hn75 := hn75.mono Lw35
          replace hn80 := hn80.mono Lw35
          replace hn83 := hn83.mono Lw35
          refine ops_pick rfl rfl rfl ?_
          refine ops_assign rfl rfl ?_
          refine ops_nil ?_
          refine SL.wp_ret ?_
          refine leave_nil ⟨[_], ⟨rfl, trivial⟩, ?_⟩
          dsimp only [resVal]
          subst hFz
          exact ⟨LL.below (Nat.le_refl _), by first | rfl | simp⟩


theorem prodShifts_c {M : Nat → Prop} {w : World} {v1 : Value} {xs : List Nat} {j1 j2 : Int} (h1 : IsNat M w v1 xs) (hj1 : -9223372036854775808 ≤ j1) (hj2 : j1 ≤ 9223372036854775807) (hj3 : -9223372036854775808 ≤ j2) (hj4 : j2 ≤ 9223372036854775807) (hM : OkM M w) :
    CallsV Try.prog 10 [v1, .int .i64 j1, .int .i64 j2] w fun r w' => Below w.heap.size w w' ∧ r = .bool true := by
  obtain ⟨Fz, hFz⟩ : ∃ Fz : Nat → Prop, Fz = (· < w.heap.size) := ⟨_, rfl⟩
  have hF : FOk Fz w := by subst hFz; exact fun _ h => h
  have LL := Le.refl Fz M w; have hM0 := hM
  refine calls_intro Try.func10 rfl Try.ntmps10 rfl ?_
  refine SL.wp_seq ?_
  refine SL.wp_region ?_
  refine ops_assign rfl rfl ?_
  refine ops_nil ?_
  refine SL.wp_seq ?_
  refine SL.wp_seq ?_
  refine SL.wp_region ?_
  refine ops_move rfl rfl ?_
  refine ops_buildSlice rfl Try.underlying24 sz23 rfl rfl rfl (one1 (by first | rfl | exact nat_one (by assumption) | exact own_one (by assumption))) rfl (fun w1 b13 N13 => ?_)
  have hBw1 := N13.below
  have nM13 := hM.new N13; have B13 := N13.blk
  have Lw1 := Le.of_below (Fz := Fz) (M := M) hBw1
  replace LL := LL.trans Lw1
  replace hM := hM.mono Lw1
  replace hF := hF.mono Lw1
  replace h1 := h1.mono Lw1
  have hn13 := nats1 B13 nM13 h1
  refine ops_callv rfl bod33 rfl rfl ?_
  refine (great2_c (M := M) (by assumption) hM).mono ?_
  rintro v14 w2 ⟨hB14, rfl⟩
  have Lw2 := Le.of_below (Fz := Fz) (M := M) hB14
  replace LL := LL.trans Lw2
  replace hM := hM.mono Lw2
  replace hF := hF.mono Lw2
  replace h1 := h1.mono Lw2
  replace hn13 := hn13.mono Lw2
  refine ops_move rfl rfl ?_
  refine ops_dcase (d := 15) rfl (fun hg1_3 => ?_) (fun hg1_3 => ?_)
  · refine ops_guard_f rfl rfl rfl rfl ?_
    refine ops_guard_f rfl rfl rfl rfl ?_
    refine ops_pick rfl rfl rfl ?_
    refine ops_move rfl rfl ?_
    refine ops_guard_f rfl rfl rfl rfl ?_
    refine ops_guard_f rfl rfl rfl rfl ?_
    refine ops_pick rfl rfl rfl ?_
    refine ops_move rfl rfl ?_
    refine ops_guard_f rfl rfl rfl rfl ?_
    refine ops_guard_f rfl rfl rfl rfl ?_
    refine ops_pick rfl rfl rfl ?_
    refine ops_move rfl rfl ?_
    refine ops_guard_f rfl rfl rfl rfl ?_
    refine ops_guard_f rfl rfl rfl rfl ?_
    refine ops_pick rfl rfl rfl ?_
    refine ops_nil ?_
    refine SL.wp_cond_t rfl ?_
    refine SL.wp_seq ?_
    refine SL.wp_region ?_
    refine ops_callv rfl bod34 rfl rfl ?_
    refine (wakes2_c (M := M) hM).mono ?_
    rintro v31 w3 ⟨hB31, rfl⟩
    have Lw3 := Le.of_below (Fz := Fz) (M := M) hB31
    replace LL := LL.trans Lw3
    replace hM := hM.mono Lw3
    replace hF := hF.mono Lw3
    replace h1 := h1.mono Lw3
    replace hn13 := hn13.mono Lw3
    refine ops_assign rfl rfl ?_
    refine ops_nil ?_
    refine SL.wp_ret ?_
    refine leave_nil ⟨[_], ⟨rfl, trivial⟩, ?_⟩
    dsimp only [resVal]
    subst hFz
    exact ⟨LL.below (Nat.le_refl _), by first | rfl | simp⟩
  · refine ops_guard_t rfl rfl ?_
    refine ops_move rfl rfl ?_
    refine ops_guard_t rfl rfl ?_
    refine ops_lt rfl rfl rfl ?_
    refine ops_pick rfl rfl rfl ?_
    refine ops_move rfl rfl ?_
    refine ops_dcase (d := 19) rfl (fun hg1_7 => ?_) (fun hg1_7 => ?_)
    · refine ops_guard_f rfl rfl rfl rfl ?_
      refine ops_guard_f rfl rfl rfl rfl ?_
      refine ops_pick rfl rfl rfl ?_
      refine ops_move rfl rfl ?_
      refine ops_guard_f rfl rfl rfl rfl ?_
      refine ops_guard_f rfl rfl rfl rfl ?_
      refine ops_pick rfl rfl rfl ?_
      refine ops_move rfl rfl ?_
      refine ops_guard_f rfl rfl rfl rfl ?_
      refine ops_guard_f rfl rfl rfl rfl ?_
      refine ops_pick rfl rfl rfl ?_
      refine ops_nil ?_
      refine SL.wp_cond_t rfl ?_
      refine SL.wp_seq ?_
      refine SL.wp_region ?_
      refine ops_callv rfl bod34 rfl rfl ?_
      refine (wakes2_c (M := M) hM).mono ?_
      rintro v31 w4 ⟨hB31, rfl⟩
      have Lw4 := Le.of_below (Fz := Fz) (M := M) hB31
      replace LL := LL.trans Lw4
      replace hM := hM.mono Lw4
      replace hF := hF.mono Lw4
      replace h1 := h1.mono Lw4
      replace hn13 := hn13.mono Lw4
      refine ops_assign rfl rfl ?_
      refine ops_nil ?_
      refine SL.wp_ret ?_
      refine leave_nil ⟨[_], ⟨rfl, trivial⟩, ?_⟩
      dsimp only [resVal]
      subst hFz
      exact ⟨LL.below (Nat.le_refl _), by first | rfl | simp⟩
    · refine ops_guard_t rfl rfl ?_
      refine ops_move rfl rfl ?_
      refine ops_guard_t rfl rfl ?_
      refine ops_gt rfl rfl rfl ?_
      refine ops_pick rfl rfl rfl ?_
      refine ops_move rfl rfl ?_
      refine ops_dcase (d := 23) rfl (fun hg1_11 => ?_) (fun hg1_11 => ?_)
      · refine ops_guard_f rfl rfl rfl rfl ?_
        refine ops_guard_f rfl rfl rfl rfl ?_
        refine ops_pick rfl rfl rfl ?_
        refine ops_move rfl rfl ?_
        refine ops_guard_f rfl rfl rfl rfl ?_
        refine ops_guard_f rfl rfl rfl rfl ?_
        refine ops_pick rfl rfl rfl ?_
        refine ops_nil ?_
        refine SL.wp_cond_t rfl ?_
        refine SL.wp_seq ?_
        refine SL.wp_region ?_
        refine ops_callv rfl bod34 rfl rfl ?_
        refine (wakes2_c (M := M) hM).mono ?_
        rintro v31 w5 ⟨hB31, rfl⟩
        have Lw5 := Le.of_below (Fz := Fz) (M := M) hB31
        replace LL := LL.trans Lw5
        replace hM := hM.mono Lw5
        replace hF := hF.mono Lw5
        replace h1 := h1.mono Lw5
        replace hn13 := hn13.mono Lw5
        refine ops_assign rfl rfl ?_
        refine ops_nil ?_
        refine SL.wp_ret ?_
        refine leave_nil ⟨[_], ⟨rfl, trivial⟩, ?_⟩
        dsimp only [resVal]
        subst hFz
        exact ⟨LL.below (Nat.le_refl _), by first | rfl | simp⟩
      · refine ops_guard_t rfl rfl ?_
        refine ops_move rfl rfl ?_
        refine ops_guard_t rfl rfl ?_
        refine ops_lt rfl rfl rfl ?_
        refine ops_pick rfl rfl rfl ?_
        refine ops_move rfl rfl ?_
        refine ops_dcase (d := 27) rfl (fun hg1_15 => ?_) (fun hg1_15 => ?_)
        · refine ops_guard_f rfl rfl rfl rfl ?_
          refine ops_guard_f rfl rfl rfl rfl ?_
          refine ops_pick rfl rfl rfl ?_
          refine ops_nil ?_
          refine SL.wp_cond_t rfl ?_
          refine SL.wp_seq ?_
          refine SL.wp_region ?_
          refine ops_callv rfl bod34 rfl rfl ?_
          refine (wakes2_c (M := M) hM).mono ?_
          rintro v31 w6 ⟨hB31, rfl⟩
          have Lw6 := Le.of_below (Fz := Fz) (M := M) hB31
          replace LL := LL.trans Lw6
          replace hM := hM.mono Lw6
          replace hF := hF.mono Lw6
          replace h1 := h1.mono Lw6
          replace hn13 := hn13.mono Lw6
          refine ops_assign rfl rfl ?_
          refine ops_nil ?_
          refine SL.wp_ret ?_
          refine leave_nil ⟨[_], ⟨rfl, trivial⟩, ?_⟩
          dsimp only [resVal]
          subst hFz
          exact ⟨LL.below (Nat.le_refl _), by first | rfl | simp⟩
        · refine ops_guard_t rfl rfl ?_
          refine ops_move rfl rfl ?_
          refine ops_guard_t rfl rfl ?_
          refine ops_gt rfl rfl rfl ?_
          refine ops_pick rfl rfl rfl ?_
          refine ops_nil ?_
          refine SL.wp_cond_d rfl (fun hc0 => ?_) (fun hc0 => ?_)
          · refine SL.wp_seq ?_
            refine SL.wp_region ?_
            refine ops_callv rfl bod34 rfl rfl ?_
            refine (wakes2_c (M := M) hM).mono ?_
            rintro v31 w7 ⟨hB31, rfl⟩
            have Lw7 := Le.of_below (Fz := Fz) (M := M) hB31
            replace LL := LL.trans Lw7
            replace hM := hM.mono Lw7
            replace hF := hF.mono Lw7
            replace h1 := h1.mono Lw7
            replace hn13 := hn13.mono Lw7
            refine ops_assign rfl rfl ?_
            refine ops_nil ?_
            refine SL.wp_ret ?_
            refine leave_nil ⟨[_], ⟨rfl, trivial⟩, ?_⟩
            dsimp only [resVal]
            subst hFz
            exact ⟨LL.below (Nat.le_refl _), by first | rfl | simp⟩
          · have hg := not_gr hg1_3
            have hq4 := hg.2 xs (by simp)
            obtain ⟨k, rfl⟩ := Int.eq_ofNat_of_zero_le (a := j1) (by omega)
            obtain ⟨m, rfl⟩ := Int.eq_ofNat_of_zero_le (a := j2) (by omega)
            have hk1 : cntN (k : Int) 256 = k := cntN_nat (m := 256) (by omega)
            have hk2 : cntN (k : Int) 65536 = k := cntN_nat (m := 65536) (by omega)
            have hm2 : cntN (m : Int) 65536 = m := cntN_nat (m := 65536) (by omega)
            have hkm : cntN ((k : Int) + (m : Int)) 65536 = k + m := cntN_nat (k := k + m) (m := 65536) (by omega)
            have hx := val_lt_pow h1.lt hq4
            have hp9 : ∀ q, q ≤ 512 → 2 ^ q < 4294967296 ^ 17 := fun q hq => two_pow_lt_base (by omega)
            have hl1 := limbs_length_le (hp9 k (by omega))
            have hl2 := mul_len hx (hp9 k (by omega))
            have hl3 := mul_len hx (hp9 (k + m) (by omega))
            have hl4 := limbs_length_le (Nat.lt_of_le_of_lt (Nat.div_le_self (val xs) (2 ^ k)) hx)
            have hl5 := limbs_length_le (Nat.lt_of_le_of_lt (Nat.div_mul_le_self (val xs) (2 ^ k)) hx)
            have hl6 := limbs_length_le (Nat.lt_of_le_of_lt (Nat.sub_le (val xs) (val xs / 2 ^ k * 2 ^ k)) hx)
            have hpp := two_pow_pos k
            refine SL.wp_skip ?_
            refine SL.wp_seq ?_
            refine SL.wp_region ?_
            refine ops_buildSlice rfl Try.underlying23 sz43 rfl rfl rfl (by simp [Value.oneCell', lw]) rfl (fun w8 b32 N32 => ?_)
            have hBw8 := N32.below
            have nM32 := hM.new N32; have B32 := N32.blk
            have Lw8 := Le.of_below (Fz := Fz) (M := M) hBw8
            replace LL := LL.trans Lw8
            replace hM := hM.mono Lw8
            replace hF := hF.mono Lw8
            replace h1 := h1.mono Lw8
            replace hn13 := hn13.mono Lw8
            have hn32 : IsNat M w8 (.slice (some ⟨b32, 0, none⟩) 1 1) [2] := blk_nat (xs := [2]) B32 nM32 rfl (by simp) (by simp)
            refine ops_move rfl rfl ?_
            refine ops_callv rfl bod40 rfl rfl ?_
            refine (pow_c (M := M) (L := 1) (by omega) hn32 (by simp) hM).mono ?_
            rintro v34 w9 ⟨hB34, hn34⟩
            have Lw9 := Le.of_below (Fz := Fz) (M := M) hB34
            replace LL := LL.trans Lw9
            replace hM := hM.mono Lw9
            replace hF := hF.mono Lw9
            replace h1 := h1.mono Lw9
            replace hn13 := hn13.mono Lw9
            replace hn32 := hn32.mono Lw9
            rw [hk1, show val [2] = 2 by decide] at hn34
            refine ops_assign rfl rfl ?_
            refine ops_nil ?_
            refine SL.wp_seq ?_
            refine SL.wp_region ?_
            refine ops_move rfl rfl ?_
            refine ops_move rfl rfl ?_
            refine ops_callv rfl bod37 rfl rfl ?_
            refine (up_c (M := M) (by assumption) (by first | omega | simp) hM).mono ?_
            rintro v37 w10 ⟨hB37, hf37⟩
            have hM37 := hM; have hS37 := LL.size
            have Lw10 := Le.of_below (Fz := Fz) (M := M) hB37
            replace LL := LL.trans Lw10
            replace hM := hM.mono Lw10
            replace hF := hF.mono Lw10
            replace h1 := h1.mono Lw10
            replace hn13 := hn13.mono Lw10
            replace hn32 := hn32.mono Lw10
            replace hn34 := hn34.mono Lw10
            rw [hk2] at hf37
            have hn37 := hf37.nat hM37; replace hf37 := hf37.less hS37
            refine ops_assign rfl rfl ?_
            refine ops_nil ?_
            refine SL.wp_seq ?_
            refine SL.wp_seq ?_
            refine SL.wp_region ?_
            refine ops_move rfl rfl ?_
            refine ops_move rfl rfl ?_
            refine ops_callv rfl bod41 rfl rfl ?_
            refine (down_c (M := M) (by assumption) (by omega) hM).mono ?_
            rintro v40 w11 ⟨hB40, hf40⟩
            have hM40 := hM; have hS40 := LL.size
            have Lw11 := Le.of_below (Fz := Fz) (M := M) hB40
            replace LL := LL.trans Lw11
            replace hM := hM.mono Lw11
            replace hF := hF.mono Lw11
            replace h1 := h1.mono Lw11
            replace hn13 := hn13.mono Lw11
            replace hn32 := hn32.mono Lw11
            replace hn34 := hn34.mono Lw11
            replace hn37 := hn37.mono Lw11
            have hn40 := hf40.nat hM40; replace hf40 := hf40.less hS40
            refine ops_move rfl rfl ?_
            refine ops_callv rfl bod26 rfl rfl ?_
            refine (rtrim_c (M := M) (by assumption) (by omega) hM).mono ?_
            rintro v42 w12 ⟨hB42, hf42⟩
            have hM42 := hM; have hS42 := LL.size
            have Lw12 := Le.of_below (Fz := Fz) (M := M) hB42
            replace LL := LL.trans Lw12
            replace hM := hM.mono Lw12
            replace hF := hF.mono Lw12
            replace h1 := h1.mono Lw12
            replace hn13 := hn13.mono Lw12
            replace hn32 := hn32.mono Lw12
            replace hn34 := hn34.mono Lw12
            replace hn37 := hn37.mono Lw12
            replace hn40 := hn40.mono Lw12
            have hn42 := hf42.nat hM42; replace hf42 := hf42.less hS42
            refine ops_callv rfl bod38 rfl rfl ?_
            refine (same2_c (M := M) (by assumption) (by assumption) hM).mono ?_
            rintro v43 w13 ⟨hB43, rfl⟩
            have Lw13 := Le.of_below (Fz := Fz) (M := M) hB43
            replace LL := LL.trans Lw13
            replace hM := hM.mono Lw13
            replace hF := hF.mono Lw13
            replace h1 := h1.mono Lw13
            replace hn13 := hn13.mono Lw13
            replace hn32 := hn32.mono Lw13
            replace hn34 := hn34.mono Lw13
            replace hn37 := hn37.mono Lw13
            replace hn40 := hn40.mono Lw13
            replace hn42 := hn42.mono Lw13
            refine ops_not rfl rfl ?_
            refine ops_move rfl rfl ?_
            refine ops_bf (d := 45) rfl (by simp [val_limbs, hk2, Nat.mul_div_cancel _ hpp]) ?_
            refine ops_guard_t rfl rfl ?_
            refine ops_move rfl rfl ?_
            refine ops_guard_t rfl rfl ?_
            refine ops_move rfl rfl ?_
            refine ops_guard_t rfl rfl ?_
            refine ops_move rfl rfl ?_
            refine ops_guard_t rfl rfl ?_
            refine ops_callv rfl bod36 rfl rfl ?_
            refine (mul_c (M := M) (by assumption) (by assumption) (by omega) (by omega) hM).mono ?_
            rintro v49 w14 ⟨hB49, hf49⟩
            have hM49 := hM; have hS49 := LL.size
            have Lw14 := Le.of_below (Fz := Fz) (M := M) hB49
            replace LL := LL.trans Lw14
            replace hM := hM.mono Lw14
            replace hF := hF.mono Lw14
            replace h1 := h1.mono Lw14
            replace hn13 := hn13.mono Lw14
            replace hn32 := hn32.mono Lw14
            replace hn34 := hn34.mono Lw14
            replace hn37 := hn37.mono Lw14
            replace hn40 := hn40.mono Lw14
            replace hn42 := hn42.mono Lw14
            have hn49 := hf49.nat hM49; replace hf49 := hf49.less hS49
            refine ops_guard_t rfl rfl ?_
            refine ops_callv rfl bod38 rfl rfl ?_
            refine (same2_c (M := M) (by assumption) (by assumption) hM).mono ?_
            rintro v50 w15 ⟨hB50, rfl⟩
            have Lw15 := Le.of_below (Fz := Fz) (M := M) hB50
            replace LL := LL.trans Lw15
            replace hM := hM.mono Lw15
            replace hF := hF.mono Lw15
            replace h1 := h1.mono Lw15
            replace hn13 := hn13.mono Lw15
            replace hn32 := hn32.mono Lw15
            replace hn34 := hn34.mono Lw15
            replace hn37 := hn37.mono Lw15
            replace hn40 := hn40.mono Lw15
            replace hn42 := hn42.mono Lw15
            replace hn49 := hn49.mono Lw15
            refine ops_guard_t rfl rfl ?_
            refine ops_not rfl rfl ?_
            refine ops_bf (d := 51) rfl (by simp [val_limbs]) ?_
            refine ops_pick rfl rfl rfl ?_
            refine ops_move rfl rfl ?_
            refine ops_guard_t rfl rfl ?_
            refine ops_move rfl rfl ?_
            refine ops_guard_t rfl rfl ?_
            refine ops_move rfl rfl ?_
            refine ops_guard_t rfl rfl ?_
            refine ops_callv rfl bod37 rfl rfl ?_
            refine (up_c (M := M) (by assumption) (by first | omega | simp) hM).mono ?_
            rintro v56 w16 ⟨hB56, hf56⟩
            have hM56 := hM; have hS56 := LL.size
            have Lw16 := Le.of_below (Fz := Fz) (M := M) hB56
            replace LL := LL.trans Lw16
            replace hM := hM.mono Lw16
            replace hF := hF.mono Lw16
            replace h1 := h1.mono Lw16
            replace hn13 := hn13.mono Lw16
            replace hn32 := hn32.mono Lw16
            replace hn34 := hn34.mono Lw16
            replace hn37 := hn37.mono Lw16
            replace hn40 := hn40.mono Lw16
            replace hn42 := hn42.mono Lw16
            replace hn49 := hn49.mono Lw16
            have hn56 := hf56.nat hM56; replace hf56 := hf56.less hS56
            refine ops_guard_t rfl rfl ?_
            refine ops_move rfl rfl ?_
            refine ops_guard_t rfl rfl ?_
            refine ops_move rfl rfl ?_
            refine ops_guard_t rfl rfl ?_
            refine ops_move rfl rfl ?_
            refine ops_guard_t rfl rfl ?_
            refine ops_add rfl rfl rfl (by omega) ?_
            refine ops_guard_t rfl rfl ?_
            refine ops_callv rfl bod37 rfl rfl ?_
            refine (up_c (M := M) (by assumption) (by first | omega | simp) hM).mono ?_
            rintro v61 w17 ⟨hB61, hf61⟩
            have hM61 := hM; have hS61 := LL.size
            have Lw17 := Le.of_below (Fz := Fz) (M := M) hB61
            replace LL := LL.trans Lw17
            replace hM := hM.mono Lw17
            replace hF := hF.mono Lw17
            replace h1 := h1.mono Lw17
            replace hn13 := hn13.mono Lw17
            replace hn32 := hn32.mono Lw17
            replace hn34 := hn34.mono Lw17
            replace hn37 := hn37.mono Lw17
            replace hn40 := hn40.mono Lw17
            replace hn42 := hn42.mono Lw17
            replace hn49 := hn49.mono Lw17
            replace hn56 := hn56.mono Lw17
            have hn61 := hf61.nat hM61; replace hf61 := hf61.less hS61
            refine ops_guard_t rfl rfl ?_
            refine ops_callv rfl bod38 rfl rfl ?_
            refine (same2_c (M := M) (by assumption) (by assumption) hM).mono ?_
            rintro v62 w18 ⟨hB62, rfl⟩
            have Lw18 := Le.of_below (Fz := Fz) (M := M) hB62
            replace LL := LL.trans Lw18
            replace hM := hM.mono Lw18
            replace hF := hF.mono Lw18
            replace h1 := h1.mono Lw18
            replace hn13 := hn13.mono Lw18
            replace hn32 := hn32.mono Lw18
            replace hn34 := hn34.mono Lw18
            replace hn37 := hn37.mono Lw18
            replace hn40 := hn40.mono Lw18
            replace hn42 := hn42.mono Lw18
            replace hn49 := hn49.mono Lw18
            replace hn56 := hn56.mono Lw18
            replace hn61 := hn61.mono Lw18
            refine ops_guard_t rfl rfl ?_
            refine ops_not rfl rfl ?_
            refine ops_bf (d := 63) rfl (by simp [val_limbs, hm2, hkm, Nat.pow_add, Nat.mul_assoc]) ?_
            refine ops_pick rfl rfl rfl ?_
            refine ops_move rfl rfl ?_
            refine ops_guard_t rfl rfl ?_
            refine ops_move rfl rfl ?_
            refine ops_guard_t rfl rfl ?_
            refine ops_move rfl rfl ?_
            refine ops_guard_t rfl rfl ?_
            refine ops_callv rfl bod41 rfl rfl ?_
            refine (down_c (M := M) (by assumption) (by omega) hM).mono ?_
            rintro v68 w19 ⟨hB68, hf68⟩
            have hM68 := hM; have hS68 := LL.size
            have Lw19 := Le.of_below (Fz := Fz) (M := M) hB68
            replace LL := LL.trans Lw19
            replace hM := hM.mono Lw19
            replace hF := hF.mono Lw19
            replace h1 := h1.mono Lw19
            replace hn13 := hn13.mono Lw19
            replace hn32 := hn32.mono Lw19
            replace hn34 := hn34.mono Lw19
            replace hn37 := hn37.mono Lw19
            replace hn40 := hn40.mono Lw19
            replace hn42 := hn42.mono Lw19
            replace hn49 := hn49.mono Lw19
            replace hn56 := hn56.mono Lw19
            replace hn61 := hn61.mono Lw19
            rw [hk2] at hf68
            have hn68 := hf68.nat hM68; replace hf68 := hf68.less hS68
            refine ops_guard_t rfl rfl ?_
            refine ops_move rfl rfl ?_
            refine ops_guard_t rfl rfl ?_
            refine ops_callv rfl bod41 rfl rfl ?_
            refine (down_c (M := M) (by assumption) (by omega) hM).mono ?_
            rintro v70 w20 ⟨hB70, hf70⟩
            have hM70 := hM; have hS70 := LL.size
            have Lw20 := Le.of_below (Fz := Fz) (M := M) hB70
            replace LL := LL.trans Lw20
            replace hM := hM.mono Lw20
            replace hF := hF.mono Lw20
            replace h1 := h1.mono Lw20
            replace hn13 := hn13.mono Lw20
            replace hn32 := hn32.mono Lw20
            replace hn34 := hn34.mono Lw20
            replace hn37 := hn37.mono Lw20
            replace hn40 := hn40.mono Lw20
            replace hn42 := hn42.mono Lw20
            replace hn49 := hn49.mono Lw20
            replace hn56 := hn56.mono Lw20
            replace hn61 := hn61.mono Lw20
            replace hn68 := hn68.mono Lw20
            have hn70 := hf70.nat hM70; replace hf70 := hf70.less hS70
            refine ops_guard_t rfl rfl ?_
            refine ops_move rfl rfl ?_
            refine ops_guard_t rfl rfl ?_
            refine ops_move rfl rfl ?_
            refine ops_guard_t rfl rfl ?_
            refine ops_move rfl rfl ?_
            refine ops_guard_t rfl rfl ?_
            refine ops_add rfl rfl rfl (by omega) ?_
            refine ops_guard_t rfl rfl ?_
            refine ops_callv rfl bod41 rfl rfl ?_
            refine (down_c (M := M) (by assumption) (by omega) hM).mono ?_
            rintro v75 w21 ⟨hB75, hf75⟩
            have hM75 := hM; have hS75 := LL.size
            have Lw21 := Le.of_below (Fz := Fz) (M := M) hB75
            replace LL := LL.trans Lw21
            replace hM := hM.mono Lw21
            replace hF := hF.mono Lw21
            replace h1 := h1.mono Lw21
            replace hn13 := hn13.mono Lw21
            replace hn32 := hn32.mono Lw21
            replace hn34 := hn34.mono Lw21
            replace hn37 := hn37.mono Lw21
            replace hn40 := hn40.mono Lw21
            replace hn42 := hn42.mono Lw21
            replace hn49 := hn49.mono Lw21
            replace hn56 := hn56.mono Lw21
            replace hn61 := hn61.mono Lw21
            replace hn68 := hn68.mono Lw21
            replace hn70 := hn70.mono Lw21
            have hn75 := hf75.nat hM75; replace hf75 := hf75.less hS75
            refine ops_guard_t rfl rfl ?_
            refine ops_callv rfl bod38 rfl rfl ?_
            refine (same2_c (M := M) (by assumption) (by assumption) hM).mono ?_
            rintro v76 w22 ⟨hB76, rfl⟩
            have Lw22 := Le.of_below (Fz := Fz) (M := M) hB76
            replace LL := LL.trans Lw22
            replace hM := hM.mono Lw22
            replace hF := hF.mono Lw22
            replace h1 := h1.mono Lw22
            replace hn13 := hn13.mono Lw22
            replace hn32 := hn32.mono Lw22
            replace hn34 := hn34.mono Lw22
            replace hn37 := hn37.mono Lw22
            replace hn40 := hn40.mono Lw22
            replace hn42 := hn42.mono Lw22
            replace hn49 := hn49.mono Lw22
            replace hn56 := hn56.mono Lw22
            replace hn61 := hn61.mono Lw22
            replace hn68 := hn68.mono Lw22
            replace hn70 := hn70.mono Lw22
            replace hn75 := hn75.mono Lw22
            refine ops_guard_t rfl rfl ?_
            refine ops_not rfl rfl ?_
            refine ops_bf (d := 77) rfl (by simp [val_limbs, hm2, hkm, Nat.pow_add, Nat.div_div_eq_div_mul]) ?_
            refine ops_pick rfl rfl rfl ?_
            refine ops_nil ?_
            refine SL.wp_cond_f rfl ?_
            refine SL.wp_skip ?_
            refine SL.wp_seq ?_
            refine SL.wp_region ?_
            refine ops_move rfl rfl ?_
            refine ops_move rfl rfl ?_
            refine ops_callv rfl bod41 rfl rfl ?_
            refine (down_c (M := M) (by assumption) (by omega) hM).mono ?_
            rintro v81 w23 ⟨hB81, hf81⟩
            have hM81 := hM; have hS81 := LL.size
            have Lw23 := Le.of_below (Fz := Fz) (M := M) hB81
            replace LL := LL.trans Lw23
            replace hM := hM.mono Lw23
            replace hF := hF.mono Lw23
            replace h1 := h1.mono Lw23
            replace hn13 := hn13.mono Lw23
            replace hn32 := hn32.mono Lw23
            replace hn34 := hn34.mono Lw23
            replace hn37 := hn37.mono Lw23
            replace hn40 := hn40.mono Lw23
            replace hn42 := hn42.mono Lw23
            replace hn49 := hn49.mono Lw23
            replace hn56 := hn56.mono Lw23
            replace hn61 := hn61.mono Lw23
            replace hn68 := hn68.mono Lw23
            replace hn70 := hn70.mono Lw23
            replace hn75 := hn75.mono Lw23
            rw [hk2] at hf81
            have hn81 := hf81.nat hM81; replace hf81 := hf81.less hS81
            refine ops_move rfl rfl ?_
            refine ops_callv rfl bod37 rfl rfl ?_
            refine (up_c (M := M) (by assumption) (by first | omega | simp) hM).mono ?_
            rintro v83 w24 ⟨hB83, hf83⟩
            have hM83 := hM; have hS83 := LL.size
            have Lw24 := Le.of_below (Fz := Fz) (M := M) hB83
            replace LL := LL.trans Lw24
            replace hM := hM.mono Lw24
            replace hF := hF.mono Lw24
            replace h1 := h1.mono Lw24
            replace hn13 := hn13.mono Lw24
            replace hn32 := hn32.mono Lw24
            replace hn34 := hn34.mono Lw24
            replace hn37 := hn37.mono Lw24
            replace hn40 := hn40.mono Lw24
            replace hn42 := hn42.mono Lw24
            replace hn49 := hn49.mono Lw24
            replace hn56 := hn56.mono Lw24
            replace hn61 := hn61.mono Lw24
            replace hn68 := hn68.mono Lw24
            replace hn70 := hn70.mono Lw24
            replace hn75 := hn75.mono Lw24
            replace hn81 := hn81.mono Lw24
            simp only [hk2, val_limbs] at hf83
            have hn83 := hf83.nat hM83; replace hf83 := hf83.less hS83
            refine ops_assign rfl rfl ?_
            refine ops_nil ?_
            refine SL.wp_seq ?_
            refine SL.wp_region ?_
            refine ops_move rfl rfl ?_
            refine ops_move rfl rfl ?_
            refine ops_callv rfl bod21 rfl rfl ?_
            refine (rsub_d (M := M) (by assumption) (by assumption) (by omega) (by omega) hM).mono ?_
            rintro v87 w25 ⟨hB87, q87, rfl, hf87⟩
            have hM87 := hM; have hS87 := LL.size
            have Lw25 := Le.of_below (Fz := Fz) (M := M) hB87
            replace LL := LL.trans Lw25
            replace hM := hM.mono Lw25
            replace hF := hF.mono Lw25
            replace h1 := h1.mono Lw25
            replace hn13 := hn13.mono Lw25
            replace hn32 := hn32.mono Lw25
            replace hn34 := hn34.mono Lw25
            replace hn37 := hn37.mono Lw25
            replace hn40 := hn40.mono Lw25
            replace hn42 := hn42.mono Lw25
            replace hn49 := hn49.mono Lw25
            replace hn56 := hn56.mono Lw25
            replace hn61 := hn61.mono Lw25
            replace hn68 := hn68.mono Lw25
            replace hn70 := hn70.mono Lw25
            replace hn75 := hn75.mono Lw25
            replace hn81 := hn81.mono Lw25
            replace hn83 := hn83.mono Lw25
            simp only [val_limbs] at hf87
            have hn87 := hf87.nat hM87; replace hf87 := hf87.less hS87
            refine ops_move rfl rfl ?_
            refine ops_extract rfl rfl rfl ?_
            refine ops_extract rfl rfl rfl ?_
            refine ops_assign rfl rfl ?_
            refine ops_assign rfl rfl ?_
            refine ops_nil ?_
            refine SL.wp_seq ?_
            refine SL.wp_region ?_
            refine ops_move rfl rfl ?_
            refine ops_eq rfl rfl rfl ?_
            refine ops_move rfl rfl ?_
            refine ops_bt (d := 92) rfl (decide_eq_true (by rw [val_limbs, if_neg (by have := Nat.div_mul_le_self (val xs) (2 ^ k); omega)])) ?_
            refine ops_guard_t rfl rfl ?_
            refine ops_move rfl rfl ?_
            refine ops_guard_t rfl rfl ?_
            refine ops_move rfl rfl ?_
            refine ops_guard_t rfl rfl ?_
            refine ops_callv rfl bod24 rfl rfl ?_
            refine (rcmp_c (M := M) (by assumption) (by assumption) (by omega) (by omega) hM).mono ?_
            rintro v95 w26 ⟨hB95, rfl⟩
            have Lw26 := Le.of_below (Fz := Fz) (M := M) hB95
            replace LL := LL.trans Lw26
            replace hM := hM.mono Lw26
            replace hF := hF.mono Lw26
            replace h1 := h1.mono Lw26
            replace hn13 := hn13.mono Lw26
            replace hn32 := hn32.mono Lw26
            replace hn34 := hn34.mono Lw26
            replace hn37 := hn37.mono Lw26
            replace hn40 := hn40.mono Lw26
            replace hn42 := hn42.mono Lw26
            replace hn49 := hn49.mono Lw26
            replace hn56 := hn56.mono Lw26
            replace hn61 := hn61.mono Lw26
            replace hn68 := hn68.mono Lw26
            replace hn70 := hn70.mono Lw26
            replace hn75 := hn75.mono Lw26
            replace hn81 := hn81.mono Lw26
            replace hn83 := hn83.mono Lw26
            replace hn87 := hn87.mono Lw26
            refine ops_guard_t rfl rfl ?_
            refine ops_lt rfl rfl rfl ?_
            refine ops_bt (d := 96) rfl (decide_eq_true (by rw [cmpN_neg, val_limbs, val_limbs]; have := Nat.mod_lt (val xs) hpp; have e := Nat.div_add_mod (val xs) (2 ^ k); rw [Nat.mul_comm] at e; omega)) ?_
            refine ops_pick rfl rfl rfl ?_
            refine ops_move rfl rfl ?_
            refine ops_guard_t rfl rfl ?_
            refine ops_move rfl rfl ?_
            refine ops_guard_t rfl rfl ?_
            refine ops_callv rfl bod35 rfl rfl ?_
            refine (bits_c (M := M) (by assumption) (by omega) hM).mono ?_
            rintro v100 w27 ⟨hB100, rfl⟩
            have Lw27 := Le.of_below (Fz := Fz) (M := M) hB100
            replace LL := LL.trans Lw27
            replace hM := hM.mono Lw27
            replace hF := hF.mono Lw27
            replace h1 := h1.mono Lw27
            replace hn13 := hn13.mono Lw27
            replace hn32 := hn32.mono Lw27
            replace hn34 := hn34.mono Lw27
            replace hn37 := hn37.mono Lw27
            replace hn40 := hn40.mono Lw27
            replace hn42 := hn42.mono Lw27
            replace hn49 := hn49.mono Lw27
            replace hn56 := hn56.mono Lw27
            replace hn61 := hn61.mono Lw27
            replace hn68 := hn68.mono Lw27
            replace hn70 := hn70.mono Lw27
            replace hn75 := hn75.mono Lw27
            replace hn81 := hn81.mono Lw27
            replace hn83 := hn83.mono Lw27
            replace hn87 := hn87.mono Lw27
            refine ops_guard_t rfl rfl ?_
            refine ops_move rfl rfl ?_
            refine ops_guard_t rfl rfl ?_
            refine ops_add rfl rfl rfl (by omega) ?_
            refine ops_guard_t rfl rfl ?_
            refine ops_eq rfl rfl rfl ?_
            refine ops_bt (d := 103) rfl (decide_eq_true (by rw [val_limbs, bitsN_pow]; rfl)) ?_
            refine ops_pick rfl rfl rfl ?_
            refine ops_move rfl rfl ?_
            refine ops_guard_t rfl rfl ?_
            refine ops_callv rfl bod34 rfl rfl ?_
            refine (wakes2_c (M := M) hM).mono ?_
            rintro v106 w28 ⟨hB106, rfl⟩
            have Lw28 := Le.of_below (Fz := Fz) (M := M) hB106
            replace LL := LL.trans Lw28
            replace hM := hM.mono Lw28
            replace hF := hF.mono Lw28
            replace h1 := h1.mono Lw28
            replace hn13 := hn13.mono Lw28
            replace hn32 := hn32.mono Lw28
            replace hn34 := hn34.mono Lw28
            replace hn37 := hn37.mono Lw28
            replace hn40 := hn40.mono Lw28
            replace hn42 := hn42.mono Lw28
            replace hn49 := hn49.mono Lw28
            replace hn56 := hn56.mono Lw28
            replace hn61 := hn61.mono Lw28
            replace hn68 := hn68.mono Lw28
            replace hn70 := hn70.mono Lw28
            replace hn75 := hn75.mono Lw28
            replace hn81 := hn81.mono Lw28
            replace hn83 := hn83.mono Lw28
            replace hn87 := hn87.mono Lw28
            refine ops_pick rfl rfl rfl ?_
            refine ops_assign rfl rfl ?_
            refine ops_nil ?_
            refine SL.wp_ret ?_
            refine leave_nil ⟨[_], ⟨rfl, trivial⟩, ?_⟩
            dsimp only [resVal]
            subst hFz
            exact ⟨LL.below (Nat.le_refl _), by first | rfl | simp⟩


theorem prodPowers_c {M : Nat → Prop} {w : World} {v1 : Value} {xs : List Nat} {j1 j2 : Int} (h1 : IsNat M w v1 xs) (hj1 : -9223372036854775808 ≤ j1) (hj2 : j1 ≤ 9223372036854775807) (hj3 : -9223372036854775808 ≤ j2) (hj4 : j2 ≤ 9223372036854775807) (hM : OkM M w) :
    CallsV Try.prog 11 [v1, .int .i64 j1, .int .i64 j2] w fun r w' => Below w.heap.size w w' ∧ r = .bool true := by
  obtain ⟨Fz, hFz⟩ : ∃ Fz : Nat → Prop, Fz = (· < w.heap.size) := ⟨_, rfl⟩
  have hF : FOk Fz w := by subst hFz; exact fun _ h => h
  have LL := Le.refl Fz M w; have hM0 := hM
  refine calls_intro Try.func11 rfl Try.ntmps11 rfl ?_
  refine SL.wp_seq ?_
  refine SL.wp_region ?_
  refine ops_assign rfl rfl ?_
  refine ops_nil ?_
  refine SL.wp_seq ?_
  refine SL.wp_seq ?_
  refine SL.wp_region ?_
  refine ops_move rfl rfl ?_
  first | refine ops_len rfl Try.underlying23 rfl ?_ | refine ops_lens rfl Try.underlying23 rfl (IsNat.slc (by assumption)) ?_ | refine ops_lenn rfl Try.underlying23 rfl (by assumption) ?_ | refine ops_leno rfl Try.underlying23 rfl (by assumption) ?_
  refine ops_gt rfl rfl rfl ?_
  refine ops_move rfl rfl ?_
  refine ops_dcase (d := 12) rfl (fun hg1_3 => ?_) (fun hg1_3 => ?_)
  · refine ops_guard_f rfl rfl rfl rfl ?_
    refine ops_guard_f rfl rfl rfl rfl ?_
    refine ops_pick rfl rfl rfl ?_
    refine ops_move rfl rfl ?_
    refine ops_guard_f rfl rfl rfl rfl ?_
    refine ops_guard_f rfl rfl rfl rfl ?_
    refine ops_pick rfl rfl rfl ?_
    refine ops_move rfl rfl ?_
    refine ops_guard_f rfl rfl rfl rfl ?_
    refine ops_guard_f rfl rfl rfl rfl ?_
    refine ops_pick rfl rfl rfl ?_
    refine ops_move rfl rfl ?_
    refine ops_guard_f rfl rfl rfl rfl ?_
    refine ops_guard_f rfl rfl rfl rfl ?_
    refine ops_pick rfl rfl rfl ?_
    refine ops_nil ?_
    refine SL.wp_cond_t rfl ?_
    refine SL.wp_seq ?_
    refine SL.wp_region ?_
    refine ops_callv rfl bod34 rfl rfl ?_
    refine (wakes2_c (M := M) hM).mono ?_
    rintro v28 w1 ⟨hB28, rfl⟩
    have Lw1 := Le.of_below (Fz := Fz) (M := M) hB28
    replace LL := LL.trans Lw1
    replace hM := hM.mono Lw1
    replace hF := hF.mono Lw1
    replace h1 := h1.mono Lw1
    refine ops_assign rfl rfl ?_
    refine ops_nil ?_
    refine SL.wp_ret ?_
    refine leave_nil ⟨[_], ⟨rfl, trivial⟩, ?_⟩
    dsimp only [resVal]
    subst hFz
    exact ⟨LL.below (Nat.le_refl _), by first | rfl | simp⟩
  · refine ops_guard_t rfl rfl ?_
    refine ops_move rfl rfl ?_
    refine ops_guard_t rfl rfl ?_
    refine ops_lt rfl rfl rfl ?_
    refine ops_pick rfl rfl rfl ?_
    refine ops_move rfl rfl ?_
    refine ops_dcase (d := 16) rfl (fun hg1_7 => ?_) (fun hg1_7 => ?_)
    · refine ops_guard_f rfl rfl rfl rfl ?_
      refine ops_guard_f rfl rfl rfl rfl ?_
      refine ops_pick rfl rfl rfl ?_
      refine ops_move rfl rfl ?_
      refine ops_guard_f rfl rfl rfl rfl ?_
      refine ops_guard_f rfl rfl rfl rfl ?_
      refine ops_pick rfl rfl rfl ?_
      refine ops_move rfl rfl ?_
      refine ops_guard_f rfl rfl rfl rfl ?_
      refine ops_guard_f rfl rfl rfl rfl ?_
      refine ops_pick rfl rfl rfl ?_
      refine ops_nil ?_
      refine SL.wp_cond_t rfl ?_
      refine SL.wp_seq ?_
      refine SL.wp_region ?_
      refine ops_callv rfl bod34 rfl rfl ?_
      refine (wakes2_c (M := M) hM).mono ?_
      rintro v28 w2 ⟨hB28, rfl⟩
      have Lw2 := Le.of_below (Fz := Fz) (M := M) hB28
      replace LL := LL.trans Lw2
      replace hM := hM.mono Lw2
      replace hF := hF.mono Lw2
      replace h1 := h1.mono Lw2
      refine ops_assign rfl rfl ?_
      refine ops_nil ?_
      refine SL.wp_ret ?_
      refine leave_nil ⟨[_], ⟨rfl, trivial⟩, ?_⟩
      dsimp only [resVal]
      subst hFz
      exact ⟨LL.below (Nat.le_refl _), by first | rfl | simp⟩
    · refine ops_guard_t rfl rfl ?_
      refine ops_move rfl rfl ?_
      refine ops_guard_t rfl rfl ?_
      refine ops_gt rfl rfl rfl ?_
      refine ops_pick rfl rfl rfl ?_
      refine ops_move rfl rfl ?_
      refine ops_dcase (d := 20) rfl (fun hg1_11 => ?_) (fun hg1_11 => ?_)
      · refine ops_guard_f rfl rfl rfl rfl ?_
        refine ops_guard_f rfl rfl rfl rfl ?_
        refine ops_pick rfl rfl rfl ?_
        refine ops_move rfl rfl ?_
        refine ops_guard_f rfl rfl rfl rfl ?_
        refine ops_guard_f rfl rfl rfl rfl ?_
        refine ops_pick rfl rfl rfl ?_
        refine ops_nil ?_
        refine SL.wp_cond_t rfl ?_
        refine SL.wp_seq ?_
        refine SL.wp_region ?_
        refine ops_callv rfl bod34 rfl rfl ?_
        refine (wakes2_c (M := M) hM).mono ?_
        rintro v28 w3 ⟨hB28, rfl⟩
        have Lw3 := Le.of_below (Fz := Fz) (M := M) hB28
        replace LL := LL.trans Lw3
        replace hM := hM.mono Lw3
        replace hF := hF.mono Lw3
        replace h1 := h1.mono Lw3
        refine ops_assign rfl rfl ?_
        refine ops_nil ?_
        refine SL.wp_ret ?_
        refine leave_nil ⟨[_], ⟨rfl, trivial⟩, ?_⟩
        dsimp only [resVal]
        subst hFz
        exact ⟨LL.below (Nat.le_refl _), by first | rfl | simp⟩
      · refine ops_guard_t rfl rfl ?_
        refine ops_move rfl rfl ?_
        refine ops_guard_t rfl rfl ?_
        refine ops_lt rfl rfl rfl ?_
        refine ops_pick rfl rfl rfl ?_
        refine ops_move rfl rfl ?_
        refine ops_dcase (d := 24) rfl (fun hg1_15 => ?_) (fun hg1_15 => ?_)
        · refine ops_guard_f rfl rfl rfl rfl ?_
          refine ops_guard_f rfl rfl rfl rfl ?_
          refine ops_pick rfl rfl rfl ?_
          refine ops_nil ?_
          refine SL.wp_cond_t rfl ?_
          refine SL.wp_seq ?_
          refine SL.wp_region ?_
          refine ops_callv rfl bod34 rfl rfl ?_
          refine (wakes2_c (M := M) hM).mono ?_
          rintro v28 w4 ⟨hB28, rfl⟩
          have Lw4 := Le.of_below (Fz := Fz) (M := M) hB28
          replace LL := LL.trans Lw4
          replace hM := hM.mono Lw4
          replace hF := hF.mono Lw4
          replace h1 := h1.mono Lw4
          refine ops_assign rfl rfl ?_
          refine ops_nil ?_
          refine SL.wp_ret ?_
          refine leave_nil ⟨[_], ⟨rfl, trivial⟩, ?_⟩
          dsimp only [resVal]
          subst hFz
          exact ⟨LL.below (Nat.le_refl _), by first | rfl | simp⟩
        · refine ops_guard_t rfl rfl ?_
          refine ops_move rfl rfl ?_
          refine ops_guard_t rfl rfl ?_
          refine ops_gt rfl rfl rfl ?_
          refine ops_pick rfl rfl rfl ?_
          refine ops_nil ?_
          refine SL.wp_cond_d rfl (fun hc0 => ?_) (fun hc0 => ?_)
          · refine SL.wp_seq ?_
            refine SL.wp_region ?_
            refine ops_callv rfl bod34 rfl rfl ?_
            refine (wakes2_c (M := M) hM).mono ?_
            rintro v28 w5 ⟨hB28, rfl⟩
            have Lw5 := Le.of_below (Fz := Fz) (M := M) hB28
            replace LL := LL.trans Lw5
            replace hM := hM.mono Lw5
            replace hF := hF.mono Lw5
            replace h1 := h1.mono Lw5
            refine ops_assign rfl rfl ?_
            refine ops_nil ?_
            refine SL.wp_ret ?_
            refine leave_nil ⟨[_], ⟨rfl, trivial⟩, ?_⟩
            dsimp only [resVal]
            subst hFz
            exact ⟨LL.below (Nat.le_refl _), by first | rfl | simp⟩
          · have hq4 : xs.length ≤ 4 := by omega
            obtain ⟨k, rfl⟩ := Int.eq_ofNat_of_zero_le (a := j1) (by omega)
            obtain ⟨m, rfl⟩ := Int.eq_ofNat_of_zero_le (a := j2) (by omega)
            have hk1 : cntN (k : Int) 256 = k := cntN_nat (m := 256) (by omega)
            have hm1 : cntN (m : Int) 256 = m := cntN_nat (m := 256) (by omega)
            have hkm : cntN ((k : Int) + (m : Int)) 256 = k + m := cntN_nat (k := k + m) (m := 256) (by omega)
            have hk3 : cntN (2 * (k : Int)) 256 = 2 * k := cntN_nat (k := 2 * k) (m := 256) (by omega)
            have hc2 : cntN 2 256 = 2 := by decide
            have hc0' : cntN 0 256 = 0 := by decide
            have hcm : cntN (-1) 256 = 0 := by decide
            have hx := val_lt_pow h1.lt hq4
            have hl1 := limbs_length_le (pow_lt_pow hx k)
            have hl2 := limbs_length_le (pow_lt_pow hx m)
            have hl3 := limbs_length_le (pow_lt_pow hx (k + m))
            refine SL.wp_skip ?_
            refine SL.wp_seq ?_
            refine SL.wp_region ?_
            refine ops_buildSlice rfl Try.underlying23 sz43 rfl rfl rfl (by simp) rfl (fun w6 b29 N29 => ?_)
            have nF29 := hF.new N29; have nM29 := hM.new N29; have hBw6 := N29.below
            have Lw6 := Le.of_new_mo (Fz := Fz) (M := M) (v := Value.slice (some ⟨b29, 0, none⟩) 0 0) N29 rfl
            replace LL := LL.trans Lw6
            replace hM := hM.mono Lw6
            replace hF := hF.mono Lw6
            replace h1 := h1.mono Lw6
            have Of : ∀ k, (Value.slice (some ⟨b29, 0, none⟩) 0 0).ownBlock = some k → ¬ Fz k := slice_own nF29
            have Om : ∀ k, (Value.slice (some ⟨b29, 0, none⟩) 0 0).ownBlock = some k → ¬ M k := slice_own nM29
            have Ow := own_blk (n := 0) (c := 0) N29.blk rfl (Nat.le_refl _) (by omega)
            refine ops_move rfl rfl ?_
            refine ops_append rfl Try.underlying23 sz43 rfl rfl rfl Ow h1.slc (lw_one _) (by omega) (by omega) (fun v31 w7 A31 G31 S31 => ?_)
            have Lw7 := Le.of_grown (Fz := Fz) (M := M) G31 S31 A31 Of
            have Omo31 := Om
            replace Of := own_step_f (w' := w7) Of hF S31; replace Om := own_step_m (w' := w7) Om (fun k hk => hM k (.inr hk)) S31
            replace LL := LL.trans Lw7
            replace hM := hM.mono Lw7
            replace hF := hF.mono Lw7
            replace h1 := h1.mono Lw7
            clear Ow; have Ow := A31
            have Ld := Le.less (Fz := Fz) (w := w7) (M := (Mo v31 M)) (M' := M) fun k hk => .inr hk
            replace LL := LL.trans Ld
            replace hM := hM.mono Ld
            replace hF := hF.mono Ld
            replace h1 := h1.mono Ld
            clear Ld
            have hn31 : IsNat M w7 v31 xs := ⟨own_slc (n := xs.length) (by simpa using Ow) Om (by omega), h1.lt⟩
            clear Ow Of Om
            refine ops_assign rfl rfl ?_
            refine ops_nil ?_
            refine SL.wp_seq ?_
            refine SL.wp_region ?_
            refine ops_move rfl rfl ?_
            refine ops_move rfl rfl ?_
            refine ops_move rfl rfl ?_
            refine ops_add rfl rfl rfl (by omega) ?_
            refine ops_callv rfl bod40 rfl rfl ?_
            refine (pow_c (M := M) (L := 1000) (by omega) (by assumption) (by omega) hM).mono ?_
            rintro v36 w8 ⟨hB36, hn36⟩
            have Lw8 := Le.of_below (Fz := Fz) (M := M) hB36
            replace LL := LL.trans Lw8
            replace hM := hM.mono Lw8
            replace hF := hF.mono Lw8
            replace h1 := h1.mono Lw8
            replace hn31 := hn31.mono Lw8
            rw [hkm] at hn36
            refine ops_assign rfl rfl ?_
            refine ops_nil ?_
            refine SL.wp_seq ?_
            refine SL.wp_seq ?_
            refine SL.wp_region ?_
            refine ops_move rfl rfl ?_
            refine ops_move rfl rfl ?_
            refine ops_move rfl rfl ?_
            refine ops_callv rfl bod40 rfl rfl ?_
            refine (pow_c (M := M) (L := 1000) (by omega) (by assumption) (by omega) hM).mono ?_
            rintro v40 w9 ⟨hB40, hn40⟩
            have Lw9 := Le.of_below (Fz := Fz) (M := M) hB40
            replace LL := LL.trans Lw9
            replace hM := hM.mono Lw9
            replace hF := hF.mono Lw9
            replace h1 := h1.mono Lw9
            replace hn31 := hn31.mono Lw9
            replace hn36 := hn36.mono Lw9
            rw [hk1] at hn40
            refine ops_move rfl rfl ?_
            refine ops_move rfl rfl ?_
            refine ops_callv rfl bod40 rfl rfl ?_
            refine (pow_c (M := M) (L := 1000) (by omega) (by assumption) (by omega) hM).mono ?_
            rintro v43 w10 ⟨hB43, hn43⟩
            have Lw10 := Le.of_below (Fz := Fz) (M := M) hB43
            replace LL := LL.trans Lw10
            replace hM := hM.mono Lw10
            replace hF := hF.mono Lw10
            replace h1 := h1.mono Lw10
            replace hn31 := hn31.mono Lw10
            replace hn36 := hn36.mono Lw10
            replace hn40 := hn40.mono Lw10
            rw [hm1] at hn43
            refine ops_callv rfl bod36 rfl rfl ?_
            refine (mul_c (M := M) (by assumption) (by assumption) (by omega) (by omega) hM).mono ?_
            rintro v44 w11 ⟨hB44, hf44⟩
            have hM44 := hM; have hS44 := LL.size
            have Lw11 := Le.of_below (Fz := Fz) (M := M) hB44
            replace LL := LL.trans Lw11
            replace hM := hM.mono Lw11
            replace hF := hF.mono Lw11
            replace h1 := h1.mono Lw11
            replace hn31 := hn31.mono Lw11
            replace hn36 := hn36.mono Lw11
            replace hn40 := hn40.mono Lw11
            replace hn43 := hn43.mono Lw11
            have hn44 := hf44.nat hM44; replace hf44 := hf44.less hS44
            refine ops_callv rfl bod38 rfl rfl ?_
            refine (same2_c (M := M) (by assumption) (by assumption) hM).mono ?_
            rintro v45 w12 ⟨hB45, rfl⟩
            have Lw12 := Le.of_below (Fz := Fz) (M := M) hB45
            replace LL := LL.trans Lw12
            replace hM := hM.mono Lw12
            replace hF := hF.mono Lw12
            replace h1 := h1.mono Lw12
            replace hn31 := hn31.mono Lw12
            replace hn36 := hn36.mono Lw12
            replace hn40 := hn40.mono Lw12
            replace hn43 := hn43.mono Lw12
            replace hn44 := hn44.mono Lw12
            refine ops_not rfl rfl ?_
            refine ops_move rfl rfl ?_
            refine ops_bf (d := 47) rfl (by simp [val_limbs, Nat.pow_add]) ?_
            refine ops_guard_t rfl rfl ?_
            refine ops_move rfl rfl ?_
            refine ops_guard_t rfl rfl ?_
            refine ops_move rfl rfl ?_
            refine ops_guard_t rfl rfl ?_
            refine ops_callv rfl bod40 rfl rfl ?_
            refine (pow_c (M := M) (L := 1000) (by omega) (by assumption) (by omega) hM).mono ?_
            rintro v50 w13 ⟨hB50, hn50⟩
            have Lw13 := Le.of_below (Fz := Fz) (M := M) hB50
            replace LL := LL.trans Lw13
            replace hM := hM.mono Lw13
            replace hF := hF.mono Lw13
            replace h1 := h1.mono Lw13
            replace hn31 := hn31.mono Lw13
            replace hn36 := hn36.mono Lw13
            replace hn40 := hn40.mono Lw13
            replace hn43 := hn43.mono Lw13
            replace hn44 := hn44.mono Lw13
            rw [hk1] at hn50
            refine ops_guard_t rfl rfl ?_
            refine ops_callv rfl bod40 rfl rfl ?_
            refine (pow_c (M := M) (L := 1000) (by omega) (by assumption) (by omega) hM).mono ?_
            rintro v51 w14 ⟨hB51, hn51⟩
            have Lw14 := Le.of_below (Fz := Fz) (M := M) hB51
            replace LL := LL.trans Lw14
            replace hM := hM.mono Lw14
            replace hF := hF.mono Lw14
            replace h1 := h1.mono Lw14
            replace hn31 := hn31.mono Lw14
            replace hn36 := hn36.mono Lw14
            replace hn40 := hn40.mono Lw14
            replace hn43 := hn43.mono Lw14
            replace hn44 := hn44.mono Lw14
            replace hn50 := hn50.mono Lw14
            rw [hc2, val_limbs] at hn51
            refine ops_guard_t rfl rfl ?_
            refine ops_move rfl rfl ?_
            refine ops_guard_t rfl rfl ?_
            refine ops_move rfl rfl ?_
            refine ops_guard_t rfl rfl ?_
            refine ops_mul rfl rfl rfl (by omega) ?_
            refine ops_guard_t rfl rfl ?_
            refine ops_callv rfl bod40 rfl rfl ?_
            refine (pow_c (M := M) (L := 1000) (by omega) (by assumption) (by omega) hM).mono ?_
            rintro v55 w15 ⟨hB55, hn55⟩
            have Lw15 := Le.of_below (Fz := Fz) (M := M) hB55
            replace LL := LL.trans Lw15
            replace hM := hM.mono Lw15
            replace hF := hF.mono Lw15
            replace h1 := h1.mono Lw15
            replace hn31 := hn31.mono Lw15
            replace hn36 := hn36.mono Lw15
            replace hn40 := hn40.mono Lw15
            replace hn43 := hn43.mono Lw15
            replace hn44 := hn44.mono Lw15
            replace hn50 := hn50.mono Lw15
            replace hn51 := hn51.mono Lw15
            rw [hk3] at hn55
            refine ops_guard_t rfl rfl ?_
            refine ops_callv rfl bod38 rfl rfl ?_
            refine (same2_c (M := M) (by assumption) (by assumption) hM).mono ?_
            rintro v56 w16 ⟨hB56, rfl⟩
            have Lw16 := Le.of_below (Fz := Fz) (M := M) hB56
            replace LL := LL.trans Lw16
            replace hM := hM.mono Lw16
            replace hF := hF.mono Lw16
            replace h1 := h1.mono Lw16
            replace hn31 := hn31.mono Lw16
            replace hn36 := hn36.mono Lw16
            replace hn40 := hn40.mono Lw16
            replace hn43 := hn43.mono Lw16
            replace hn44 := hn44.mono Lw16
            replace hn50 := hn50.mono Lw16
            replace hn51 := hn51.mono Lw16
            replace hn55 := hn55.mono Lw16
            refine ops_guard_t rfl rfl ?_
            refine ops_not rfl rfl ?_
            refine ops_bf (d := 57) rfl (by simp [Nat.pow_mul, Nat.mul_comm 2 k]) ?_
            refine ops_pick rfl rfl rfl ?_
            refine ops_nil ?_
            refine SL.wp_cond_f rfl ?_
            refine SL.wp_skip ?_
            refine SL.wp_seq ?_
            refine SL.wp_region ?_
            refine ops_move rfl rfl ?_
            refine ops_move rfl rfl ?_
            refine ops_callv rfl bod37 rfl rfl ?_
            refine (up_c (M := M) (by assumption) (by first | omega | simp) hM).mono ?_
            rintro v61 w17 ⟨hB61, hf61⟩
            have hM61 := hM; have hS61 := LL.size
            have Lw17 := Le.of_below (Fz := Fz) (M := M) hB61
            replace LL := LL.trans Lw17
            replace hM := hM.mono Lw17
            replace hF := hF.mono Lw17
            replace h1 := h1.mono Lw17
            replace hn31 := hn31.mono Lw17
            replace hn36 := hn36.mono Lw17
            replace hn40 := hn40.mono Lw17
            replace hn43 := hn43.mono Lw17
            replace hn44 := hn44.mono Lw17
            replace hn50 := hn50.mono Lw17
            replace hn51 := hn51.mono Lw17
            replace hn55 := hn55.mono Lw17
            have hn61 := hf61.nat hM61; replace hf61 := hf61.less hS61
            refine ops_nil ?_
            refine SL.wp_seq ?_
            refine SL.wp_region ?_
            refine ops_move rfl rfl ?_
            refine ops_move rfl rfl ?_
            refine ops_callv rfl bod41 rfl rfl ?_
            refine (down_c (M := M) (by assumption) (by omega) hM).mono ?_
            rintro v64 w18 ⟨hB64, hf64⟩
            have hM64 := hM; have hS64 := LL.size
            have Lw18 := Le.of_below (Fz := Fz) (M := M) hB64
            replace LL := LL.trans Lw18
            replace hM := hM.mono Lw18
            replace hF := hF.mono Lw18
            replace h1 := h1.mono Lw18
            replace hn31 := hn31.mono Lw18
            replace hn36 := hn36.mono Lw18
            replace hn40 := hn40.mono Lw18
            replace hn43 := hn43.mono Lw18
            replace hn44 := hn44.mono Lw18
            replace hn50 := hn50.mono Lw18
            replace hn51 := hn51.mono Lw18
            replace hn55 := hn55.mono Lw18
            replace hn61 := hn61.mono Lw18
            have hn64 := hf64.nat hM64; replace hf64 := hf64.less hS64
            refine ops_nil ?_
            refine SL.wp_seq ?_
            refine SL.wp_region ?_
            refine ops_move rfl rfl ?_
            refine ops_callv rfl bod42 rfl rfl ?_
            refine (by_c (M := M) (n := 7) h1 (by omega) (by omega) hM).mono ?_
            rintro v66 w19 ⟨hB66, hf66⟩
            have hM66 := hM; have hS66 := LL.size
            have Lw19 := Le.of_below (Fz := Fz) (M := M) hB66
            replace LL := LL.trans Lw19
            replace hM := hM.mono Lw19
            replace hF := hF.mono Lw19
            replace h1 := h1.mono Lw19
            replace hn31 := hn31.mono Lw19
            replace hn36 := hn36.mono Lw19
            replace hn40 := hn40.mono Lw19
            replace hn43 := hn43.mono Lw19
            replace hn44 := hn44.mono Lw19
            replace hn50 := hn50.mono Lw19
            replace hn51 := hn51.mono Lw19
            replace hn55 := hn55.mono Lw19
            replace hn61 := hn61.mono Lw19
            replace hn64 := hn64.mono Lw19
            have hn66 := hf66.nat hM66; replace hf66 := hf66.less hS66
            refine ops_nil ?_
            refine SL.wp_seq ?_
            refine SL.wp_region ?_
            refine ops_move rfl rfl ?_
            refine ops_move rfl rfl ?_
            refine ops_callv rfl bod38 rfl rfl ?_
            refine (same2_c (M := M) (by assumption) (by assumption) hM).mono ?_
            rintro v69 w20 ⟨hB69, rfl⟩
            have Lw20 := Le.of_below (Fz := Fz) (M := M) hB69
            replace LL := LL.trans Lw20
            replace hM := hM.mono Lw20
            replace hF := hF.mono Lw20
            replace h1 := h1.mono Lw20
            replace hn31 := hn31.mono Lw20
            replace hn36 := hn36.mono Lw20
            replace hn40 := hn40.mono Lw20
            replace hn43 := hn43.mono Lw20
            replace hn44 := hn44.mono Lw20
            replace hn50 := hn50.mono Lw20
            replace hn51 := hn51.mono Lw20
            replace hn55 := hn55.mono Lw20
            replace hn61 := hn61.mono Lw20
            replace hn64 := hn64.mono Lw20
            replace hn66 := hn66.mono Lw20
            refine ops_move rfl rfl ?_
            refine ops_bt (d := 70) rfl (by first | rfl | simp | omega) ?_
            refine ops_guard_t rfl rfl ?_
            refine ops_move rfl rfl ?_
            refine ops_guard_t rfl rfl ?_
            refine ops_callv rfl bod40 rfl rfl ?_
            refine (pow_c (M := M) (L := 1000) (by omega) (by assumption) (by omega) hM).mono ?_
            rintro v72 w21 ⟨hB72, hn72⟩
            have Lw21 := Le.of_below (Fz := Fz) (M := M) hB72
            replace LL := LL.trans Lw21
            replace hM := hM.mono Lw21
            replace hF := hF.mono Lw21
            replace h1 := h1.mono Lw21
            replace hn31 := hn31.mono Lw21
            replace hn36 := hn36.mono Lw21
            replace hn40 := hn40.mono Lw21
            replace hn43 := hn43.mono Lw21
            replace hn44 := hn44.mono Lw21
            replace hn50 := hn50.mono Lw21
            replace hn51 := hn51.mono Lw21
            replace hn55 := hn55.mono Lw21
            replace hn61 := hn61.mono Lw21
            replace hn64 := hn64.mono Lw21
            replace hn66 := hn66.mono Lw21
            rw [hc0', Nat.pow_zero, one_limbs] at hn72
            refine ops_guard_t rfl rfl ?_
            refine ops_buildSlice rfl Try.underlying23 sz43 rfl rfl rfl (by simp [Value.oneCell', lw]) rfl (fun w22 b73 N73 => ?_)
            have hBw22 := N73.below
            have nM73 := hM.new N73; have B73 := N73.blk
            have Lw22 := Le.of_below (Fz := Fz) (M := M) hBw22
            replace LL := LL.trans Lw22
            replace hM := hM.mono Lw22
            replace hF := hF.mono Lw22
            replace h1 := h1.mono Lw22
            replace hn31 := hn31.mono Lw22
            replace hn36 := hn36.mono Lw22
            replace hn40 := hn40.mono Lw22
            replace hn43 := hn43.mono Lw22
            replace hn44 := hn44.mono Lw22
            replace hn50 := hn50.mono Lw22
            replace hn51 := hn51.mono Lw22
            replace hn55 := hn55.mono Lw22
            replace hn61 := hn61.mono Lw22
            replace hn64 := hn64.mono Lw22
            replace hn66 := hn66.mono Lw22
            replace hn72 := hn72.mono Lw22
            have hn73 : IsNat M w22 (.slice (some ⟨b73, 0, none⟩) 1 1) [1] := blk_nat (xs := [1]) B73 nM73 rfl (by simp) (by simp)
            refine ops_guard_t rfl rfl ?_
            refine ops_callv rfl bod38 rfl rfl ?_
            refine (same2_c (M := M) (by assumption) (by assumption) hM).mono ?_
            rintro v74 w23 ⟨hB74, rfl⟩
            have Lw23 := Le.of_below (Fz := Fz) (M := M) hB74
            replace LL := LL.trans Lw23
            replace hM := hM.mono Lw23
            replace hF := hF.mono Lw23
            replace h1 := h1.mono Lw23
            replace hn31 := hn31.mono Lw23
            replace hn36 := hn36.mono Lw23
            replace hn40 := hn40.mono Lw23
            replace hn43 := hn43.mono Lw23
            replace hn44 := hn44.mono Lw23
            replace hn50 := hn50.mono Lw23
            replace hn51 := hn51.mono Lw23
            replace hn55 := hn55.mono Lw23
            replace hn61 := hn61.mono Lw23
            replace hn64 := hn64.mono Lw23
            replace hn66 := hn66.mono Lw23
            replace hn72 := hn72.mono Lw23
            replace hn73 := hn73.mono Lw23
            refine ops_pick rfl rfl rfl ?_
            refine ops_move rfl rfl ?_
            refine ops_bt (d := 76) rfl (by first | rfl | simp | omega) ?_
            refine ops_guard_t rfl rfl ?_
            refine ops_move rfl rfl ?_
            refine ops_guard_t rfl rfl ?_
            refine ops_callv rfl bod40 rfl rfl ?_
            refine (pow_c (M := M) (L := 1000) (by omega) (by assumption) (by omega) hM).mono ?_
            rintro v78 w24 ⟨hB78, hn78⟩
            have Lw24 := Le.of_below (Fz := Fz) (M := M) hB78
            replace LL := LL.trans Lw24
            replace hM := hM.mono Lw24
            replace hF := hF.mono Lw24
            replace h1 := h1.mono Lw24
            replace hn31 := hn31.mono Lw24
            replace hn36 := hn36.mono Lw24
            replace hn40 := hn40.mono Lw24
            replace hn43 := hn43.mono Lw24
            replace hn44 := hn44.mono Lw24
            replace hn50 := hn50.mono Lw24
            replace hn51 := hn51.mono Lw24
            replace hn55 := hn55.mono Lw24
            replace hn61 := hn61.mono Lw24
            replace hn64 := hn64.mono Lw24
            replace hn66 := hn66.mono Lw24
            replace hn72 := hn72.mono Lw24
            replace hn73 := hn73.mono Lw24
            rw [hcm, Nat.pow_zero, one_limbs] at hn78
            refine ops_guard_t rfl rfl ?_
            refine ops_buildSlice rfl Try.underlying23 sz43 rfl rfl rfl (by simp [Value.oneCell', lw]) rfl (fun w25 b79 N79 => ?_)
            have hBw25 := N79.below
            have nM79 := hM.new N79; have B79 := N79.blk
            have Lw25 := Le.of_below (Fz := Fz) (M := M) hBw25
            replace LL := LL.trans Lw25
            replace hM := hM.mono Lw25
            replace hF := hF.mono Lw25
            replace h1 := h1.mono Lw25
            replace hn31 := hn31.mono Lw25
            replace hn36 := hn36.mono Lw25
            replace hn40 := hn40.mono Lw25
            replace hn43 := hn43.mono Lw25
            replace hn44 := hn44.mono Lw25
            replace hn50 := hn50.mono Lw25
            replace hn51 := hn51.mono Lw25
            replace hn55 := hn55.mono Lw25
            replace hn61 := hn61.mono Lw25
            replace hn64 := hn64.mono Lw25
            replace hn66 := hn66.mono Lw25
            replace hn72 := hn72.mono Lw25
            replace hn73 := hn73.mono Lw25
            replace hn78 := hn78.mono Lw25
            have hn79 : IsNat M w25 (.slice (some ⟨b79, 0, none⟩) 1 1) [1] := blk_nat (xs := [1]) B79 nM79 rfl (by simp) (by simp)
            refine ops_guard_t rfl rfl ?_
            refine ops_callv rfl bod38 rfl rfl ?_
            refine (same2_c (M := M) (by assumption) (by assumption) hM).mono ?_
            rintro v80 w26 ⟨hB80, rfl⟩
            have Lw26 := Le.of_below (Fz := Fz) (M := M) hB80
            replace LL := LL.trans Lw26
            replace hM := hM.mono Lw26
            replace hF := hF.mono Lw26
            replace h1 := h1.mono Lw26
            replace hn31 := hn31.mono Lw26
            replace hn36 := hn36.mono Lw26
            replace hn40 := hn40.mono Lw26
            replace hn43 := hn43.mono Lw26
            replace hn44 := hn44.mono Lw26
            replace hn50 := hn50.mono Lw26
            replace hn51 := hn51.mono Lw26
            replace hn55 := hn55.mono Lw26
            replace hn61 := hn61.mono Lw26
            replace hn64 := hn64.mono Lw26
            replace hn66 := hn66.mono Lw26
            replace hn72 := hn72.mono Lw26
            replace hn73 := hn73.mono Lw26
            replace hn78 := hn78.mono Lw26
            replace hn79 := hn79.mono Lw26
            refine ops_pick rfl rfl rfl ?_
            refine ops_move rfl rfl ?_
            refine ops_bt (d := 82) rfl (by first | rfl | simp | omega) ?_
            refine ops_guard_t rfl rfl ?_
            refine ops_callv rfl bod34 rfl rfl ?_
            refine (wakes2_c (M := M) hM).mono ?_
            rintro v83 w27 ⟨hB83, rfl⟩
            have Lw27 := Le.of_below (Fz := Fz) (M := M) hB83
            replace LL := LL.trans Lw27
            replace hM := hM.mono Lw27
            replace hF := hF.mono Lw27
            replace h1 := h1.mono Lw27
            replace hn31 := hn31.mono Lw27
            replace hn36 := hn36.mono Lw27
            replace hn40 := hn40.mono Lw27
            replace hn43 := hn43.mono Lw27
            replace hn44 := hn44.mono Lw27
            replace hn50 := hn50.mono Lw27
            replace hn51 := hn51.mono Lw27
            replace hn55 := hn55.mono Lw27
            replace hn61 := hn61.mono Lw27
            replace hn64 := hn64.mono Lw27
            replace hn66 := hn66.mono Lw27
            replace hn72 := hn72.mono Lw27
            replace hn73 := hn73.mono Lw27
            replace hn78 := hn78.mono Lw27
            replace hn79 := hn79.mono Lw27
            refine ops_pick rfl rfl rfl ?_
            refine ops_assign rfl rfl ?_
            refine ops_nil ?_
            refine SL.wp_ret ?_
            refine leave_nil ⟨[_], ⟨rfl, trivial⟩, ?_⟩
            dsimp only [resVal]
            subst hFz
            exact ⟨LL.below (Nat.le_refl _), by first | rfl | simp⟩

end Go.Proofs.Ytffakiheophioaa
