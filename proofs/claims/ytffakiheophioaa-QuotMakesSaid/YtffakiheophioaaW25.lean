import Derived.Test.YtffakiheophioaaW24
import Derived.Test.YtffakiheophioaaSLq
import Derived.Test.YtffakiheophioaaSLp
import Derived.Test.YtffakiheophioaaSLo
import Derived.Test.YtffakiheophioaaSLn
set_option linter.unusedVariables false
set_option linter.unusedSimpArgs false
set_option maxRecDepth 100000
namespace Go.Proofs.Ytffakiheophioaa
open Go.SL Go.RowKit Go.Proofs

theorem quotBack_c {M : Nat → Prop} {w : World} {v1 v2 : Value} {xs ys : List Nat} {n : Nat} (h1 : IsNat M w v1 xs) (h2 : IsNat M w v2 ys) (hn : n < 4294967296) (hM : OkM M w) :
    CallsV Try.prog 13 [v1, v2, .int .u32 (n : Int)] w fun r w' => Below w.heap.size w w' ∧ r = .bool true := by
  obtain ⟨Fz, hFz⟩ : ∃ Fz : Nat → Prop, Fz = (· < w.heap.size) := ⟨_, rfl⟩
  have hF : FOk Fz w := by subst hFz; exact fun _ h => h
  have LL := Le.refl Fz M w; have hM0 := hM
  refine calls_intro Try.func13 rfl Try.ntmps13 rfl ?_
  refine SL.wp_seq ?_
  refine SL.wp_region ?_
  refine ops_assign rfl rfl ?_
  refine ops_nil ?_
  refine SL.wp_seq ?_
  refine SL.wp_seq ?_
  refine SL.wp_region ?_
  refine ops_move rfl rfl ?_
  refine ops_move rfl rfl ?_
  refine ops_buildSlice rfl Try.underlying24 sz23 rfl rfl rfl (one2 (by first | rfl | exact nat_one (by assumption) | exact own_one (by assumption)) (by first | rfl | exact nat_one (by assumption) | exact own_one (by assumption))) rfl (fun w1 b18 N18 => ?_)
  have hBw1 := N18.below
  have nM18 := hM.new N18; have B18 := N18.blk
  have Lw1 := Le.of_below (Fz := Fz) (M := M) hBw1
  replace LL := LL.trans Lw1
  replace hM := hM.mono Lw1
  replace hF := hF.mono Lw1
  replace h1 := h1.mono Lw1
  replace h2 := h2.mono Lw1
  have hn18 := nats2 B18 nM18 h1 h2
  refine ops_callv rfl bod33 rfl rfl ?_
  refine (great2_c (M := M) (by assumption) hM).mono ?_
  rintro v19 w2 ⟨hB19, rfl⟩
  have Lw2 := Le.of_below (Fz := Fz) (M := M) hB19
  replace LL := LL.trans Lw2
  replace hM := hM.mono Lw2
  replace hF := hF.mono Lw2
  replace h1 := h1.mono Lw2
  replace h2 := h2.mono Lw2
  replace hn18 := hn18.mono Lw2
  refine ops_nil ?_
  refine SL.wp_cond_d rfl (fun hc0 => ?_) (fun hc0 => ?_)
  · refine SL.wp_seq ?_
    refine SL.wp_region ?_
    refine ops_callv rfl bod50 rfl rfl ?_
    refine (wakes3_c (M := M) hM).mono ?_
    rintro v20 w3 ⟨hB20, rfl⟩
    have Lw3 := Le.of_below (Fz := Fz) (M := M) hB20
    replace LL := LL.trans Lw3
    replace hM := hM.mono Lw3
    replace hF := hF.mono Lw3
    replace h1 := h1.mono Lw3
    replace h2 := h2.mono Lw3
    replace hn18 := hn18.mono Lw3
    refine ops_assign rfl rfl ?_
    refine ops_nil ?_
    refine SL.wp_ret ?_
    refine leave_nil ⟨[_], ⟨rfl, trivial⟩, ?_⟩
    dsimp only [resVal]
    subst hFz
    exact ⟨LL.below (Nat.le_refl _), by first | rfl | simp⟩
  · have hg := not_gr hc0
    have hq4 := hg.2 xs (by simp); have hq5 := hg.2 ys (by simp)
    have hxl := val_lt_pow h1.lt hq4; have hyl := val_lt_pow h2.lt hq5
    have hl1 := limbs_length_le (Nat.lt_of_le_of_lt (Nat.div_le_self (val xs) (val ys)) hxl)
    have hl2 : (limbs (if val ys = 0 then 0 else val xs % val ys)).length ≤ 120 := limbs_length_le (Nat.lt_of_le_of_lt (by split; exact Nat.zero_le _; exact Nat.mod_le _ _) hxl)
    have hl3 := mul_len (Nat.lt_of_le_of_lt (Nat.div_le_self (val xs) (val ys)) hxl) hyl
    refine SL.wp_skip ?_
    refine SL.wp_seq ?_
    refine SL.wp_region ?_
    refine ops_move rfl rfl ?_
    refine ops_move rfl rfl ?_
    refine ops_callv rfl bod51 rfl rfl ?_
    refine (div_c (M := M) h1 h2 (by omega) (by omega) hM).mono ?_
    rintro v24 w4 ⟨hB24, q24, s24, rfl, hf24, hg24⟩
    have hM24 := hM; have hS24 := LL.size
    have Lw4 := Le.of_below (Fz := Fz) (M := M) hB24
    replace LL := LL.trans Lw4
    replace hM := hM.mono Lw4
    replace hF := hF.mono Lw4
    replace h1 := h1.mono Lw4
    replace h2 := h2.mono Lw4
    replace hn18 := hn18.mono Lw4
    have hn24 := hf24.nat hM24; have hm24 := hg24.nat hM24
    refine ops_move rfl rfl ?_
    refine ops_extract rfl rfl rfl ?_
    refine ops_extract rfl rfl rfl ?_
    refine ops_extract rfl rfl rfl ?_
    refine ops_assign rfl rfl ?_
    refine ops_assign rfl rfl ?_
    refine ops_assign rfl rfl ?_
    refine ops_nil ?_
    refine SL.wp_seq ?_
    refine SL.wp_seq ?_
    refine SL.wp_region ?_
    refine ops_move rfl rfl ?_
    refine ops_callv rfl bod26 rfl rfl ?_
    refine (rtrim_c (M := M) (by assumption) (by omega) hM).mono ?_
    rintro v29 w5 ⟨hB29, hf29⟩
    have hM29 := hM; have hS29 := LL.size
    have Lw5 := Le.of_below (Fz := Fz) (M := M) hB29
    replace LL := LL.trans Lw5
    replace hM := hM.mono Lw5
    replace hF := hF.mono Lw5
    replace h1 := h1.mono Lw5
    replace h2 := h2.mono Lw5
    replace hn18 := hn18.mono Lw5
    replace hn24 := hn24.mono Lw5
    replace hm24 := hm24.mono Lw5
    have hn29 := hf29.nat hM29; replace hf29 := hf29.less hS29
    first | refine ops_len rfl Try.underlying23 rfl ?_ | refine ops_lens rfl Try.underlying23 rfl (IsNat.slc (by assumption)) ?_ | refine ops_lenn rfl Try.underlying23 rfl (by assumption) ?_ | refine ops_leno rfl Try.underlying23 rfl (by assumption) ?_
    refine ops_eq rfl rfl rfl ?_
    refine ops_nil ?_
    refine SL.wp_cond_d rfl (fun hc1 => ?_) (fun hc1 => ?_)
    · have hy0 : val ys = 0 := limbs_length_eq_zero.1 (by omega)
      refine SL.wp_seq ?_
      refine SL.wp_region ?_
      refine ops_move rfl rfl ?_
      refine ops_eq rfl rfl rfl ?_
      refine ops_bt (d := 33) rfl (by simp [hy0]) ?_
      refine ops_move rfl rfl ?_
      refine ops_guard_t rfl rfl ?_
      refine ops_move rfl rfl ?_
      refine ops_guard_t rfl rfl ?_
      first | refine ops_len rfl Try.underlying23 rfl ?_ | refine ops_lens rfl Try.underlying23 rfl (IsNat.slc (by assumption)) ?_ | refine ops_lenn rfl Try.underlying23 rfl (by assumption) ?_ | refine ops_leno rfl Try.underlying23 rfl (by assumption) ?_
      refine ops_guard_t rfl rfl ?_
      refine ops_move rfl rfl ?_
      refine ops_guard_t rfl rfl ?_
      first | refine ops_len rfl Try.underlying23 rfl ?_ | refine ops_lens rfl Try.underlying23 rfl (IsNat.slc (by assumption)) ?_ | refine ops_lenn rfl Try.underlying23 rfl (by assumption) ?_ | refine ops_leno rfl Try.underlying23 rfl (by assumption) ?_
      refine ops_guard_t rfl rfl ?_
      refine ops_add rfl rfl rfl (by omega) ?_
      refine ops_guard_t rfl rfl ?_
      refine ops_eq rfl rfl rfl ?_
      refine ops_bt (d := 40) rfl (by simp [hy0, limbs_zero]) ?_
      refine ops_pick rfl rfl rfl ?_
      refine ops_move rfl rfl ?_
      refine ops_guard_t rfl rfl ?_
      refine ops_callv rfl bod50 rfl rfl ?_
      refine (wakes3_c (M := M) hM).mono ?_
      rintro v43 w6 ⟨hB43, rfl⟩
      have Lw6 := Le.of_below (Fz := Fz) (M := M) hB43
      replace LL := LL.trans Lw6
      replace hM := hM.mono Lw6
      replace hF := hF.mono Lw6
      replace h1 := h1.mono Lw6
      replace h2 := h2.mono Lw6
      replace hn18 := hn18.mono Lw6
      replace hn24 := hn24.mono Lw6
      replace hm24 := hm24.mono Lw6
      replace hn29 := hn29.mono Lw6
      refine ops_pick rfl rfl rfl ?_
      refine ops_assign rfl rfl ?_
      refine ops_nil ?_
      refine SL.wp_ret ?_
      refine leave_nil ⟨[_], ⟨rfl, trivial⟩, ?_⟩
      dsimp only [resVal]
      subst hFz
      exact ⟨LL.below (Nat.le_refl _), by first | rfl | simp⟩
    · have hy0 : val ys ≠ 0 := fun c => hc1 (by rw [c, limbs_zero]; rfl)
      have hyp := Nat.pos_of_ne_zero hy0
      refine SL.wp_skip ?_
      refine SL.wp_seq ?_
      refine SL.wp_seq ?_
      refine SL.wp_region ?_
      refine ops_move rfl rfl ?_
      refine ops_ne rfl rfl rfl ?_
      refine ops_bf (d := 46) rfl (by simp [hy0]) ?_
      refine ops_move rfl rfl ?_
      refine ops_guard_t rfl rfl ?_
      refine ops_move rfl rfl ?_
      refine ops_guard_t rfl rfl ?_
      refine ops_move rfl rfl ?_
      refine ops_guard_t rfl rfl ?_
      refine ops_callv rfl bod24 rfl rfl ?_
      refine (rcmp_c (M := M) hm24 h2 (by omega) (by omega) hM).mono ?_
      rintro v50 w7 ⟨hB50, rfl⟩
      have Lw7 := Le.of_below (Fz := Fz) (M := M) hB50
      replace LL := LL.trans Lw7
      replace hM := hM.mono Lw7
      replace hF := hF.mono Lw7
      replace h1 := h1.mono Lw7
      replace h2 := h2.mono Lw7
      replace hn18 := hn18.mono Lw7
      replace hn24 := hn24.mono Lw7
      replace hm24 := hm24.mono Lw7
      replace hn29 := hn29.mono Lw7
      refine ops_guard_t rfl rfl ?_
      refine ops_ge rfl rfl rfl ?_
      refine ops_bf (d := 51) rfl (decide_eq_false (by rw [val_limbs, if_neg hy0]; intro c; exact absurd (Nat.mod_lt (val xs) hyp) (Nat.not_lt.2 (cmpN_nonneg.1 c)))) ?_
      refine ops_pick rfl rfl rfl ?_
      refine ops_move rfl rfl ?_
      refine ops_guard_t rfl rfl ?_
      refine ops_move rfl rfl ?_
      refine ops_guard_t rfl rfl ?_
      refine ops_move rfl rfl ?_
      refine ops_guard_t rfl rfl ?_
      refine ops_callv rfl bod43 rfl rfl ?_
      refine (rmul_c (M := M) hn24 h2 (by omega) (by omega) hM).mono ?_
      rintro v56 w8 ⟨hB56, hf56⟩
      have hM56 := hM; have hS56 := LL.size
      have Lw8 := Le.of_below (Fz := Fz) (M := M) hB56
      replace LL := LL.trans Lw8
      replace hM := hM.mono Lw8
      replace hF := hF.mono Lw8
      replace h1 := h1.mono Lw8
      replace h2 := h2.mono Lw8
      replace hn18 := hn18.mono Lw8
      replace hn24 := hn24.mono Lw8
      replace hm24 := hm24.mono Lw8
      replace hn29 := hn29.mono Lw8
      rw [val_limbs] at hf56
      have hn56 := hf56.nat hM56; replace hf56 := hf56.less hS56
      refine ops_guard_t rfl rfl ?_
      refine ops_move rfl rfl ?_
      refine ops_guard_t rfl rfl ?_
      refine ops_buildSlice rfl Try.underlying24 sz23 rfl rfl rfl (one2 (by first | rfl | exact nat_one (by assumption) | exact own_one (by assumption)) (by first | rfl | exact nat_one (by assumption) | exact own_one (by assumption))) rfl (fun w9 b58 N58 => ?_)
      have hBw9 := N58.below
      have nM58 := hM.new N58; have B58 := N58.blk
      have Lw9 := Le.of_below (Fz := Fz) (M := M) hBw9
      replace LL := LL.trans Lw9
      replace hM := hM.mono Lw9
      replace hF := hF.mono Lw9
      replace h1 := h1.mono Lw9
      replace h2 := h2.mono Lw9
      replace hn18 := hn18.mono Lw9
      replace hn24 := hn24.mono Lw9
      replace hm24 := hm24.mono Lw9
      replace hn29 := hn29.mono Lw9
      replace hn56 := hn56.mono Lw9
      have hn58 := nats2 B58 nM58 hn56 hm24
      refine ops_guard_t rfl rfl ?_
      refine ops_callv rfl bod30 rfl rfl ?_
      refine (radd_c (M := M) hn58 (by intro q hq; simp at hq; rcases hq with rfl | rfl <;> omega) (by simp) hM).mono ?_
      rintro v59 w10 ⟨hB59, hf59⟩
      have hM59 := hM; have hS59 := LL.size
      have Lw10 := Le.of_below (Fz := Fz) (M := M) hB59
      replace LL := LL.trans Lw10
      replace hM := hM.mono Lw10
      replace hF := hF.mono Lw10
      replace h1 := h1.mono Lw10
      replace h2 := h2.mono Lw10
      replace hn18 := hn18.mono Lw10
      replace hn24 := hn24.mono Lw10
      replace hm24 := hm24.mono Lw10
      replace hn29 := hn29.mono Lw10
      replace hn56 := hn56.mono Lw10
      replace hn58 := hn58.mono Lw10
      replace hf59 : Fresh 43 _ w10 v59 (limbs (val (limbs (val xs / val ys * val ys)) + val (limbs (if val ys = 0 then 0 else val xs % val ys)))) := hf59
      have hn59 := hf59.nat hM59; replace hf59 := hf59.less hS59
      refine ops_guard_t rfl rfl ?_
      refine ops_move rfl rfl ?_
      refine ops_guard_t rfl rfl ?_
      refine ops_callv rfl bod26 rfl rfl ?_
      refine (rtrim_c (M := M) (by assumption) (by omega) hM).mono ?_
      rintro v61 w11 ⟨hB61, hf61⟩
      have hM61 := hM; have hS61 := LL.size
      have Lw11 := Le.of_below (Fz := Fz) (M := M) hB61
      replace LL := LL.trans Lw11
      replace hM := hM.mono Lw11
      replace hF := hF.mono Lw11
      replace h1 := h1.mono Lw11
      replace h2 := h2.mono Lw11
      replace hn18 := hn18.mono Lw11
      replace hn24 := hn24.mono Lw11
      replace hm24 := hm24.mono Lw11
      replace hn29 := hn29.mono Lw11
      replace hn56 := hn56.mono Lw11
      replace hn58 := hn58.mono Lw11
      replace hn59 := hn59.mono Lw11
      have hn61 := hf61.nat hM61; replace hf61 := hf61.less hS61
      refine ops_guard_t rfl rfl ?_
      refine ops_callv rfl bod52 rfl rfl ?_
      refine (same3_c (M := M) (by assumption) (by assumption) hM).mono ?_
      rintro v62 w12 ⟨hB62, rfl⟩
      have Lw12 := Le.of_below (Fz := Fz) (M := M) hB62
      replace LL := LL.trans Lw12
      replace hM := hM.mono Lw12
      replace hF := hF.mono Lw12
      replace h1 := h1.mono Lw12
      replace h2 := h2.mono Lw12
      replace hn18 := hn18.mono Lw12
      replace hn24 := hn24.mono Lw12
      replace hm24 := hm24.mono Lw12
      replace hn29 := hn29.mono Lw12
      replace hn56 := hn56.mono Lw12
      replace hn58 := hn58.mono Lw12
      replace hn59 := hn59.mono Lw12
      replace hn61 := hn61.mono Lw12
      refine ops_guard_t rfl rfl ?_
      refine ops_not rfl rfl ?_
      refine ops_bf (d := 63) rfl (by simp [val_limbs, hy0, Nat.div_add_mod']) ?_
      refine ops_pick rfl rfl rfl ?_
      refine ops_nil ?_
      refine SL.wp_cond_f rfl ?_
      refine SL.wp_skip ?_
      refine SL.wp_seq ?_
      refine SL.wp_region ?_
      refine ops_move rfl rfl ?_
      refine ops_move rfl rfl ?_
      refine ops_callv rfl bod53 rfl rfl ?_
      refine (short_c (M := M) (n := n) h1 (by omega) hn hM).mono ?_
      rintro v68 w13 ⟨hB68, q68, rfl, hf68⟩
      have hM68 := hM; have hS68 := LL.size
      have Lw13 := Le.of_below (Fz := Fz) (M := M) hB68
      replace LL := LL.trans Lw13
      replace hM := hM.mono Lw13
      replace hF := hF.mono Lw13
      replace h1 := h1.mono Lw13
      replace h2 := h2.mono Lw13
      replace hn18 := hn18.mono Lw13
      replace hn24 := hn24.mono Lw13
      replace hm24 := hm24.mono Lw13
      replace hn29 := hn29.mono Lw13
      replace hn56 := hn56.mono Lw13
      replace hn58 := hn58.mono Lw13
      replace hn59 := hn59.mono Lw13
      replace hn61 := hn61.mono Lw13
      have hn68 := hf68.nat hM68
      refine ops_move rfl rfl ?_
      refine ops_extract rfl rfl rfl ?_
      refine ops_extract rfl rfl rfl ?_
      refine ops_extract rfl rfl rfl ?_
      refine ops_assign rfl rfl ?_
      refine ops_assign rfl rfl ?_
      refine ops_assign rfl rfl ?_
      refine ops_nil ?_
      refine SL.wp_seq ?_
      refine SL.wp_seq ?_
      refine SL.wp_region ?_
      refine ops_move rfl rfl ?_
      refine ops_eq rfl rfl rfl ?_
      refine ops_nil ?_
      refine SL.wp_cond_d rfl (fun hc2 => ?_) (fun hc2 => ?_)
      · have hn0 : n = 0 := by omega
        refine SL.wp_seq ?_
        refine SL.wp_region ?_
        refine ops_move rfl rfl ?_
        refine ops_eq rfl rfl rfl ?_
        refine ops_bt (d := 75) rfl (by simp [hn0]) ?_
        refine ops_move rfl rfl ?_
        refine ops_guard_t rfl rfl ?_
        refine ops_callv rfl bod50 rfl rfl ?_
        refine (wakes3_c (M := M) hM).mono ?_
        rintro v77 w14 ⟨hB77, rfl⟩
        have Lw14 := Le.of_below (Fz := Fz) (M := M) hB77
        replace LL := LL.trans Lw14
        replace hM := hM.mono Lw14
        replace hF := hF.mono Lw14
        replace h1 := h1.mono Lw14
        replace h2 := h2.mono Lw14
        replace hn18 := hn18.mono Lw14
        replace hn24 := hn24.mono Lw14
        replace hm24 := hm24.mono Lw14
        replace hn29 := hn29.mono Lw14
        replace hn56 := hn56.mono Lw14
        replace hn58 := hn58.mono Lw14
        replace hn59 := hn59.mono Lw14
        replace hn61 := hn61.mono Lw14
        replace hn68 := hn68.mono Lw14
        refine ops_pick rfl rfl rfl ?_
        refine ops_assign rfl rfl ?_
        refine ops_nil ?_
        refine SL.wp_ret ?_
        refine leave_nil ⟨[_], ⟨rfl, trivial⟩, ?_⟩
        dsimp only [resVal]
        subst hFz
        exact ⟨LL.below (Nat.le_refl _), by first | rfl | simp⟩
      · have hn0 : n ≠ 0 := by omega
        refine SL.wp_skip ?_
        refine SL.wp_seq ?_
        refine SL.wp_region ?_
        refine ops_move rfl rfl ?_
        refine ops_move rfl rfl ?_
        refine ops_buildSlice rfl Try.underlying23 sz43 rfl rfl rfl (by simp [Value.oneCell', lw]) rfl (fun w15 b82 N82 => ?_)
        have hBw15 := N82.below
        have nM82 := hM.new N82; have B82 := N82.blk
        have Lw15 := Le.of_below (Fz := Fz) (M := M) hBw15
        replace LL := LL.trans Lw15
        replace hM := hM.mono Lw15
        replace hF := hF.mono Lw15
        replace h1 := h1.mono Lw15
        replace h2 := h2.mono Lw15
        replace hn18 := hn18.mono Lw15
        replace hn24 := hn24.mono Lw15
        replace hm24 := hm24.mono Lw15
        replace hn29 := hn29.mono Lw15
        replace hn56 := hn56.mono Lw15
        replace hn58 := hn58.mono Lw15
        replace hn59 := hn59.mono Lw15
        replace hn61 := hn61.mono Lw15
        replace hn68 := hn68.mono Lw15
        have hn82 : IsNat M w15 (.slice (some ⟨b82, 0, none⟩) 1 1) [n] := blk_nat (xs := [n]) B82 nM82 rfl (by simp) (by simp; omega)
        refine ops_callv rfl bod51 rfl rfl ?_
        refine (div_c (M := M) h1 hn82 (by omega) (by simp) hM).mono ?_
        rintro v83 w16 ⟨hB83, q83, s83, rfl, hf83, hg83⟩
        have hM83 := hM; have hS83 := LL.size
        have Lw16 := Le.of_below (Fz := Fz) (M := M) hB83
        replace LL := LL.trans Lw16
        replace hM := hM.mono Lw16
        replace hF := hF.mono Lw16
        replace h1 := h1.mono Lw16
        replace h2 := h2.mono Lw16
        replace hn18 := hn18.mono Lw16
        replace hn24 := hn24.mono Lw16
        replace hm24 := hm24.mono Lw16
        replace hn29 := hn29.mono Lw16
        replace hn56 := hn56.mono Lw16
        replace hn58 := hn58.mono Lw16
        replace hn59 := hn59.mono Lw16
        replace hn61 := hn61.mono Lw16
        replace hn68 := hn68.mono Lw16
        replace hn82 := hn82.mono Lw16
        have hn83 := hf83.nat hM83; have hm83 := hg83.nat hM83
        refine ops_move rfl rfl ?_
        refine ops_extract rfl rfl rfl ?_
        refine ops_extract rfl rfl rfl ?_
        refine ops_extract rfl rfl rfl ?_
        refine ops_assign rfl rfl ?_
        refine ops_assign rfl rfl ?_
        refine ops_assign rfl rfl ?_
        refine ops_nil ?_
        refine SL.wp_seq ?_
        refine SL.wp_region ?_
        refine ops_move rfl rfl ?_
        refine ops_eq rfl rfl rfl ?_
        refine ops_bt (d := 88) rfl (by simp [hn0]) ?_
        refine ops_move rfl rfl ?_
        refine ops_guard_t rfl rfl ?_
        refine ops_move rfl rfl ?_
        refine ops_guard_t rfl rfl ?_
        refine ops_eq rfl rfl rfl ?_
        refine ops_bt (d := 91) rfl (by simp [hn0, val]) ?_
        refine ops_pick rfl rfl rfl ?_
        refine ops_move rfl rfl ?_
        refine ops_guard_t rfl rfl ?_
        refine ops_move rfl rfl ?_
        refine ops_guard_t rfl rfl ?_
        refine ops_move rfl rfl ?_
        refine ops_guard_t rfl rfl ?_
        refine ops_lt rfl rfl rfl ?_
        refine ops_bt (d := 96) rfl (decide_eq_true (by rw [if_neg hn0]; exact Int.ofNat_lt.2 (Nat.mod_lt _ (Nat.pos_of_ne_zero hn0)))) ?_
        refine ops_pick rfl rfl rfl ?_
        refine ops_move rfl rfl ?_
        refine ops_guard_t rfl rfl ?_
        refine ops_move rfl rfl ?_
        refine ops_guard_t rfl rfl ?_
        refine ops_move rfl rfl ?_
        refine ops_guard_t rfl rfl ?_
        refine ops_callv rfl bod52 rfl rfl ?_
        refine (same3_c (M := M) hn68 hn83 hM).mono ?_
        rintro v101 w17 ⟨hB101, rfl⟩
        have Lw17 := Le.of_below (Fz := Fz) (M := M) hB101
        replace LL := LL.trans Lw17
        replace hM := hM.mono Lw17
        replace hF := hF.mono Lw17
        replace h1 := h1.mono Lw17
        replace h2 := h2.mono Lw17
        replace hn18 := hn18.mono Lw17
        replace hn24 := hn24.mono Lw17
        replace hm24 := hm24.mono Lw17
        replace hn29 := hn29.mono Lw17
        replace hn56 := hn56.mono Lw17
        replace hn58 := hn58.mono Lw17
        replace hn59 := hn59.mono Lw17
        replace hn61 := hn61.mono Lw17
        replace hn68 := hn68.mono Lw17
        replace hn82 := hn82.mono Lw17
        replace hn83 := hn83.mono Lw17
        replace hm83 := hm83.mono Lw17
        refine ops_bt (d := 101) rfl (by simp [val]) ?_
        refine ops_pick rfl rfl rfl ?_
        refine ops_move rfl rfl ?_
        refine ops_guard_t rfl rfl ?_
        refine ops_move rfl rfl ?_
        have hxn : (if n = 0 then 0 else val xs % n) < 4294967296 := by rw [if_neg hn0]; exact Nat.lt_trans (Nat.mod_lt _ (Nat.pos_of_ne_zero hn0)) hn
        refine ops_guard_t rfl rfl ?_
        refine ops_buildSlice rfl Try.underlying23 sz43 rfl rfl rfl (by simp [Value.oneCell', lw]) rfl (fun w18 b105 N105 => ?_)
        have hBw18 := N105.below
        have nM105 := hM.new N105; have B105 := N105.blk
        have Lw18 := Le.of_below (Fz := Fz) (M := M) hBw18
        replace LL := LL.trans Lw18
        replace hM := hM.mono Lw18
        replace hF := hF.mono Lw18
        replace h1 := h1.mono Lw18
        replace h2 := h2.mono Lw18
        replace hn18 := hn18.mono Lw18
        replace hn24 := hn24.mono Lw18
        replace hm24 := hm24.mono Lw18
        replace hn29 := hn29.mono Lw18
        replace hn56 := hn56.mono Lw18
        replace hn58 := hn58.mono Lw18
        replace hn59 := hn59.mono Lw18
        replace hn61 := hn61.mono Lw18
        replace hn68 := hn68.mono Lw18
        replace hn82 := hn82.mono Lw18
        replace hn83 := hn83.mono Lw18
        replace hm83 := hm83.mono Lw18
        have hn105 : IsNat M w18 (.slice (some ⟨b105, 0, none⟩) 1 1) [if n = 0 then 0 else val xs % n] := blk_nat (xs := [if n = 0 then 0 else val xs % n]) B105 nM105 rfl (by simp) (by simp; omega)
        refine ops_guard_t rfl rfl ?_
        refine ops_callv rfl bod26 rfl rfl ?_
        refine (rtrim_c (M := M) hn105 (by simp) hM).mono ?_
        rintro v106 w19 ⟨hB106, hf106⟩
        have hM106 := hM; have hS106 := LL.size
        have Lw19 := Le.of_below (Fz := Fz) (M := M) hB106
        replace LL := LL.trans Lw19
        replace hM := hM.mono Lw19
        replace hF := hF.mono Lw19
        replace h1 := h1.mono Lw19
        replace h2 := h2.mono Lw19
        replace hn18 := hn18.mono Lw19
        replace hn24 := hn24.mono Lw19
        replace hm24 := hm24.mono Lw19
        replace hn29 := hn29.mono Lw19
        replace hn56 := hn56.mono Lw19
        replace hn58 := hn58.mono Lw19
        replace hn59 := hn59.mono Lw19
        replace hn61 := hn61.mono Lw19
        replace hn68 := hn68.mono Lw19
        replace hn82 := hn82.mono Lw19
        replace hn83 := hn83.mono Lw19
        replace hm83 := hm83.mono Lw19
        replace hn105 := hn105.mono Lw19
        have hn106 := hf106.nat hM106; replace hf106 := hf106.less hS106
        refine ops_guard_t rfl rfl ?_
        refine ops_move rfl rfl ?_
        refine ops_guard_t rfl rfl ?_
        refine ops_callv rfl bod52 rfl rfl ?_
        refine (same3_c (M := M) hn106 hm83 hM).mono ?_
        rintro v108 w20 ⟨hB108, rfl⟩
        have Lw20 := Le.of_below (Fz := Fz) (M := M) hB108
        replace LL := LL.trans Lw20
        replace hM := hM.mono Lw20
        replace hF := hF.mono Lw20
        replace h1 := h1.mono Lw20
        replace h2 := h2.mono Lw20
        replace hn18 := hn18.mono Lw20
        replace hn24 := hn24.mono Lw20
        replace hm24 := hm24.mono Lw20
        replace hn29 := hn29.mono Lw20
        replace hn56 := hn56.mono Lw20
        replace hn58 := hn58.mono Lw20
        replace hn59 := hn59.mono Lw20
        replace hn61 := hn61.mono Lw20
        replace hn68 := hn68.mono Lw20
        replace hn82 := hn82.mono Lw20
        replace hn83 := hn83.mono Lw20
        replace hm83 := hm83.mono Lw20
        replace hn105 := hn105.mono Lw20
        replace hn106 := hn106.mono Lw20
        refine ops_bt (d := 108) rfl (by simp [val, hn0]) ?_
        refine ops_pick rfl rfl rfl ?_
        refine ops_move rfl rfl ?_
        refine ops_guard_t rfl rfl ?_
        refine ops_callv rfl bod50 rfl rfl ?_
        refine (wakes3_c (M := M) hM).mono ?_
        rintro v111 w21 ⟨hB111, rfl⟩
        have Lw21 := Le.of_below (Fz := Fz) (M := M) hB111
        replace LL := LL.trans Lw21
        replace hM := hM.mono Lw21
        replace hF := hF.mono Lw21
        replace h1 := h1.mono Lw21
        replace h2 := h2.mono Lw21
        replace hn18 := hn18.mono Lw21
        replace hn24 := hn24.mono Lw21
        replace hm24 := hm24.mono Lw21
        replace hn29 := hn29.mono Lw21
        replace hn56 := hn56.mono Lw21
        replace hn58 := hn58.mono Lw21
        replace hn59 := hn59.mono Lw21
        replace hn61 := hn61.mono Lw21
        replace hn68 := hn68.mono Lw21
        replace hn82 := hn82.mono Lw21
        replace hn83 := hn83.mono Lw21
        replace hm83 := hm83.mono Lw21
        replace hn105 := hn105.mono Lw21
        replace hn106 := hn106.mono Lw21
        refine ops_pick rfl rfl rfl ?_
        refine ops_assign rfl rfl ?_
        refine ops_nil ?_
        refine SL.wp_ret ?_
        refine leave_nil ⟨[_], ⟨rfl, trivial⟩, ?_⟩
        dsimp only [resVal]
        subst hFz
        exact ⟨LL.below (Nat.le_refl _), by first | rfl | simp⟩


theorem quotMakes_c {M : Nat → Prop} {w : World} {v1 v2 v3 : Value} {xs ys zs : List Nat} (h1 : IsNat M w v1 xs) (h2 : IsNat M w v2 ys) (h3 : IsNat M w v3 zs) (hM : OkM M w) :
    CallsV Try.prog 14 [v1, v2, v3] w fun r w' => Below w.heap.size w w' ∧ r = .bool true := by
  obtain ⟨Fz, hFz⟩ : ∃ Fz : Nat → Prop, Fz = (· < w.heap.size) := ⟨_, rfl⟩
  have hF : FOk Fz w := by subst hFz; exact fun _ h => h
  have LL := Le.refl Fz M w; have hM0 := hM
  refine calls_intro Try.func14 rfl Try.ntmps14 rfl ?_
  refine SL.wp_seq ?_
  refine SL.wp_region ?_
  refine ops_assign rfl rfl ?_
  refine ops_nil ?_
  refine SL.wp_seq ?_
  refine SL.wp_seq ?_
  refine SL.wp_region ?_
  refine ops_move rfl rfl ?_
  refine ops_move rfl rfl ?_
  refine ops_move rfl rfl ?_
  refine ops_buildSlice rfl Try.underlying24 sz23 rfl rfl rfl (one3 (by first | rfl | exact nat_one (by assumption) | exact own_one (by assumption)) (by first | rfl | exact nat_one (by assumption) | exact own_one (by assumption)) (by first | rfl | exact nat_one (by assumption) | exact own_one (by assumption))) rfl (fun w1 b13 N13 => ?_)
  have hBw1 := N13.below
  have nM13 := hM.new N13; have B13 := N13.blk
  have Lw1 := Le.of_below (Fz := Fz) (M := M) hBw1
  replace LL := LL.trans Lw1
  replace hM := hM.mono Lw1
  replace hF := hF.mono Lw1
  replace h1 := h1.mono Lw1
  replace h2 := h2.mono Lw1
  replace h3 := h3.mono Lw1
  have hn13 := nats3 B13 nM13 h1 h2 h3
  refine ops_callv rfl bod33 rfl rfl ?_
  refine (great2_c (M := M) (by assumption) hM).mono ?_
  rintro v14 w2 ⟨hB14, rfl⟩
  have Lw2 := Le.of_below (Fz := Fz) (M := M) hB14
  replace LL := LL.trans Lw2
  replace hM := hM.mono Lw2
  replace hF := hF.mono Lw2
  replace h1 := h1.mono Lw2
  replace h2 := h2.mono Lw2
  replace h3 := h3.mono Lw2
  replace hn13 := hn13.mono Lw2
  refine ops_move rfl rfl ?_
  refine ops_dcase (d := 15) rfl (fun hg1_5 => ?_) (fun hg1_5 => ?_)
  · refine ops_guard_f rfl rfl rfl rfl ?_
    refine ops_guard_f rfl rfl rfl rfl ?_
    refine ops_guard_f rfl rfl rfl rfl ?_
    refine ops_guard_f rfl rfl rfl rfl ?_
    refine ops_guard_f rfl rfl rfl rfl ?_
    refine ops_guard_f rfl rfl rfl rfl ?_
    refine ops_guard_f rfl rfl rfl rfl ?_
    refine ops_guard_f rfl rfl rfl rfl ?_
    refine ops_guard_f rfl rfl rfl rfl ?_
    refine ops_pick rfl rfl rfl ?_
    refine ops_move rfl rfl ?_
    refine ops_guard_f rfl rfl rfl rfl ?_
    refine ops_guard_f rfl rfl rfl rfl ?_
    refine ops_guard_f rfl rfl rfl rfl ?_
    refine ops_guard_f rfl rfl rfl rfl ?_
    refine ops_pick rfl rfl rfl ?_
    refine ops_nil ?_
    refine SL.wp_cond_t rfl ?_
    refine SL.wp_seq ?_
    refine SL.wp_region ?_
    refine ops_callv rfl bod50 rfl rfl ?_
    refine (wakes3_c (M := M) hM).mono ?_
    rintro v32 w3 ⟨hB32, rfl⟩
    have Lw3 := Le.of_below (Fz := Fz) (M := M) hB32
    replace LL := LL.trans Lw3
    replace hM := hM.mono Lw3
    replace hF := hF.mono Lw3
    replace h1 := h1.mono Lw3
    replace h2 := h2.mono Lw3
    replace h3 := h3.mono Lw3
    replace hn13 := hn13.mono Lw3
    refine ops_assign rfl rfl ?_
    refine ops_nil ?_
    refine SL.wp_ret ?_
    refine leave_nil ⟨[_], ⟨rfl, trivial⟩, ?_⟩
    dsimp only [resVal]
    subst hFz
    exact ⟨LL.below (Nat.le_refl _), by first | rfl | simp⟩
  · have hg := not_gr hg1_5
    have hq4 := hg.2 xs (by simp); have hq5 := hg.2 ys (by simp); have hq6 := hg.2 zs (by simp)
    refine ops_guard_t rfl rfl ?_
    refine ops_move rfl rfl ?_
    refine ops_guard_t rfl rfl ?_
    first | refine ops_len rfl Try.underlying23 rfl ?_ | refine ops_lens rfl Try.underlying23 rfl (IsNat.slc (by assumption)) ?_ | refine ops_lenn rfl Try.underlying23 rfl (by assumption) ?_ | refine ops_leno rfl Try.underlying23 rfl (by assumption) ?_
    refine ops_guard_t rfl rfl ?_
    refine ops_move rfl rfl ?_
    refine ops_guard_t rfl rfl ?_
    first | refine ops_len rfl Try.underlying23 rfl ?_ | refine ops_lens rfl Try.underlying23 rfl (IsNat.slc (by assumption)) ?_ | refine ops_lenn rfl Try.underlying23 rfl (by assumption) ?_ | refine ops_leno rfl Try.underlying23 rfl (by assumption) ?_
    refine ops_guard_t rfl rfl ?_
    refine ops_add rfl rfl rfl (by omega) ?_
    refine ops_guard_t rfl rfl ?_
    refine ops_move rfl rfl ?_
    refine ops_guard_t rfl rfl ?_
    first | refine ops_len rfl Try.underlying23 rfl ?_ | refine ops_lens rfl Try.underlying23 rfl (IsNat.slc (by assumption)) ?_ | refine ops_lenn rfl Try.underlying23 rfl (by assumption) ?_ | refine ops_leno rfl Try.underlying23 rfl (by assumption) ?_
    refine ops_guard_t rfl rfl ?_
    refine ops_add rfl rfl rfl (by omega) ?_
    refine ops_guard_t rfl rfl ?_
    refine ops_gt rfl rfl rfl ?_
    refine ops_pick rfl rfl rfl ?_
    refine ops_move rfl rfl ?_
    refine ops_dcase (d := 26) rfl (fun hg1_16 => ?_) (fun hg1_16 => ?_)
    · refine ops_guard_f rfl rfl rfl rfl ?_
      refine ops_guard_f rfl rfl rfl rfl ?_
      refine ops_guard_f rfl rfl rfl rfl ?_
      refine ops_guard_f rfl rfl rfl rfl ?_
      refine ops_pick rfl rfl rfl ?_
      refine ops_nil ?_
      refine SL.wp_cond_t rfl ?_
      refine SL.wp_seq ?_
      refine SL.wp_region ?_
      refine ops_callv rfl bod50 rfl rfl ?_
      refine (wakes3_c (M := M) hM).mono ?_
      rintro v32 w4 ⟨hB32, rfl⟩
      have Lw4 := Le.of_below (Fz := Fz) (M := M) hB32
      replace LL := LL.trans Lw4
      replace hM := hM.mono Lw4
      replace hF := hF.mono Lw4
      replace h1 := h1.mono Lw4
      replace h2 := h2.mono Lw4
      replace h3 := h3.mono Lw4
      replace hn13 := hn13.mono Lw4
      refine ops_assign rfl rfl ?_
      refine ops_nil ?_
      refine SL.wp_ret ?_
      refine leave_nil ⟨[_], ⟨rfl, trivial⟩, ?_⟩
      dsimp only [resVal]
      subst hFz
      exact ⟨LL.below (Nat.le_refl _), by first | rfl | simp⟩
    · refine ops_guard_t rfl rfl ?_
      refine ops_move rfl rfl ?_
      refine ops_guard_t rfl rfl ?_
      refine ops_move rfl rfl ?_
      refine ops_guard_t rfl rfl ?_
      refine ops_callv rfl bod24 rfl rfl ?_
      refine (rcmp_c (M := M) (by assumption) (by assumption) (by omega) (by omega) hM).mono ?_
      rintro v29 w5 ⟨hB29, rfl⟩
      have Lw5 := Le.of_below (Fz := Fz) (M := M) hB29
      replace LL := LL.trans Lw5
      replace hM := hM.mono Lw5
      replace hF := hF.mono Lw5
      replace h1 := h1.mono Lw5
      replace h2 := h2.mono Lw5
      replace h3 := h3.mono Lw5
      replace hn13 := hn13.mono Lw5
      refine ops_guard_t rfl rfl ?_
      refine ops_ge rfl rfl rfl ?_
      refine ops_pick rfl rfl rfl ?_
      refine ops_nil ?_
      refine SL.wp_cond_d rfl (fun hc0 => ?_) (fun hc0 => ?_)
      · refine SL.wp_seq ?_
        refine SL.wp_region ?_
        refine ops_callv rfl bod50 rfl rfl ?_
        refine (wakes3_c (M := M) hM).mono ?_
        rintro v32 w6 ⟨hB32, rfl⟩
        have Lw6 := Le.of_below (Fz := Fz) (M := M) hB32
        replace LL := LL.trans Lw6
        replace hM := hM.mono Lw6
        replace hF := hF.mono Lw6
        replace h1 := h1.mono Lw6
        replace h2 := h2.mono Lw6
        replace h3 := h3.mono Lw6
        replace hn13 := hn13.mono Lw6
        refine ops_assign rfl rfl ?_
        refine ops_nil ?_
        refine SL.wp_ret ?_
        refine leave_nil ⟨[_], ⟨rfl, trivial⟩, ?_⟩
        dsimp only [resVal]
        subst hFz
        exact ⟨LL.below (Nat.le_refl _), by first | rfl | simp⟩
      · have hzy : val zs < val ys := Classical.byContradiction fun c => hc0 (cmpN_nonneg.2 (Nat.le_of_not_lt c))
        have hy0 : val ys ≠ 0 := by omega
        have hyp := Nat.pos_of_ne_zero hy0
        have hxl := val_lt_pow h1.lt hq4; have hyl := val_lt_pow h2.lt hq5; have hzl := val_lt_pow h3.lt hq6
        have hl1 := mul_len hxl hyl
        have hl2 := add_len (mul_lt_pow hxl hyl) (Nat.lt_of_lt_of_le hzl (Nat.pow_le_pow_right (show 0 < 4294967296 by omega) (show 120 ≤ 120 + 120 by omega)))
        have hdiv : (val xs * val ys + val zs) / val ys = val xs := by rw [Nat.mul_comm, Nat.mul_add_div hyp, Nat.div_eq_of_lt hzy]; rfl
        have hmod : (val xs * val ys + val zs) % val ys = val zs := by rw [Nat.mul_comm, Nat.mul_add_mod, Nat.mod_eq_of_lt hzy]
        refine SL.wp_skip ?_
        refine SL.wp_seq ?_
        refine SL.wp_region ?_
        refine ops_move rfl rfl ?_
        refine ops_move rfl rfl ?_
        refine ops_callv rfl bod43 rfl rfl ?_
        refine (rmul_c (M := M) (by assumption) (by assumption) (by omega) (by omega) hM).mono ?_
        rintro v36 w7 ⟨hB36, hf36⟩
        have hM36 := hM; have hS36 := LL.size
        have Lw7 := Le.of_below (Fz := Fz) (M := M) hB36
        replace LL := LL.trans Lw7
        replace hM := hM.mono Lw7
        replace hF := hF.mono Lw7
        replace h1 := h1.mono Lw7
        replace h2 := h2.mono Lw7
        replace h3 := h3.mono Lw7
        replace hn13 := hn13.mono Lw7
        have hn36 := hf36.nat hM36; replace hf36 := hf36.less hS36
        refine ops_move rfl rfl ?_
        refine ops_buildSlice rfl Try.underlying24 sz23 rfl rfl rfl (one2 (by first | rfl | exact nat_one (by assumption) | exact own_one (by assumption)) (by first | rfl | exact nat_one (by assumption) | exact own_one (by assumption))) rfl (fun w8 b38 N38 => ?_)
        have hBw8 := N38.below
        have nM38 := hM.new N38; have B38 := N38.blk
        have Lw8 := Le.of_below (Fz := Fz) (M := M) hBw8
        replace LL := LL.trans Lw8
        replace hM := hM.mono Lw8
        replace hF := hF.mono Lw8
        replace h1 := h1.mono Lw8
        replace h2 := h2.mono Lw8
        replace h3 := h3.mono Lw8
        replace hn13 := hn13.mono Lw8
        replace hn36 := hn36.mono Lw8
        have hn38 := nats2 B38 nM38 hn36 h3
        refine ops_callv rfl bod30 rfl rfl ?_
        refine (radd_c (M := M) hn38 (by intro q hq; simp at hq; rcases hq with rfl | rfl <;> omega) (by simp) hM).mono ?_
        rintro v39 w9 ⟨hB39, hf39⟩
        have hM39 := hM; have hS39 := LL.size
        have Lw9 := Le.of_below (Fz := Fz) (M := M) hB39
        replace LL := LL.trans Lw9
        replace hM := hM.mono Lw9
        replace hF := hF.mono Lw9
        replace h1 := h1.mono Lw9
        replace h2 := h2.mono Lw9
        replace h3 := h3.mono Lw9
        replace hn13 := hn13.mono Lw9
        replace hn36 := hn36.mono Lw9
        replace hn38 := hn38.mono Lw9
        replace hf39 : Fresh 43 _ w9 v39 (limbs (val (limbs (val xs * val ys)) + val zs)) := hf39
        have hn39 := hf39.nat hM39; replace hf39 := hf39.less hS39
        refine ops_move rfl rfl ?_
        refine ops_callv rfl bod51 rfl rfl ?_
        refine (div_c (M := M) hn39 h2 (by rw [val_limbs]; omega) (by omega) hM).mono ?_
        rintro v41 w10 ⟨hB41, q41, s41, rfl, hf41, hg41⟩
        have hM41 := hM; have hS41 := LL.size
        have Lw10 := Le.of_below (Fz := Fz) (M := M) hB41
        replace LL := LL.trans Lw10
        replace hM := hM.mono Lw10
        replace hF := hF.mono Lw10
        replace h1 := h1.mono Lw10
        replace h2 := h2.mono Lw10
        replace h3 := h3.mono Lw10
        replace hn13 := hn13.mono Lw10
        replace hn36 := hn36.mono Lw10
        replace hn38 := hn38.mono Lw10
        replace hn39 := hn39.mono Lw10
        have hn41 := hf41.nat hM41; have hm41 := hg41.nat hM41
        refine ops_move rfl rfl ?_
        refine ops_extract rfl rfl rfl ?_
        refine ops_extract rfl rfl rfl ?_
        refine ops_extract rfl rfl rfl ?_
        refine ops_assign rfl rfl ?_
        refine ops_assign rfl rfl ?_
        refine ops_assign rfl rfl ?_
        refine ops_nil ?_
        refine SL.wp_seq ?_
        refine SL.wp_region ?_
        refine ops_move rfl rfl ?_
        refine ops_eq rfl rfl rfl ?_
        refine ops_bt (d := 46) rfl (by simp [hy0]) ?_
        refine ops_move rfl rfl ?_
        refine ops_guard_t rfl rfl ?_
        refine ops_move rfl rfl ?_
        refine ops_guard_t rfl rfl ?_
        refine ops_move rfl rfl ?_
        refine ops_guard_t rfl rfl ?_
        refine ops_callv rfl bod26 rfl rfl ?_
        refine (rtrim_c (M := M) (by assumption) (by omega) hM).mono ?_
        rintro v50 w11 ⟨hB50, hf50⟩
        have hM50 := hM; have hS50 := LL.size
        have Lw11 := Le.of_below (Fz := Fz) (M := M) hB50
        replace LL := LL.trans Lw11
        replace hM := hM.mono Lw11
        replace hF := hF.mono Lw11
        replace h1 := h1.mono Lw11
        replace h2 := h2.mono Lw11
        replace h3 := h3.mono Lw11
        replace hn13 := hn13.mono Lw11
        replace hn36 := hn36.mono Lw11
        replace hn38 := hn38.mono Lw11
        replace hn39 := hn39.mono Lw11
        replace hn41 := hn41.mono Lw11
        replace hm41 := hm41.mono Lw11
        have hn50 := hf50.nat hM50; replace hf50 := hf50.less hS50
        refine ops_guard_t rfl rfl ?_
        refine ops_callv rfl bod52 rfl rfl ?_
        refine (same3_c (M := M) hn41 hn50 hM).mono ?_
        rintro v51 w12 ⟨hB51, rfl⟩
        have Lw12 := Le.of_below (Fz := Fz) (M := M) hB51
        replace LL := LL.trans Lw12
        replace hM := hM.mono Lw12
        replace hF := hF.mono Lw12
        replace h1 := h1.mono Lw12
        replace h2 := h2.mono Lw12
        replace h3 := h3.mono Lw12
        replace hn13 := hn13.mono Lw12
        replace hn36 := hn36.mono Lw12
        replace hn38 := hn38.mono Lw12
        replace hn39 := hn39.mono Lw12
        replace hn41 := hn41.mono Lw12
        replace hm41 := hm41.mono Lw12
        replace hn50 := hn50.mono Lw12
        refine ops_bt (d := 51) rfl (by simp [val_limbs, hdiv]) ?_
        refine ops_pick rfl rfl rfl ?_
        refine ops_move rfl rfl ?_
        refine ops_guard_t rfl rfl ?_
        refine ops_move rfl rfl ?_
        refine ops_guard_t rfl rfl ?_
        refine ops_move rfl rfl ?_
        refine ops_guard_t rfl rfl ?_
        refine ops_callv rfl bod26 rfl rfl ?_
        refine (rtrim_c (M := M) (by assumption) (by omega) hM).mono ?_
        rintro v56 w13 ⟨hB56, hf56⟩
        have hM56 := hM; have hS56 := LL.size
        have Lw13 := Le.of_below (Fz := Fz) (M := M) hB56
        replace LL := LL.trans Lw13
        replace hM := hM.mono Lw13
        replace hF := hF.mono Lw13
        replace h1 := h1.mono Lw13
        replace h2 := h2.mono Lw13
        replace h3 := h3.mono Lw13
        replace hn13 := hn13.mono Lw13
        replace hn36 := hn36.mono Lw13
        replace hn38 := hn38.mono Lw13
        replace hn39 := hn39.mono Lw13
        replace hn41 := hn41.mono Lw13
        replace hm41 := hm41.mono Lw13
        replace hn50 := hn50.mono Lw13
        have hn56 := hf56.nat hM56; replace hf56 := hf56.less hS56
        refine ops_guard_t rfl rfl ?_
        refine ops_callv rfl bod52 rfl rfl ?_
        refine (same3_c (M := M) hm41 hn56 hM).mono ?_
        rintro v57 w14 ⟨hB57, rfl⟩
        have Lw14 := Le.of_below (Fz := Fz) (M := M) hB57
        replace LL := LL.trans Lw14
        replace hM := hM.mono Lw14
        replace hF := hF.mono Lw14
        replace h1 := h1.mono Lw14
        replace h2 := h2.mono Lw14
        replace h3 := h3.mono Lw14
        replace hn13 := hn13.mono Lw14
        replace hn36 := hn36.mono Lw14
        replace hn38 := hn38.mono Lw14
        replace hn39 := hn39.mono Lw14
        replace hn41 := hn41.mono Lw14
        replace hm41 := hm41.mono Lw14
        replace hn50 := hn50.mono Lw14
        replace hn56 := hn56.mono Lw14
        refine ops_bt (d := 57) rfl (by simp [val_limbs, hy0, hmod]) ?_
        refine ops_pick rfl rfl rfl ?_
        refine ops_move rfl rfl ?_
        refine ops_guard_t rfl rfl ?_
        refine ops_move rfl rfl ?_
        refine ops_guard_t rfl rfl ?_
        refine ops_move rfl rfl ?_
        refine ops_guard_t rfl rfl ?_
        refine ops_move rfl rfl ?_
        refine ops_guard_t rfl rfl ?_
        refine ops_callv rfl bod43 rfl rfl ?_
        refine (rmul_c (M := M) (by assumption) (by assumption) (by omega) (by omega) hM).mono ?_
        rintro v63 w15 ⟨hB63, hf63⟩
        have hM63 := hM; have hS63 := LL.size
        have Lw15 := Le.of_below (Fz := Fz) (M := M) hB63
        replace LL := LL.trans Lw15
        replace hM := hM.mono Lw15
        replace hF := hF.mono Lw15
        replace h1 := h1.mono Lw15
        replace h2 := h2.mono Lw15
        replace h3 := h3.mono Lw15
        replace hn13 := hn13.mono Lw15
        replace hn36 := hn36.mono Lw15
        replace hn38 := hn38.mono Lw15
        replace hn39 := hn39.mono Lw15
        replace hn41 := hn41.mono Lw15
        replace hm41 := hm41.mono Lw15
        replace hn50 := hn50.mono Lw15
        replace hn56 := hn56.mono Lw15
        have hn63 := hf63.nat hM63; replace hf63 := hf63.less hS63
        refine ops_guard_t rfl rfl ?_
        refine ops_buildSlice rfl Try.underlying24 sz23 rfl rfl rfl (one1 (by first | rfl | exact nat_one (by assumption) | exact own_one (by assumption))) rfl (fun w16 b64 N64 => ?_)
        have hBw16 := N64.below
        have nM64 := hM.new N64; have B64 := N64.blk
        have Lw16 := Le.of_below (Fz := Fz) (M := M) hBw16
        replace LL := LL.trans Lw16
        replace hM := hM.mono Lw16
        replace hF := hF.mono Lw16
        replace h1 := h1.mono Lw16
        replace h2 := h2.mono Lw16
        replace h3 := h3.mono Lw16
        replace hn13 := hn13.mono Lw16
        replace hn36 := hn36.mono Lw16
        replace hn38 := hn38.mono Lw16
        replace hn39 := hn39.mono Lw16
        replace hn41 := hn41.mono Lw16
        replace hm41 := hm41.mono Lw16
        replace hn50 := hn50.mono Lw16
        replace hn56 := hn56.mono Lw16
        replace hn63 := hn63.mono Lw16
        have hn64 := nats1 B64 nM64 hn63
        refine ops_guard_t rfl rfl ?_
        refine ops_callv rfl bod54 rfl rfl ?_
        refine (divides_c (M := M) h2 hn64 (by omega) (by intro q hq; simp at hq; subst hq; omega) (by intro q hq; simp at hq; subst hq; rw [val_limbs]; exact Nat.dvd_mul_left _ _) hM).mono ?_
        rintro v65 w17 ⟨hB65, rfl⟩
        have Lw17 := Le.of_below (Fz := Fz) (M := M) hB65
        replace LL := LL.trans Lw17
        replace hM := hM.mono Lw17
        replace hF := hF.mono Lw17
        replace h1 := h1.mono Lw17
        replace h2 := h2.mono Lw17
        replace h3 := h3.mono Lw17
        replace hn13 := hn13.mono Lw17
        replace hn36 := hn36.mono Lw17
        replace hn38 := hn38.mono Lw17
        replace hn39 := hn39.mono Lw17
        replace hn41 := hn41.mono Lw17
        replace hm41 := hm41.mono Lw17
        replace hn50 := hn50.mono Lw17
        replace hn56 := hn56.mono Lw17
        replace hn63 := hn63.mono Lw17
        replace hn64 := hn64.mono Lw17
        refine ops_bt (d := 65) rfl (rfl) ?_
        refine ops_pick rfl rfl rfl ?_
        refine ops_move rfl rfl ?_
        refine ops_guard_t rfl rfl ?_
        refine ops_callv rfl bod50 rfl rfl ?_
        refine (wakes3_c (M := M) hM).mono ?_
        rintro v68 w18 ⟨hB68, rfl⟩
        have Lw18 := Le.of_below (Fz := Fz) (M := M) hB68
        replace LL := LL.trans Lw18
        replace hM := hM.mono Lw18
        replace hF := hF.mono Lw18
        replace h1 := h1.mono Lw18
        replace h2 := h2.mono Lw18
        replace h3 := h3.mono Lw18
        replace hn13 := hn13.mono Lw18
        replace hn36 := hn36.mono Lw18
        replace hn38 := hn38.mono Lw18
        replace hn39 := hn39.mono Lw18
        replace hn41 := hn41.mono Lw18
        replace hm41 := hm41.mono Lw18
        replace hn50 := hn50.mono Lw18
        replace hn56 := hn56.mono Lw18
        replace hn63 := hn63.mono Lw18
        replace hn64 := hn64.mono Lw18
        refine ops_pick rfl rfl rfl ?_
        refine ops_assign rfl rfl ?_
        refine ops_nil ?_
        refine SL.wp_ret ?_
        refine leave_nil ⟨[_], ⟨rfl, trivial⟩, ?_⟩
        dsimp only [resVal]
        subst hFz
        exact ⟨LL.below (Nat.le_refl _), by first | rfl | simp⟩


theorem quotTwice_c {M : Nat → Prop} {w : World} {v1 v2 v3 : Value} {xs ys zs : List Nat} (h1 : IsNat M w v1 xs) (h2 : IsNat M w v2 ys) (h3 : IsNat M w v3 zs) (hM : OkM M w) :
    CallsV Try.prog 15 [v1, v2, v3] w fun r w' => Below w.heap.size w w' ∧ r = .bool true := by
  obtain ⟨Fz, hFz⟩ : ∃ Fz : Nat → Prop, Fz = (· < w.heap.size) := ⟨_, rfl⟩
  have hF : FOk Fz w := by subst hFz; exact fun _ h => h
  have LL := Le.refl Fz M w; have hM0 := hM
  refine calls_intro Try.func15 rfl Try.ntmps15 rfl ?_
  refine SL.wp_seq ?_
  refine SL.wp_region ?_
  refine ops_assign rfl rfl ?_
  refine ops_nil ?_
  refine SL.wp_seq ?_
  refine SL.wp_seq ?_
  refine SL.wp_region ?_
  refine ops_move rfl rfl ?_
  refine ops_move rfl rfl ?_
  refine ops_move rfl rfl ?_
  refine ops_buildSlice rfl Try.underlying24 sz23 rfl rfl rfl (one3 (by first | rfl | exact nat_one (by assumption) | exact own_one (by assumption)) (by first | rfl | exact nat_one (by assumption) | exact own_one (by assumption)) (by first | rfl | exact nat_one (by assumption) | exact own_one (by assumption))) rfl (fun w1 b19 N19 => ?_)
  have hBw1 := N19.below
  have nM19 := hM.new N19; have B19 := N19.blk
  have Lw1 := Le.of_below (Fz := Fz) (M := M) hBw1
  replace LL := LL.trans Lw1
  replace hM := hM.mono Lw1
  replace hF := hF.mono Lw1
  replace h1 := h1.mono Lw1
  replace h2 := h2.mono Lw1
  replace h3 := h3.mono Lw1
  have hn19 := nats3 B19 nM19 h1 h2 h3
  refine ops_callv rfl bod33 rfl rfl ?_
  refine (great2_c (M := M) (by assumption) hM).mono ?_
  rintro v20 w2 ⟨hB20, rfl⟩
  have Lw2 := Le.of_below (Fz := Fz) (M := M) hB20
  replace LL := LL.trans Lw2
  replace hM := hM.mono Lw2
  replace hF := hF.mono Lw2
  replace h1 := h1.mono Lw2
  replace h2 := h2.mono Lw2
  replace h3 := h3.mono Lw2
  replace hn19 := hn19.mono Lw2
  refine ops_move rfl rfl ?_
  refine ops_dcase (d := 21) rfl (fun hg1_5 => ?_) (fun hg1_5 => ?_)
  · refine ops_guard_f rfl rfl rfl rfl ?_
    refine ops_guard_f rfl rfl rfl rfl ?_
    refine ops_guard_f rfl rfl rfl rfl ?_
    refine ops_guard_f rfl rfl rfl rfl ?_
    refine ops_guard_f rfl rfl rfl rfl ?_
    refine ops_guard_f rfl rfl rfl rfl ?_
    refine ops_guard_f rfl rfl rfl rfl ?_
    refine ops_guard_f rfl rfl rfl rfl ?_
    refine ops_guard_f rfl rfl rfl rfl ?_
    refine ops_pick rfl rfl rfl ?_
    refine ops_move rfl rfl ?_
    refine ops_guard_f rfl rfl rfl rfl ?_
    refine ops_guard_f rfl rfl rfl rfl ?_
    refine ops_guard_f rfl rfl rfl rfl ?_
    refine ops_guard_f rfl rfl rfl rfl ?_
    refine ops_pick rfl rfl rfl ?_
    refine ops_move rfl rfl ?_
    refine ops_guard_f rfl rfl rfl rfl ?_
    refine ops_guard_f rfl rfl rfl rfl ?_
    refine ops_guard_f rfl rfl rfl rfl ?_
    refine ops_guard_f rfl rfl rfl rfl ?_
    refine ops_pick rfl rfl rfl ?_
    refine ops_nil ?_
    refine SL.wp_cond_t rfl ?_
    refine SL.wp_seq ?_
    refine SL.wp_region ?_
    refine ops_callv rfl bod50 rfl rfl ?_
    refine (wakes3_c (M := M) hM).mono ?_
    rintro v44 w3 ⟨hB44, rfl⟩
    have Lw3 := Le.of_below (Fz := Fz) (M := M) hB44
    replace LL := LL.trans Lw3
    replace hM := hM.mono Lw3
    replace hF := hF.mono Lw3
    replace h1 := h1.mono Lw3
    replace h2 := h2.mono Lw3
    replace h3 := h3.mono Lw3
    replace hn19 := hn19.mono Lw3
    refine ops_assign rfl rfl ?_
    refine ops_nil ?_
    refine SL.wp_ret ?_
    refine leave_nil ⟨[_], ⟨rfl, trivial⟩, ?_⟩
    dsimp only [resVal]
    subst hFz
    exact ⟨LL.below (Nat.le_refl _), by first | rfl | simp⟩
  · have hg := not_gr hg1_5
    have hq4 := hg.2 xs (by simp); have hq5 := hg.2 ys (by simp); have hq6 := hg.2 zs (by simp)
    refine ops_guard_t rfl rfl ?_
    refine ops_move rfl rfl ?_
    refine ops_guard_t rfl rfl ?_
    first | refine ops_len rfl Try.underlying23 rfl ?_ | refine ops_lens rfl Try.underlying23 rfl (IsNat.slc (by assumption)) ?_ | refine ops_lenn rfl Try.underlying23 rfl (by assumption) ?_ | refine ops_leno rfl Try.underlying23 rfl (by assumption) ?_
    refine ops_guard_t rfl rfl ?_
    refine ops_move rfl rfl ?_
    refine ops_guard_t rfl rfl ?_
    first | refine ops_len rfl Try.underlying23 rfl ?_ | refine ops_lens rfl Try.underlying23 rfl (IsNat.slc (by assumption)) ?_ | refine ops_lenn rfl Try.underlying23 rfl (by assumption) ?_ | refine ops_leno rfl Try.underlying23 rfl (by assumption) ?_
    refine ops_guard_t rfl rfl ?_
    refine ops_add rfl rfl rfl (by omega) ?_
    refine ops_guard_t rfl rfl ?_
    refine ops_move rfl rfl ?_
    refine ops_guard_t rfl rfl ?_
    first | refine ops_len rfl Try.underlying23 rfl ?_ | refine ops_lens rfl Try.underlying23 rfl (IsNat.slc (by assumption)) ?_ | refine ops_lenn rfl Try.underlying23 rfl (by assumption) ?_ | refine ops_leno rfl Try.underlying23 rfl (by assumption) ?_
    refine ops_guard_t rfl rfl ?_
    refine ops_add rfl rfl rfl (by omega) ?_
    refine ops_guard_t rfl rfl ?_
    refine ops_gt rfl rfl rfl ?_
    refine ops_pick rfl rfl rfl ?_
    refine ops_move rfl rfl ?_
    refine ops_dcase (d := 32) rfl (fun hg1_16 => ?_) (fun hg1_16 => ?_)
    · refine ops_guard_f rfl rfl rfl rfl ?_
      refine ops_guard_f rfl rfl rfl rfl ?_
      refine ops_guard_f rfl rfl rfl rfl ?_
      refine ops_guard_f rfl rfl rfl rfl ?_
      refine ops_pick rfl rfl rfl ?_
      refine ops_move rfl rfl ?_
      refine ops_guard_f rfl rfl rfl rfl ?_
      refine ops_guard_f rfl rfl rfl rfl ?_
      refine ops_guard_f rfl rfl rfl rfl ?_
      refine ops_guard_f rfl rfl rfl rfl ?_
      refine ops_pick rfl rfl rfl ?_
      refine ops_nil ?_
      refine SL.wp_cond_t rfl ?_
      refine SL.wp_seq ?_
      refine SL.wp_region ?_
      refine ops_callv rfl bod50 rfl rfl ?_
      refine (wakes3_c (M := M) hM).mono ?_
      rintro v44 w4 ⟨hB44, rfl⟩
      have Lw4 := Le.of_below (Fz := Fz) (M := M) hB44
      replace LL := LL.trans Lw4
      replace hM := hM.mono Lw4
      replace hF := hF.mono Lw4
      replace h1 := h1.mono Lw4
      replace h2 := h2.mono Lw4
      replace h3 := h3.mono Lw4
      replace hn19 := hn19.mono Lw4
      refine ops_assign rfl rfl ?_
      refine ops_nil ?_
      refine SL.wp_ret ?_
      refine leave_nil ⟨[_], ⟨rfl, trivial⟩, ?_⟩
      dsimp only [resVal]
      subst hFz
      exact ⟨LL.below (Nat.le_refl _), by first | rfl | simp⟩
    · refine ops_guard_t rfl rfl ?_
      refine ops_move rfl rfl ?_
      refine ops_guard_t rfl rfl ?_
      refine ops_callv rfl bod26 rfl rfl ?_
      refine (rtrim_c (M := M) (by assumption) (by omega) hM).mono ?_
      rintro v34 w5 ⟨hB34, hf34⟩
      have hM34 := hM; have hS34 := LL.size
      have Lw5 := Le.of_below (Fz := Fz) (M := M) hB34
      replace LL := LL.trans Lw5
      replace hM := hM.mono Lw5
      replace hF := hF.mono Lw5
      replace h1 := h1.mono Lw5
      replace h2 := h2.mono Lw5
      replace h3 := h3.mono Lw5
      replace hn19 := hn19.mono Lw5
      have hn34 := hf34.nat hM34; replace hf34 := hf34.less hS34
      refine ops_guard_t rfl rfl ?_
      first | refine ops_len rfl Try.underlying23 rfl ?_ | refine ops_lens rfl Try.underlying23 rfl (IsNat.slc (by assumption)) ?_ | refine ops_lenn rfl Try.underlying23 rfl (by assumption) ?_ | refine ops_leno rfl Try.underlying23 rfl (by assumption) ?_
      refine ops_guard_t rfl rfl ?_
      refine ops_eq rfl rfl rfl ?_
      refine ops_pick rfl rfl rfl ?_
      refine ops_move rfl rfl ?_
      refine ops_dcase (d := 38) rfl (fun hg1_22 => ?_) (fun hg1_22 => ?_)
      · refine ops_guard_f rfl rfl rfl rfl ?_
        refine ops_guard_f rfl rfl rfl rfl ?_
        refine ops_guard_f rfl rfl rfl rfl ?_
        refine ops_guard_f rfl rfl rfl rfl ?_
        refine ops_pick rfl rfl rfl ?_
        refine ops_nil ?_
        refine SL.wp_cond_t rfl ?_
        refine SL.wp_seq ?_
        refine SL.wp_region ?_
        refine ops_callv rfl bod50 rfl rfl ?_
        refine (wakes3_c (M := M) hM).mono ?_
        rintro v44 w6 ⟨hB44, rfl⟩
        have Lw6 := Le.of_below (Fz := Fz) (M := M) hB44
        replace LL := LL.trans Lw6
        replace hM := hM.mono Lw6
        replace hF := hF.mono Lw6
        replace h1 := h1.mono Lw6
        replace h2 := h2.mono Lw6
        replace h3 := h3.mono Lw6
        replace hn19 := hn19.mono Lw6
        replace hn34 := hn34.mono Lw6
        refine ops_assign rfl rfl ?_
        refine ops_nil ?_
        refine SL.wp_ret ?_
        refine leave_nil ⟨[_], ⟨rfl, trivial⟩, ?_⟩
        dsimp only [resVal]
        subst hFz
        exact ⟨LL.below (Nat.le_refl _), by first | rfl | simp⟩
      · refine ops_guard_t rfl rfl ?_
        refine ops_move rfl rfl ?_
        refine ops_guard_t rfl rfl ?_
        refine ops_callv rfl bod26 rfl rfl ?_
        refine (rtrim_c (M := M) (by assumption) (by omega) hM).mono ?_
        rintro v40 w7 ⟨hB40, hf40⟩
        have hM40 := hM; have hS40 := LL.size
        have Lw7 := Le.of_below (Fz := Fz) (M := M) hB40
        replace LL := LL.trans Lw7
        replace hM := hM.mono Lw7
        replace hF := hF.mono Lw7
        replace h1 := h1.mono Lw7
        replace h2 := h2.mono Lw7
        replace h3 := h3.mono Lw7
        replace hn19 := hn19.mono Lw7
        replace hn34 := hn34.mono Lw7
        have hn40 := hf40.nat hM40; replace hf40 := hf40.less hS40
        refine ops_guard_t rfl rfl ?_
        first | refine ops_len rfl Try.underlying23 rfl ?_ | refine ops_lens rfl Try.underlying23 rfl (IsNat.slc (by assumption)) ?_ | refine ops_lenn rfl Try.underlying23 rfl (by assumption) ?_ | refine ops_leno rfl Try.underlying23 rfl (by assumption) ?_
        refine ops_guard_t rfl rfl ?_
        refine ops_eq rfl rfl rfl ?_
        refine ops_pick rfl rfl rfl ?_
        refine ops_nil ?_
        refine SL.wp_cond_d rfl (fun hc0 => ?_) (fun hc0 => ?_)
        · refine SL.wp_seq ?_
          refine SL.wp_region ?_
          refine ops_callv rfl bod50 rfl rfl ?_
          refine (wakes3_c (M := M) hM).mono ?_
          rintro v44 w8 ⟨hB44, rfl⟩
          have Lw8 := Le.of_below (Fz := Fz) (M := M) hB44
          replace LL := LL.trans Lw8
          replace hM := hM.mono Lw8
          replace hF := hF.mono Lw8
          replace h1 := h1.mono Lw8
          replace h2 := h2.mono Lw8
          replace h3 := h3.mono Lw8
          replace hn19 := hn19.mono Lw8
          replace hn34 := hn34.mono Lw8
          replace hn40 := hn40.mono Lw8
          refine ops_assign rfl rfl ?_
          refine ops_nil ?_
          refine SL.wp_ret ?_
          refine leave_nil ⟨[_], ⟨rfl, trivial⟩, ?_⟩
          dsimp only [resVal]
          subst hFz
          exact ⟨LL.below (Nat.le_refl _), by first | rfl | simp⟩
        · have hy0 : val ys ≠ 0 := fun c => hg1_22 (by rw [c, limbs_zero]; rfl)
          have hz0 : val zs ≠ 0 := fun c => hc0 (by rw [c, limbs_zero]; rfl)
          have hyz : val ys * val zs ≠ 0 := Nat.mul_ne_zero hy0 hz0
          have hxl := val_lt_pow h1.lt hq4
          have hl1 := limbs_length_le (Nat.lt_of_le_of_lt (Nat.div_le_self (val xs) (val ys)) hxl)
          have hl2 := mul_len (val_lt_pow h2.lt hq5) (val_lt_pow h3.lt hq6)
          refine SL.wp_skip ?_
          refine SL.wp_seq ?_
          refine SL.wp_region ?_
          refine ops_move rfl rfl ?_
          refine ops_move rfl rfl ?_
          refine ops_callv rfl bod51 rfl rfl ?_
          refine (div_c (M := M) h1 h2 (by omega) (by omega) hM).mono ?_
          rintro v48 w9 ⟨hB48, q48, s48, rfl, hf48, hg48⟩
          have hM48 := hM; have hS48 := LL.size
          have Lw9 := Le.of_below (Fz := Fz) (M := M) hB48
          replace LL := LL.trans Lw9
          replace hM := hM.mono Lw9
          replace hF := hF.mono Lw9
          replace h1 := h1.mono Lw9
          replace h2 := h2.mono Lw9
          replace h3 := h3.mono Lw9
          replace hn19 := hn19.mono Lw9
          replace hn34 := hn34.mono Lw9
          replace hn40 := hn40.mono Lw9
          have hn48 := hf48.nat hM48; have hm48 := hg48.nat hM48
          refine ops_move rfl rfl ?_
          refine ops_extract rfl rfl rfl ?_
          refine ops_extract rfl rfl rfl ?_
          refine ops_extract rfl rfl rfl ?_
          refine ops_assign rfl rfl ?_
          refine ops_assign rfl rfl ?_
          refine ops_assign rfl rfl ?_
          refine ops_nil ?_
          refine SL.wp_seq ?_
          refine SL.wp_region ?_
          refine ops_move rfl rfl ?_
          refine ops_move rfl rfl ?_
          refine ops_callv rfl bod51 rfl rfl ?_
          refine (div_c (M := M) hn48 h3 (by omega) (by omega) hM).mono ?_
          rintro v55 w10 ⟨hB55, q55, s55, rfl, hf55, hg55⟩
          have hM55 := hM; have hS55 := LL.size
          have Lw10 := Le.of_below (Fz := Fz) (M := M) hB55
          replace LL := LL.trans Lw10
          replace hM := hM.mono Lw10
          replace hF := hF.mono Lw10
          replace h1 := h1.mono Lw10
          replace h2 := h2.mono Lw10
          replace h3 := h3.mono Lw10
          replace hn19 := hn19.mono Lw10
          replace hn34 := hn34.mono Lw10
          replace hn40 := hn40.mono Lw10
          replace hn48 := hn48.mono Lw10
          replace hm48 := hm48.mono Lw10
          have hn55 := hf55.nat hM55; have hm55 := hg55.nat hM55
          refine ops_move rfl rfl ?_
          refine ops_extract rfl rfl rfl ?_
          refine ops_extract rfl rfl rfl ?_
          refine ops_extract rfl rfl rfl ?_
          refine ops_assign rfl rfl ?_
          refine ops_assign rfl rfl ?_
          refine ops_assign rfl rfl ?_
          refine ops_nil ?_
          refine SL.wp_seq ?_
          refine SL.wp_region ?_
          refine ops_move rfl rfl ?_
          refine ops_move rfl rfl ?_
          refine ops_move rfl rfl ?_
          refine ops_callv rfl bod43 rfl rfl ?_
          refine (rmul_c (M := M) (by assumption) (by assumption) (by omega) (by omega) hM).mono ?_
          rintro v63 w11 ⟨hB63, hf63⟩
          have hM63 := hM; have hS63 := LL.size
          have Lw11 := Le.of_below (Fz := Fz) (M := M) hB63
          replace LL := LL.trans Lw11
          replace hM := hM.mono Lw11
          replace hF := hF.mono Lw11
          replace h1 := h1.mono Lw11
          replace h2 := h2.mono Lw11
          replace h3 := h3.mono Lw11
          replace hn19 := hn19.mono Lw11
          replace hn34 := hn34.mono Lw11
          replace hn40 := hn40.mono Lw11
          replace hn48 := hn48.mono Lw11
          replace hm48 := hm48.mono Lw11
          replace hn55 := hn55.mono Lw11
          replace hm55 := hm55.mono Lw11
          have hn63 := hf63.nat hM63; replace hf63 := hf63.less hS63
          refine ops_callv rfl bod51 rfl rfl ?_
          refine (div_c (M := M) h1 hn63 (by omega) (by omega) hM).mono ?_
          rintro v64 w12 ⟨hB64, q64, s64, rfl, hf64, hg64⟩
          have hM64 := hM; have hS64 := LL.size
          have Lw12 := Le.of_below (Fz := Fz) (M := M) hB64
          replace LL := LL.trans Lw12
          replace hM := hM.mono Lw12
          replace hF := hF.mono Lw12
          replace h1 := h1.mono Lw12
          replace h2 := h2.mono Lw12
          replace h3 := h3.mono Lw12
          replace hn19 := hn19.mono Lw12
          replace hn34 := hn34.mono Lw12
          replace hn40 := hn40.mono Lw12
          replace hn48 := hn48.mono Lw12
          replace hm48 := hm48.mono Lw12
          replace hn55 := hn55.mono Lw12
          replace hm55 := hm55.mono Lw12
          replace hn63 := hn63.mono Lw12
          have hn64 := hf64.nat hM64; have hm64 := hg64.nat hM64
          refine ops_move rfl rfl ?_
          refine ops_extract rfl rfl rfl ?_
          refine ops_extract rfl rfl rfl ?_
          refine ops_extract rfl rfl rfl ?_
          refine ops_assign rfl rfl ?_
          refine ops_assign rfl rfl ?_
          refine ops_assign rfl rfl ?_
          refine ops_nil ?_
          refine SL.wp_seq ?_
          refine SL.wp_region ?_
          refine ops_move rfl rfl ?_
          refine ops_eq rfl rfl rfl ?_
          refine ops_bt (d := 69) rfl (by simp [hy0]) ?_
          refine ops_move rfl rfl ?_
          refine ops_guard_t rfl rfl ?_
          refine ops_move rfl rfl ?_
          refine ops_guard_t rfl rfl ?_
          refine ops_eq rfl rfl rfl ?_
          refine ops_bt (d := 72) rfl (by simp [hz0]) ?_
          refine ops_pick rfl rfl rfl ?_
          refine ops_move rfl rfl ?_
          refine ops_guard_t rfl rfl ?_
          refine ops_move rfl rfl ?_
          refine ops_guard_t rfl rfl ?_
          refine ops_eq rfl rfl rfl ?_
          refine ops_bt (d := 76) rfl (by simp [val_limbs, hyz]) ?_
          refine ops_pick rfl rfl rfl ?_
          refine ops_move rfl rfl ?_
          refine ops_guard_t rfl rfl ?_
          refine ops_move rfl rfl ?_
          refine ops_guard_t rfl rfl ?_
          refine ops_move rfl rfl ?_
          refine ops_guard_t rfl rfl ?_
          refine ops_callv rfl bod52 rfl rfl ?_
          refine (same3_c (M := M) hn55 hn64 hM).mono ?_
          rintro v81 w13 ⟨hB81, rfl⟩
          have Lw13 := Le.of_below (Fz := Fz) (M := M) hB81
          replace LL := LL.trans Lw13
          replace hM := hM.mono Lw13
          replace hF := hF.mono Lw13
          replace h1 := h1.mono Lw13
          replace h2 := h2.mono Lw13
          replace h3 := h3.mono Lw13
          replace hn19 := hn19.mono Lw13
          replace hn34 := hn34.mono Lw13
          replace hn40 := hn40.mono Lw13
          replace hn48 := hn48.mono Lw13
          replace hm48 := hm48.mono Lw13
          replace hn55 := hn55.mono Lw13
          replace hm55 := hm55.mono Lw13
          replace hn63 := hn63.mono Lw13
          replace hn64 := hn64.mono Lw13
          replace hm64 := hm64.mono Lw13
          refine ops_bt (d := 81) rfl (by simp [val_limbs, Nat.div_div_eq_div_mul]) ?_
          refine ops_pick rfl rfl rfl ?_
          refine ops_move rfl rfl ?_
          refine ops_guard_t rfl rfl ?_
          refine ops_callv rfl bod50 rfl rfl ?_
          refine (wakes3_c (M := M) hM).mono ?_
          rintro v84 w14 ⟨hB84, rfl⟩
          have Lw14 := Le.of_below (Fz := Fz) (M := M) hB84
          replace LL := LL.trans Lw14
          replace hM := hM.mono Lw14
          replace hF := hF.mono Lw14
          replace h1 := h1.mono Lw14
          replace h2 := h2.mono Lw14
          replace h3 := h3.mono Lw14
          replace hn19 := hn19.mono Lw14
          replace hn34 := hn34.mono Lw14
          replace hn40 := hn40.mono Lw14
          replace hn48 := hn48.mono Lw14
          replace hm48 := hm48.mono Lw14
          replace hn55 := hn55.mono Lw14
          replace hm55 := hm55.mono Lw14
          replace hn63 := hn63.mono Lw14
          replace hn64 := hn64.mono Lw14
          replace hm64 := hm64.mono Lw14
          refine ops_pick rfl rfl rfl ?_
          refine ops_assign rfl rfl ?_
          refine ops_nil ?_
          refine SL.wp_ret ?_
          refine leave_nil ⟨[_], ⟨rfl, trivial⟩, ?_⟩
          dsimp only [resVal]
          subst hFz
          exact ⟨LL.below (Nat.le_refl _), by first | rfl | simp⟩

end Go.Proofs.Ytffakiheophioaa
