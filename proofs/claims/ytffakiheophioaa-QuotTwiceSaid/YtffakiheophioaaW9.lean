import Derived.Test.YtffakiheophioaaW8
import Derived.Test.YtffakiheophioaaSLo
import Derived.Test.YtffakiheophioaaSLn
set_option linter.unusedVariables false
set_option linter.unusedSimpArgs false
set_option maxRecDepth 100000
namespace Go.Proofs.Ytffakiheophioaa
open Go.SL Go.RowKit Go.Proofs

theorem natSmall_c {M : Nat → Prop} {w : World} {n m : Nat} {j : Int} (hn : n < 18446744073709551616) (hm : m < 18446744073709551616) (hj1 : -9223372036854775808 ≤ j) (hj2 : j ≤ 9223372036854775807) (hM : OkM M w) :
    CallsV Try.prog 6 [.int .u64 (n : Int), .int .u64 (m : Int), .int .i64 j] w fun r w' => Below w.heap.size w w' ∧ r = .bool true := by
  obtain ⟨Fz, hFz⟩ : ∃ Fz : Nat → Prop, Fz = (· < w.heap.size) := ⟨_, rfl⟩
  have hF : FOk Fz w := by subst hFz; exact fun _ h => h
  have hq1 := limbs2 hn; have hq2 := limbs2 hm
  have LL := Le.refl Fz M w; have hM0 := hM
  refine calls_intro Try.func6 rfl Try.ntmps6 rfl ?_
  refine SL.wp_seq ?_
  refine SL.wp_region ?_
  refine ops_assign rfl rfl ?_
  refine ops_nil ?_
  refine SL.wp_seq ?_
  refine SL.wp_seq ?_
  refine SL.wp_region ?_
  refine ops_move rfl rfl ?_
  refine ops_lt rfl rfl rfl ?_
  refine ops_move rfl rfl ?_
  refine ops_dcase (d := 21) rfl (fun hg1_2 => ?_) (fun hg1_2 => ?_)
  · refine ops_guard_f rfl rfl rfl rfl ?_
    refine ops_guard_f rfl rfl rfl rfl ?_
    refine ops_pick rfl rfl rfl ?_
    refine ops_nil ?_
    refine SL.wp_cond_t rfl ?_
    refine SL.wp_seq ?_
    refine SL.wp_region ?_
    refine ops_callv rfl bod17 rfl rfl ?_
    refine (wakes1_c (M := M) hM).mono ?_
    rintro v25 w1 ⟨hB25, rfl⟩
    have Lw1 := Le.of_below (Fz := Fz) (M := M) hB25
    replace LL := LL.trans Lw1
    replace hM := hM.mono Lw1
    replace hF := hF.mono Lw1
    refine ops_assign rfl rfl ?_
    refine ops_nil ?_
    refine SL.wp_ret ?_
    refine leave_nil ⟨[_], ⟨rfl, trivial⟩, ?_⟩
    dsimp only [resVal]
    subst hFz
    exact ⟨LL.below (Nat.le_refl _), by first | rfl | simp⟩
  · refine ops_guard_t rfl rfl ?_
    refine ops_move rfl rfl ?_
    refine ops_guard_t rfl rfl ?_
    refine ops_gt rfl rfl rfl ?_
    refine ops_pick rfl rfl rfl ?_
    refine ops_nil ?_
    refine SL.wp_cond_d rfl (fun hc0 => ?_) (fun hc0 => ?_)
    · refine SL.wp_seq ?_
      refine SL.wp_region ?_
      refine ops_callv rfl bod17 rfl rfl ?_
      refine (wakes1_c (M := M) hM).mono ?_
      rintro v25 w2 ⟨hB25, rfl⟩
      have Lw2 := Le.of_below (Fz := Fz) (M := M) hB25
      replace LL := LL.trans Lw2
      replace hM := hM.mono Lw2
      replace hF := hF.mono Lw2
      refine ops_assign rfl rfl ?_
      refine ops_nil ?_
      refine SL.wp_ret ?_
      refine leave_nil ⟨[_], ⟨rfl, trivial⟩, ?_⟩
      dsimp only [resVal]
      subst hFz
      exact ⟨LL.below (Nat.le_refl _), by first | rfl | simp⟩
    · obtain ⟨k, rfl⟩ := Int.eq_ofNat_of_zero_le (a := j) (by omega)
      refine SL.wp_skip ?_
      refine SL.wp_seq ?_
      refine SL.wp_region ?_
      refine ops_move rfl rfl ?_
      refine ops_callv rfl bod27 rfl rfl ?_
      refine (of_c (M := M) (by omega) hM).mono ?_
      rintro v27 w3 ⟨hB27, hf27⟩
      have hM27 := hM; have hS27 := LL.size
      have Lw3 := Le.of_below (Fz := Fz) (M := M) hB27
      replace LL := LL.trans Lw3
      replace hM := hM.mono Lw3
      replace hF := hF.mono Lw3
      have hn27 := hf27.nat hM27; replace hf27 := hf27.less hS27
      refine ops_move rfl rfl ?_
      refine ops_callv rfl bod27 rfl rfl ?_
      refine (of_c (M := M) (by omega) hM).mono ?_
      rintro v29 w4 ⟨hB29, hf29⟩
      have hM29 := hM; have hS29 := LL.size
      have Lw4 := Le.of_below (Fz := Fz) (M := M) hB29
      replace LL := LL.trans Lw4
      replace hM := hM.mono Lw4
      replace hF := hF.mono Lw4
      replace hn27 := hn27.mono Lw4
      have hn29 := hf29.nat hM29; replace hf29 := hf29.less hS29
      refine ops_assign rfl rfl ?_
      refine ops_assign rfl rfl ?_
      refine ops_nil ?_
      refine SL.wp_seq ?_
      refine SL.wp_region ?_
      refine ops_buildSlice rfl Try.underlying23 sz43 rfl rfl rfl (by simp) rfl (fun w5 b30 N30 => ?_)
      have nF30 := hF.new N30; have nM30 := hM.new N30; have hBw5 := N30.below
      have Lw5 := Le.of_new_mo (Fz := Fz) (M := M) (v := Value.slice (some ⟨b30, 0, none⟩) 0 0) N30 rfl
      replace LL := LL.trans Lw5
      replace hM := hM.mono Lw5
      replace hF := hF.mono Lw5
      replace hn27 := hn27.mono Lw5
      replace hn29 := hn29.mono Lw5
      have Of : ∀ k, (Value.slice (some ⟨b30, 0, none⟩) 0 0).ownBlock = some k → ¬ Fz k := slice_own nF30
      have Om : ∀ k, (Value.slice (some ⟨b30, 0, none⟩) 0 0).ownBlock = some k → ¬ M k := slice_own nM30
      have Ow := own_blk (n := 0) (c := 0) N30.blk rfl (Nat.le_refl _) (by omega)
      refine ops_move rfl rfl ?_
      refine ops_append rfl Try.underlying23 sz43 rfl rfl rfl Ow hn27.slc (lw_one _) (by omega) (by omega) (fun v32 w6 A32 G32 S32 => ?_)
      have Lw6 := Le.of_grown (Fz := Fz) (M := M) G32 S32 A32 Of
      have Omo32 := Om
      replace Of := own_step_f (w' := w6) Of hF S32; replace Om := own_step_m (w' := w6) Om (fun k hk => hM k (.inr hk)) S32
      replace LL := LL.trans Lw6
      replace hM := hM.mono Lw6
      replace hF := hF.mono Lw6
      replace hn27 := hn27.mono Lw6
      replace hn29 := hn29.mono Lw6
      clear Ow; have Ow := A32
      refine ops_move rfl rfl ?_
      refine ops_append0 (m := k) rfl Try.underlying23 Try.underlying3 sz43 rfl rfl rfl rfl Ow (by omega) (by simp; omega) (by simp; omega) (fun v34 w7 A34 G34 S34 => ?_)
      have Lw7 := Le.of_grown (Fz := Fz) (M := M) G34 S34 A34 Of
      replace Of := own_step_f (w' := w7) Of hF S34; replace Om := own_step_m (w' := w7) Om (fun k hk => hM k (.inr hk)) S34
      replace LL := LL.trans Lw7
      replace hM := hM.mono Lw7
      replace hF := hF.mono Lw7
      replace hn27 := hn27.mono Lw7
      replace hn29 := hn29.mono Lw7
      clear Ow; have Ow := A34
      have Ow34 := own_below Ow (Below.refl _ _)
      have Ld := Le.less (Fz := Fz) (w := w7) (M := (Mo v34 M)) (M' := M) fun k hk => .inr hk
      replace LL := LL.trans Ld
      replace hM := hM.mono Ld
      replace hF := hF.mono Ld
      replace hn27 := hn27.mono Ld
      replace hn29 := hn29.mono Ld
      clear Ld
      have hn34 : IsNat M w7 v34 (limbs n ++ List.replicate k 0) := ⟨own_slc (n := (limbs n ++ List.replicate k 0).length) (by simpa [lw] using Ow) Om (by simp; omega), by intro x hx; simp at hx; first | (rcases hx with hx | ⟨_, rfl⟩ <;> first | exact limbs_lt _ _ hx | omega) | exact limbs_lt _ _ hx⟩
      have hv34 : val (limbs n ++ List.replicate k 0) = n := val_pad n k
      have hl34 : (limbs n ++ List.replicate k 0).length ≤ 1000 := by simp; omega
      generalize limbs n ++ List.replicate k 0 = zs at hn34 hv34 hl34
      refine ops_assign rfl rfl ?_
      refine ops_nil ?_
      refine SL.wp_seq ?_
      refine SL.wp_region ?_
      refine ops_move rfl rfl ?_
      refine ops_callv rfl bod18 rfl rfl ?_
      refine (small_c (M := M) (by assumption) (by omega) hM).mono ?_
      rintro v37 w8 ⟨hB37, rfl⟩
      have Lw8 := Le.of_below (Fz := Fz) (M := M) hB37
      replace LL := LL.trans Lw8
      replace hM := hM.mono Lw8
      replace hF := hF.mono Lw8
      replace hn27 := hn27.mono Lw8
      replace hn29 := hn29.mono Lw8
      replace hn34 := hn34.mono Lw8
      refine ops_move rfl rfl ?_
      refine ops_extract rfl rfl rfl ?_
      refine ops_extract rfl rfl rfl ?_
      refine ops_assign rfl rfl ?_
      refine ops_assign rfl rfl ?_
      refine ops_nil ?_
      refine SL.wp_seq ?_
      refine SL.wp_seq ?_
      refine SL.wp_region ?_
      refine ops_move rfl rfl ?_
      refine ops_move rfl rfl ?_
      refine ops_ne rfl rfl rfl ?_
      refine ops_move rfl rfl ?_
      refine ops_bf (d := 43) rfl ((by first | (simp [hv34, val_limbs, smallN, cmpN_self]; done) | (simp [hv34, val_limbs, smallN, cmpN]; omega) | (simp [hv34, val_limbs, smallN, cmpN, *]; done) | (exfalso; omega))) ?_
      refine ops_guard_t rfl rfl ?_
      refine ops_move rfl rfl ?_
      refine ops_guard_t rfl rfl ?_
      refine ops_not rfl rfl ?_
      refine ops_pick rfl rfl rfl ?_
      refine ops_move rfl rfl ?_
      refine ops_bf (d := 47) rfl ((by first | (simp [hv34, val_limbs, smallN, cmpN_self]; done) | (simp [hv34, val_limbs, smallN, cmpN]; omega) | (simp [hv34, val_limbs, smallN, cmpN, *]; done) | (exfalso; omega))) ?_
      refine ops_guard_t rfl rfl ?_
      refine ops_move rfl rfl ?_
      refine ops_guard_t rfl rfl ?_
      refine ops_move rfl rfl ?_
      refine ops_guard_t rfl rfl ?_
      refine ops_callv rfl bod23 rfl rfl ?_
      refine (cmp_c (M := M) (by assumption) (by assumption) (by omega) (by omega) hM).mono ?_
      rintro v50 w9 ⟨hB50, rfl⟩
      have Lw9 := Le.of_below (Fz := Fz) (M := M) hB50
      replace LL := LL.trans Lw9
      replace hM := hM.mono Lw9
      replace hF := hF.mono Lw9
      replace hn27 := hn27.mono Lw9
      replace hn29 := hn29.mono Lw9
      replace hn34 := hn34.mono Lw9
      refine ops_guard_t rfl rfl ?_
      refine ops_ne rfl rfl rfl ?_
      refine ops_pick rfl rfl rfl ?_
      refine ops_move rfl rfl ?_
      refine ops_bf (d := 53) rfl ((by first | (simp [hv34, val_limbs, smallN, cmpN_self]; done) | (simp [hv34, val_limbs, smallN, cmpN]; omega) | (simp [hv34, val_limbs, smallN, cmpN, *]; done) | (exfalso; omega))) ?_
      refine ops_guard_t rfl rfl ?_
      refine ops_move rfl rfl ?_
      refine ops_guard_t rfl rfl ?_
      refine ops_callv rfl bod25 rfl rfl ?_
      refine (trim_c (M := M) (by assumption) (by omega) hM).mono ?_
      rintro v55 w10 ⟨hB55, hf55⟩
      have hM55 := hM; have hS55 := LL.size
      have Lw10 := Le.of_below (Fz := Fz) (M := M) hB55
      replace LL := LL.trans Lw10
      replace hM := hM.mono Lw10
      replace hF := hF.mono Lw10
      replace hn27 := hn27.mono Lw10
      replace hn29 := hn29.mono Lw10
      replace hn34 := hn34.mono Lw10
      have hn55 := hf55.nat hM55; replace hf55 := hf55.less hS55
      refine ops_guard_t rfl rfl ?_
      refine ops_move rfl rfl ?_
      refine ops_guard_t rfl rfl ?_
      refine ops_callv rfl bod22 rfl rfl ?_
      refine (same1_c (M := M) (by assumption) (by assumption) hM).mono ?_
      rintro v57 w11 ⟨hB57, rfl⟩
      have Lw11 := Le.of_below (Fz := Fz) (M := M) hB57
      replace LL := LL.trans Lw11
      replace hM := hM.mono Lw11
      replace hF := hF.mono Lw11
      replace hn27 := hn27.mono Lw11
      replace hn29 := hn29.mono Lw11
      replace hn34 := hn34.mono Lw11
      replace hn55 := hn55.mono Lw11
      refine ops_guard_t rfl rfl ?_
      refine ops_not rfl rfl ?_
      refine ops_bf (d := 58) rfl ((by first | (simp [hv34, val_limbs, smallN, cmpN_self]; done) | (simp [hv34, val_limbs, smallN, cmpN]; omega) | (simp [hv34, val_limbs, smallN, cmpN, *]; done) | (exfalso; omega))) ?_
      refine ops_pick rfl rfl rfl ?_
      refine ops_nil ?_
      refine SL.wp_cond_f rfl ?_
      refine SL.wp_skip ?_
      refine SL.wp_seq ?_
      refine SL.wp_region ?_
      refine ops_move rfl rfl ?_
      refine ops_move rfl rfl ?_
      refine ops_buildSlice rfl Try.underlying24 sz23 rfl rfl rfl (one2 (by first | rfl | exact nat_one (by assumption) | exact own_one (by assumption)) (by first | rfl | exact nat_one (by assumption) | exact own_one (by assumption))) rfl (fun w12 b63 N63 => ?_)
      have hBw12 := N63.below
      have nM63 := hM.new N63; have B63 := N63.blk
      have Lw12 := Le.of_below (Fz := Fz) (M := M) hBw12
      replace LL := LL.trans Lw12
      replace hM := hM.mono Lw12
      replace hF := hF.mono Lw12
      replace hn27 := hn27.mono Lw12
      replace hn29 := hn29.mono Lw12
      replace hn34 := hn34.mono Lw12
      replace hn55 := hn55.mono Lw12
      have hn63 := nats2 B63 nM63 hn27 hn29
      refine ops_callv rfl bod29 rfl rfl ?_
      refine (add2_c (M := M) hn63 (limbs_lt _) (limbs_lt _) (by omega) (by omega) hM).mono ?_
      rintro v64 w13 ⟨hB64, hf64, hl64⟩
      have hM64 := hM; have hS64 := LL.size
      have Lw13 := Le.of_below (Fz := Fz) (M := M) hB64
      replace LL := LL.trans Lw13
      replace hM := hM.mono Lw13
      replace hF := hF.mono Lw13
      replace hn27 := hn27.mono Lw13
      replace hn29 := hn29.mono Lw13
      replace hn34 := hn34.mono Lw13
      replace hn55 := hn55.mono Lw13
      replace hn63 := hn63.mono Lw13
      simp only [val_limbs] at hf64 hl64
      have hn64 := hf64.nat hM64; replace hf64 := hf64.less hS64
      refine ops_callv rfl bod18 rfl rfl ?_
      refine (small_c (M := M) (by assumption) (by omega) hM).mono ?_
      rintro v65 w14 ⟨hB65, rfl⟩
      have Lw14 := Le.of_below (Fz := Fz) (M := M) hB65
      replace LL := LL.trans Lw14
      replace hM := hM.mono Lw14
      replace hF := hF.mono Lw14
      replace hn27 := hn27.mono Lw14
      replace hn29 := hn29.mono Lw14
      replace hn34 := hn34.mono Lw14
      replace hn55 := hn55.mono Lw14
      replace hn63 := hn63.mono Lw14
      replace hn64 := hn64.mono Lw14
      refine ops_move rfl rfl ?_
      refine ops_extract rfl rfl rfl ?_
      refine ops_extract rfl rfl rfl ?_
      refine ops_assign rfl rfl ?_
      refine ops_assign rfl rfl ?_
      refine ops_nil ?_
      refine SL.wp_seq ?_
      refine SL.wp_region ?_
      refine ops_move rfl rfl ?_
      refine ops_move rfl rfl ?_
      refine ops_callv rfl bod20 rfl rfl ?_
      refine (sub_d (M := M) (by assumption) (by assumption) (by omega) (by omega) hM).mono ?_
      rintro v71 w15 ⟨hB71, q71, rfl, hf71⟩
      have hM71 := hM; have hS71 := LL.size
      have Lw15 := Le.of_below (Fz := Fz) (M := M) hB71
      replace LL := LL.trans Lw15
      replace hM := hM.mono Lw15
      replace hF := hF.mono Lw15
      replace hn27 := hn27.mono Lw15
      replace hn29 := hn29.mono Lw15
      replace hn34 := hn34.mono Lw15
      replace hn55 := hn55.mono Lw15
      replace hn63 := hn63.mono Lw15
      replace hn64 := hn64.mono Lw15
      have hn71 := hf71.nat hM71; replace hf71 := hf71.less hS71
      refine ops_move rfl rfl ?_
      refine ops_extract rfl rfl rfl ?_
      refine ops_extract rfl rfl rfl ?_
      refine ops_assign rfl rfl ?_
      refine ops_assign rfl rfl ?_
      refine ops_nil ?_
      refine SL.wp_seq ?_
      refine SL.wp_region ?_
      refine ops_move rfl rfl ?_
      refine ops_callv rfl bod18 rfl rfl ?_
      refine (small_c (M := M) (by assumption) (by have := limbs_val_length_le zs hn34.lt; have := limbs_length_le (n := val zs - val (limbs m)) (k := 2) (by rw [hv34, val_limbs]; exact Nat.lt_of_lt_of_eq (show n - m < 18446744073709551616 by omega) (by decide)); omega) hM).mono ?_
      rintro v76 w16 ⟨hB76, rfl⟩
      have Lw16 := Le.of_below (Fz := Fz) (M := M) hB76
      replace LL := LL.trans Lw16
      replace hM := hM.mono Lw16
      replace hF := hF.mono Lw16
      replace hn27 := hn27.mono Lw16
      replace hn29 := hn29.mono Lw16
      replace hn34 := hn34.mono Lw16
      replace hn55 := hn55.mono Lw16
      replace hn63 := hn63.mono Lw16
      replace hn64 := hn64.mono Lw16
      replace hn71 := hn71.mono Lw16
      refine ops_move rfl rfl ?_
      refine ops_extract rfl rfl rfl ?_
      refine ops_extract rfl rfl rfl ?_
      refine ops_assign rfl rfl ?_
      refine ops_assign rfl rfl ?_
      refine ops_nil ?_
      refine SL.wp_seq ?_
      refine SL.wp_region ?_
      refine ops_assign rfl rfl ?_
      refine ops_nil ?_
      refine SL.wp_seq ?_
      refine SL.wp_block ?_
      refine SL.wp_seq ?_
      refine SL.wp_region ?_
      refine ops_move rfl rfl ?_
      refine ops_move rfl rfl ?_
      refine ops_lt rfl rfl rfl ?_
      refine ops_assign rfl rfl ?_
      refine ops_nil ?_
      refine SL.wp_cond_d rfl (fun hc1 => ?_) (fun hc1 => ?_)
      · refine SL.wp_region ?_
        refine ops_assign rfl rfl ?_
        refine ops_nil ?_
        refine SL.wp_seq ?_
        refine SL.wp_region ?_
        refine ops_move rfl rfl ?_
        refine ops_move rfl rfl ?_
        refine ops_move rfl rfl ?_
        first | refine ops_addv rfl rfl rfl (by omega) ?_ | refine ops_addu rfl rfl rfl ?_
        refine ops_move rfl rfl ?_
        refine ops_ge rfl rfl rfl ?_
        refine ops_beq rfl rfl rfl Try.underlying4 ?_
        refine ops_move rfl rfl ?_
        refine ops_bt (d := 94) rfl (by rw [val_limbs]; exact fits_eq hn hm) ?_
        refine ops_guard_t rfl rfl ?_
        refine ops_move rfl rfl ?_
        refine ops_guard_t rfl rfl ?_
        refine ops_notd rfl rfl ?_
        refine ops_guard_t rfl rfl ?_
        refine ops_move rfl rfl ?_
        refine ops_dcase (d := 97) rfl (fun hg16_10 => ?_) (fun hg16_10 => ?_)
        · refine ops_guard_f rfl rfl rfl rfl ?_
          refine ops_guard_f rfl rfl rfl rfl ?_
          refine ops_guard_f rfl rfl rfl rfl ?_
          refine ops_guard_f rfl rfl rfl rfl ?_
          refine ops_guard_f rfl rfl rfl rfl ?_
          refine ops_guard_t rfl rfl ?_
          refine ops_pick rfl rfl rfl ?_
          refine ops_pick rfl rfl rfl ?_
          refine ops_move rfl rfl ?_
          refine ops_guard_t rfl rfl ?_
          refine ops_move rfl rfl ?_
          refine ops_guard_t rfl rfl ?_
          refine ops_eq rfl rfl rfl ?_
          refine ops_guard_t rfl rfl ?_
          refine ops_move rfl rfl ?_
          refine ops_guard_t rfl rfl ?_
          refine ops_move rfl rfl ?_
          refine ops_guard_t rfl rfl ?_
          refine ops_ge rfl rfl rfl ?_
          refine ops_guard_t rfl rfl ?_
          refine ops_beq rfl rfl rfl Try.underlying4 ?_
          refine ops_bt (d := 111) rfl (by rw [hv34, val_limbs]; exact order_g _ _) ?_
          refine ops_pick rfl rfl rfl ?_
          refine ops_move rfl rfl ?_
          refine ops_guard_t rfl rfl ?_
          refine ops_move rfl rfl ?_
          refine ops_bt (d := 114) rfl ((by first | (simp [hv34, val_limbs, smallN, cmpN_self]; done) | (simp [hv34, val_limbs, smallN, cmpN]; omega) | (simp [hv34, val_limbs, smallN, cmpN, *]; done) | (exfalso; omega))) ?_
          refine ops_pick rfl rfl rfl ?_
          refine ops_move rfl rfl ?_
          refine ops_guard_t rfl rfl ?_
          refine ops_move rfl rfl ?_
          refine ops_guard_t rfl rfl ?_
          refine ops_move rfl rfl ?_
          refine ops_guard_t rfl rfl ?_
          refine ops_lt rfl rfl rfl ?_
          refine ops_guard_t rfl rfl ?_
          refine ops_move rfl rfl ?_
          refine ops_dcase (d := 120) rfl (fun hg16_33 => ?_) (fun hg16_33 => ?_)
          · refine ops_guard_f rfl rfl rfl rfl ?_
            refine ops_guard_f rfl rfl rfl rfl ?_
            refine ops_guard_f rfl rfl rfl rfl ?_
            refine ops_guard_f rfl rfl rfl rfl ?_
            refine ops_guard_f rfl rfl rfl rfl ?_
            refine ops_guard_t rfl rfl ?_
            refine ops_pick rfl rfl rfl ?_
            refine ops_pick rfl rfl rfl ?_
            refine ops_move rfl rfl ?_
            refine ops_guard_t rfl rfl ?_
            refine ops_move rfl rfl ?_
            refine ops_guard_t rfl rfl ?_
            refine ops_move rfl rfl ?_
            refine ops_guard_t rfl rfl ?_
            refine ops_callv rfl bod23 rfl rfl ?_
            refine (cmp_c (M := M) (by assumption) (by assumption) (by omega) (by omega) hM).mono ?_
            rintro v131 w17 ⟨hB131, rfl⟩
            have Lw17 := Le.of_below (Fz := Fz) (M := M) hB131
            replace LL := LL.trans Lw17
            replace hM := hM.mono Lw17
            replace hF := hF.mono Lw17
            replace hn27 := hn27.mono Lw17
            replace hn29 := hn29.mono Lw17
            replace hn34 := hn34.mono Lw17
            replace hn55 := hn55.mono Lw17
            replace hn63 := hn63.mono Lw17
            replace hn64 := hn64.mono Lw17
            replace hn71 := hn71.mono Lw17
            refine ops_guard_t rfl rfl ?_
            refine ops_move rfl rfl ?_
            refine ops_guard_t rfl rfl ?_
            refine ops_eq rfl rfl rfl ?_
            refine ops_bt (d := 133) rfl ((by first | (simp [hv34, val_limbs, smallN, cmpN_self]; done) | (simp [hv34, val_limbs, smallN, cmpN]; omega) | (simp [hv34, val_limbs, smallN, cmpN, *]; done) | (exfalso; omega))) ?_
            refine ops_pick rfl rfl rfl ?_
            refine ops_move rfl rfl ?_
            refine ops_guard_t rfl rfl ?_
            refine ops_callv rfl bod17 rfl rfl ?_
            refine (wakes1_c (M := M) hM).mono ?_
            rintro v136 w18 ⟨hB136, rfl⟩
            have Lw18 := Le.of_below (Fz := Fz) (M := M) hB136
            replace LL := LL.trans Lw18
            replace hM := hM.mono Lw18
            replace hF := hF.mono Lw18
            replace hn27 := hn27.mono Lw18
            replace hn29 := hn29.mono Lw18
            replace hn34 := hn34.mono Lw18
            replace hn55 := hn55.mono Lw18
            replace hn63 := hn63.mono Lw18
            replace hn64 := hn64.mono Lw18
            replace hn71 := hn71.mono Lw18
            refine ops_pick rfl rfl rfl ?_
            refine ops_assign rfl rfl ?_
            refine ops_nil ?_
            refine SL.wp_ret ?_
            refine leave_nil ⟨[_], ⟨rfl, trivial⟩, ?_⟩
            dsimp only [resVal]
            subst hFz
            exact ⟨LL.below (Nat.le_refl _), by first | rfl | simp⟩
          · refine ops_guard_t rfl rfl ?_
            refine ops_move rfl rfl ?_
            refine ops_guard_t rfl rfl ?_
            refine ops_move rfl rfl ?_
            refine ops_guard_t rfl rfl ?_
            refine ops_move rfl rfl ?_
            refine ops_guard_t rfl rfl ?_
            first | refine ops_subv rfl rfl rfl (by omega) (by omega) ?_ | refine ops_subu rfl rfl rfl (by omega) ?_
            refine ops_guard_t rfl rfl ?_
            refine ops_eq rfl rfl rfl ?_
            refine ops_bt (d := 125) rfl (by rw [decide_eq_true_eq]; have e1 := val_limbs (n + m); have e2 := val_limbs m; have e3 := val_limbs (val zs - val (limbs m)); unfold smallN; split <;> omega) ?_
            refine ops_guard_t rfl rfl ?_
            refine ops_pick rfl rfl rfl ?_
            refine ops_pick rfl rfl rfl ?_
            refine ops_move rfl rfl ?_
            refine ops_guard_t rfl rfl ?_
            refine ops_move rfl rfl ?_
            refine ops_guard_t rfl rfl ?_
            refine ops_move rfl rfl ?_
            refine ops_guard_t rfl rfl ?_
            refine ops_callv rfl bod23 rfl rfl ?_
            refine (cmp_c (M := M) (by assumption) (by assumption) (by omega) (by omega) hM).mono ?_
            rintro v131 w19 ⟨hB131, rfl⟩
            have Lw19 := Le.of_below (Fz := Fz) (M := M) hB131
            replace LL := LL.trans Lw19
            replace hM := hM.mono Lw19
            replace hF := hF.mono Lw19
            replace hn27 := hn27.mono Lw19
            replace hn29 := hn29.mono Lw19
            replace hn34 := hn34.mono Lw19
            replace hn55 := hn55.mono Lw19
            replace hn63 := hn63.mono Lw19
            replace hn64 := hn64.mono Lw19
            replace hn71 := hn71.mono Lw19
            refine ops_guard_t rfl rfl ?_
            refine ops_move rfl rfl ?_
            refine ops_guard_t rfl rfl ?_
            refine ops_eq rfl rfl rfl ?_
            refine ops_bt (d := 133) rfl ((by first | (simp [hv34, val_limbs, smallN, cmpN_self]; done) | (simp [hv34, val_limbs, smallN, cmpN]; omega) | (simp [hv34, val_limbs, smallN, cmpN, *]; done) | (exfalso; omega))) ?_
            refine ops_pick rfl rfl rfl ?_
            refine ops_move rfl rfl ?_
            refine ops_guard_t rfl rfl ?_
            refine ops_callv rfl bod17 rfl rfl ?_
            refine (wakes1_c (M := M) hM).mono ?_
            rintro v136 w20 ⟨hB136, rfl⟩
            have Lw20 := Le.of_below (Fz := Fz) (M := M) hB136
            replace LL := LL.trans Lw20
            replace hM := hM.mono Lw20
            replace hF := hF.mono Lw20
            replace hn27 := hn27.mono Lw20
            replace hn29 := hn29.mono Lw20
            replace hn34 := hn34.mono Lw20
            replace hn55 := hn55.mono Lw20
            replace hn63 := hn63.mono Lw20
            replace hn64 := hn64.mono Lw20
            replace hn71 := hn71.mono Lw20
            refine ops_pick rfl rfl rfl ?_
            refine ops_assign rfl rfl ?_
            refine ops_nil ?_
            refine SL.wp_ret ?_
            refine leave_nil ⟨[_], ⟨rfl, trivial⟩, ?_⟩
            dsimp only [resVal]
            subst hFz
            exact ⟨LL.below (Nat.le_refl _), by first | rfl | simp⟩
        · refine ops_guard_t rfl rfl ?_
          refine ops_move rfl rfl ?_
          refine ops_guard_t rfl rfl ?_
          refine ops_move rfl rfl ?_
          refine ops_guard_t rfl rfl ?_
          refine ops_move rfl rfl ?_
          refine ops_guard_t rfl rfl ?_
          first | refine ops_addv rfl rfl rfl (by omega) ?_ | refine ops_addu rfl rfl rfl ?_
          refine ops_guard_t rfl rfl ?_
          refine ops_eq rfl rfl rfl ?_
          refine ops_bt (d := 102) rfl (by rw [decide_eq_true_eq]; have e1 := val_limbs (n + m); have e2 := val_limbs m; have e3 := val_limbs (val zs - val (limbs m)); unfold smallN; split <;> omega) ?_
          refine ops_guard_t rfl rfl ?_
          refine ops_pick rfl rfl rfl ?_
          refine ops_pick rfl rfl rfl ?_
          refine ops_move rfl rfl ?_
          refine ops_guard_t rfl rfl ?_
          refine ops_move rfl rfl ?_
          refine ops_guard_t rfl rfl ?_
          refine ops_eq rfl rfl rfl ?_
          refine ops_guard_t rfl rfl ?_
          refine ops_move rfl rfl ?_
          refine ops_guard_t rfl rfl ?_
          refine ops_move rfl rfl ?_
          refine ops_guard_t rfl rfl ?_
          refine ops_ge rfl rfl rfl ?_
          refine ops_guard_t rfl rfl ?_
          refine ops_beq rfl rfl rfl Try.underlying4 ?_
          refine ops_bt (d := 111) rfl (by rw [hv34, val_limbs]; exact order_g _ _) ?_
          refine ops_pick rfl rfl rfl ?_
          refine ops_move rfl rfl ?_
          refine ops_guard_t rfl rfl ?_
          refine ops_move rfl rfl ?_
          refine ops_bt (d := 114) rfl ((by first | (simp [hv34, val_limbs, smallN, cmpN_self]; done) | (simp [hv34, val_limbs, smallN, cmpN]; omega) | (simp [hv34, val_limbs, smallN, cmpN, *]; done) | (exfalso; omega))) ?_
          refine ops_pick rfl rfl rfl ?_
          refine ops_move rfl rfl ?_
          refine ops_guard_t rfl rfl ?_
          refine ops_move rfl rfl ?_
          refine ops_guard_t rfl rfl ?_
          refine ops_move rfl rfl ?_
          refine ops_guard_t rfl rfl ?_
          refine ops_lt rfl rfl rfl ?_
          refine ops_guard_t rfl rfl ?_
          refine ops_move rfl rfl ?_
          refine ops_dcase (d := 120) rfl (fun hg16_33 => ?_) (fun hg16_33 => ?_)
          · refine ops_guard_f rfl rfl rfl rfl ?_
            refine ops_guard_f rfl rfl rfl rfl ?_
            refine ops_guard_f rfl rfl rfl rfl ?_
            refine ops_guard_f rfl rfl rfl rfl ?_
            refine ops_guard_f rfl rfl rfl rfl ?_
            refine ops_guard_t rfl rfl ?_
            refine ops_pick rfl rfl rfl ?_
            refine ops_pick rfl rfl rfl ?_
            refine ops_move rfl rfl ?_
            refine ops_guard_t rfl rfl ?_
            refine ops_move rfl rfl ?_
            refine ops_guard_t rfl rfl ?_
            refine ops_move rfl rfl ?_
            refine ops_guard_t rfl rfl ?_
            refine ops_callv rfl bod23 rfl rfl ?_
            refine (cmp_c (M := M) (by assumption) (by assumption) (by omega) (by omega) hM).mono ?_
            rintro v131 w21 ⟨hB131, rfl⟩
            have Lw21 := Le.of_below (Fz := Fz) (M := M) hB131
            replace LL := LL.trans Lw21
            replace hM := hM.mono Lw21
            replace hF := hF.mono Lw21
            replace hn27 := hn27.mono Lw21
            replace hn29 := hn29.mono Lw21
            replace hn34 := hn34.mono Lw21
            replace hn55 := hn55.mono Lw21
            replace hn63 := hn63.mono Lw21
            replace hn64 := hn64.mono Lw21
            replace hn71 := hn71.mono Lw21
            refine ops_guard_t rfl rfl ?_
            refine ops_move rfl rfl ?_
            refine ops_guard_t rfl rfl ?_
            refine ops_eq rfl rfl rfl ?_
            refine ops_bt (d := 133) rfl ((by first | (simp [hv34, val_limbs, smallN, cmpN_self]; done) | (simp [hv34, val_limbs, smallN, cmpN]; omega) | (simp [hv34, val_limbs, smallN, cmpN, *]; done) | (exfalso; omega))) ?_
            refine ops_pick rfl rfl rfl ?_
            refine ops_move rfl rfl ?_
            refine ops_guard_t rfl rfl ?_
            refine ops_callv rfl bod17 rfl rfl ?_
            refine (wakes1_c (M := M) hM).mono ?_
            rintro v136 w22 ⟨hB136, rfl⟩
            have Lw22 := Le.of_below (Fz := Fz) (M := M) hB136
            replace LL := LL.trans Lw22
            replace hM := hM.mono Lw22
            replace hF := hF.mono Lw22
            replace hn27 := hn27.mono Lw22
            replace hn29 := hn29.mono Lw22
            replace hn34 := hn34.mono Lw22
            replace hn55 := hn55.mono Lw22
            replace hn63 := hn63.mono Lw22
            replace hn64 := hn64.mono Lw22
            replace hn71 := hn71.mono Lw22
            refine ops_pick rfl rfl rfl ?_
            refine ops_assign rfl rfl ?_
            refine ops_nil ?_
            refine SL.wp_ret ?_
            refine leave_nil ⟨[_], ⟨rfl, trivial⟩, ?_⟩
            dsimp only [resVal]
            subst hFz
            exact ⟨LL.below (Nat.le_refl _), by first | rfl | simp⟩
          · refine ops_guard_t rfl rfl ?_
            refine ops_move rfl rfl ?_
            refine ops_guard_t rfl rfl ?_
            refine ops_move rfl rfl ?_
            refine ops_guard_t rfl rfl ?_
            refine ops_move rfl rfl ?_
            refine ops_guard_t rfl rfl ?_
            first | refine ops_subv rfl rfl rfl (by omega) (by omega) ?_ | refine ops_subu rfl rfl rfl (by omega) ?_
            refine ops_guard_t rfl rfl ?_
            refine ops_eq rfl rfl rfl ?_
            refine ops_bt (d := 125) rfl (by rw [decide_eq_true_eq]; have e1 := val_limbs (n + m); have e2 := val_limbs m; have e3 := val_limbs (val zs - val (limbs m)); unfold smallN; split <;> omega) ?_
            refine ops_guard_t rfl rfl ?_
            refine ops_pick rfl rfl rfl ?_
            refine ops_pick rfl rfl rfl ?_
            refine ops_move rfl rfl ?_
            refine ops_guard_t rfl rfl ?_
            refine ops_move rfl rfl ?_
            refine ops_guard_t rfl rfl ?_
            refine ops_move rfl rfl ?_
            refine ops_guard_t rfl rfl ?_
            refine ops_callv rfl bod23 rfl rfl ?_
            refine (cmp_c (M := M) (by assumption) (by assumption) (by omega) (by omega) hM).mono ?_
            rintro v131 w23 ⟨hB131, rfl⟩
            have Lw23 := Le.of_below (Fz := Fz) (M := M) hB131
            replace LL := LL.trans Lw23
            replace hM := hM.mono Lw23
            replace hF := hF.mono Lw23
            replace hn27 := hn27.mono Lw23
            replace hn29 := hn29.mono Lw23
            replace hn34 := hn34.mono Lw23
            replace hn55 := hn55.mono Lw23
            replace hn63 := hn63.mono Lw23
            replace hn64 := hn64.mono Lw23
            replace hn71 := hn71.mono Lw23
            refine ops_guard_t rfl rfl ?_
            refine ops_move rfl rfl ?_
            refine ops_guard_t rfl rfl ?_
            refine ops_eq rfl rfl rfl ?_
            refine ops_bt (d := 133) rfl ((by first | (simp [hv34, val_limbs, smallN, cmpN_self]; done) | (simp [hv34, val_limbs, smallN, cmpN]; omega) | (simp [hv34, val_limbs, smallN, cmpN, *]; done) | (exfalso; omega))) ?_
            refine ops_pick rfl rfl rfl ?_
            refine ops_move rfl rfl ?_
            refine ops_guard_t rfl rfl ?_
            refine ops_callv rfl bod17 rfl rfl ?_
            refine (wakes1_c (M := M) hM).mono ?_
            rintro v136 w24 ⟨hB136, rfl⟩
            have Lw24 := Le.of_below (Fz := Fz) (M := M) hB136
            replace LL := LL.trans Lw24
            replace hM := hM.mono Lw24
            replace hF := hF.mono Lw24
            replace hn27 := hn27.mono Lw24
            replace hn29 := hn29.mono Lw24
            replace hn34 := hn34.mono Lw24
            replace hn55 := hn55.mono Lw24
            replace hn63 := hn63.mono Lw24
            replace hn64 := hn64.mono Lw24
            replace hn71 := hn71.mono Lw24
            refine ops_pick rfl rfl rfl ?_
            refine ops_assign rfl rfl ?_
            refine ops_nil ?_
            refine SL.wp_ret ?_
            refine leave_nil ⟨[_], ⟨rfl, trivial⟩, ?_⟩
            dsimp only [resVal]
            subst hFz
            exact ⟨LL.below (Nat.le_refl _), by first | rfl | simp⟩
      · refine SL.wp_seq ?_
        refine SL.wp_region ?_
        refine ops_move rfl rfl ?_
        refine ops_move rfl rfl ?_
        refine ops_gt rfl rfl rfl ?_
        refine ops_assign rfl rfl ?_
        refine ops_nil ?_
        refine SL.wp_cond_d rfl (fun hc2 => ?_) (fun hc2 => ?_)
        · refine SL.wp_region ?_
          refine ops_assign rfl rfl ?_
          refine ops_nil ?_
          refine SL.wp_seq ?_
          refine SL.wp_region ?_
          refine ops_move rfl rfl ?_
          refine ops_move rfl rfl ?_
          refine ops_move rfl rfl ?_
          first | refine ops_addv rfl rfl rfl (by omega) ?_ | refine ops_addu rfl rfl rfl ?_
          refine ops_move rfl rfl ?_
          refine ops_ge rfl rfl rfl ?_
          refine ops_beq rfl rfl rfl Try.underlying4 ?_
          refine ops_move rfl rfl ?_
          refine ops_bt (d := 94) rfl (by rw [val_limbs]; exact fits_eq hn hm) ?_
          refine ops_guard_t rfl rfl ?_
          refine ops_move rfl rfl ?_
          refine ops_guard_t rfl rfl ?_
          refine ops_notd rfl rfl ?_
          refine ops_guard_t rfl rfl ?_
          refine ops_move rfl rfl ?_
          refine ops_dcase (d := 97) rfl (fun hg16_10 => ?_) (fun hg16_10 => ?_)
          · refine ops_guard_f rfl rfl rfl rfl ?_
            refine ops_guard_f rfl rfl rfl rfl ?_
            refine ops_guard_f rfl rfl rfl rfl ?_
            refine ops_guard_f rfl rfl rfl rfl ?_
            refine ops_guard_f rfl rfl rfl rfl ?_
            refine ops_guard_t rfl rfl ?_
            refine ops_pick rfl rfl rfl ?_
            refine ops_pick rfl rfl rfl ?_
            refine ops_move rfl rfl ?_
            refine ops_guard_t rfl rfl ?_
            refine ops_move rfl rfl ?_
            refine ops_guard_t rfl rfl ?_
            refine ops_eq rfl rfl rfl ?_
            refine ops_guard_t rfl rfl ?_
            refine ops_move rfl rfl ?_
            refine ops_guard_t rfl rfl ?_
            refine ops_move rfl rfl ?_
            refine ops_guard_t rfl rfl ?_
            refine ops_ge rfl rfl rfl ?_
            refine ops_guard_t rfl rfl ?_
            refine ops_beq rfl rfl rfl Try.underlying4 ?_
            refine ops_bt (d := 111) rfl (by rw [hv34, val_limbs]; exact order_g _ _) ?_
            refine ops_pick rfl rfl rfl ?_
            refine ops_move rfl rfl ?_
            refine ops_guard_t rfl rfl ?_
            refine ops_move rfl rfl ?_
            refine ops_bt (d := 114) rfl ((by first | (simp [hv34, val_limbs, smallN, cmpN_self]; done) | (simp [hv34, val_limbs, smallN, cmpN]; omega) | (simp [hv34, val_limbs, smallN, cmpN, *]; done) | (exfalso; omega))) ?_
            refine ops_pick rfl rfl rfl ?_
            refine ops_move rfl rfl ?_
            refine ops_guard_t rfl rfl ?_
            refine ops_move rfl rfl ?_
            refine ops_guard_t rfl rfl ?_
            refine ops_move rfl rfl ?_
            refine ops_guard_t rfl rfl ?_
            refine ops_lt rfl rfl rfl ?_
            refine ops_guard_t rfl rfl ?_
            refine ops_move rfl rfl ?_
            refine ops_dcase (d := 120) rfl (fun hg16_33 => ?_) (fun hg16_33 => ?_)
            · refine ops_guard_f rfl rfl rfl rfl ?_
              refine ops_guard_f rfl rfl rfl rfl ?_
              refine ops_guard_f rfl rfl rfl rfl ?_
              refine ops_guard_f rfl rfl rfl rfl ?_
              refine ops_guard_f rfl rfl rfl rfl ?_
              refine ops_guard_t rfl rfl ?_
              refine ops_pick rfl rfl rfl ?_
              refine ops_pick rfl rfl rfl ?_
              refine ops_move rfl rfl ?_
              refine ops_guard_t rfl rfl ?_
              refine ops_move rfl rfl ?_
              refine ops_guard_t rfl rfl ?_
              refine ops_move rfl rfl ?_
              refine ops_guard_t rfl rfl ?_
              refine ops_callv rfl bod23 rfl rfl ?_
              refine (cmp_c (M := M) (by assumption) (by assumption) (by omega) (by omega) hM).mono ?_
              rintro v131 w25 ⟨hB131, rfl⟩
              have Lw25 := Le.of_below (Fz := Fz) (M := M) hB131
              replace LL := LL.trans Lw25
              replace hM := hM.mono Lw25
              replace hF := hF.mono Lw25
              replace hn27 := hn27.mono Lw25
              replace hn29 := hn29.mono Lw25
              replace hn34 := hn34.mono Lw25
              replace hn55 := hn55.mono Lw25
              replace hn63 := hn63.mono Lw25
              replace hn64 := hn64.mono Lw25
              replace hn71 := hn71.mono Lw25
              refine ops_guard_t rfl rfl ?_
              refine ops_move rfl rfl ?_
              refine ops_guard_t rfl rfl ?_
              refine ops_eq rfl rfl rfl ?_
              refine ops_bt (d := 133) rfl ((by first | (simp [hv34, val_limbs, smallN, cmpN_self]; done) | (simp [hv34, val_limbs, smallN, cmpN]; omega) | (simp [hv34, val_limbs, smallN, cmpN, *]; done) | (exfalso; omega))) ?_
              refine ops_pick rfl rfl rfl ?_
              refine ops_move rfl rfl ?_
              refine ops_guard_t rfl rfl ?_
              refine ops_callv rfl bod17 rfl rfl ?_
              refine (wakes1_c (M := M) hM).mono ?_
              rintro v136 w26 ⟨hB136, rfl⟩
              have Lw26 := Le.of_below (Fz := Fz) (M := M) hB136
              replace LL := LL.trans Lw26
              replace hM := hM.mono Lw26
              replace hF := hF.mono Lw26
              replace hn27 := hn27.mono Lw26
              replace hn29 := hn29.mono Lw26
              replace hn34 := hn34.mono Lw26
              replace hn55 := hn55.mono Lw26
              replace hn63 := hn63.mono Lw26
              replace hn64 := hn64.mono Lw26
              replace hn71 := hn71.mono Lw26
              refine ops_pick rfl rfl rfl ?_
              refine ops_assign rfl rfl ?_
              refine ops_nil ?_
              refine SL.wp_ret ?_
              refine leave_nil ⟨[_], ⟨rfl, trivial⟩, ?_⟩
              dsimp only [resVal]
              subst hFz
              exact ⟨LL.below (Nat.le_refl _), by first | rfl | simp⟩
            · refine ops_guard_t rfl rfl ?_
              refine ops_move rfl rfl ?_
              refine ops_guard_t rfl rfl ?_
              refine ops_move rfl rfl ?_
              refine ops_guard_t rfl rfl ?_
              refine ops_move rfl rfl ?_
              refine ops_guard_t rfl rfl ?_
              first | refine ops_subv rfl rfl rfl (by omega) (by omega) ?_ | refine ops_subu rfl rfl rfl (by omega) ?_
              refine ops_guard_t rfl rfl ?_
              refine ops_eq rfl rfl rfl ?_
              refine ops_bt (d := 125) rfl (by rw [decide_eq_true_eq]; have e1 := val_limbs (n + m); have e2 := val_limbs m; have e3 := val_limbs (val zs - val (limbs m)); unfold smallN; split <;> omega) ?_
              refine ops_guard_t rfl rfl ?_
              refine ops_pick rfl rfl rfl ?_
              refine ops_pick rfl rfl rfl ?_
              refine ops_move rfl rfl ?_
              refine ops_guard_t rfl rfl ?_
              refine ops_move rfl rfl ?_
              refine ops_guard_t rfl rfl ?_
              refine ops_move rfl rfl ?_
              refine ops_guard_t rfl rfl ?_
              refine ops_callv rfl bod23 rfl rfl ?_
              refine (cmp_c (M := M) (by assumption) (by assumption) (by omega) (by omega) hM).mono ?_
              rintro v131 w27 ⟨hB131, rfl⟩
              have Lw27 := Le.of_below (Fz := Fz) (M := M) hB131
              replace LL := LL.trans Lw27
              replace hM := hM.mono Lw27
              replace hF := hF.mono Lw27
              replace hn27 := hn27.mono Lw27
              replace hn29 := hn29.mono Lw27
              replace hn34 := hn34.mono Lw27
              replace hn55 := hn55.mono Lw27
              replace hn63 := hn63.mono Lw27
              replace hn64 := hn64.mono Lw27
              replace hn71 := hn71.mono Lw27
              refine ops_guard_t rfl rfl ?_
              refine ops_move rfl rfl ?_
              refine ops_guard_t rfl rfl ?_
              refine ops_eq rfl rfl rfl ?_
              refine ops_bt (d := 133) rfl ((by first | (simp [hv34, val_limbs, smallN, cmpN_self]; done) | (simp [hv34, val_limbs, smallN, cmpN]; omega) | (simp [hv34, val_limbs, smallN, cmpN, *]; done) | (exfalso; omega))) ?_
              refine ops_pick rfl rfl rfl ?_
              refine ops_move rfl rfl ?_
              refine ops_guard_t rfl rfl ?_
              refine ops_callv rfl bod17 rfl rfl ?_
              refine (wakes1_c (M := M) hM).mono ?_
              rintro v136 w28 ⟨hB136, rfl⟩
              have Lw28 := Le.of_below (Fz := Fz) (M := M) hB136
              replace LL := LL.trans Lw28
              replace hM := hM.mono Lw28
              replace hF := hF.mono Lw28
              replace hn27 := hn27.mono Lw28
              replace hn29 := hn29.mono Lw28
              replace hn34 := hn34.mono Lw28
              replace hn55 := hn55.mono Lw28
              replace hn63 := hn63.mono Lw28
              replace hn64 := hn64.mono Lw28
              replace hn71 := hn71.mono Lw28
              refine ops_pick rfl rfl rfl ?_
              refine ops_assign rfl rfl ?_
              refine ops_nil ?_
              refine SL.wp_ret ?_
              refine leave_nil ⟨[_], ⟨rfl, trivial⟩, ?_⟩
              dsimp only [resVal]
              subst hFz
              exact ⟨LL.below (Nat.le_refl _), by first | rfl | simp⟩
          · refine ops_guard_t rfl rfl ?_
            refine ops_move rfl rfl ?_
            refine ops_guard_t rfl rfl ?_
            refine ops_move rfl rfl ?_
            refine ops_guard_t rfl rfl ?_
            refine ops_move rfl rfl ?_
            refine ops_guard_t rfl rfl ?_
            first | refine ops_addv rfl rfl rfl (by omega) ?_ | refine ops_addu rfl rfl rfl ?_
            refine ops_guard_t rfl rfl ?_
            refine ops_eq rfl rfl rfl ?_
            refine ops_bt (d := 102) rfl (by rw [decide_eq_true_eq]; have e1 := val_limbs (n + m); have e2 := val_limbs m; have e3 := val_limbs (val zs - val (limbs m)); unfold smallN; split <;> omega) ?_
            refine ops_guard_t rfl rfl ?_
            refine ops_pick rfl rfl rfl ?_
            refine ops_pick rfl rfl rfl ?_
            refine ops_move rfl rfl ?_
            refine ops_guard_t rfl rfl ?_
            refine ops_move rfl rfl ?_
            refine ops_guard_t rfl rfl ?_
            refine ops_eq rfl rfl rfl ?_
            refine ops_guard_t rfl rfl ?_
            refine ops_move rfl rfl ?_
            refine ops_guard_t rfl rfl ?_
            refine ops_move rfl rfl ?_
            refine ops_guard_t rfl rfl ?_
            refine ops_ge rfl rfl rfl ?_
            refine ops_guard_t rfl rfl ?_
            refine ops_beq rfl rfl rfl Try.underlying4 ?_
            refine ops_bt (d := 111) rfl (by rw [hv34, val_limbs]; exact order_g _ _) ?_
            refine ops_pick rfl rfl rfl ?_
            refine ops_move rfl rfl ?_
            refine ops_guard_t rfl rfl ?_
            refine ops_move rfl rfl ?_
            refine ops_bt (d := 114) rfl ((by first | (simp [hv34, val_limbs, smallN, cmpN_self]; done) | (simp [hv34, val_limbs, smallN, cmpN]; omega) | (simp [hv34, val_limbs, smallN, cmpN, *]; done) | (exfalso; omega))) ?_
            refine ops_pick rfl rfl rfl ?_
            refine ops_move rfl rfl ?_
            refine ops_guard_t rfl rfl ?_
            refine ops_move rfl rfl ?_
            refine ops_guard_t rfl rfl ?_
            refine ops_move rfl rfl ?_
            refine ops_guard_t rfl rfl ?_
            refine ops_lt rfl rfl rfl ?_
            refine ops_guard_t rfl rfl ?_
            refine ops_move rfl rfl ?_
            refine ops_dcase (d := 120) rfl (fun hg16_33 => ?_) (fun hg16_33 => ?_)
            · refine ops_guard_f rfl rfl rfl rfl ?_
              refine ops_guard_f rfl rfl rfl rfl ?_
              refine ops_guard_f rfl rfl rfl rfl ?_
              refine ops_guard_f rfl rfl rfl rfl ?_
              refine ops_guard_f rfl rfl rfl rfl ?_
              refine ops_guard_t rfl rfl ?_
              refine ops_pick rfl rfl rfl ?_
              refine ops_pick rfl rfl rfl ?_
              refine ops_move rfl rfl ?_
              refine ops_guard_t rfl rfl ?_
              refine ops_move rfl rfl ?_
              refine ops_guard_t rfl rfl ?_
              refine ops_move rfl rfl ?_
              refine ops_guard_t rfl rfl ?_
              refine ops_callv rfl bod23 rfl rfl ?_
              refine (cmp_c (M := M) (by assumption) (by assumption) (by omega) (by omega) hM).mono ?_
              rintro v131 w29 ⟨hB131, rfl⟩
              have Lw29 := Le.of_below (Fz := Fz) (M := M) hB131
              replace LL := LL.trans Lw29
              replace hM := hM.mono Lw29
              replace hF := hF.mono Lw29
              replace hn27 := hn27.mono Lw29
              replace hn29 := hn29.mono Lw29
              replace hn34 := hn34.mono Lw29
              replace hn55 := hn55.mono Lw29
              replace hn63 := hn63.mono Lw29
              replace hn64 := hn64.mono Lw29
              replace hn71 := hn71.mono Lw29
              refine ops_guard_t rfl rfl ?_
              refine ops_move rfl rfl ?_
              refine ops_guard_t rfl rfl ?_
              refine ops_eq rfl rfl rfl ?_
              refine ops_bt (d := 133) rfl ((by first | (simp [hv34, val_limbs, smallN, cmpN_self]; done) | (simp [hv34, val_limbs, smallN, cmpN]; omega) | (simp [hv34, val_limbs, smallN, cmpN, *]; done) | (exfalso; omega))) ?_
              refine ops_pick rfl rfl rfl ?_
              refine ops_move rfl rfl ?_
              refine ops_guard_t rfl rfl ?_
              refine ops_callv rfl bod17 rfl rfl ?_
              refine (wakes1_c (M := M) hM).mono ?_
              rintro v136 w30 ⟨hB136, rfl⟩
              have Lw30 := Le.of_below (Fz := Fz) (M := M) hB136
              replace LL := LL.trans Lw30
              replace hM := hM.mono Lw30
              replace hF := hF.mono Lw30
              replace hn27 := hn27.mono Lw30
              replace hn29 := hn29.mono Lw30
              replace hn34 := hn34.mono Lw30
              replace hn55 := hn55.mono Lw30
              replace hn63 := hn63.mono Lw30
              replace hn64 := hn64.mono Lw30
              replace hn71 := hn71.mono Lw30
              refine ops_pick rfl rfl rfl ?_
              refine ops_assign rfl rfl ?_
              refine ops_nil ?_
              refine SL.wp_ret ?_
              refine leave_nil ⟨[_], ⟨rfl, trivial⟩, ?_⟩
              dsimp only [resVal]
              subst hFz
              exact ⟨LL.below (Nat.le_refl _), by first | rfl | simp⟩
            · refine ops_guard_t rfl rfl ?_
              refine ops_move rfl rfl ?_
              refine ops_guard_t rfl rfl ?_
              refine ops_move rfl rfl ?_
              refine ops_guard_t rfl rfl ?_
              refine ops_move rfl rfl ?_
              refine ops_guard_t rfl rfl ?_
              first | refine ops_subv rfl rfl rfl (by omega) (by omega) ?_ | refine ops_subu rfl rfl rfl (by omega) ?_
              refine ops_guard_t rfl rfl ?_
              refine ops_eq rfl rfl rfl ?_
              refine ops_bt (d := 125) rfl (by rw [decide_eq_true_eq]; have e1 := val_limbs (n + m); have e2 := val_limbs m; have e3 := val_limbs (val zs - val (limbs m)); unfold smallN; split <;> omega) ?_
              refine ops_guard_t rfl rfl ?_
              refine ops_pick rfl rfl rfl ?_
              refine ops_pick rfl rfl rfl ?_
              refine ops_move rfl rfl ?_
              refine ops_guard_t rfl rfl ?_
              refine ops_move rfl rfl ?_
              refine ops_guard_t rfl rfl ?_
              refine ops_move rfl rfl ?_
              refine ops_guard_t rfl rfl ?_
              refine ops_callv rfl bod23 rfl rfl ?_
              refine (cmp_c (M := M) (by assumption) (by assumption) (by omega) (by omega) hM).mono ?_
              rintro v131 w31 ⟨hB131, rfl⟩
              have Lw31 := Le.of_below (Fz := Fz) (M := M) hB131
              replace LL := LL.trans Lw31
              replace hM := hM.mono Lw31
              replace hF := hF.mono Lw31
              replace hn27 := hn27.mono Lw31
              replace hn29 := hn29.mono Lw31
              replace hn34 := hn34.mono Lw31
              replace hn55 := hn55.mono Lw31
              replace hn63 := hn63.mono Lw31
              replace hn64 := hn64.mono Lw31
              replace hn71 := hn71.mono Lw31
              refine ops_guard_t rfl rfl ?_
              refine ops_move rfl rfl ?_
              refine ops_guard_t rfl rfl ?_
              refine ops_eq rfl rfl rfl ?_
              refine ops_bt (d := 133) rfl ((by first | (simp [hv34, val_limbs, smallN, cmpN_self]; done) | (simp [hv34, val_limbs, smallN, cmpN]; omega) | (simp [hv34, val_limbs, smallN, cmpN, *]; done) | (exfalso; omega))) ?_
              refine ops_pick rfl rfl rfl ?_
              refine ops_move rfl rfl ?_
              refine ops_guard_t rfl rfl ?_
              refine ops_callv rfl bod17 rfl rfl ?_
              refine (wakes1_c (M := M) hM).mono ?_
              rintro v136 w32 ⟨hB136, rfl⟩
              have Lw32 := Le.of_below (Fz := Fz) (M := M) hB136
              replace LL := LL.trans Lw32
              replace hM := hM.mono Lw32
              replace hF := hF.mono Lw32
              replace hn27 := hn27.mono Lw32
              replace hn29 := hn29.mono Lw32
              replace hn34 := hn34.mono Lw32
              replace hn55 := hn55.mono Lw32
              replace hn63 := hn63.mono Lw32
              replace hn64 := hn64.mono Lw32
              replace hn71 := hn71.mono Lw32
              refine ops_pick rfl rfl rfl ?_
              refine ops_assign rfl rfl ?_
              refine ops_nil ?_
              refine SL.wp_ret ?_
              refine leave_nil ⟨[_], ⟨rfl, trivial⟩, ?_⟩
              dsimp only [resVal]
              subst hFz
              exact ⟨LL.below (Nat.le_refl _), by first | rfl | simp⟩
        · refine SL.wp_skip ?_
          refine SL.wp_seq ?_
          refine SL.wp_region ?_
          refine ops_move rfl rfl ?_
          refine ops_move rfl rfl ?_
          refine ops_move rfl rfl ?_
          first | refine ops_addv rfl rfl rfl (by omega) ?_ | refine ops_addu rfl rfl rfl ?_
          refine ops_move rfl rfl ?_
          refine ops_ge rfl rfl rfl ?_
          refine ops_beq rfl rfl rfl Try.underlying4 ?_
          refine ops_move rfl rfl ?_
          refine ops_bt (d := 94) rfl (by rw [val_limbs]; exact fits_eq hn hm) ?_
          refine ops_guard_t rfl rfl ?_
          refine ops_move rfl rfl ?_
          refine ops_guard_t rfl rfl ?_
          refine ops_notd rfl rfl ?_
          refine ops_guard_t rfl rfl ?_
          refine ops_move rfl rfl ?_
          refine ops_dcase (d := 97) rfl (fun hg16_10 => ?_) (fun hg16_10 => ?_)
          · refine ops_guard_f rfl rfl rfl rfl ?_
            refine ops_guard_f rfl rfl rfl rfl ?_
            refine ops_guard_f rfl rfl rfl rfl ?_
            refine ops_guard_f rfl rfl rfl rfl ?_
            refine ops_guard_f rfl rfl rfl rfl ?_
            refine ops_guard_t rfl rfl ?_
            refine ops_pick rfl rfl rfl ?_
            refine ops_pick rfl rfl rfl ?_
            refine ops_move rfl rfl ?_
            refine ops_guard_t rfl rfl ?_
            refine ops_move rfl rfl ?_
            refine ops_guard_t rfl rfl ?_
            refine ops_eq rfl rfl rfl ?_
            refine ops_guard_t rfl rfl ?_
            refine ops_move rfl rfl ?_
            refine ops_guard_t rfl rfl ?_
            refine ops_move rfl rfl ?_
            refine ops_guard_t rfl rfl ?_
            refine ops_ge rfl rfl rfl ?_
            refine ops_guard_t rfl rfl ?_
            refine ops_beq rfl rfl rfl Try.underlying4 ?_
            refine ops_bt (d := 111) rfl (by rw [hv34, val_limbs]; exact order_g _ _) ?_
            refine ops_pick rfl rfl rfl ?_
            refine ops_move rfl rfl ?_
            refine ops_guard_t rfl rfl ?_
            refine ops_move rfl rfl ?_
            refine ops_bt (d := 114) rfl ((by first | (simp [hv34, val_limbs, smallN, cmpN_self]; done) | (simp [hv34, val_limbs, smallN, cmpN]; omega) | (simp [hv34, val_limbs, smallN, cmpN, *]; done) | (exfalso; omega))) ?_
            refine ops_pick rfl rfl rfl ?_
            refine ops_move rfl rfl ?_
            refine ops_guard_t rfl rfl ?_
            refine ops_move rfl rfl ?_
            refine ops_guard_t rfl rfl ?_
            refine ops_move rfl rfl ?_
            refine ops_guard_t rfl rfl ?_
            refine ops_lt rfl rfl rfl ?_
            refine ops_guard_t rfl rfl ?_
            refine ops_move rfl rfl ?_
            refine ops_dcase (d := 120) rfl (fun hg16_33 => ?_) (fun hg16_33 => ?_)
            · refine ops_guard_f rfl rfl rfl rfl ?_
              refine ops_guard_f rfl rfl rfl rfl ?_
              refine ops_guard_f rfl rfl rfl rfl ?_
              refine ops_guard_f rfl rfl rfl rfl ?_
              refine ops_guard_f rfl rfl rfl rfl ?_
              refine ops_guard_t rfl rfl ?_
              refine ops_pick rfl rfl rfl ?_
              refine ops_pick rfl rfl rfl ?_
              refine ops_move rfl rfl ?_
              refine ops_guard_t rfl rfl ?_
              refine ops_move rfl rfl ?_
              refine ops_guard_t rfl rfl ?_
              refine ops_move rfl rfl ?_
              refine ops_guard_t rfl rfl ?_
              refine ops_callv rfl bod23 rfl rfl ?_
              refine (cmp_c (M := M) (by assumption) (by assumption) (by omega) (by omega) hM).mono ?_
              rintro v131 w33 ⟨hB131, rfl⟩
              have Lw33 := Le.of_below (Fz := Fz) (M := M) hB131
              replace LL := LL.trans Lw33
              replace hM := hM.mono Lw33
              replace hF := hF.mono Lw33
              replace hn27 := hn27.mono Lw33
              replace hn29 := hn29.mono Lw33
              replace hn34 := hn34.mono Lw33
              replace hn55 := hn55.mono Lw33
              replace hn63 := hn63.mono Lw33
              replace hn64 := hn64.mono Lw33
              replace hn71 := hn71.mono Lw33
              refine ops_guard_t rfl rfl ?_
              refine ops_move rfl rfl ?_
              refine ops_guard_t rfl rfl ?_
              refine ops_eq rfl rfl rfl ?_
              refine ops_bt (d := 133) rfl ((by first | (simp [hv34, val_limbs, smallN, cmpN_self]; done) | (simp [hv34, val_limbs, smallN, cmpN]; omega) | (simp [hv34, val_limbs, smallN, cmpN, *]; done) | (exfalso; omega))) ?_
              refine ops_pick rfl rfl rfl ?_
              refine ops_move rfl rfl ?_
              refine ops_guard_t rfl rfl ?_
              refine ops_callv rfl bod17 rfl rfl ?_
              refine (wakes1_c (M := M) hM).mono ?_
              rintro v136 w34 ⟨hB136, rfl⟩
              have Lw34 := Le.of_below (Fz := Fz) (M := M) hB136
              replace LL := LL.trans Lw34
              replace hM := hM.mono Lw34
              replace hF := hF.mono Lw34
              replace hn27 := hn27.mono Lw34
              replace hn29 := hn29.mono Lw34
              replace hn34 := hn34.mono Lw34
              replace hn55 := hn55.mono Lw34
              replace hn63 := hn63.mono Lw34
              replace hn64 := hn64.mono Lw34
              replace hn71 := hn71.mono Lw34
              refine ops_pick rfl rfl rfl ?_
              refine ops_assign rfl rfl ?_
              refine ops_nil ?_
              refine SL.wp_ret ?_
              refine leave_nil ⟨[_], ⟨rfl, trivial⟩, ?_⟩
              dsimp only [resVal]
              subst hFz
              exact ⟨LL.below (Nat.le_refl _), by first | rfl | simp⟩
            · refine ops_guard_t rfl rfl ?_
              refine ops_move rfl rfl ?_
              refine ops_guard_t rfl rfl ?_
              refine ops_move rfl rfl ?_
              refine ops_guard_t rfl rfl ?_
              refine ops_move rfl rfl ?_
              refine ops_guard_t rfl rfl ?_
              first | refine ops_subv rfl rfl rfl (by omega) (by omega) ?_ | refine ops_subu rfl rfl rfl (by omega) ?_
              refine ops_guard_t rfl rfl ?_
              refine ops_eq rfl rfl rfl ?_
              refine ops_bt (d := 125) rfl (by rw [decide_eq_true_eq]; have e1 := val_limbs (n + m); have e2 := val_limbs m; have e3 := val_limbs (val zs - val (limbs m)); unfold smallN; split <;> omega) ?_
              refine ops_guard_t rfl rfl ?_
              refine ops_pick rfl rfl rfl ?_
              refine ops_pick rfl rfl rfl ?_
              refine ops_move rfl rfl ?_
              refine ops_guard_t rfl rfl ?_
              refine ops_move rfl rfl ?_
              refine ops_guard_t rfl rfl ?_
              refine ops_move rfl rfl ?_
              refine ops_guard_t rfl rfl ?_
              refine ops_callv rfl bod23 rfl rfl ?_
              refine (cmp_c (M := M) (by assumption) (by assumption) (by omega) (by omega) hM).mono ?_
              rintro v131 w35 ⟨hB131, rfl⟩
              have Lw35 := Le.of_below (Fz := Fz) (M := M) hB131
              replace LL := LL.trans Lw35
              replace hM := hM.mono Lw35
              replace hF := hF.mono Lw35
              replace hn27 := hn27.mono Lw35
              replace hn29 := hn29.mono Lw35
              replace hn34 := hn34.mono Lw35
              replace hn55 := hn55.mono Lw35
              replace hn63 := hn63.mono Lw35
              replace hn64 := hn64.mono Lw35
              replace hn71 := hn71.mono Lw35
              refine ops_guard_t rfl rfl ?_
              refine ops_move rfl rfl ?_
              refine ops_guard_t rfl rfl ?_
              refine ops_eq rfl rfl rfl ?_
              refine ops_bt (d := 133) rfl ((by first | (simp [hv34, val_limbs, smallN, cmpN_self]; done) | (simp [hv34, val_limbs, smallN, cmpN]; omega) | (simp [hv34, val_limbs, smallN, cmpN, *]; done) | (exfalso; omega))) ?_
              refine ops_pick rfl rfl rfl ?_
              refine ops_move rfl rfl ?_
              refine ops_guard_t rfl rfl ?_
              refine ops_callv rfl bod17 rfl rfl ?_
              refine (wakes1_c (M := M) hM).mono ?_
              rintro v136 w36 ⟨hB136, rfl⟩
              have Lw36 := Le.of_below (Fz := Fz) (M := M) hB136
              replace LL := LL.trans Lw36
              replace hM := hM.mono Lw36
              replace hF := hF.mono Lw36
              replace hn27 := hn27.mono Lw36
              replace hn29 := hn29.mono Lw36
              replace hn34 := hn34.mono Lw36
              replace hn55 := hn55.mono Lw36
              replace hn63 := hn63.mono Lw36
              replace hn64 := hn64.mono Lw36
              replace hn71 := hn71.mono Lw36
              refine ops_pick rfl rfl rfl ?_
              refine ops_assign rfl rfl ?_
              refine ops_nil ?_
              refine SL.wp_ret ?_
              refine leave_nil ⟨[_], ⟨rfl, trivial⟩, ?_⟩
              dsimp only [resVal]
              subst hFz
              exact ⟨LL.below (Nat.le_refl _), by first | rfl | simp⟩
          · refine ops_guard_t rfl rfl ?_
            refine ops_move rfl rfl ?_
            refine ops_guard_t rfl rfl ?_
            refine ops_move rfl rfl ?_
            refine ops_guard_t rfl rfl ?_
            refine ops_move rfl rfl ?_
            refine ops_guard_t rfl rfl ?_
            first | refine ops_addv rfl rfl rfl (by omega) ?_ | refine ops_addu rfl rfl rfl ?_
            refine ops_guard_t rfl rfl ?_
            refine ops_eq rfl rfl rfl ?_
            refine ops_bt (d := 102) rfl (by rw [decide_eq_true_eq]; have e1 := val_limbs (n + m); have e2 := val_limbs m; have e3 := val_limbs (val zs - val (limbs m)); unfold smallN; split <;> omega) ?_
            refine ops_guard_t rfl rfl ?_
            refine ops_pick rfl rfl rfl ?_
            refine ops_pick rfl rfl rfl ?_
            refine ops_move rfl rfl ?_
            refine ops_guard_t rfl rfl ?_
            refine ops_move rfl rfl ?_
            refine ops_guard_t rfl rfl ?_
            refine ops_eq rfl rfl rfl ?_
            refine ops_guard_t rfl rfl ?_
            refine ops_move rfl rfl ?_
            refine ops_guard_t rfl rfl ?_
            refine ops_move rfl rfl ?_
            refine ops_guard_t rfl rfl ?_
            refine ops_ge rfl rfl rfl ?_
            refine ops_guard_t rfl rfl ?_
            refine ops_beq rfl rfl rfl Try.underlying4 ?_
            refine ops_bt (d := 111) rfl (by rw [hv34, val_limbs]; exact order_g _ _) ?_
            refine ops_pick rfl rfl rfl ?_
            refine ops_move rfl rfl ?_
            refine ops_guard_t rfl rfl ?_
            refine ops_move rfl rfl ?_
            refine ops_bt (d := 114) rfl ((by first | (simp [hv34, val_limbs, smallN, cmpN_self]; done) | (simp [hv34, val_limbs, smallN, cmpN]; omega) | (simp [hv34, val_limbs, smallN, cmpN, *]; done) | (exfalso; omega))) ?_
            refine ops_pick rfl rfl rfl ?_
            refine ops_move rfl rfl ?_
            refine ops_guard_t rfl rfl ?_
            refine ops_move rfl rfl ?_
            refine ops_guard_t rfl rfl ?_
            refine ops_move rfl rfl ?_
            refine ops_guard_t rfl rfl ?_
            refine ops_lt rfl rfl rfl ?_
            refine ops_guard_t rfl rfl ?_
            refine ops_move rfl rfl ?_
            refine ops_dcase (d := 120) rfl (fun hg16_33 => ?_) (fun hg16_33 => ?_)
            · refine ops_guard_f rfl rfl rfl rfl ?_
              refine ops_guard_f rfl rfl rfl rfl ?_
              refine ops_guard_f rfl rfl rfl rfl ?_
              refine ops_guard_f rfl rfl rfl rfl ?_
              refine ops_guard_f rfl rfl rfl rfl ?_
              refine ops_guard_t rfl rfl ?_
              refine ops_pick rfl rfl rfl ?_
              refine ops_pick rfl rfl rfl ?_
              refine ops_move rfl rfl ?_
              refine ops_guard_t rfl rfl ?_
              refine ops_move rfl rfl ?_
              refine ops_guard_t rfl rfl ?_
              refine ops_move rfl rfl ?_
              refine ops_guard_t rfl rfl ?_
              refine ops_callv rfl bod23 rfl rfl ?_
              refine (cmp_c (M := M) (by assumption) (by assumption) (by omega) (by omega) hM).mono ?_
              rintro v131 w37 ⟨hB131, rfl⟩
              have Lw37 := Le.of_below (Fz := Fz) (M := M) hB131
              replace LL := LL.trans Lw37
              replace hM := hM.mono Lw37
              replace hF := hF.mono Lw37
              replace hn27 := hn27.mono Lw37
              replace hn29 := hn29.mono Lw37
              replace hn34 := hn34.mono Lw37
              replace hn55 := hn55.mono Lw37
              replace hn63 := hn63.mono Lw37
              replace hn64 := hn64.mono Lw37
              replace hn71 := hn71.mono Lw37
              refine ops_guard_t rfl rfl ?_
              refine ops_move rfl rfl ?_
              refine ops_guard_t rfl rfl ?_
              refine ops_eq rfl rfl rfl ?_
              refine ops_bt (d := 133) rfl ((by first | (simp [hv34, val_limbs, smallN, cmpN_self]; done) | (simp [hv34, val_limbs, smallN, cmpN]; omega) | (simp [hv34, val_limbs, smallN, cmpN, *]; done) | (exfalso; omega))) ?_
              refine ops_pick rfl rfl rfl ?_
              refine ops_move rfl rfl ?_
              refine ops_guard_t rfl rfl ?_
              refine ops_callv rfl bod17 rfl rfl ?_
              refine (wakes1_c (M := M) hM).mono ?_
              rintro v136 w38 ⟨hB136, rfl⟩
              have Lw38 := Le.of_below (Fz := Fz) (M := M) hB136
              replace LL := LL.trans Lw38
              replace hM := hM.mono Lw38
              replace hF := hF.mono Lw38
              replace hn27 := hn27.mono Lw38
              replace hn29 := hn29.mono Lw38
              replace hn34 := hn34.mono Lw38
              replace hn55 := hn55.mono Lw38
              replace hn63 := hn63.mono Lw38
              replace hn64 := hn64.mono Lw38
              replace hn71 := hn71.mono Lw38
              refine ops_pick rfl rfl rfl ?_
              refine ops_assign rfl rfl ?_
              refine ops_nil ?_
              refine SL.wp_ret ?_
              refine leave_nil ⟨[_], ⟨rfl, trivial⟩, ?_⟩
              dsimp only [resVal]
              subst hFz
              exact ⟨LL.below (Nat.le_refl _), by first | rfl | simp⟩
            · refine ops_guard_t rfl rfl ?_
              refine ops_move rfl rfl ?_
              refine ops_guard_t rfl rfl ?_
              refine ops_move rfl rfl ?_
              refine ops_guard_t rfl rfl ?_
              refine ops_move rfl rfl ?_
              refine ops_guard_t rfl rfl ?_
              first | refine ops_subv rfl rfl rfl (by omega) (by omega) ?_ | refine ops_subu rfl rfl rfl (by omega) ?_
              refine ops_guard_t rfl rfl ?_
              refine ops_eq rfl rfl rfl ?_
              refine ops_bt (d := 125) rfl (by rw [decide_eq_true_eq]; have e1 := val_limbs (n + m); have e2 := val_limbs m; have e3 := val_limbs (val zs - val (limbs m)); unfold smallN; split <;> omega) ?_
              refine ops_guard_t rfl rfl ?_
              refine ops_pick rfl rfl rfl ?_
              refine ops_pick rfl rfl rfl ?_
              refine ops_move rfl rfl ?_
              refine ops_guard_t rfl rfl ?_
              refine ops_move rfl rfl ?_
              refine ops_guard_t rfl rfl ?_
              refine ops_move rfl rfl ?_
              refine ops_guard_t rfl rfl ?_
              refine ops_callv rfl bod23 rfl rfl ?_
              refine (cmp_c (M := M) (by assumption) (by assumption) (by omega) (by omega) hM).mono ?_
              rintro v131 w39 ⟨hB131, rfl⟩
              have Lw39 := Le.of_below (Fz := Fz) (M := M) hB131
              replace LL := LL.trans Lw39
              replace hM := hM.mono Lw39
              replace hF := hF.mono Lw39
              replace hn27 := hn27.mono Lw39
              replace hn29 := hn29.mono Lw39
              replace hn34 := hn34.mono Lw39
              replace hn55 := hn55.mono Lw39
              replace hn63 := hn63.mono Lw39
              replace hn64 := hn64.mono Lw39
              replace hn71 := hn71.mono Lw39
              refine ops_guard_t rfl rfl ?_
              refine ops_move rfl rfl ?_
              refine ops_guard_t rfl rfl ?_
              refine ops_eq rfl rfl rfl ?_
              refine ops_bt (d := 133) rfl ((by first | (simp [hv34, val_limbs, smallN, cmpN_self]; done) | (simp [hv34, val_limbs, smallN, cmpN]; omega) | (simp [hv34, val_limbs, smallN, cmpN, *]; done) | (exfalso; omega))) ?_
              refine ops_pick rfl rfl rfl ?_
              refine ops_move rfl rfl ?_
              refine ops_guard_t rfl rfl ?_
              refine ops_callv rfl bod17 rfl rfl ?_
              refine (wakes1_c (M := M) hM).mono ?_
              rintro v136 w40 ⟨hB136, rfl⟩
              have Lw40 := Le.of_below (Fz := Fz) (M := M) hB136
              replace LL := LL.trans Lw40
              replace hM := hM.mono Lw40
              replace hF := hF.mono Lw40
              replace hn27 := hn27.mono Lw40
              replace hn29 := hn29.mono Lw40
              replace hn34 := hn34.mono Lw40
              replace hn55 := hn55.mono Lw40
              replace hn63 := hn63.mono Lw40
              replace hn64 := hn64.mono Lw40
              replace hn71 := hn71.mono Lw40
              refine ops_pick rfl rfl rfl ?_
              refine ops_assign rfl rfl ?_
              refine ops_nil ?_
              refine SL.wp_ret ?_
              refine leave_nil ⟨[_], ⟨rfl, trivial⟩, ?_⟩
              dsimp only [resVal]
              subst hFz
              exact ⟨LL.below (Nat.le_refl _), by first | rfl | simp⟩

end Go.Proofs.Ytffakiheophioaa
