import Derived.Test.YtffakiheophioaaW17
import Derived.Test.YtffakiheophioaaSLp
import Derived.Test.YtffakiheophioaaSLo
import Derived.Test.YtffakiheophioaaSLn
set_option linter.unusedVariables false
set_option linter.unusedSimpArgs false
set_option maxRecDepth 100000
namespace Go.Proofs.Ytffakiheophioaa
open Go.SL Go.RowKit Go.Proofs

theorem prodTells_c {M : Nat → Prop} {w : World} {v1 v2 v3 : Value} {xs ys : List Nat} {xss : List (List Nat)} {n : Nat} {j : Int} (h1 : IsNat M w v1 xs) (h2 : IsNat M w v2 ys) (h3 : IsNats M w v3 xss) (hn : n < 4294967296) (hj1 : -9223372036854775808 ≤ j) (hj2 : j ≤ 9223372036854775807) (hM : OkM M w) :
    CallsV Try.prog 12 [v1, v2, v3, .int .u32 (n : Int), .int .i64 j] w fun r w' => Below w.heap.size w w' ∧ r = .bool true := by
  obtain ⟨Fz, hFz⟩ : ∃ Fz : Nat → Prop, Fz = (· < w.heap.size) := ⟨_, rfl⟩
  have hF : FOk Fz w := by subst hFz; exact fun _ h => h
  have LL := Le.refl Fz M w; have hM0 := hM
  refine calls_intro Try.func12 rfl Try.ntmps12 rfl ?_
  refine SL.wp_seq ?_
  refine SL.wp_region ?_
  refine ops_assign rfl rfl ?_
  refine ops_nil ?_
  refine SL.wp_seq ?_
  refine SL.wp_seq ?_
  refine SL.wp_region ?_
  refine ops_move rfl rfl ?_
  refine ops_move rfl rfl ?_
  refine ops_buildSlice rfl Try.underlying24 sz23 rfl rfl rfl (one2 (by first | rfl | exact nat_one (by assumption) | exact own_one (by assumption)) (by first | rfl | exact nat_one (by assumption) | exact own_one (by assumption))) rfl (fun w1 b13 N13 => ?_)
  have hBw1 := N13.below
  have nM13 := hM.new N13; have B13 := N13.blk
  have Lw1 := Le.of_below (Fz := Fz) (M := M) hBw1
  replace LL := LL.trans Lw1
  replace hM := hM.mono Lw1
  replace hF := hF.mono Lw1
  replace h1 := h1.mono Lw1
  replace h2 := h2.mono Lw1
  replace h3 := h3.mono Lw1
  have hn13 := nats2 B13 nM13 h1 h2
  refine ops_callv rfl bod33 rfl rfl ?_
  refine (great2_c (M := M) (by assumption) hM).mono ?_
  rintro v14 w2 ⟨hB14, rfl⟩
  have Lw2 := Le.of_below (Fz := Fz) (M := M) hB14
  replace LL := LL.trans Lw2
  replace hM := hM.mono Lw2
  replace hF := hF.mono Lw2
  replace h1 := h1.mono Lw2
  replace h2 := h2.mono Lw2
  replace h3 := h3.mono Lw2
  replace hn13 := hn13.mono Lw2
  refine ops_move rfl rfl ?_
  refine ops_dcase (d := 15) rfl (fun hg1_4 => ?_) (fun hg1_4 => ?_)
  · refine ops_guard_f rfl rfl rfl rfl ?_
    refine ops_guard_f rfl rfl rfl rfl ?_
    refine ops_pick rfl rfl rfl ?_
    refine ops_move rfl rfl ?_
    refine ops_guard_f rfl rfl rfl rfl ?_
    refine ops_guard_f rfl rfl rfl rfl ?_
    refine ops_pick rfl rfl rfl ?_
    refine ops_nil ?_
    refine SL.wp_cond_t rfl ?_
    refine SL.wp_seq ?_
    refine SL.wp_region ?_
    refine ops_callv rfl bod34 rfl rfl ?_
    refine (wakes2_c (M := M) hM).mono ?_
    rintro v23 w3 ⟨hB23, rfl⟩
    have Lw3 := Le.of_below (Fz := Fz) (M := M) hB23
    replace LL := LL.trans Lw3
    replace hM := hM.mono Lw3
    replace hF := hF.mono Lw3
    replace h1 := h1.mono Lw3
    replace h2 := h2.mono Lw3
    replace h3 := h3.mono Lw3
    replace hn13 := hn13.mono Lw3
    refine ops_assign rfl rfl ?_
    refine ops_nil ?_
    refine SL.wp_ret ?_
    refine leave_nil ⟨[_], ⟨rfl, trivial⟩, ?_⟩
    dsimp only [resVal]
    subst hFz
    exact ⟨LL.below (Nat.le_refl _), by first | rfl | simp⟩
  · refine ops_guard_t rfl rfl ?_
    refine ops_move rfl rfl ?_
    refine ops_guard_t rfl rfl ?_
    refine ops_callv rfl bod33 rfl rfl ?_
    refine (great2_c (M := M) (by assumption) hM).mono ?_
    rintro v17 w4 ⟨hB17, rfl⟩
    have Lw4 := Le.of_below (Fz := Fz) (M := M) hB17
    replace LL := LL.trans Lw4
    replace hM := hM.mono Lw4
    replace hF := hF.mono Lw4
    replace h1 := h1.mono Lw4
    replace h2 := h2.mono Lw4
    replace h3 := h3.mono Lw4
    replace hn13 := hn13.mono Lw4
    refine ops_pick rfl rfl rfl ?_
    refine ops_move rfl rfl ?_
    refine ops_dcase (d := 19) rfl (fun hg1_8 => ?_) (fun hg1_8 => ?_)
    · refine ops_guard_f rfl rfl rfl rfl ?_
      refine ops_guard_f rfl rfl rfl rfl ?_
      refine ops_pick rfl rfl rfl ?_
      refine ops_nil ?_
      refine SL.wp_cond_t rfl ?_
      refine SL.wp_seq ?_
      refine SL.wp_region ?_
      refine ops_callv rfl bod34 rfl rfl ?_
      refine (wakes2_c (M := M) hM).mono ?_
      rintro v23 w5 ⟨hB23, rfl⟩
      have Lw5 := Le.of_below (Fz := Fz) (M := M) hB23
      replace LL := LL.trans Lw5
      replace hM := hM.mono Lw5
      replace hF := hF.mono Lw5
      replace h1 := h1.mono Lw5
      replace h2 := h2.mono Lw5
      replace h3 := h3.mono Lw5
      replace hn13 := hn13.mono Lw5
      refine ops_assign rfl rfl ?_
      refine ops_nil ?_
      refine SL.wp_ret ?_
      refine leave_nil ⟨[_], ⟨rfl, trivial⟩, ?_⟩
      dsimp only [resVal]
      subst hFz
      exact ⟨LL.below (Nat.le_refl _), by first | rfl | simp⟩
    · refine ops_guard_t rfl rfl ?_
      refine ops_move rfl rfl ?_
      refine ops_guard_t rfl rfl ?_
      refine ops_gt rfl rfl rfl ?_
      refine ops_pick rfl rfl rfl ?_
      refine ops_nil ?_
      refine SL.wp_cond_d rfl (fun hc0 => ?_) (fun hc0 => ?_)
      · refine SL.wp_seq ?_
        refine SL.wp_region ?_
        refine ops_callv rfl bod34 rfl rfl ?_
        refine (wakes2_c (M := M) hM).mono ?_
        rintro v23 w6 ⟨hB23, rfl⟩
        have Lw6 := Le.of_below (Fz := Fz) (M := M) hB23
        replace LL := LL.trans Lw6
        replace hM := hM.mono Lw6
        replace hF := hF.mono Lw6
        replace h1 := h1.mono Lw6
        replace h2 := h2.mono Lw6
        replace h3 := h3.mono Lw6
        replace hn13 := hn13.mono Lw6
        refine ops_assign rfl rfl ?_
        refine ops_nil ?_
        refine SL.wp_ret ?_
        refine leave_nil ⟨[_], ⟨rfl, trivial⟩, ?_⟩
        dsimp only [resVal]
        subst hFz
        exact ⟨LL.below (Nat.le_refl _), by first | rfl | simp⟩
      · have hg := not_gr hg1_4
        have hq4 := hg.2 xs (by simp); have hq5 := hg.2 ys (by simp)
        have hgl := not_gr hg1_8
        have hq6 := hgl.1; have hq7 := hgl.2
        refine SL.wp_skip ?_
        refine SL.wp_seq ?_
        refine SL.wp_seq ?_
        refine SL.wp_region ?_
        refine ops_move rfl rfl ?_
        refine ops_move rfl rfl ?_
        refine ops_callv rfl bod36 rfl rfl ?_
        refine (mul_c (M := M) (by assumption) (by assumption) (by omega) (by omega) hM).mono ?_
        rintro v26 w7 ⟨hB26, hf26⟩
        have hM26 := hM; have hS26 := LL.size
        have Lw7 := Le.of_below (Fz := Fz) (M := M) hB26
        replace LL := LL.trans Lw7
        replace hM := hM.mono Lw7
        replace hF := hF.mono Lw7
        replace h1 := h1.mono Lw7
        replace h2 := h2.mono Lw7
        replace h3 := h3.mono Lw7
        replace hn13 := hn13.mono Lw7
        have hn26 := hf26.nat hM26; replace hf26 := hf26.less hS26
        refine ops_move rfl rfl ?_
        refine ops_move rfl rfl ?_
        refine ops_callv rfl bod43 rfl rfl ?_
        refine (rmul_c (M := M) (by assumption) (by assumption) (by omega) (by omega) hM).mono ?_
        rintro v29 w8 ⟨hB29, hf29⟩
        have hM29 := hM; have hS29 := LL.size
        have Lw8 := Le.of_below (Fz := Fz) (M := M) hB29
        replace LL := LL.trans Lw8
        replace hM := hM.mono Lw8
        replace hF := hF.mono Lw8
        replace h1 := h1.mono Lw8
        replace h2 := h2.mono Lw8
        replace h3 := h3.mono Lw8
        replace hn13 := hn13.mono Lw8
        replace hn26 := hn26.mono Lw8
        have hn29 := hf29.nat hM29; replace hf29 := hf29.less hS29
        refine ops_callv rfl bod38 rfl rfl ?_
        refine (same2_c (M := M) (by assumption) (by assumption) hM).mono ?_
        rintro v30 w9 ⟨hB30, rfl⟩
        have Lw9 := Le.of_below (Fz := Fz) (M := M) hB30
        replace LL := LL.trans Lw9
        replace hM := hM.mono Lw9
        replace hF := hF.mono Lw9
        replace h1 := h1.mono Lw9
        replace h2 := h2.mono Lw9
        replace h3 := h3.mono Lw9
        replace hn13 := hn13.mono Lw9
        replace hn26 := hn26.mono Lw9
        replace hn29 := hn29.mono Lw9
        refine ops_not rfl rfl ?_
        refine ops_move rfl rfl ?_
        refine ops_bf (d := 32) rfl (by first | rfl | simp | omega) ?_
        refine ops_guard_t rfl rfl ?_
        refine ops_move rfl rfl ?_
        refine ops_guard_t rfl rfl ?_
        refine ops_callv rfl bod39 rfl rfl ?_
        refine (all_c (M := M) (by assumption) (L := 120) (by omega) (by assumption) (by omega) hM).mono ?_
        rintro v34 w10 ⟨hB34, hn34⟩
        have Lw10 := Le.of_below (Fz := Fz) (M := M) hB34
        replace LL := LL.trans Lw10
        replace hM := hM.mono Lw10
        replace hF := hF.mono Lw10
        replace h1 := h1.mono Lw10
        replace h2 := h2.mono Lw10
        replace h3 := h3.mono Lw10
        replace hn13 := hn13.mono Lw10
        replace hn26 := hn26.mono Lw10
        replace hn29 := hn29.mono Lw10
        refine ops_guard_t rfl rfl ?_
        refine ops_move rfl rfl ?_
        refine ops_guard_t rfl rfl ?_
        refine ops_callv rfl bod44 rfl rfl ?_
        refine (rall_c (M := M) (by assumption) (L := 120) (by omega) (by assumption) (by omega) hM).mono ?_
        rintro v36 w11 ⟨hB36, hn36⟩
        have Lw11 := Le.of_below (Fz := Fz) (M := M) hB36
        replace LL := LL.trans Lw11
        replace hM := hM.mono Lw11
        replace hF := hF.mono Lw11
        replace h1 := h1.mono Lw11
        replace h2 := h2.mono Lw11
        replace h3 := h3.mono Lw11
        replace hn13 := hn13.mono Lw11
        replace hn26 := hn26.mono Lw11
        replace hn29 := hn29.mono Lw11
        replace hn34 := hn34.mono Lw11
        refine ops_guard_t rfl rfl ?_
        refine ops_callv rfl bod38 rfl rfl ?_
        refine (same2_c (M := M) (by assumption) (by assumption) hM).mono ?_
        rintro v37 w12 ⟨hB37, rfl⟩
        have Lw12 := Le.of_below (Fz := Fz) (M := M) hB37
        replace LL := LL.trans Lw12
        replace hM := hM.mono Lw12
        replace hF := hF.mono Lw12
        replace h1 := h1.mono Lw12
        replace h2 := h2.mono Lw12
        replace h3 := h3.mono Lw12
        replace hn13 := hn13.mono Lw12
        replace hn26 := hn26.mono Lw12
        replace hn29 := hn29.mono Lw12
        replace hn34 := hn34.mono Lw12
        replace hn36 := hn36.mono Lw12
        refine ops_guard_t rfl rfl ?_
        refine ops_not rfl rfl ?_
        refine ops_pick rfl rfl rfl ?_
        refine ops_move rfl rfl ?_
        refine ops_bf (d := 40) rfl (by first | rfl | simp | omega) ?_
        refine ops_guard_t rfl rfl ?_
        refine ops_move rfl rfl ?_
        refine ops_guard_t rfl rfl ?_
        refine ops_move rfl rfl ?_
        refine ops_guard_t rfl rfl ?_
        refine ops_callv rfl bod42 rfl rfl ?_
        refine (by_c (M := M) (by assumption) (by omega) (by omega) hM).mono ?_
        rintro v43 w13 ⟨hB43, hf43⟩
        have hM43 := hM; have hS43 := LL.size
        have Lw13 := Le.of_below (Fz := Fz) (M := M) hB43
        replace LL := LL.trans Lw13
        replace hM := hM.mono Lw13
        replace hF := hF.mono Lw13
        replace h1 := h1.mono Lw13
        replace h2 := h2.mono Lw13
        replace h3 := h3.mono Lw13
        replace hn13 := hn13.mono Lw13
        replace hn26 := hn26.mono Lw13
        replace hn29 := hn29.mono Lw13
        replace hn34 := hn34.mono Lw13
        replace hn36 := hn36.mono Lw13
        have hn43 := hf43.nat hM43; replace hf43 := hf43.less hS43
        refine ops_guard_t rfl rfl ?_
        refine ops_move rfl rfl ?_
        refine ops_guard_t rfl rfl ?_
        refine ops_move rfl rfl ?_
        refine ops_guard_t rfl rfl ?_
        refine ops_callv rfl bod45 rfl rfl ?_
        refine (rby_c (M := M) (by assumption) (by omega) (by omega) hM).mono ?_
        rintro v46 w14 ⟨hB46, hf46⟩
        have hM46 := hM; have hS46 := LL.size
        have Lw14 := Le.of_below (Fz := Fz) (M := M) hB46
        replace LL := LL.trans Lw14
        replace hM := hM.mono Lw14
        replace hF := hF.mono Lw14
        replace h1 := h1.mono Lw14
        replace h2 := h2.mono Lw14
        replace h3 := h3.mono Lw14
        replace hn13 := hn13.mono Lw14
        replace hn26 := hn26.mono Lw14
        replace hn29 := hn29.mono Lw14
        replace hn34 := hn34.mono Lw14
        replace hn36 := hn36.mono Lw14
        replace hn43 := hn43.mono Lw14
        have hn46 := hf46.nat hM46; replace hf46 := hf46.less hS46
        refine ops_guard_t rfl rfl ?_
        refine ops_callv rfl bod38 rfl rfl ?_
        refine (same2_c (M := M) (by assumption) (by assumption) hM).mono ?_
        rintro v47 w15 ⟨hB47, rfl⟩
        have Lw15 := Le.of_below (Fz := Fz) (M := M) hB47
        replace LL := LL.trans Lw15
        replace hM := hM.mono Lw15
        replace hF := hF.mono Lw15
        replace h1 := h1.mono Lw15
        replace h2 := h2.mono Lw15
        replace h3 := h3.mono Lw15
        replace hn13 := hn13.mono Lw15
        replace hn26 := hn26.mono Lw15
        replace hn29 := hn29.mono Lw15
        replace hn34 := hn34.mono Lw15
        replace hn36 := hn36.mono Lw15
        replace hn43 := hn43.mono Lw15
        replace hn46 := hn46.mono Lw15
        refine ops_guard_t rfl rfl ?_
        refine ops_not rfl rfl ?_
        refine ops_pick rfl rfl rfl ?_
        refine ops_move rfl rfl ?_
        refine ops_bf (d := 50) rfl (by first | rfl | simp | omega) ?_
        refine ops_guard_t rfl rfl ?_
        refine ops_move rfl rfl ?_
        refine ops_guard_t rfl rfl ?_
        refine ops_callv rfl bod35 rfl rfl ?_
        refine (bits_c (M := M) (by assumption) (by omega) hM).mono ?_
        rintro v52 w16 ⟨hB52, rfl⟩
        have Lw16 := Le.of_below (Fz := Fz) (M := M) hB52
        replace LL := LL.trans Lw16
        replace hM := hM.mono Lw16
        replace hF := hF.mono Lw16
        replace h1 := h1.mono Lw16
        replace h2 := h2.mono Lw16
        replace h3 := h3.mono Lw16
        replace hn13 := hn13.mono Lw16
        replace hn26 := hn26.mono Lw16
        replace hn29 := hn29.mono Lw16
        replace hn34 := hn34.mono Lw16
        replace hn36 := hn36.mono Lw16
        replace hn43 := hn43.mono Lw16
        replace hn46 := hn46.mono Lw16
        refine ops_guard_t rfl rfl ?_
        refine ops_move rfl rfl ?_
        refine ops_guard_t rfl rfl ?_
        refine ops_callv rfl bod46 rfl rfl ?_
        refine (rbits_c (M := M) (by assumption) (by omega) hM).mono ?_
        rintro v54 w17 ⟨hB54, rfl⟩
        have Lw17 := Le.of_below (Fz := Fz) (M := M) hB54
        replace LL := LL.trans Lw17
        replace hM := hM.mono Lw17
        replace hF := hF.mono Lw17
        replace h1 := h1.mono Lw17
        replace h2 := h2.mono Lw17
        replace h3 := h3.mono Lw17
        replace hn13 := hn13.mono Lw17
        replace hn26 := hn26.mono Lw17
        replace hn29 := hn29.mono Lw17
        replace hn34 := hn34.mono Lw17
        replace hn36 := hn36.mono Lw17
        replace hn43 := hn43.mono Lw17
        replace hn46 := hn46.mono Lw17
        refine ops_guard_t rfl rfl ?_
        refine ops_ne rfl rfl rfl ?_
        refine ops_bf (d := 55) rfl (by first | rfl | simp | omega) ?_
        refine ops_pick rfl rfl rfl ?_
        refine ops_nil ?_
        refine SL.wp_cond_f rfl ?_
        refine SL.wp_skip ?_
        refine SL.wp_seq ?_
        refine SL.wp_seq ?_
        refine SL.wp_region ?_
        refine ops_move rfl rfl ?_
        first | refine ops_len rfl Try.underlying23 rfl ?_ | refine ops_lens rfl Try.underlying23 rfl (IsNat.slc (by assumption)) ?_ | refine ops_lenn rfl Try.underlying23 rfl (by assumption) ?_ | refine ops_leno rfl Try.underlying23 rfl (by assumption) ?_
        refine ops_le rfl rfl rfl ?_
        refine ops_move rfl rfl ?_
        refine ops_dcase (d := 60) rfl (fun hg5_3 => ?_) (fun hg5_3 => ?_)
        · refine ops_guard_t rfl rfl ?_
          refine ops_move rfl rfl ?_
          refine ops_guard_t rfl rfl ?_
          refine ops_le rfl rfl rfl ?_
          refine ops_pick rfl rfl rfl ?_
          refine ops_move rfl rfl ?_
          refine ops_dcase (d := 64) rfl (fun hg5_7 => ?_) (fun hg5_7 => ?_)
          · refine ops_guard_t rfl rfl ?_
            refine ops_move rfl rfl ?_
            refine ops_guard_t rfl rfl ?_
            refine ops_move rfl rfl ?_
            refine ops_guard_t rfl rfl ?_
            refine ops_callv rfl bod40 rfl rfl ?_
            refine (pow_c (M := M) (L := 1000) (by omega) (by assumption) (by omega) hM).mono ?_
            rintro v67 w18 ⟨hB67, hn67⟩
            have Lw18 := Le.of_below (Fz := Fz) (M := M) hB67
            replace LL := LL.trans Lw18
            replace hM := hM.mono Lw18
            replace hF := hF.mono Lw18
            replace h1 := h1.mono Lw18
            replace h2 := h2.mono Lw18
            replace h3 := h3.mono Lw18
            replace hn13 := hn13.mono Lw18
            replace hn26 := hn26.mono Lw18
            replace hn29 := hn29.mono Lw18
            replace hn34 := hn34.mono Lw18
            replace hn36 := hn36.mono Lw18
            replace hn43 := hn43.mono Lw18
            replace hn46 := hn46.mono Lw18
            refine ops_guard_t rfl rfl ?_
            refine ops_move rfl rfl ?_
            refine ops_guard_t rfl rfl ?_
            refine ops_move rfl rfl ?_
            refine ops_guard_t rfl rfl ?_
            refine ops_callv rfl bod47 rfl rfl ?_
            refine (rpow_c (M := M) (by assumption) (by omega) hM).mono ?_
            rintro v70 w19 ⟨hB70, hn70⟩
            have Lw19 := Le.of_below (Fz := Fz) (M := M) hB70
            replace LL := LL.trans Lw19
            replace hM := hM.mono Lw19
            replace hF := hF.mono Lw19
            replace h1 := h1.mono Lw19
            replace h2 := h2.mono Lw19
            replace h3 := h3.mono Lw19
            replace hn13 := hn13.mono Lw19
            replace hn26 := hn26.mono Lw19
            replace hn29 := hn29.mono Lw19
            replace hn34 := hn34.mono Lw19
            replace hn36 := hn36.mono Lw19
            replace hn43 := hn43.mono Lw19
            replace hn46 := hn46.mono Lw19
            replace hn67 := hn67.mono Lw19
            refine ops_guard_t rfl rfl ?_
            refine ops_callv rfl bod38 rfl rfl ?_
            refine (same2_c (M := M) (by assumption) (by assumption) hM).mono ?_
            rintro v71 w20 ⟨hB71, rfl⟩
            have Lw20 := Le.of_below (Fz := Fz) (M := M) hB71
            replace LL := LL.trans Lw20
            replace hM := hM.mono Lw20
            replace hF := hF.mono Lw20
            replace h1 := h1.mono Lw20
            replace h2 := h2.mono Lw20
            replace h3 := h3.mono Lw20
            replace hn13 := hn13.mono Lw20
            replace hn26 := hn26.mono Lw20
            replace hn29 := hn29.mono Lw20
            replace hn34 := hn34.mono Lw20
            replace hn36 := hn36.mono Lw20
            replace hn43 := hn43.mono Lw20
            replace hn46 := hn46.mono Lw20
            replace hn67 := hn67.mono Lw20
            replace hn70 := hn70.mono Lw20
            refine ops_guard_t rfl rfl ?_
            refine ops_not rfl rfl ?_
            refine ops_bf (d := 72) rfl (by first | rfl | simp | omega) ?_
            refine ops_pick rfl rfl rfl ?_
            refine ops_nil ?_
            refine SL.wp_cond_f rfl ?_
            refine SL.wp_skip ?_
            refine SL.wp_seq ?_
            refine SL.wp_region ?_
            refine ops_move rfl rfl ?_
            refine ops_move rfl rfl ?_
            refine ops_callv rfl bod37 rfl rfl ?_
            refine (up_c (M := M) (by assumption) (by omega) hM).mono ?_
            rintro v76 w21 ⟨hB76, hf76⟩
            have hM76 := hM; have hS76 := LL.size
            have Lw21 := Le.of_below (Fz := Fz) (M := M) hB76
            replace LL := LL.trans Lw21
            replace hM := hM.mono Lw21
            replace hF := hF.mono Lw21
            replace h1 := h1.mono Lw21
            replace h2 := h2.mono Lw21
            replace h3 := h3.mono Lw21
            replace hn13 := hn13.mono Lw21
            replace hn26 := hn26.mono Lw21
            replace hn29 := hn29.mono Lw21
            replace hn34 := hn34.mono Lw21
            replace hn36 := hn36.mono Lw21
            replace hn43 := hn43.mono Lw21
            replace hn46 := hn46.mono Lw21
            replace hn67 := hn67.mono Lw21
            replace hn70 := hn70.mono Lw21
            have hn76 := hf76.nat hM76; replace hf76 := hf76.less hS76
            refine ops_move rfl rfl ?_
            refine ops_move rfl rfl ?_
            refine ops_callv rfl bod48 rfl rfl ?_
            refine (rup_c (M := M) (by assumption) (by omega) hM).mono ?_
            rintro v79 w22 ⟨hB79, hf79⟩
            have hM79 := hM; have hS79 := LL.size
            have Lw22 := Le.of_below (Fz := Fz) (M := M) hB79
            replace LL := LL.trans Lw22
            replace hM := hM.mono Lw22
            replace hF := hF.mono Lw22
            replace h1 := h1.mono Lw22
            replace h2 := h2.mono Lw22
            replace h3 := h3.mono Lw22
            replace hn13 := hn13.mono Lw22
            replace hn26 := hn26.mono Lw22
            replace hn29 := hn29.mono Lw22
            replace hn34 := hn34.mono Lw22
            replace hn36 := hn36.mono Lw22
            replace hn43 := hn43.mono Lw22
            replace hn46 := hn46.mono Lw22
            replace hn67 := hn67.mono Lw22
            replace hn70 := hn70.mono Lw22
            replace hn76 := hn76.mono Lw22
            have hn79 := hf79.nat hM79; replace hf79 := hf79.less hS79
            refine ops_callv rfl bod38 rfl rfl ?_
            refine (same2_c (M := M) (by assumption) (by assumption) hM).mono ?_
            rintro v80 w23 ⟨hB80, rfl⟩
            have Lw23 := Le.of_below (Fz := Fz) (M := M) hB80
            replace LL := LL.trans Lw23
            replace hM := hM.mono Lw23
            replace hF := hF.mono Lw23
            replace h1 := h1.mono Lw23
            replace h2 := h2.mono Lw23
            replace h3 := h3.mono Lw23
            replace hn13 := hn13.mono Lw23
            replace hn26 := hn26.mono Lw23
            replace hn29 := hn29.mono Lw23
            replace hn34 := hn34.mono Lw23
            replace hn36 := hn36.mono Lw23
            replace hn43 := hn43.mono Lw23
            replace hn46 := hn46.mono Lw23
            replace hn67 := hn67.mono Lw23
            replace hn70 := hn70.mono Lw23
            replace hn76 := hn76.mono Lw23
            replace hn79 := hn79.mono Lw23
            refine ops_move rfl rfl ?_
            refine ops_bt (d := 81) rfl (by first | rfl | simp | omega) ?_
            refine ops_guard_t rfl rfl ?_
            refine ops_move rfl rfl ?_
            refine ops_guard_t rfl rfl ?_
            refine ops_move rfl rfl ?_
            refine ops_guard_t rfl rfl ?_
            refine ops_callv rfl bod41 rfl rfl ?_
            refine (down_c (M := M) (by assumption) (by omega) hM).mono ?_
            rintro v84 w24 ⟨hB84, hf84⟩
            have hM84 := hM; have hS84 := LL.size
            have Lw24 := Le.of_below (Fz := Fz) (M := M) hB84
            replace LL := LL.trans Lw24
            replace hM := hM.mono Lw24
            replace hF := hF.mono Lw24
            replace h1 := h1.mono Lw24
            replace h2 := h2.mono Lw24
            replace h3 := h3.mono Lw24
            replace hn13 := hn13.mono Lw24
            replace hn26 := hn26.mono Lw24
            replace hn29 := hn29.mono Lw24
            replace hn34 := hn34.mono Lw24
            replace hn36 := hn36.mono Lw24
            replace hn43 := hn43.mono Lw24
            replace hn46 := hn46.mono Lw24
            replace hn67 := hn67.mono Lw24
            replace hn70 := hn70.mono Lw24
            replace hn76 := hn76.mono Lw24
            replace hn79 := hn79.mono Lw24
            have hn84 := hf84.nat hM84; replace hf84 := hf84.less hS84
            refine ops_guard_t rfl rfl ?_
            refine ops_move rfl rfl ?_
            refine ops_guard_t rfl rfl ?_
            refine ops_move rfl rfl ?_
            refine ops_guard_t rfl rfl ?_
            refine ops_callv rfl bod49 rfl rfl ?_
            refine (rdown_c (M := M) (by assumption) (by omega) hM).mono ?_
            rintro v87 w25 ⟨hB87, hf87⟩
            have hM87 := hM; have hS87 := LL.size
            have Lw25 := Le.of_below (Fz := Fz) (M := M) hB87
            replace LL := LL.trans Lw25
            replace hM := hM.mono Lw25
            replace hF := hF.mono Lw25
            replace h1 := h1.mono Lw25
            replace h2 := h2.mono Lw25
            replace h3 := h3.mono Lw25
            replace hn13 := hn13.mono Lw25
            replace hn26 := hn26.mono Lw25
            replace hn29 := hn29.mono Lw25
            replace hn34 := hn34.mono Lw25
            replace hn36 := hn36.mono Lw25
            replace hn43 := hn43.mono Lw25
            replace hn46 := hn46.mono Lw25
            replace hn67 := hn67.mono Lw25
            replace hn70 := hn70.mono Lw25
            replace hn76 := hn76.mono Lw25
            replace hn79 := hn79.mono Lw25
            replace hn84 := hn84.mono Lw25
            have hn87 := hf87.nat hM87; replace hf87 := hf87.less hS87
            refine ops_guard_t rfl rfl ?_
            refine ops_callv rfl bod38 rfl rfl ?_
            refine (same2_c (M := M) (by assumption) (by assumption) hM).mono ?_
            rintro v88 w26 ⟨hB88, rfl⟩
            have Lw26 := Le.of_below (Fz := Fz) (M := M) hB88
            replace LL := LL.trans Lw26
            replace hM := hM.mono Lw26
            replace hF := hF.mono Lw26
            replace h1 := h1.mono Lw26
            replace h2 := h2.mono Lw26
            replace h3 := h3.mono Lw26
            replace hn13 := hn13.mono Lw26
            replace hn26 := hn26.mono Lw26
            replace hn29 := hn29.mono Lw26
            replace hn34 := hn34.mono Lw26
            replace hn36 := hn36.mono Lw26
            replace hn43 := hn43.mono Lw26
            replace hn46 := hn46.mono Lw26
            replace hn67 := hn67.mono Lw26
            replace hn70 := hn70.mono Lw26
            replace hn76 := hn76.mono Lw26
            replace hn79 := hn79.mono Lw26
            replace hn84 := hn84.mono Lw26
            replace hn87 := hn87.mono Lw26
            refine ops_pick rfl rfl rfl ?_
            refine ops_move rfl rfl ?_
            refine ops_bt (d := 90) rfl (by first | rfl | simp | omega) ?_
            refine ops_guard_t rfl rfl ?_
            refine ops_callv rfl bod34 rfl rfl ?_
            refine (wakes2_c (M := M) hM).mono ?_
            rintro v91 w27 ⟨hB91, rfl⟩
            have Lw27 := Le.of_below (Fz := Fz) (M := M) hB91
            replace LL := LL.trans Lw27
            replace hM := hM.mono Lw27
            replace hF := hF.mono Lw27
            replace h1 := h1.mono Lw27
            replace h2 := h2.mono Lw27
            replace h3 := h3.mono Lw27
            replace hn13 := hn13.mono Lw27
            replace hn26 := hn26.mono Lw27
            replace hn29 := hn29.mono Lw27
            replace hn34 := hn34.mono Lw27
            replace hn36 := hn36.mono Lw27
            replace hn43 := hn43.mono Lw27
            replace hn46 := hn46.mono Lw27
            replace hn67 := hn67.mono Lw27
            replace hn70 := hn70.mono Lw27
            replace hn76 := hn76.mono Lw27
            replace hn79 := hn79.mono Lw27
            replace hn84 := hn84.mono Lw27
            replace hn87 := hn87.mono Lw27
            refine ops_pick rfl rfl rfl ?_
            refine ops_assign rfl rfl ?_
            refine ops_nil ?_
            refine SL.wp_ret ?_
            refine leave_nil ⟨[_], ⟨rfl, trivial⟩, ?_⟩
            dsimp only [resVal]
            subst hFz
            exact ⟨LL.below (Nat.le_refl _), by first | rfl | simp⟩
          · refine ops_guard_f rfl rfl rfl rfl ?_
            refine ops_guard_f rfl rfl rfl rfl ?_
            refine ops_guard_f rfl rfl rfl rfl ?_
            refine ops_guard_f rfl rfl rfl rfl ?_
            refine ops_guard_f rfl rfl rfl rfl ?_
            refine ops_guard_f rfl rfl rfl rfl ?_
            refine ops_guard_f rfl rfl rfl rfl ?_
            refine ops_guard_f rfl rfl rfl rfl ?_
            refine ops_pick rfl rfl rfl ?_
            refine ops_nil ?_
            refine SL.wp_cond_f rfl ?_
            refine SL.wp_skip ?_
            refine SL.wp_seq ?_
            refine SL.wp_region ?_
            refine ops_move rfl rfl ?_
            refine ops_move rfl rfl ?_
            refine ops_callv rfl bod37 rfl rfl ?_
            refine (up_c (M := M) (by assumption) (by omega) hM).mono ?_
            rintro v76 w28 ⟨hB76, hf76⟩
            have hM76 := hM; have hS76 := LL.size
            have Lw28 := Le.of_below (Fz := Fz) (M := M) hB76
            replace LL := LL.trans Lw28
            replace hM := hM.mono Lw28
            replace hF := hF.mono Lw28
            replace h1 := h1.mono Lw28
            replace h2 := h2.mono Lw28
            replace h3 := h3.mono Lw28
            replace hn13 := hn13.mono Lw28
            replace hn26 := hn26.mono Lw28
            replace hn29 := hn29.mono Lw28
            replace hn34 := hn34.mono Lw28
            replace hn36 := hn36.mono Lw28
            replace hn43 := hn43.mono Lw28
            replace hn46 := hn46.mono Lw28
            have hn76 := hf76.nat hM76; replace hf76 := hf76.less hS76
            refine ops_move rfl rfl ?_
            refine ops_move rfl rfl ?_
            refine ops_callv rfl bod48 rfl rfl ?_
            refine (rup_c (M := M) (by assumption) (by omega) hM).mono ?_
            rintro v79 w29 ⟨hB79, hf79⟩
            have hM79 := hM; have hS79 := LL.size
            have Lw29 := Le.of_below (Fz := Fz) (M := M) hB79
            replace LL := LL.trans Lw29
            replace hM := hM.mono Lw29
            replace hF := hF.mono Lw29
            replace h1 := h1.mono Lw29
            replace h2 := h2.mono Lw29
            replace h3 := h3.mono Lw29
            replace hn13 := hn13.mono Lw29
            replace hn26 := hn26.mono Lw29
            replace hn29 := hn29.mono Lw29
            replace hn34 := hn34.mono Lw29
            replace hn36 := hn36.mono Lw29
            replace hn43 := hn43.mono Lw29
            replace hn46 := hn46.mono Lw29
            replace hn76 := hn76.mono Lw29
            have hn79 := hf79.nat hM79; replace hf79 := hf79.less hS79
            refine ops_callv rfl bod38 rfl rfl ?_
            refine (same2_c (M := M) (by assumption) (by assumption) hM).mono ?_
            rintro v80 w30 ⟨hB80, rfl⟩
            have Lw30 := Le.of_below (Fz := Fz) (M := M) hB80
            replace LL := LL.trans Lw30
            replace hM := hM.mono Lw30
            replace hF := hF.mono Lw30
            replace h1 := h1.mono Lw30
            replace h2 := h2.mono Lw30
            replace h3 := h3.mono Lw30
            replace hn13 := hn13.mono Lw30
            replace hn26 := hn26.mono Lw30
            replace hn29 := hn29.mono Lw30
            replace hn34 := hn34.mono Lw30
            replace hn36 := hn36.mono Lw30
            replace hn43 := hn43.mono Lw30
            replace hn46 := hn46.mono Lw30
            replace hn76 := hn76.mono Lw30
            replace hn79 := hn79.mono Lw30
            refine ops_move rfl rfl ?_
            refine ops_bt (d := 81) rfl (by first | rfl | simp | omega) ?_
            refine ops_guard_t rfl rfl ?_
            refine ops_move rfl rfl ?_
            refine ops_guard_t rfl rfl ?_
            refine ops_move rfl rfl ?_
            refine ops_guard_t rfl rfl ?_
            refine ops_callv rfl bod41 rfl rfl ?_
            refine (down_c (M := M) (by assumption) (by omega) hM).mono ?_
            rintro v84 w31 ⟨hB84, hf84⟩
            have hM84 := hM; have hS84 := LL.size
            have Lw31 := Le.of_below (Fz := Fz) (M := M) hB84
            replace LL := LL.trans Lw31
            replace hM := hM.mono Lw31
            replace hF := hF.mono Lw31
            replace h1 := h1.mono Lw31
            replace h2 := h2.mono Lw31
            replace h3 := h3.mono Lw31
            replace hn13 := hn13.mono Lw31
            replace hn26 := hn26.mono Lw31
            replace hn29 := hn29.mono Lw31
            replace hn34 := hn34.mono Lw31
            replace hn36 := hn36.mono Lw31
            replace hn43 := hn43.mono Lw31
            replace hn46 := hn46.mono Lw31
            replace hn76 := hn76.mono Lw31
            replace hn79 := hn79.mono Lw31
            have hn84 := hf84.nat hM84; replace hf84 := hf84.less hS84
            refine ops_guard_t rfl rfl ?_
            refine ops_move rfl rfl ?_
            refine ops_guard_t rfl rfl ?_
            refine ops_move rfl rfl ?_
            refine ops_guard_t rfl rfl ?_
            refine ops_callv rfl bod49 rfl rfl ?_
            refine (rdown_c (M := M) (by assumption) (by omega) hM).mono ?_
            rintro v87 w32 ⟨hB87, hf87⟩
            have hM87 := hM; have hS87 := LL.size
            have Lw32 := Le.of_below (Fz := Fz) (M := M) hB87
            replace LL := LL.trans Lw32
            replace hM := hM.mono Lw32
            replace hF := hF.mono Lw32
            replace h1 := h1.mono Lw32
            replace h2 := h2.mono Lw32
            replace h3 := h3.mono Lw32
            replace hn13 := hn13.mono Lw32
            replace hn26 := hn26.mono Lw32
            replace hn29 := hn29.mono Lw32
            replace hn34 := hn34.mono Lw32
            replace hn36 := hn36.mono Lw32
            replace hn43 := hn43.mono Lw32
            replace hn46 := hn46.mono Lw32
            replace hn76 := hn76.mono Lw32
            replace hn79 := hn79.mono Lw32
            replace hn84 := hn84.mono Lw32
            have hn87 := hf87.nat hM87; replace hf87 := hf87.less hS87
            refine ops_guard_t rfl rfl ?_
            refine ops_callv rfl bod38 rfl rfl ?_
            refine (same2_c (M := M) (by assumption) (by assumption) hM).mono ?_
            rintro v88 w33 ⟨hB88, rfl⟩
            have Lw33 := Le.of_below (Fz := Fz) (M := M) hB88
            replace LL := LL.trans Lw33
            replace hM := hM.mono Lw33
            replace hF := hF.mono Lw33
            replace h1 := h1.mono Lw33
            replace h2 := h2.mono Lw33
            replace h3 := h3.mono Lw33
            replace hn13 := hn13.mono Lw33
            replace hn26 := hn26.mono Lw33
            replace hn29 := hn29.mono Lw33
            replace hn34 := hn34.mono Lw33
            replace hn36 := hn36.mono Lw33
            replace hn43 := hn43.mono Lw33
            replace hn46 := hn46.mono Lw33
            replace hn76 := hn76.mono Lw33
            replace hn79 := hn79.mono Lw33
            replace hn84 := hn84.mono Lw33
            replace hn87 := hn87.mono Lw33
            refine ops_pick rfl rfl rfl ?_
            refine ops_move rfl rfl ?_
            refine ops_bt (d := 90) rfl (by first | rfl | simp | omega) ?_
            refine ops_guard_t rfl rfl ?_
            refine ops_callv rfl bod34 rfl rfl ?_
            refine (wakes2_c (M := M) hM).mono ?_
            rintro v91 w34 ⟨hB91, rfl⟩
            have Lw34 := Le.of_below (Fz := Fz) (M := M) hB91
            replace LL := LL.trans Lw34
            replace hM := hM.mono Lw34
            replace hF := hF.mono Lw34
            replace h1 := h1.mono Lw34
            replace h2 := h2.mono Lw34
            replace h3 := h3.mono Lw34
            replace hn13 := hn13.mono Lw34
            replace hn26 := hn26.mono Lw34
            replace hn29 := hn29.mono Lw34
            replace hn34 := hn34.mono Lw34
            replace hn36 := hn36.mono Lw34
            replace hn43 := hn43.mono Lw34
            replace hn46 := hn46.mono Lw34
            replace hn76 := hn76.mono Lw34
            replace hn79 := hn79.mono Lw34
            replace hn84 := hn84.mono Lw34
            replace hn87 := hn87.mono Lw34
            refine ops_pick rfl rfl rfl ?_
            refine ops_assign rfl rfl ?_
            refine ops_nil ?_
            refine SL.wp_ret ?_
            refine leave_nil ⟨[_], ⟨rfl, trivial⟩, ?_⟩
            dsimp only [resVal]
            subst hFz
            exact ⟨LL.below (Nat.le_refl _), by first | rfl | simp⟩
        · refine ops_guard_f rfl rfl rfl rfl ?_
          refine ops_guard_f rfl rfl rfl rfl ?_
          refine ops_pick rfl rfl rfl ?_
          refine ops_move rfl rfl ?_
          refine ops_guard_f rfl rfl rfl rfl ?_
          refine ops_guard_f rfl rfl rfl rfl ?_
          refine ops_guard_f rfl rfl rfl rfl ?_
          refine ops_guard_f rfl rfl rfl rfl ?_
          refine ops_guard_f rfl rfl rfl rfl ?_
          refine ops_guard_f rfl rfl rfl rfl ?_
          refine ops_guard_f rfl rfl rfl rfl ?_
          refine ops_guard_f rfl rfl rfl rfl ?_
          refine ops_pick rfl rfl rfl ?_
          refine ops_nil ?_
          refine SL.wp_cond_f rfl ?_
          refine SL.wp_skip ?_
          refine SL.wp_seq ?_
          refine SL.wp_region ?_
          refine ops_move rfl rfl ?_
          refine ops_move rfl rfl ?_
          refine ops_callv rfl bod37 rfl rfl ?_
          refine (up_c (M := M) (by assumption) (by omega) hM).mono ?_
          rintro v76 w35 ⟨hB76, hf76⟩
          have hM76 := hM; have hS76 := LL.size
          have Lw35 := Le.of_below (Fz := Fz) (M := M) hB76
          replace LL := LL.trans Lw35
          replace hM := hM.mono Lw35
          replace hF := hF.mono Lw35
          replace h1 := h1.mono Lw35
          replace h2 := h2.mono Lw35
          replace h3 := h3.mono Lw35
          replace hn13 := hn13.mono Lw35
          replace hn26 := hn26.mono Lw35
          replace hn29 := hn29.mono Lw35
          replace hn34 := hn34.mono Lw35
          replace hn36 := hn36.mono Lw35
          replace hn43 := hn43.mono Lw35
          replace hn46 := hn46.mono Lw35
          have hn76 := hf76.nat hM76; replace hf76 := hf76.less hS76
          refine ops_move rfl rfl ?_
          refine ops_move rfl rfl ?_
          refine ops_callv rfl bod48 rfl rfl ?_
          refine (rup_c (M := M) (by assumption) (by omega) hM).mono ?_
          rintro v79 w36 ⟨hB79, hf79⟩
          have hM79 := hM; have hS79 := LL.size
          have Lw36 := Le.of_below (Fz := Fz) (M := M) hB79
          replace LL := LL.trans Lw36
          replace hM := hM.mono Lw36
          replace hF := hF.mono Lw36
          replace h1 := h1.mono Lw36
          replace h2 := h2.mono Lw36
          replace h3 := h3.mono Lw36
          replace hn13 := hn13.mono Lw36
          replace hn26 := hn26.mono Lw36
          replace hn29 := hn29.mono Lw36
          replace hn34 := hn34.mono Lw36
          replace hn36 := hn36.mono Lw36
          replace hn43 := hn43.mono Lw36
          replace hn46 := hn46.mono Lw36
          replace hn76 := hn76.mono Lw36
          have hn79 := hf79.nat hM79; replace hf79 := hf79.less hS79
          refine ops_callv rfl bod38 rfl rfl ?_
          refine (same2_c (M := M) (by assumption) (by assumption) hM).mono ?_
          rintro v80 w37 ⟨hB80, rfl⟩
          have Lw37 := Le.of_below (Fz := Fz) (M := M) hB80
          replace LL := LL.trans Lw37
          replace hM := hM.mono Lw37
          replace hF := hF.mono Lw37
          replace h1 := h1.mono Lw37
          replace h2 := h2.mono Lw37
          replace h3 := h3.mono Lw37
          replace hn13 := hn13.mono Lw37
          replace hn26 := hn26.mono Lw37
          replace hn29 := hn29.mono Lw37
          replace hn34 := hn34.mono Lw37
          replace hn36 := hn36.mono Lw37
          replace hn43 := hn43.mono Lw37
          replace hn46 := hn46.mono Lw37
          replace hn76 := hn76.mono Lw37
          replace hn79 := hn79.mono Lw37
          refine ops_move rfl rfl ?_
          refine ops_bt (d := 81) rfl (by first | rfl | simp | omega) ?_
          refine ops_guard_t rfl rfl ?_
          refine ops_move rfl rfl ?_
          refine ops_guard_t rfl rfl ?_
          refine ops_move rfl rfl ?_
          refine ops_guard_t rfl rfl ?_
          refine ops_callv rfl bod41 rfl rfl ?_
          refine (down_c (M := M) (by assumption) (by omega) hM).mono ?_
          rintro v84 w38 ⟨hB84, hf84⟩
          have hM84 := hM; have hS84 := LL.size
          have Lw38 := Le.of_below (Fz := Fz) (M := M) hB84
          replace LL := LL.trans Lw38
          replace hM := hM.mono Lw38
          replace hF := hF.mono Lw38
          replace h1 := h1.mono Lw38
          replace h2 := h2.mono Lw38
          replace h3 := h3.mono Lw38
          replace hn13 := hn13.mono Lw38
          replace hn26 := hn26.mono Lw38
          replace hn29 := hn29.mono Lw38
          replace hn34 := hn34.mono Lw38
          replace hn36 := hn36.mono Lw38
          replace hn43 := hn43.mono Lw38
          replace hn46 := hn46.mono Lw38
          replace hn76 := hn76.mono Lw38
          replace hn79 := hn79.mono Lw38
          have hn84 := hf84.nat hM84; replace hf84 := hf84.less hS84
          refine ops_guard_t rfl rfl ?_
          refine ops_move rfl rfl ?_
          refine ops_guard_t rfl rfl ?_
          refine ops_move rfl rfl ?_
          refine ops_guard_t rfl rfl ?_
          refine ops_callv rfl bod49 rfl rfl ?_
          refine (rdown_c (M := M) (by assumption) (by omega) hM).mono ?_
          rintro v87 w39 ⟨hB87, hf87⟩
          have hM87 := hM; have hS87 := LL.size
          have Lw39 := Le.of_below (Fz := Fz) (M := M) hB87
          replace LL := LL.trans Lw39
          replace hM := hM.mono Lw39
          replace hF := hF.mono Lw39
          replace h1 := h1.mono Lw39
          replace h2 := h2.mono Lw39
          replace h3 := h3.mono Lw39
          replace hn13 := hn13.mono Lw39
          replace hn26 := hn26.mono Lw39
          replace hn29 := hn29.mono Lw39
          replace hn34 := hn34.mono Lw39
          replace hn36 := hn36.mono Lw39
          replace hn43 := hn43.mono Lw39
          replace hn46 := hn46.mono Lw39
          replace hn76 := hn76.mono Lw39
          replace hn79 := hn79.mono Lw39
          replace hn84 := hn84.mono Lw39
          have hn87 := hf87.nat hM87; replace hf87 := hf87.less hS87
          refine ops_guard_t rfl rfl ?_
          refine ops_callv rfl bod38 rfl rfl ?_
          refine (same2_c (M := M) (by assumption) (by assumption) hM).mono ?_
          rintro v88 w40 ⟨hB88, rfl⟩
          have Lw40 := Le.of_below (Fz := Fz) (M := M) hB88
          replace LL := LL.trans Lw40
          replace hM := hM.mono Lw40
          replace hF := hF.mono Lw40
          replace h1 := h1.mono Lw40
          replace h2 := h2.mono Lw40
          replace h3 := h3.mono Lw40
          replace hn13 := hn13.mono Lw40
          replace hn26 := hn26.mono Lw40
          replace hn29 := hn29.mono Lw40
          replace hn34 := hn34.mono Lw40
          replace hn36 := hn36.mono Lw40
          replace hn43 := hn43.mono Lw40
          replace hn46 := hn46.mono Lw40
          replace hn76 := hn76.mono Lw40
          replace hn79 := hn79.mono Lw40
          replace hn84 := hn84.mono Lw40
          replace hn87 := hn87.mono Lw40
          refine ops_pick rfl rfl rfl ?_
          refine ops_move rfl rfl ?_
          refine ops_bt (d := 90) rfl (by first | rfl | simp | omega) ?_
          refine ops_guard_t rfl rfl ?_
          refine ops_callv rfl bod34 rfl rfl ?_
          refine (wakes2_c (M := M) hM).mono ?_
          rintro v91 w41 ⟨hB91, rfl⟩
          have Lw41 := Le.of_below (Fz := Fz) (M := M) hB91
          replace LL := LL.trans Lw41
          replace hM := hM.mono Lw41
          replace hF := hF.mono Lw41
          replace h1 := h1.mono Lw41
          replace h2 := h2.mono Lw41
          replace h3 := h3.mono Lw41
          replace hn13 := hn13.mono Lw41
          replace hn26 := hn26.mono Lw41
          replace hn29 := hn29.mono Lw41
          replace hn34 := hn34.mono Lw41
          replace hn36 := hn36.mono Lw41
          replace hn43 := hn43.mono Lw41
          replace hn46 := hn46.mono Lw41
          replace hn76 := hn76.mono Lw41
          replace hn79 := hn79.mono Lw41
          replace hn84 := hn84.mono Lw41
          replace hn87 := hn87.mono Lw41
          refine ops_pick rfl rfl rfl ?_
          refine ops_assign rfl rfl ?_
          refine ops_nil ?_
          refine SL.wp_ret ?_
          refine leave_nil ⟨[_], ⟨rfl, trivial⟩, ?_⟩
          dsimp only [resVal]
          subst hFz
          exact ⟨LL.below (Nat.le_refl _), by first | rfl | simp⟩


theorem prodOrder_c {M : Nat → Prop} {w : World} {v1 v2 v3 : Value} {xs ys zs : List Nat} (h1 : IsNat M w v1 xs) (h2 : IsNat M w v2 ys) (h3 : IsNat M w v3 zs) (hM : OkM M w) :
    CallsV Try.prog 9 [v1, v2, v3] w fun r w' => Below w.heap.size w w' ∧ r = .bool true := by
  obtain ⟨Fz, hFz⟩ : ∃ Fz : Nat → Prop, Fz = (· < w.heap.size) := ⟨_, rfl⟩
  have hF : FOk Fz w := by subst hFz; exact fun _ h => h
  have LL := Le.refl Fz M w; have hM0 := hM
  refine calls_intro Try.func9 rfl Try.ntmps9 rfl ?_
  refine SL.wp_seq ?_
  refine SL.wp_region ?_
  refine ops_assign rfl rfl ?_
  refine ops_nil ?_
  refine SL.wp_seq ?_
  refine SL.wp_seq ?_
  refine SL.wp_region ?_
  refine ops_move rfl rfl ?_
  refine ops_move rfl rfl ?_
  refine ops_move rfl rfl ?_
  refine ops_buildSlice rfl Try.underlying24 sz23 rfl rfl rfl (one3 (by first | rfl | exact nat_one (by assumption) | exact own_one (by assumption)) (by first | rfl | exact nat_one (by assumption) | exact own_one (by assumption)) (by first | rfl | exact nat_one (by assumption) | exact own_one (by assumption))) rfl (fun w1 b13 N13 => ?_)
  have hBw1 := N13.below
  have nM13 := hM.new N13; have B13 := N13.blk
  have Lw1 := Le.of_below (Fz := Fz) (M := M) hBw1
  replace LL := LL.trans Lw1
  replace hM := hM.mono Lw1
  replace hF := hF.mono Lw1
  replace h1 := h1.mono Lw1
  replace h2 := h2.mono Lw1
  replace h3 := h3.mono Lw1
  have hn13 := nats3 B13 nM13 h1 h2 h3
  refine ops_callv rfl bod33 rfl rfl ?_
  refine (great2_c (M := M) (by assumption) hM).mono ?_
  rintro v14 w2 ⟨hB14, rfl⟩
  have Lw2 := Le.of_below (Fz := Fz) (M := M) hB14
  replace LL := LL.trans Lw2
  replace hM := hM.mono Lw2
  replace hF := hF.mono Lw2
  replace h1 := h1.mono Lw2
  replace h2 := h2.mono Lw2
  replace h3 := h3.mono Lw2
  replace hn13 := hn13.mono Lw2
  refine ops_nil ?_
  refine SL.wp_cond_d rfl (fun hc0 => ?_) (fun hc0 => ?_)
  · refine SL.wp_seq ?_
    refine SL.wp_region ?_
    refine ops_callv rfl bod34 rfl rfl ?_
    refine (wakes2_c (M := M) hM).mono ?_
    rintro v15 w3 ⟨hB15, rfl⟩
    have Lw3 := Le.of_below (Fz := Fz) (M := M) hB15
    replace LL := LL.trans Lw3
    replace hM := hM.mono Lw3
    replace hF := hF.mono Lw3
    replace h1 := h1.mono Lw3
    replace h2 := h2.mono Lw3
    replace h3 := h3.mono Lw3
    replace hn13 := hn13.mono Lw3
    refine ops_assign rfl rfl ?_
    refine ops_nil ?_
    refine SL.wp_ret ?_
    refine leave_nil ⟨[_], ⟨rfl, trivial⟩, ?_⟩
    dsimp only [resVal]
    subst hFz
    exact ⟨LL.below (Nat.le_refl _), by first | rfl | simp⟩
  · have hg := not_gr hc0
    have hq4 := hg.2 xs (by simp); have hq5 := hg.2 ys (by simp); have hq6 := hg.2 zs (by simp)
    have hl1 := mul_len (val_lt_pow h1.lt hq4) (val_lt_pow h2.lt hq5)
    have hl2 := mul_len (val_lt_pow h2.lt hq5) (val_lt_pow h3.lt hq6)
    have hl3 := mul_len (val_lt_pow h1.lt hq4) (val_lt_pow h3.lt hq6)
    have hl4 := add_len (val_lt_pow h2.lt hq5) (val_lt_pow h3.lt hq6)
    have ha1 : ∀ qs ∈ [xs, ys, zs], qs.length ≤ 120 := by intro q hq; simp at hq; rcases hq with rfl | rfl | rfl <;> assumption
    have ha2 : ∀ qs ∈ [zs, xs, ys], qs.length ≤ 120 := by intro q hq; simp at hq; rcases hq with rfl | rfl | rfl <;> assumption
    refine SL.wp_skip ?_
    refine SL.wp_seq ?_
    refine SL.wp_region ?_
    refine ops_move rfl rfl ?_
    refine ops_move rfl rfl ?_
    refine ops_callv rfl bod36 rfl rfl ?_
    refine (mul_c (M := M) (by assumption) (by assumption) (by omega) (by omega) hM).mono ?_
    rintro v18 w4 ⟨hB18, hf18⟩
    have hM18 := hM; have hS18 := LL.size
    have Lw4 := Le.of_below (Fz := Fz) (M := M) hB18
    replace LL := LL.trans Lw4
    replace hM := hM.mono Lw4
    replace hF := hF.mono Lw4
    replace h1 := h1.mono Lw4
    replace h2 := h2.mono Lw4
    replace h3 := h3.mono Lw4
    replace hn13 := hn13.mono Lw4
    have hn18 := hf18.nat hM18; replace hf18 := hf18.less hS18
    refine ops_move rfl rfl ?_
    refine ops_move rfl rfl ?_
    refine ops_callv rfl bod36 rfl rfl ?_
    refine (mul_c (M := M) (by assumption) (by assumption) (by omega) (by omega) hM).mono ?_
    rintro v21 w5 ⟨hB21, hf21⟩
    have hM21 := hM; have hS21 := LL.size
    have Lw5 := Le.of_below (Fz := Fz) (M := M) hB21
    replace LL := LL.trans Lw5
    replace hM := hM.mono Lw5
    replace hF := hF.mono Lw5
    replace h1 := h1.mono Lw5
    replace h2 := h2.mono Lw5
    replace h3 := h3.mono Lw5
    replace hn13 := hn13.mono Lw5
    replace hn18 := hn18.mono Lw5
    have hn21 := hf21.nat hM21; replace hf21 := hf21.less hS21
    refine ops_assign rfl rfl ?_
    refine ops_assign rfl rfl ?_
    refine ops_nil ?_
    refine SL.wp_seq ?_
    refine SL.wp_seq ?_
    refine SL.wp_region ?_
    refine ops_move rfl rfl ?_
    refine ops_move rfl rfl ?_
    refine ops_move rfl rfl ?_
    refine ops_callv rfl bod36 rfl rfl ?_
    refine (mul_c (M := M) (by assumption) (by assumption) (by omega) (by omega) hM).mono ?_
    rintro v25 w6 ⟨hB25, hf25⟩
    have hM25 := hM; have hS25 := LL.size
    have Lw6 := Le.of_below (Fz := Fz) (M := M) hB25
    replace LL := LL.trans Lw6
    replace hM := hM.mono Lw6
    replace hF := hF.mono Lw6
    replace h1 := h1.mono Lw6
    replace h2 := h2.mono Lw6
    replace h3 := h3.mono Lw6
    replace hn13 := hn13.mono Lw6
    replace hn18 := hn18.mono Lw6
    replace hn21 := hn21.mono Lw6
    have hn25 := hf25.nat hM25; replace hf25 := hf25.less hS25
    refine ops_callv rfl bod38 rfl rfl ?_
    refine (same2_c (M := M) (by assumption) (by assumption) hM).mono ?_
    rintro v26 w7 ⟨hB26, rfl⟩
    have Lw7 := Le.of_below (Fz := Fz) (M := M) hB26
    replace LL := LL.trans Lw7
    replace hM := hM.mono Lw7
    replace hF := hF.mono Lw7
    replace h1 := h1.mono Lw7
    replace h2 := h2.mono Lw7
    replace h3 := h3.mono Lw7
    replace hn13 := hn13.mono Lw7
    replace hn18 := hn18.mono Lw7
    replace hn21 := hn21.mono Lw7
    replace hn25 := hn25.mono Lw7
    refine ops_not rfl rfl ?_
    refine ops_move rfl rfl ?_
    refine ops_bf (d := 28) rfl (by simp [Nat.mul_comm]) ?_
    refine ops_guard_t rfl rfl ?_
    refine ops_move rfl rfl ?_
    refine ops_guard_t rfl rfl ?_
    refine ops_move rfl rfl ?_
    refine ops_guard_t rfl rfl ?_
    refine ops_callv rfl bod36 rfl rfl ?_
    refine (mul_c (M := M) (by assumption) (by assumption) (by omega) (by omega) hM).mono ?_
    rintro v31 w8 ⟨hB31, hf31⟩
    have hM31 := hM; have hS31 := LL.size
    have Lw8 := Le.of_below (Fz := Fz) (M := M) hB31
    replace LL := LL.trans Lw8
    replace hM := hM.mono Lw8
    replace hF := hF.mono Lw8
    replace h1 := h1.mono Lw8
    replace h2 := h2.mono Lw8
    replace h3 := h3.mono Lw8
    replace hn13 := hn13.mono Lw8
    replace hn18 := hn18.mono Lw8
    replace hn21 := hn21.mono Lw8
    replace hn25 := hn25.mono Lw8
    have hn31 := hf31.nat hM31; replace hf31 := hf31.less hS31
    refine ops_guard_t rfl rfl ?_
    refine ops_move rfl rfl ?_
    refine ops_guard_t rfl rfl ?_
    refine ops_move rfl rfl ?_
    refine ops_guard_t rfl rfl ?_
    refine ops_callv rfl bod36 rfl rfl ?_
    refine (mul_c (M := M) (by assumption) (by assumption) (by omega) (by omega) hM).mono ?_
    rintro v34 w9 ⟨hB34, hf34⟩
    have hM34 := hM; have hS34 := LL.size
    have Lw9 := Le.of_below (Fz := Fz) (M := M) hB34
    replace LL := LL.trans Lw9
    replace hM := hM.mono Lw9
    replace hF := hF.mono Lw9
    replace h1 := h1.mono Lw9
    replace h2 := h2.mono Lw9
    replace h3 := h3.mono Lw9
    replace hn13 := hn13.mono Lw9
    replace hn18 := hn18.mono Lw9
    replace hn21 := hn21.mono Lw9
    replace hn25 := hn25.mono Lw9
    replace hn31 := hn31.mono Lw9
    have hn34 := hf34.nat hM34; replace hf34 := hf34.less hS34
    refine ops_guard_t rfl rfl ?_
    refine ops_callv rfl bod38 rfl rfl ?_
    refine (same2_c (M := M) (by assumption) (by assumption) hM).mono ?_
    rintro v35 w10 ⟨hB35, rfl⟩
    have Lw10 := Le.of_below (Fz := Fz) (M := M) hB35
    replace LL := LL.trans Lw10
    replace hM := hM.mono Lw10
    replace hF := hF.mono Lw10
    replace h1 := h1.mono Lw10
    replace h2 := h2.mono Lw10
    replace h3 := h3.mono Lw10
    replace hn13 := hn13.mono Lw10
    replace hn18 := hn18.mono Lw10
    replace hn21 := hn21.mono Lw10
    replace hn25 := hn25.mono Lw10
    replace hn31 := hn31.mono Lw10
    replace hn34 := hn34.mono Lw10
    refine ops_guard_t rfl rfl ?_
    refine ops_not rfl rfl ?_
    refine ops_bf (d := 36) rfl (by simp [val_limbs, Nat.mul_assoc]) ?_
    refine ops_pick rfl rfl rfl ?_
    refine ops_move rfl rfl ?_
    refine ops_guard_t rfl rfl ?_
    refine ops_move rfl rfl ?_
    refine ops_guard_t rfl rfl ?_
    refine ops_move rfl rfl ?_
    refine ops_guard_t rfl rfl ?_
    refine ops_move rfl rfl ?_
    refine ops_guard_t rfl rfl ?_
    refine ops_buildSlice rfl Try.underlying24 sz23 rfl rfl rfl (one3 (by first | rfl | exact nat_one (by assumption) | exact own_one (by assumption)) (by first | rfl | exact nat_one (by assumption) | exact own_one (by assumption)) (by first | rfl | exact nat_one (by assumption) | exact own_one (by assumption))) rfl (fun w11 b42 N42 => ?_)
    have hBw11 := N42.below
    have nM42 := hM.new N42; have B42 := N42.blk
    have Lw11 := Le.of_below (Fz := Fz) (M := M) hBw11
    replace LL := LL.trans Lw11
    replace hM := hM.mono Lw11
    replace hF := hF.mono Lw11
    replace h1 := h1.mono Lw11
    replace h2 := h2.mono Lw11
    replace h3 := h3.mono Lw11
    replace hn13 := hn13.mono Lw11
    replace hn18 := hn18.mono Lw11
    replace hn21 := hn21.mono Lw11
    replace hn25 := hn25.mono Lw11
    replace hn31 := hn31.mono Lw11
    replace hn34 := hn34.mono Lw11
    have hn42 := nats3 B42 nM42 h1 h2 h3
    refine ops_guard_t rfl rfl ?_
    refine ops_callv rfl bod39 rfl rfl ?_
    refine (all_c (M := M) hn42 (L := 120) (by omega) ha1 (by simp) hM).mono ?_
    rintro v43 w12 ⟨hB43, hn43⟩
    have Lw12 := Le.of_below (Fz := Fz) (M := M) hB43
    replace LL := LL.trans Lw12
    replace hM := hM.mono Lw12
    replace hF := hF.mono Lw12
    replace h1 := h1.mono Lw12
    replace h2 := h2.mono Lw12
    replace h3 := h3.mono Lw12
    replace hn13 := hn13.mono Lw12
    replace hn18 := hn18.mono Lw12
    replace hn21 := hn21.mono Lw12
    replace hn25 := hn25.mono Lw12
    replace hn31 := hn31.mono Lw12
    replace hn34 := hn34.mono Lw12
    replace hn42 := hn42.mono Lw12
    refine ops_guard_t rfl rfl ?_
    refine ops_move rfl rfl ?_
    refine ops_guard_t rfl rfl ?_
    refine ops_move rfl rfl ?_
    refine ops_guard_t rfl rfl ?_
    refine ops_callv rfl bod36 rfl rfl ?_
    refine (mul_c (M := M) (by assumption) (by assumption) (by omega) (by omega) hM).mono ?_
    rintro v46 w13 ⟨hB46, hf46⟩
    have hM46 := hM; have hS46 := LL.size
    have Lw13 := Le.of_below (Fz := Fz) (M := M) hB46
    replace LL := LL.trans Lw13
    replace hM := hM.mono Lw13
    replace hF := hF.mono Lw13
    replace h1 := h1.mono Lw13
    replace h2 := h2.mono Lw13
    replace h3 := h3.mono Lw13
    replace hn13 := hn13.mono Lw13
    replace hn18 := hn18.mono Lw13
    replace hn21 := hn21.mono Lw13
    replace hn25 := hn25.mono Lw13
    replace hn31 := hn31.mono Lw13
    replace hn34 := hn34.mono Lw13
    replace hn42 := hn42.mono Lw13
    replace hn43 := hn43.mono Lw13
    have hn46 := hf46.nat hM46; replace hf46 := hf46.less hS46
    refine ops_guard_t rfl rfl ?_
    refine ops_callv rfl bod38 rfl rfl ?_
    refine (same2_c (M := M) (by assumption) (by assumption) hM).mono ?_
    rintro v47 w14 ⟨hB47, rfl⟩
    have Lw14 := Le.of_below (Fz := Fz) (M := M) hB47
    replace LL := LL.trans Lw14
    replace hM := hM.mono Lw14
    replace hF := hF.mono Lw14
    replace h1 := h1.mono Lw14
    replace h2 := h2.mono Lw14
    replace h3 := h3.mono Lw14
    replace hn13 := hn13.mono Lw14
    replace hn18 := hn18.mono Lw14
    replace hn21 := hn21.mono Lw14
    replace hn25 := hn25.mono Lw14
    replace hn31 := hn31.mono Lw14
    replace hn34 := hn34.mono Lw14
    replace hn42 := hn42.mono Lw14
    replace hn43 := hn43.mono Lw14
    replace hn46 := hn46.mono Lw14
    refine ops_guard_t rfl rfl ?_
    refine ops_not rfl rfl ?_
    refine ops_bf (d := 48) rfl (by simp [val_limbs, prodN, Nat.mul_assoc]) ?_
    refine ops_pick rfl rfl rfl ?_
    refine ops_move rfl rfl ?_
    refine ops_guard_t rfl rfl ?_
    refine ops_move rfl rfl ?_
    refine ops_guard_t rfl rfl ?_
    refine ops_move rfl rfl ?_
    refine ops_guard_t rfl rfl ?_
    refine ops_move rfl rfl ?_
    refine ops_guard_t rfl rfl ?_
    refine ops_buildSlice rfl Try.underlying24 sz23 rfl rfl rfl (one3 (by first | rfl | exact nat_one (by assumption) | exact own_one (by assumption)) (by first | rfl | exact nat_one (by assumption) | exact own_one (by assumption)) (by first | rfl | exact nat_one (by assumption) | exact own_one (by assumption))) rfl (fun w15 b54 N54 => ?_)
    have hBw15 := N54.below
    have nM54 := hM.new N54; have B54 := N54.blk
    have Lw15 := Le.of_below (Fz := Fz) (M := M) hBw15
    replace LL := LL.trans Lw15
    replace hM := hM.mono Lw15
    replace hF := hF.mono Lw15
    replace h1 := h1.mono Lw15
    replace h2 := h2.mono Lw15
    replace h3 := h3.mono Lw15
    replace hn13 := hn13.mono Lw15
    replace hn18 := hn18.mono Lw15
    replace hn21 := hn21.mono Lw15
    replace hn25 := hn25.mono Lw15
    replace hn31 := hn31.mono Lw15
    replace hn34 := hn34.mono Lw15
    replace hn42 := hn42.mono Lw15
    replace hn43 := hn43.mono Lw15
    replace hn46 := hn46.mono Lw15
    have hn54 := nats3 B54 nM54 h3 h1 h2
    refine ops_guard_t rfl rfl ?_
    refine ops_callv rfl bod39 rfl rfl ?_
    refine (all_c (M := M) hn54 (L := 120) (by omega) ha2 (by simp) hM).mono ?_
    rintro v55 w16 ⟨hB55, hn55⟩
    have Lw16 := Le.of_below (Fz := Fz) (M := M) hB55
    replace LL := LL.trans Lw16
    replace hM := hM.mono Lw16
    replace hF := hF.mono Lw16
    replace h1 := h1.mono Lw16
    replace h2 := h2.mono Lw16
    replace h3 := h3.mono Lw16
    replace hn13 := hn13.mono Lw16
    replace hn18 := hn18.mono Lw16
    replace hn21 := hn21.mono Lw16
    replace hn25 := hn25.mono Lw16
    replace hn31 := hn31.mono Lw16
    replace hn34 := hn34.mono Lw16
    replace hn42 := hn42.mono Lw16
    replace hn43 := hn43.mono Lw16
    replace hn46 := hn46.mono Lw16
    replace hn54 := hn54.mono Lw16
    refine ops_guard_t rfl rfl ?_
    refine ops_move rfl rfl ?_
    refine ops_guard_t rfl rfl ?_
    refine ops_move rfl rfl ?_
    refine ops_guard_t rfl rfl ?_
    refine ops_move rfl rfl ?_
    refine ops_guard_t rfl rfl ?_
    refine ops_buildSlice rfl Try.underlying24 sz23 rfl rfl rfl (one3 (by first | rfl | exact nat_one (by assumption) | exact own_one (by assumption)) (by first | rfl | exact nat_one (by assumption) | exact own_one (by assumption)) (by first | rfl | exact nat_one (by assumption) | exact own_one (by assumption))) rfl (fun w17 b59 N59 => ?_)
    have hBw17 := N59.below
    have nM59 := hM.new N59; have B59 := N59.blk
    have Lw17 := Le.of_below (Fz := Fz) (M := M) hBw17
    replace LL := LL.trans Lw17
    replace hM := hM.mono Lw17
    replace hF := hF.mono Lw17
    replace h1 := h1.mono Lw17
    replace h2 := h2.mono Lw17
    replace h3 := h3.mono Lw17
    replace hn13 := hn13.mono Lw17
    replace hn18 := hn18.mono Lw17
    replace hn21 := hn21.mono Lw17
    replace hn25 := hn25.mono Lw17
    replace hn31 := hn31.mono Lw17
    replace hn34 := hn34.mono Lw17
    replace hn42 := hn42.mono Lw17
    replace hn43 := hn43.mono Lw17
    replace hn46 := hn46.mono Lw17
    replace hn54 := hn54.mono Lw17
    replace hn55 := hn55.mono Lw17
    have hn59 := nats3 B59 nM59 h1 h2 h3
    refine ops_guard_t rfl rfl ?_
    refine ops_callv rfl bod39 rfl rfl ?_
    refine (all_c (M := M) hn59 (L := 120) (by omega) ha1 (by simp) hM).mono ?_
    rintro v60 w18 ⟨hB60, hn60⟩
    have Lw18 := Le.of_below (Fz := Fz) (M := M) hB60
    replace LL := LL.trans Lw18
    replace hM := hM.mono Lw18
    replace hF := hF.mono Lw18
    replace h1 := h1.mono Lw18
    replace h2 := h2.mono Lw18
    replace h3 := h3.mono Lw18
    replace hn13 := hn13.mono Lw18
    replace hn18 := hn18.mono Lw18
    replace hn21 := hn21.mono Lw18
    replace hn25 := hn25.mono Lw18
    replace hn31 := hn31.mono Lw18
    replace hn34 := hn34.mono Lw18
    replace hn42 := hn42.mono Lw18
    replace hn43 := hn43.mono Lw18
    replace hn46 := hn46.mono Lw18
    replace hn54 := hn54.mono Lw18
    replace hn55 := hn55.mono Lw18
    replace hn59 := hn59.mono Lw18
    refine ops_guard_t rfl rfl ?_
    refine ops_callv rfl bod38 rfl rfl ?_
    refine (same2_c (M := M) (by assumption) (by assumption) hM).mono ?_
    rintro v61 w19 ⟨hB61, rfl⟩
    have Lw19 := Le.of_below (Fz := Fz) (M := M) hB61
    replace LL := LL.trans Lw19
    replace hM := hM.mono Lw19
    replace hF := hF.mono Lw19
    replace h1 := h1.mono Lw19
    replace h2 := h2.mono Lw19
    replace h3 := h3.mono Lw19
    replace hn13 := hn13.mono Lw19
    replace hn18 := hn18.mono Lw19
    replace hn21 := hn21.mono Lw19
    replace hn25 := hn25.mono Lw19
    replace hn31 := hn31.mono Lw19
    replace hn34 := hn34.mono Lw19
    replace hn42 := hn42.mono Lw19
    replace hn43 := hn43.mono Lw19
    replace hn46 := hn46.mono Lw19
    replace hn54 := hn54.mono Lw19
    replace hn55 := hn55.mono Lw19
    replace hn59 := hn59.mono Lw19
    replace hn60 := hn60.mono Lw19
    refine ops_guard_t rfl rfl ?_
    refine ops_not rfl rfl ?_
    refine ops_bf (d := 62) rfl (by simp [prodN, Nat.mul_comm, Nat.mul_left_comm, Nat.mul_assoc]) ?_
    refine ops_pick rfl rfl rfl ?_
    refine ops_nil ?_
    refine SL.wp_cond_f rfl ?_
    refine SL.wp_skip ?_
    refine SL.wp_seq ?_
    refine SL.wp_region ?_
    refine ops_move rfl rfl ?_
    refine ops_move rfl rfl ?_
    refine ops_move rfl rfl ?_
    refine ops_buildSlice rfl Try.underlying24 sz23 rfl rfl rfl (one2 (by first | rfl | exact nat_one (by assumption) | exact own_one (by assumption)) (by first | rfl | exact nat_one (by assumption) | exact own_one (by assumption))) rfl (fun w20 b67 N67 => ?_)
    have hBw20 := N67.below
    have nM67 := hM.new N67; have B67 := N67.blk
    have Lw20 := Le.of_below (Fz := Fz) (M := M) hBw20
    replace LL := LL.trans Lw20
    replace hM := hM.mono Lw20
    replace hF := hF.mono Lw20
    replace h1 := h1.mono Lw20
    replace h2 := h2.mono Lw20
    replace h3 := h3.mono Lw20
    replace hn13 := hn13.mono Lw20
    replace hn18 := hn18.mono Lw20
    replace hn21 := hn21.mono Lw20
    replace hn25 := hn25.mono Lw20
    replace hn31 := hn31.mono Lw20
    replace hn34 := hn34.mono Lw20
    replace hn42 := hn42.mono Lw20
    replace hn43 := hn43.mono Lw20
    replace hn46 := hn46.mono Lw20
    replace hn54 := hn54.mono Lw20
    replace hn55 := hn55.mono Lw20
    replace hn59 := hn59.mono Lw20
    replace hn60 := hn60.mono Lw20
    have hn67 := nats2 B67 nM67 h2 h3
    refine ops_callv rfl bod30 rfl rfl ?_
    refine (radd_c (M := M) hn67 (by intro q hq; simp at hq; rcases hq with rfl | rfl <;> omega) (by simp) hM).mono ?_
    rintro v68 w21 ⟨hB68, hf68⟩
    have hM68 := hM; have hS68 := LL.size
    have Lw21 := Le.of_below (Fz := Fz) (M := M) hB68
    replace LL := LL.trans Lw21
    replace hM := hM.mono Lw21
    replace hF := hF.mono Lw21
    replace h1 := h1.mono Lw21
    replace h2 := h2.mono Lw21
    replace h3 := h3.mono Lw21
    replace hn13 := hn13.mono Lw21
    replace hn18 := hn18.mono Lw21
    replace hn21 := hn21.mono Lw21
    replace hn25 := hn25.mono Lw21
    replace hn31 := hn31.mono Lw21
    replace hn34 := hn34.mono Lw21
    replace hn42 := hn42.mono Lw21
    replace hn43 := hn43.mono Lw21
    replace hn46 := hn46.mono Lw21
    replace hn54 := hn54.mono Lw21
    replace hn55 := hn55.mono Lw21
    replace hn59 := hn59.mono Lw21
    replace hn60 := hn60.mono Lw21
    replace hn67 := hn67.mono Lw21
    replace hf68 : Fresh 43 _ w21 v68 (limbs (val ys + val zs)) := hf68
    have hn68 := hf68.nat hM68; replace hf68 := hf68.less hS68
    refine ops_callv rfl bod36 rfl rfl ?_
    refine (mul_c (M := M) (by assumption) (by assumption) (by omega) (by omega) hM).mono ?_
    rintro v69 w22 ⟨hB69, hf69⟩
    have hM69 := hM; have hS69 := LL.size
    have Lw22 := Le.of_below (Fz := Fz) (M := M) hB69
    replace LL := LL.trans Lw22
    replace hM := hM.mono Lw22
    replace hF := hF.mono Lw22
    replace h1 := h1.mono Lw22
    replace h2 := h2.mono Lw22
    replace h3 := h3.mono Lw22
    replace hn13 := hn13.mono Lw22
    replace hn18 := hn18.mono Lw22
    replace hn21 := hn21.mono Lw22
    replace hn25 := hn25.mono Lw22
    replace hn31 := hn31.mono Lw22
    replace hn34 := hn34.mono Lw22
    replace hn42 := hn42.mono Lw22
    replace hn43 := hn43.mono Lw22
    replace hn46 := hn46.mono Lw22
    replace hn54 := hn54.mono Lw22
    replace hn55 := hn55.mono Lw22
    replace hn59 := hn59.mono Lw22
    replace hn60 := hn60.mono Lw22
    replace hn67 := hn67.mono Lw22
    replace hn68 := hn68.mono Lw22
    have hn69 := hf69.nat hM69; replace hf69 := hf69.less hS69
    refine ops_assign rfl rfl ?_
    refine ops_nil ?_
    refine SL.wp_seq ?_
    refine SL.wp_seq ?_
    refine SL.wp_region ?_
    refine ops_move rfl rfl ?_
    refine ops_move rfl rfl ?_
    refine ops_move rfl rfl ?_
    refine ops_move rfl rfl ?_
    refine ops_callv rfl bod36 rfl rfl ?_
    refine (mul_c (M := M) (by assumption) (by assumption) (by omega) (by omega) hM).mono ?_
    rintro v74 w23 ⟨hB74, hf74⟩
    have hM74 := hM; have hS74 := LL.size
    have Lw23 := Le.of_below (Fz := Fz) (M := M) hB74
    replace LL := LL.trans Lw23
    replace hM := hM.mono Lw23
    replace hF := hF.mono Lw23
    replace h1 := h1.mono Lw23
    replace h2 := h2.mono Lw23
    replace h3 := h3.mono Lw23
    replace hn13 := hn13.mono Lw23
    replace hn18 := hn18.mono Lw23
    replace hn21 := hn21.mono Lw23
    replace hn25 := hn25.mono Lw23
    replace hn31 := hn31.mono Lw23
    replace hn34 := hn34.mono Lw23
    replace hn42 := hn42.mono Lw23
    replace hn43 := hn43.mono Lw23
    replace hn46 := hn46.mono Lw23
    replace hn54 := hn54.mono Lw23
    replace hn55 := hn55.mono Lw23
    replace hn59 := hn59.mono Lw23
    replace hn60 := hn60.mono Lw23
    replace hn67 := hn67.mono Lw23
    replace hn68 := hn68.mono Lw23
    replace hn69 := hn69.mono Lw23
    have hn74 := hf74.nat hM74; replace hf74 := hf74.less hS74
    refine ops_buildSlice rfl Try.underlying24 sz23 rfl rfl rfl (one2 (by first | rfl | exact nat_one (by assumption) | exact own_one (by assumption)) (by first | rfl | exact nat_one (by assumption) | exact own_one (by assumption))) rfl (fun w24 b75 N75 => ?_)
    have hBw24 := N75.below
    have nM75 := hM.new N75; have B75 := N75.blk
    have Lw24 := Le.of_below (Fz := Fz) (M := M) hBw24
    replace LL := LL.trans Lw24
    replace hM := hM.mono Lw24
    replace hF := hF.mono Lw24
    replace h1 := h1.mono Lw24
    replace h2 := h2.mono Lw24
    replace h3 := h3.mono Lw24
    replace hn13 := hn13.mono Lw24
    replace hn18 := hn18.mono Lw24
    replace hn21 := hn21.mono Lw24
    replace hn25 := hn25.mono Lw24
    replace hn31 := hn31.mono Lw24
    replace hn34 := hn34.mono Lw24
    replace hn42 := hn42.mono Lw24
    replace hn43 := hn43.mono Lw24
    replace hn46 := hn46.mono Lw24
    replace hn54 := hn54.mono Lw24
    replace hn55 := hn55.mono Lw24
    replace hn59 := hn59.mono Lw24
    replace hn60 := hn60.mono Lw24
    replace hn67 := hn67.mono Lw24
    replace hn68 := hn68.mono Lw24
    replace hn69 := hn69.mono Lw24
    replace hn74 := hn74.mono Lw24
    have hn75 := nats2 B75 nM75 hn18 hn74
    refine ops_callv rfl bod30 rfl rfl ?_
    refine (radd_c (M := M) hn75 (by intro q hq; simp at hq; rcases hq with rfl | rfl <;> omega) (by simp) hM).mono ?_
    rintro v76 w25 ⟨hB76, hf76⟩
    have hM76 := hM; have hS76 := LL.size
    have Lw25 := Le.of_below (Fz := Fz) (M := M) hB76
    replace LL := LL.trans Lw25
    replace hM := hM.mono Lw25
    replace hF := hF.mono Lw25
    replace h1 := h1.mono Lw25
    replace h2 := h2.mono Lw25
    replace h3 := h3.mono Lw25
    replace hn13 := hn13.mono Lw25
    replace hn18 := hn18.mono Lw25
    replace hn21 := hn21.mono Lw25
    replace hn25 := hn25.mono Lw25
    replace hn31 := hn31.mono Lw25
    replace hn34 := hn34.mono Lw25
    replace hn42 := hn42.mono Lw25
    replace hn43 := hn43.mono Lw25
    replace hn46 := hn46.mono Lw25
    replace hn54 := hn54.mono Lw25
    replace hn55 := hn55.mono Lw25
    replace hn59 := hn59.mono Lw25
    replace hn60 := hn60.mono Lw25
    replace hn67 := hn67.mono Lw25
    replace hn68 := hn68.mono Lw25
    replace hn69 := hn69.mono Lw25
    replace hn74 := hn74.mono Lw25
    replace hn75 := hn75.mono Lw25
    have hn76 := hf76.nat hM76; replace hf76 := hf76.less hS76
    refine ops_callv rfl bod38 rfl rfl ?_
    refine (same2_c (M := M) (by assumption) (by assumption) hM).mono ?_
    rintro v77 w26 ⟨hB77, rfl⟩
    have Lw26 := Le.of_below (Fz := Fz) (M := M) hB77
    replace LL := LL.trans Lw26
    replace hM := hM.mono Lw26
    replace hF := hF.mono Lw26
    replace h1 := h1.mono Lw26
    replace h2 := h2.mono Lw26
    replace h3 := h3.mono Lw26
    replace hn13 := hn13.mono Lw26
    replace hn18 := hn18.mono Lw26
    replace hn21 := hn21.mono Lw26
    replace hn25 := hn25.mono Lw26
    replace hn31 := hn31.mono Lw26
    replace hn34 := hn34.mono Lw26
    replace hn42 := hn42.mono Lw26
    replace hn43 := hn43.mono Lw26
    replace hn46 := hn46.mono Lw26
    replace hn54 := hn54.mono Lw26
    replace hn55 := hn55.mono Lw26
    replace hn59 := hn59.mono Lw26
    replace hn60 := hn60.mono Lw26
    replace hn67 := hn67.mono Lw26
    replace hn68 := hn68.mono Lw26
    replace hn69 := hn69.mono Lw26
    replace hn74 := hn74.mono Lw26
    replace hn75 := hn75.mono Lw26
    replace hn76 := hn76.mono Lw26
    refine ops_not rfl rfl ?_
    refine ops_bf (d := 78) rfl (by simp [val_limbs, Nat.mul_add]) ?_
    refine ops_nil ?_
    refine SL.wp_cond_f rfl ?_
    refine SL.wp_skip ?_
    refine SL.wp_seq ?_
    refine SL.wp_region ?_
    refine ops_move rfl rfl ?_
    refine ops_buildSlice rfl Try.underlying23 sz43 rfl rfl rfl (by simp [Value.oneCell', lw]) rfl (fun w27 b80 N80 => ?_)
    have hBw27 := N80.below
    have nM80 := hM.new N80; have B80 := N80.blk
    have Lw27 := Le.of_below (Fz := Fz) (M := M) hBw27
    replace LL := LL.trans Lw27
    replace hM := hM.mono Lw27
    replace hF := hF.mono Lw27
    replace h1 := h1.mono Lw27
    replace h2 := h2.mono Lw27
    replace h3 := h3.mono Lw27
    replace hn13 := hn13.mono Lw27
    replace hn18 := hn18.mono Lw27
    replace hn21 := hn21.mono Lw27
    replace hn25 := hn25.mono Lw27
    replace hn31 := hn31.mono Lw27
    replace hn34 := hn34.mono Lw27
    replace hn42 := hn42.mono Lw27
    replace hn43 := hn43.mono Lw27
    replace hn46 := hn46.mono Lw27
    replace hn54 := hn54.mono Lw27
    replace hn55 := hn55.mono Lw27
    replace hn59 := hn59.mono Lw27
    replace hn60 := hn60.mono Lw27
    replace hn67 := hn67.mono Lw27
    replace hn68 := hn68.mono Lw27
    replace hn69 := hn69.mono Lw27
    replace hn74 := hn74.mono Lw27
    replace hn75 := hn75.mono Lw27
    replace hn76 := hn76.mono Lw27
    have hn80 : IsNat M w27 (.slice (some ⟨b80, 0, none⟩) 1 1) [1] := blk_nat (xs := [1]) B80 nM80 rfl (by simp) (by simp)
    refine ops_callv rfl bod36 rfl rfl ?_
    refine (mul_c (M := M) h1 hn80 (by omega) (by simp) hM).mono ?_
    rintro v81 w28 ⟨hB81, hf81⟩
    have hM81 := hM; have hS81 := LL.size
    have Lw28 := Le.of_below (Fz := Fz) (M := M) hB81
    replace LL := LL.trans Lw28
    replace hM := hM.mono Lw28
    replace hF := hF.mono Lw28
    replace h1 := h1.mono Lw28
    replace h2 := h2.mono Lw28
    replace h3 := h3.mono Lw28
    replace hn13 := hn13.mono Lw28
    replace hn18 := hn18.mono Lw28
    replace hn21 := hn21.mono Lw28
    replace hn25 := hn25.mono Lw28
    replace hn31 := hn31.mono Lw28
    replace hn34 := hn34.mono Lw28
    replace hn42 := hn42.mono Lw28
    replace hn43 := hn43.mono Lw28
    replace hn46 := hn46.mono Lw28
    replace hn54 := hn54.mono Lw28
    replace hn55 := hn55.mono Lw28
    replace hn59 := hn59.mono Lw28
    replace hn60 := hn60.mono Lw28
    replace hn67 := hn67.mono Lw28
    replace hn68 := hn68.mono Lw28
    replace hn69 := hn69.mono Lw28
    replace hn74 := hn74.mono Lw28
    replace hn75 := hn75.mono Lw28
    replace hn76 := hn76.mono Lw28
    replace hn80 := hn80.mono Lw28
    have hn81 := hf81.nat hM81; replace hf81 := hf81.less hS81
    refine ops_move rfl rfl ?_
    refine ops_callv rfl bod26 rfl rfl ?_
    refine (rtrim_c (M := M) (by assumption) (by omega) hM).mono ?_
    rintro v83 w29 ⟨hB83, hf83⟩
    have hM83 := hM; have hS83 := LL.size
    have Lw29 := Le.of_below (Fz := Fz) (M := M) hB83
    replace LL := LL.trans Lw29
    replace hM := hM.mono Lw29
    replace hF := hF.mono Lw29
    replace h1 := h1.mono Lw29
    replace h2 := h2.mono Lw29
    replace h3 := h3.mono Lw29
    replace hn13 := hn13.mono Lw29
    replace hn18 := hn18.mono Lw29
    replace hn21 := hn21.mono Lw29
    replace hn25 := hn25.mono Lw29
    replace hn31 := hn31.mono Lw29
    replace hn34 := hn34.mono Lw29
    replace hn42 := hn42.mono Lw29
    replace hn43 := hn43.mono Lw29
    replace hn46 := hn46.mono Lw29
    replace hn54 := hn54.mono Lw29
    replace hn55 := hn55.mono Lw29
    replace hn59 := hn59.mono Lw29
    replace hn60 := hn60.mono Lw29
    replace hn67 := hn67.mono Lw29
    replace hn68 := hn68.mono Lw29
    replace hn69 := hn69.mono Lw29
    replace hn74 := hn74.mono Lw29
    replace hn75 := hn75.mono Lw29
    replace hn76 := hn76.mono Lw29
    replace hn80 := hn80.mono Lw29
    replace hn81 := hn81.mono Lw29
    have hn83 := hf83.nat hM83; replace hf83 := hf83.less hS83
    refine ops_callv rfl bod38 rfl rfl ?_
    refine (same2_c (M := M) (by assumption) (by assumption) hM).mono ?_
    rintro v84 w30 ⟨hB84, rfl⟩
    have Lw30 := Le.of_below (Fz := Fz) (M := M) hB84
    replace LL := LL.trans Lw30
    replace hM := hM.mono Lw30
    replace hF := hF.mono Lw30
    replace h1 := h1.mono Lw30
    replace h2 := h2.mono Lw30
    replace h3 := h3.mono Lw30
    replace hn13 := hn13.mono Lw30
    replace hn18 := hn18.mono Lw30
    replace hn21 := hn21.mono Lw30
    replace hn25 := hn25.mono Lw30
    replace hn31 := hn31.mono Lw30
    replace hn34 := hn34.mono Lw30
    replace hn42 := hn42.mono Lw30
    replace hn43 := hn43.mono Lw30
    replace hn46 := hn46.mono Lw30
    replace hn54 := hn54.mono Lw30
    replace hn55 := hn55.mono Lw30
    replace hn59 := hn59.mono Lw30
    replace hn60 := hn60.mono Lw30
    replace hn67 := hn67.mono Lw30
    replace hn68 := hn68.mono Lw30
    replace hn69 := hn69.mono Lw30
    replace hn74 := hn74.mono Lw30
    replace hn75 := hn75.mono Lw30
    replace hn76 := hn76.mono Lw30
    replace hn80 := hn80.mono Lw30
    replace hn81 := hn81.mono Lw30
    replace hn83 := hn83.mono Lw30
    refine ops_move rfl rfl ?_
    refine ops_bt (d := 85) rfl (by simp [val]) ?_
    refine ops_guard_t rfl rfl ?_
    refine ops_move rfl rfl ?_
    refine ops_guard_t rfl rfl ?_
    refine ops_callv rfl bod36 rfl rfl ?_
    refine (mul_c (M := M) h1 isNat_nil (by omega) (by simp) hM).mono ?_
    rintro v87 w31 ⟨hB87, hf87⟩
    have hM87 := hM; have hS87 := LL.size
    have Lw31 := Le.of_below (Fz := Fz) (M := M) hB87
    replace LL := LL.trans Lw31
    replace hM := hM.mono Lw31
    replace hF := hF.mono Lw31
    replace h1 := h1.mono Lw31
    replace h2 := h2.mono Lw31
    replace h3 := h3.mono Lw31
    replace hn13 := hn13.mono Lw31
    replace hn18 := hn18.mono Lw31
    replace hn21 := hn21.mono Lw31
    replace hn25 := hn25.mono Lw31
    replace hn31 := hn31.mono Lw31
    replace hn34 := hn34.mono Lw31
    replace hn42 := hn42.mono Lw31
    replace hn43 := hn43.mono Lw31
    replace hn46 := hn46.mono Lw31
    replace hn54 := hn54.mono Lw31
    replace hn55 := hn55.mono Lw31
    replace hn59 := hn59.mono Lw31
    replace hn60 := hn60.mono Lw31
    replace hn67 := hn67.mono Lw31
    replace hn68 := hn68.mono Lw31
    replace hn69 := hn69.mono Lw31
    replace hn74 := hn74.mono Lw31
    replace hn75 := hn75.mono Lw31
    replace hn76 := hn76.mono Lw31
    replace hn80 := hn80.mono Lw31
    replace hn81 := hn81.mono Lw31
    replace hn83 := hn83.mono Lw31
    have hn87 := hf87.nat hM87; replace hf87 := hf87.less hS87
    refine ops_guard_t rfl rfl ?_
    first | refine ops_len rfl Try.underlying23 rfl ?_ | refine ops_lens rfl Try.underlying23 rfl (IsNat.slc (by assumption)) ?_ | refine ops_lenn rfl Try.underlying23 rfl (by assumption) ?_ | refine ops_leno rfl Try.underlying23 rfl (by assumption) ?_
    refine ops_guard_t rfl rfl ?_
    refine ops_eq rfl rfl rfl ?_
    refine ops_pick rfl rfl rfl ?_
    refine ops_move rfl rfl ?_
    refine ops_bt (d := 91) rfl (by simp [val, limbs_zero]) ?_
    refine ops_guard_t rfl rfl ?_
    refine ops_callv rfl bod39 rfl rfl ?_
    refine (all_c (M := M) isNats_nil (L := 120) (by omega) (by simp) (by simp) hM).mono ?_
    rintro v92 w32 ⟨hB92, hn92⟩
    have Lw32 := Le.of_below (Fz := Fz) (M := M) hB92
    replace LL := LL.trans Lw32
    replace hM := hM.mono Lw32
    replace hF := hF.mono Lw32
    replace h1 := h1.mono Lw32
    replace h2 := h2.mono Lw32
    replace h3 := h3.mono Lw32
    replace hn13 := hn13.mono Lw32
    replace hn18 := hn18.mono Lw32
    replace hn21 := hn21.mono Lw32
    replace hn25 := hn25.mono Lw32
    replace hn31 := hn31.mono Lw32
    replace hn34 := hn34.mono Lw32
    replace hn42 := hn42.mono Lw32
    replace hn43 := hn43.mono Lw32
    replace hn46 := hn46.mono Lw32
    replace hn54 := hn54.mono Lw32
    replace hn55 := hn55.mono Lw32
    replace hn59 := hn59.mono Lw32
    replace hn60 := hn60.mono Lw32
    replace hn67 := hn67.mono Lw32
    replace hn68 := hn68.mono Lw32
    replace hn69 := hn69.mono Lw32
    replace hn74 := hn74.mono Lw32
    replace hn75 := hn75.mono Lw32
    replace hn76 := hn76.mono Lw32
    replace hn80 := hn80.mono Lw32
    replace hn81 := hn81.mono Lw32
    replace hn83 := hn83.mono Lw32
    replace hn87 := hn87.mono Lw32
    refine ops_guard_t rfl rfl ?_
    refine ops_buildSlice rfl Try.underlying23 sz43 rfl rfl rfl (by simp [Value.oneCell', lw]) rfl (fun w33 b93 N93 => ?_)
    have hBw33 := N93.below
    have nM93 := hM.new N93; have B93 := N93.blk
    have Lw33 := Le.of_below (Fz := Fz) (M := M) hBw33
    replace LL := LL.trans Lw33
    replace hM := hM.mono Lw33
    replace hF := hF.mono Lw33
    replace h1 := h1.mono Lw33
    replace h2 := h2.mono Lw33
    replace h3 := h3.mono Lw33
    replace hn13 := hn13.mono Lw33
    replace hn18 := hn18.mono Lw33
    replace hn21 := hn21.mono Lw33
    replace hn25 := hn25.mono Lw33
    replace hn31 := hn31.mono Lw33
    replace hn34 := hn34.mono Lw33
    replace hn42 := hn42.mono Lw33
    replace hn43 := hn43.mono Lw33
    replace hn46 := hn46.mono Lw33
    replace hn54 := hn54.mono Lw33
    replace hn55 := hn55.mono Lw33
    replace hn59 := hn59.mono Lw33
    replace hn60 := hn60.mono Lw33
    replace hn67 := hn67.mono Lw33
    replace hn68 := hn68.mono Lw33
    replace hn69 := hn69.mono Lw33
    replace hn74 := hn74.mono Lw33
    replace hn75 := hn75.mono Lw33
    replace hn76 := hn76.mono Lw33
    replace hn80 := hn80.mono Lw33
    replace hn81 := hn81.mono Lw33
    replace hn83 := hn83.mono Lw33
    replace hn87 := hn87.mono Lw33
    replace hn92 := hn92.mono Lw33
    have hn93 : IsNat M w33 (.slice (some ⟨b93, 0, none⟩) 1 1) [1] := blk_nat (xs := [1]) B93 nM93 rfl (by simp) (by simp)
    refine ops_guard_t rfl rfl ?_
    refine ops_callv rfl bod38 rfl rfl ?_
    refine (same2_c (M := M) (by assumption) (by assumption) hM).mono ?_
    rintro v94 w34 ⟨hB94, rfl⟩
    have Lw34 := Le.of_below (Fz := Fz) (M := M) hB94
    replace LL := LL.trans Lw34
    replace hM := hM.mono Lw34
    replace hF := hF.mono Lw34
    replace h1 := h1.mono Lw34
    replace h2 := h2.mono Lw34
    replace h3 := h3.mono Lw34
    replace hn13 := hn13.mono Lw34
    replace hn18 := hn18.mono Lw34
    replace hn21 := hn21.mono Lw34
    replace hn25 := hn25.mono Lw34
    replace hn31 := hn31.mono Lw34
    replace hn34 := hn34.mono Lw34
    replace hn42 := hn42.mono Lw34
    replace hn43 := hn43.mono Lw34
    replace hn46 := hn46.mono Lw34
    replace hn54 := hn54.mono Lw34
    replace hn55 := hn55.mono Lw34
    replace hn59 := hn59.mono Lw34
    replace hn60 := hn60.mono Lw34
    replace hn67 := hn67.mono Lw34
    replace hn68 := hn68.mono Lw34
    replace hn69 := hn69.mono Lw34
    replace hn74 := hn74.mono Lw34
    replace hn75 := hn75.mono Lw34
    replace hn76 := hn76.mono Lw34
    replace hn80 := hn80.mono Lw34
    replace hn81 := hn81.mono Lw34
    replace hn83 := hn83.mono Lw34
    replace hn87 := hn87.mono Lw34
    replace hn92 := hn92.mono Lw34
    replace hn93 := hn93.mono Lw34
    refine ops_pick rfl rfl rfl ?_
    refine ops_move rfl rfl ?_
    refine ops_bt (d := 96) rfl (by simp [prodN, one_limbs]) ?_
    refine ops_guard_t rfl rfl ?_
    refine ops_callv rfl bod34 rfl rfl ?_
    refine (wakes2_c (M := M) hM).mono ?_
    rintro v97 w35 ⟨hB97, rfl⟩
    have Lw35 := Le.of_below (Fz := Fz) (M := M) hB97
    replace LL := LL.trans Lw35
    replace hM := hM.mono Lw35
    replace hF := hF.mono Lw35
    replace h1 := h1.mono Lw35
    replace h2 := h2.mono Lw35
    replace h3 := h3.mono Lw35
    replace hn13 := hn13.mono Lw35
    replace hn18 := hn18.mono Lw35
    replace hn21 := hn21.mono Lw35
    replace hn25 := hn25.mono Lw35
    replace hn31 := hn31.mono Lw35
    replace hn34 := hn34.mono Lw35
    replace hn42 := hn42.mono Lw35
    replace hn43 := hn43.mono Lw35
    replace hn46 := hn46.mono Lw35
    replace hn54 := hn54.mono Lw35
    replace hn55 := hn55.mono Lw35
    replace hn59 := hn59.mono Lw35
    replace hn60 := hn60.mono Lw35
    replace hn67 := hn67.mono Lw35
    replace hn68 := hn68.mono Lw35
    replace hn69 := hn69.mono Lw35
    replace hn74 := hn74.mono Lw35
    replace hn75 := hn75.mono Lw35
    replace hn76 := hn76.mono Lw35
    replace hn80 := hn80.mono Lw35
    replace hn81 := hn81.mono Lw35
    replace hn83 := hn83.mono Lw35
    replace hn87 := hn87.mono Lw35
    replace hn92 := hn92.mono Lw35
    replace hn93 := hn93.mono Lw35
    refine ops_pick rfl rfl rfl ?_
    refine ops_assign rfl rfl ?_
    refine ops_nil ?_
    refine SL.wp_ret ?_
    refine leave_nil ⟨[_], ⟨rfl, trivial⟩, ?_⟩
    dsimp only [resVal]
    subst hFz
    exact ⟨LL.below (Nat.le_refl _), by first | rfl | simp⟩

end Go.Proofs.Ytffakiheophioaa
