import Derived.Test.YtffakiheophioaaW5
import Derived.Test.YtffakiheophioaaSLn
set_option linter.unusedVariables false
set_option linter.unusedSimpArgs false
set_option maxRecDepth 100000
namespace Go.Proofs.Ytffakiheophioaa
open Go.SL Go.RowKit Go.Proofs
theorem great_d {M : Nat → Prop} {w : World} {v : Value} {xss : List (List Nat)} (h : IsNats M w v xss) (hM : OkM M w) :
    CallsV Try.prog 16 [v] w fun r w' => Below w.heap.size w w' ∧ r = .bool (decide (greatB xss = true)) :=
  (great_c h hM).mono (by rintro r w' ⟨hB, rfl⟩; exact ⟨hB, by simp⟩)
theorem sub_any {M : Nat → Prop} {w w' : World} {r : Value} {xs ys : List Nat} (h : Below w.heap.size w w' ∧ ((val xs < val ys ∧ r = .tuple #[.slice none 0 0, .int .i64 10]) ∨ (val ys ≤ val xs ∧ ∃ q, r = .tuple #[q, .int .i64 0] ∧ Fresh 43 w w' q (limbs (val xs - val ys))))) :
    Below w.heap.size w w' ∧ ∃ q, r = .tuple #[q, .int .i64 (if val xs < val ys then 10 else 0)] ∧ Fresh 43 w w' q (limbs (val xs - val ys)) := by
  obtain ⟨hB, ⟨h1, rfl⟩ | ⟨h1, q, rfl, h2⟩⟩ := h
  · refine ⟨hB, _, by rw [if_pos h1], ?_⟩
    rw [show val xs - val ys = 0 by omega, limbs_zero]
    exact fresh_of own_nil nil_own (by simp) (by simp)
  · exact ⟨hB, q, by rw [if_neg (by omega)], h2⟩
theorem sub_d {M : Nat → Prop} {w : World} {v u : Value} {xs ys : List Nat} (h1 : IsNat M w v xs) (h2 : IsNat M w u ys) (hl1 : xs.length ≤ 1000000000) (hl2 : ys.length ≤ 1000000000) (hM : OkM M w) :
    CallsV Try.prog 20 [v, u] w fun r w' => Below w.heap.size w w' ∧ ∃ q, r = .tuple #[q, .int .i64 (if val xs < val ys then 10 else 0)] ∧ Fresh 43 w w' q (limbs (val xs - val ys)) :=
  (sub_c h1 h2 hl1 hl2 hM).mono (by rintro r w' h; exact sub_any (M := M) h)
theorem rsub_d {M : Nat → Prop} {w : World} {v u : Value} {xs ys : List Nat} (h1 : IsNat M w v xs) (h2 : IsNat M w u ys) (hl1 : xs.length ≤ 1000000000) (hl2 : ys.length ≤ 1000000000) (hM : OkM M w) :
    CallsV Try.prog 21 [v, u] w fun r w' => Below w.heap.size w w' ∧ ∃ q, r = .tuple #[q, .int .i64 (if val xs < val ys then 10 else 0)] ∧ Fresh 43 w w' q (limbs (val xs - val ys)) :=
  (rsub_c h1 h2 hl1 hl2 hM).mono (by rintro r w' h; exact sub_any (M := M) h)

theorem natTells_c {M : Nat → Prop} {w : World} {v1 v2 v3 : Value} {xs ys : List Nat} {xss : List (List Nat)} {n : Nat} (h1 : IsNat M w v1 xs) (h2 : IsNat M w v2 ys) (h3 : IsNats M w v3 xss) (hn : n < 18446744073709551616) (hM : OkM M w) :
    CallsV Try.prog 3 [v1, v2, v3, .int .u64 (n : Int)] w fun r w' => Below w.heap.size w w' ∧ r = .bool true := by
  obtain ⟨Fz, hFz⟩ : ∃ Fz : Nat → Prop, Fz = (· < w.heap.size) := ⟨_, rfl⟩
  have hF : FOk Fz w := by subst hFz; exact fun _ h => h
  have LL := Le.refl Fz M w; have hM0 := hM
  refine calls_intro Try.func3 rfl Try.ntmps3 rfl ?_
  refine SL.wp_seq ?_
  refine SL.wp_region ?_
  refine ops_assign rfl rfl ?_
  refine ops_nil ?_
  refine SL.wp_seq ?_
  refine SL.wp_seq ?_
  refine SL.wp_region ?_
  refine ops_move rfl rfl ?_
  refine ops_move rfl rfl ?_
  refine ops_buildSlice rfl Try.underlying24 sz23 rfl rfl rfl (one2 (by first | rfl | exact nat_one (by assumption) | exact own_one (by assumption)) (by first | rfl | exact nat_one (by assumption) | exact own_one (by assumption))) rfl (fun w1 b19 N19 => ?_)
  have hBw1 := N19.below
  have nM19 := hM.new N19; have B19 := N19.blk
  have Lw1 := Le.of_below (Fz := Fz) (M := M) hBw1
  replace LL := LL.trans Lw1
  replace hM := hM.mono Lw1
  replace hF := hF.mono Lw1
  replace h1 := h1.mono Lw1
  replace h2 := h2.mono Lw1
  replace h3 := h3.mono Lw1
  have hn19 := nats2 B19 nM19 h1 h2
  refine ops_callv rfl bod16 rfl rfl ?_
  refine (great_d (M := M) (by assumption) hM).mono ?_
  rintro v20 w2 ⟨hB20, rfl⟩
  have Lw2 := Le.of_below (Fz := Fz) (M := M) hB20
  replace LL := LL.trans Lw2
  replace hM := hM.mono Lw2
  replace hF := hF.mono Lw2
  replace h1 := h1.mono Lw2
  replace h2 := h2.mono Lw2
  replace h3 := h3.mono Lw2
  replace hn19 := hn19.mono Lw2
  refine ops_move rfl rfl ?_
  refine ops_dcase (d := 21) rfl (fun hg1_4 => ?_) (fun hg1_4 => ?_)
  · refine ops_guard_f rfl rfl rfl rfl ?_
    refine ops_guard_f rfl rfl rfl rfl ?_
    refine ops_pick rfl rfl rfl ?_
    refine ops_nil ?_
    refine SL.wp_cond_t rfl ?_
    refine SL.wp_seq ?_
    refine SL.wp_region ?_
    refine ops_callv rfl bod17 rfl rfl ?_
    refine (wakes1_c (M := M) hM).mono ?_
    rintro v25 w3 ⟨hB25, rfl⟩
    have Lw3 := Le.of_below (Fz := Fz) (M := M) hB25
    replace LL := LL.trans Lw3
    replace hM := hM.mono Lw3
    replace hF := hF.mono Lw3
    replace h1 := h1.mono Lw3
    replace h2 := h2.mono Lw3
    replace h3 := h3.mono Lw3
    replace hn19 := hn19.mono Lw3
    refine ops_assign rfl rfl ?_
    refine ops_nil ?_
    refine SL.wp_ret ?_
    refine leave_nil ⟨[_], ⟨rfl, trivial⟩, ?_⟩
    dsimp only [resVal]
    subst hFz
    exact ⟨LL.below (Nat.le_refl _), by first | rfl | simp⟩
  · refine ops_guard_t rfl rfl ?_
    refine ops_move rfl rfl ?_
    refine ops_guard_t rfl rfl ?_
    refine ops_callv rfl bod16 rfl rfl ?_
    refine (great_d (M := M) (by assumption) hM).mono ?_
    rintro v23 w4 ⟨hB23, rfl⟩
    have Lw4 := Le.of_below (Fz := Fz) (M := M) hB23
    replace LL := LL.trans Lw4
    replace hM := hM.mono Lw4
    replace hF := hF.mono Lw4
    replace h1 := h1.mono Lw4
    replace h2 := h2.mono Lw4
    replace h3 := h3.mono Lw4
    replace hn19 := hn19.mono Lw4
    refine ops_pick rfl rfl rfl ?_
    refine ops_nil ?_
    refine SL.wp_cond_d rfl (fun hc0 => ?_) (fun hc0 => ?_)
    · refine SL.wp_seq ?_
      refine SL.wp_region ?_
      refine ops_callv rfl bod17 rfl rfl ?_
      refine (wakes1_c (M := M) hM).mono ?_
      rintro v25 w5 ⟨hB25, rfl⟩
      have Lw5 := Le.of_below (Fz := Fz) (M := M) hB25
      replace LL := LL.trans Lw5
      replace hM := hM.mono Lw5
      replace hF := hF.mono Lw5
      replace h1 := h1.mono Lw5
      replace h2 := h2.mono Lw5
      replace h3 := h3.mono Lw5
      replace hn19 := hn19.mono Lw5
      refine ops_assign rfl rfl ?_
      refine ops_nil ?_
      refine SL.wp_ret ?_
      refine leave_nil ⟨[_], ⟨rfl, trivial⟩, ?_⟩
      dsimp only [resVal]
      subst hFz
      exact ⟨LL.below (Nat.le_refl _), by first | rfl | simp⟩
    · have hg := not_great2 (xs := xs) (ys := ys) (by simpa using hg1_4)
      have hgl := not_great (xss := xss) (by simpa using hc0)
      have hq1 : ∀ zs ∈ xss, zs.length ≤ 1000000000 := fun zs hz => by have := hgl.2 zs hz; omega
      have hq2 : ∀ zs ∈ xss, zs.length ≤ 1000000 := fun zs hz => by have := hgl.2 zs hz; omega
      have hq3 := hgl.1; have hq4 := hg.1; have hq5 := hg.2
      refine SL.wp_skip ?_
      refine SL.wp_seq ?_
      refine SL.wp_region ?_
      refine ops_move rfl rfl ?_
      refine ops_callv rfl bod18 rfl rfl ?_
      refine (small_c (M := M) (by assumption) (by omega) hM).mono ?_
      rintro v28 w6 ⟨hB28, rfl⟩
      have Lw6 := Le.of_below (Fz := Fz) (M := M) hB28
      replace LL := LL.trans Lw6
      replace hM := hM.mono Lw6
      replace hF := hF.mono Lw6
      replace h1 := h1.mono Lw6
      replace h2 := h2.mono Lw6
      replace h3 := h3.mono Lw6
      replace hn19 := hn19.mono Lw6
      refine ops_move rfl rfl ?_
      refine ops_extract rfl rfl rfl ?_
      refine ops_extract rfl rfl rfl ?_
      refine ops_assign rfl rfl ?_
      refine ops_assign rfl rfl ?_
      refine ops_nil ?_
      refine SL.wp_seq ?_
      refine SL.wp_region ?_
      refine ops_move rfl rfl ?_
      refine ops_callv rfl bod19 rfl rfl ?_
      refine (rsmall_c (M := M) (by assumption) (by omega) hM).mono ?_
      rintro v33 w7 ⟨hB33, rfl⟩
      have Lw7 := Le.of_below (Fz := Fz) (M := M) hB33
      replace LL := LL.trans Lw7
      replace hM := hM.mono Lw7
      replace hF := hF.mono Lw7
      replace h1 := h1.mono Lw7
      replace h2 := h2.mono Lw7
      replace h3 := h3.mono Lw7
      replace hn19 := hn19.mono Lw7
      refine ops_move rfl rfl ?_
      refine ops_extract rfl rfl rfl ?_
      refine ops_extract rfl rfl rfl ?_
      refine ops_assign rfl rfl ?_
      refine ops_assign rfl rfl ?_
      refine ops_nil ?_
      refine SL.wp_seq ?_
      refine SL.wp_region ?_
      refine ops_move rfl rfl ?_
      refine ops_move rfl rfl ?_
      refine ops_callv rfl bod20 rfl rfl ?_
      refine (sub_d (M := M) (by assumption) (by assumption) (by omega) (by omega) hM).mono ?_
      rintro v39 w8 ⟨hB39, q39, rfl, hf39⟩
      have hM39 := hM; have hS39 := LL.size
      have Lw8 := Le.of_below (Fz := Fz) (M := M) hB39
      replace LL := LL.trans Lw8
      replace hM := hM.mono Lw8
      replace hF := hF.mono Lw8
      replace h1 := h1.mono Lw8
      replace h2 := h2.mono Lw8
      replace h3 := h3.mono Lw8
      replace hn19 := hn19.mono Lw8
      have hn39 := hf39.nat hM39; replace hf39 := hf39.less hS39
      refine ops_move rfl rfl ?_
      refine ops_extract rfl rfl rfl ?_
      refine ops_extract rfl rfl rfl ?_
      refine ops_assign rfl rfl ?_
      refine ops_assign rfl rfl ?_
      refine ops_nil ?_
      refine SL.wp_seq ?_
      refine SL.wp_region ?_
      refine ops_move rfl rfl ?_
      refine ops_move rfl rfl ?_
      refine ops_callv rfl bod21 rfl rfl ?_
      refine (rsub_d (M := M) (by assumption) (by assumption) (by omega) (by omega) hM).mono ?_
      rintro v45 w9 ⟨hB45, q45, rfl, hf45⟩
      have hM45 := hM; have hS45 := LL.size
      have Lw9 := Le.of_below (Fz := Fz) (M := M) hB45
      replace LL := LL.trans Lw9
      replace hM := hM.mono Lw9
      replace hF := hF.mono Lw9
      replace h1 := h1.mono Lw9
      replace h2 := h2.mono Lw9
      replace h3 := h3.mono Lw9
      replace hn19 := hn19.mono Lw9
      replace hn39 := hn39.mono Lw9
      have hn45 := hf45.nat hM45; replace hf45 := hf45.less hS45
      refine ops_move rfl rfl ?_
      refine ops_extract rfl rfl rfl ?_
      refine ops_extract rfl rfl rfl ?_
      refine ops_assign rfl rfl ?_
      refine ops_assign rfl rfl ?_
      refine ops_nil ?_
      refine SL.wp_seq ?_
      refine SL.wp_seq ?_
      refine SL.wp_region ?_
      refine ops_move rfl rfl ?_
      refine ops_move rfl rfl ?_
      refine ops_ne rfl rfl rfl ?_
      refine ops_move rfl rfl ?_
      refine ops_bf (d := 51) rfl (by first | rfl | simp | omega) ?_
      refine ops_guard_t rfl rfl ?_
      refine ops_move rfl rfl ?_
      refine ops_guard_t rfl rfl ?_
      refine ops_move rfl rfl ?_
      refine ops_guard_t rfl rfl ?_
      refine ops_bne rfl rfl rfl Try.underlying4 ?_
      refine ops_pick rfl rfl rfl ?_
      refine ops_move rfl rfl ?_
      refine ops_bf (d := 56) rfl (by first | rfl | simp | omega) ?_
      refine ops_guard_t rfl rfl ?_
      refine ops_move rfl rfl ?_
      refine ops_guard_t rfl rfl ?_
      refine ops_move rfl rfl ?_
      refine ops_guard_t rfl rfl ?_
      refine ops_callv rfl bod22 rfl rfl ?_
      refine (same1_c (M := M) (by assumption) (by assumption) hM).mono ?_
      rintro v59 w10 ⟨hB59, rfl⟩
      have Lw10 := Le.of_below (Fz := Fz) (M := M) hB59
      replace LL := LL.trans Lw10
      replace hM := hM.mono Lw10
      replace hF := hF.mono Lw10
      replace h1 := h1.mono Lw10
      replace h2 := h2.mono Lw10
      replace h3 := h3.mono Lw10
      replace hn19 := hn19.mono Lw10
      replace hn39 := hn39.mono Lw10
      replace hn45 := hn45.mono Lw10
      refine ops_guard_t rfl rfl ?_
      refine ops_not rfl rfl ?_
      refine ops_pick rfl rfl rfl ?_
      refine ops_move rfl rfl ?_
      refine ops_bf (d := 62) rfl (by first | rfl | simp | omega) ?_
      refine ops_guard_t rfl rfl ?_
      refine ops_move rfl rfl ?_
      refine ops_guard_t rfl rfl ?_
      refine ops_move rfl rfl ?_
      refine ops_guard_t rfl rfl ?_
      refine ops_ne rfl rfl rfl ?_
      refine ops_pick rfl rfl rfl ?_
      refine ops_move rfl rfl ?_
      refine ops_bf (d := 67) rfl (by first | rfl | simp | omega) ?_
      refine ops_guard_t rfl rfl ?_
      refine ops_move rfl rfl ?_
      refine ops_guard_t rfl rfl ?_
      refine ops_move rfl rfl ?_
      refine ops_guard_t rfl rfl ?_
      refine ops_callv rfl bod23 rfl rfl ?_
      refine (cmp_c (M := M) (by assumption) (by assumption) (by omega) (by omega) hM).mono ?_
      rintro v70 w11 ⟨hB70, rfl⟩
      have Lw11 := Le.of_below (Fz := Fz) (M := M) hB70
      replace LL := LL.trans Lw11
      replace hM := hM.mono Lw11
      replace hF := hF.mono Lw11
      replace h1 := h1.mono Lw11
      replace h2 := h2.mono Lw11
      replace h3 := h3.mono Lw11
      replace hn19 := hn19.mono Lw11
      replace hn39 := hn39.mono Lw11
      replace hn45 := hn45.mono Lw11
      refine ops_guard_t rfl rfl ?_
      refine ops_move rfl rfl ?_
      refine ops_guard_t rfl rfl ?_
      refine ops_move rfl rfl ?_
      refine ops_guard_t rfl rfl ?_
      refine ops_callv rfl bod24 rfl rfl ?_
      refine (rcmp_c (M := M) (by assumption) (by assumption) (by omega) (by omega) hM).mono ?_
      rintro v73 w12 ⟨hB73, rfl⟩
      have Lw12 := Le.of_below (Fz := Fz) (M := M) hB73
      replace LL := LL.trans Lw12
      replace hM := hM.mono Lw12
      replace hF := hF.mono Lw12
      replace h1 := h1.mono Lw12
      replace h2 := h2.mono Lw12
      replace h3 := h3.mono Lw12
      replace hn19 := hn19.mono Lw12
      replace hn39 := hn39.mono Lw12
      replace hn45 := hn45.mono Lw12
      refine ops_guard_t rfl rfl ?_
      refine ops_ne rfl rfl rfl ?_
      refine ops_bf (d := 74) rfl (by first | rfl | simp | omega) ?_
      refine ops_pick rfl rfl rfl ?_
      refine ops_nil ?_
      refine SL.wp_cond_f rfl ?_
      refine SL.wp_skip ?_
      refine SL.wp_seq ?_
      refine SL.wp_region ?_
      refine ops_move rfl rfl ?_
      refine ops_callv rfl bod25 rfl rfl ?_
      refine (trim_c (M := M) (by assumption) (by omega) hM).mono ?_
      rintro v77 w13 ⟨hB77, hf77⟩
      have hM77 := hM; have hS77 := LL.size
      have Lw13 := Le.of_below (Fz := Fz) (M := M) hB77
      replace LL := LL.trans Lw13
      replace hM := hM.mono Lw13
      replace hF := hF.mono Lw13
      replace h1 := h1.mono Lw13
      replace h2 := h2.mono Lw13
      replace h3 := h3.mono Lw13
      replace hn19 := hn19.mono Lw13
      replace hn39 := hn39.mono Lw13
      replace hn45 := hn45.mono Lw13
      have hn77 := hf77.nat hM77; replace hf77 := hf77.less hS77
      refine ops_move rfl rfl ?_
      refine ops_callv rfl bod26 rfl rfl ?_
      refine (rtrim_c (M := M) (by assumption) (by omega) hM).mono ?_
      rintro v79 w14 ⟨hB79, hf79⟩
      have hM79 := hM; have hS79 := LL.size
      have Lw14 := Le.of_below (Fz := Fz) (M := M) hB79
      replace LL := LL.trans Lw14
      replace hM := hM.mono Lw14
      replace hF := hF.mono Lw14
      replace h1 := h1.mono Lw14
      replace h2 := h2.mono Lw14
      replace h3 := h3.mono Lw14
      replace hn19 := hn19.mono Lw14
      replace hn39 := hn39.mono Lw14
      replace hn45 := hn45.mono Lw14
      replace hn77 := hn77.mono Lw14
      have hn79 := hf79.nat hM79; replace hf79 := hf79.less hS79
      refine ops_callv rfl bod22 rfl rfl ?_
      refine (same1_c (M := M) (by assumption) (by assumption) hM).mono ?_
      rintro v80 w15 ⟨hB80, rfl⟩
      have Lw15 := Le.of_below (Fz := Fz) (M := M) hB80
      replace LL := LL.trans Lw15
      replace hM := hM.mono Lw15
      replace hF := hF.mono Lw15
      replace h1 := h1.mono Lw15
      replace h2 := h2.mono Lw15
      replace h3 := h3.mono Lw15
      replace hn19 := hn19.mono Lw15
      replace hn39 := hn39.mono Lw15
      replace hn45 := hn45.mono Lw15
      replace hn77 := hn77.mono Lw15
      replace hn79 := hn79.mono Lw15
      refine ops_move rfl rfl ?_
      refine ops_bt (d := 81) rfl (by first | rfl | simp | omega) ?_
      refine ops_guard_t rfl rfl ?_
      refine ops_move rfl rfl ?_
      refine ops_guard_t rfl rfl ?_
      refine ops_callv rfl bod27 rfl rfl ?_
      refine (of_c (M := M) (by omega) hM).mono ?_
      rintro v83 w16 ⟨hB83, hf83⟩
      have hM83 := hM; have hS83 := LL.size
      have Lw16 := Le.of_below (Fz := Fz) (M := M) hB83
      replace LL := LL.trans Lw16
      replace hM := hM.mono Lw16
      replace hF := hF.mono Lw16
      replace h1 := h1.mono Lw16
      replace h2 := h2.mono Lw16
      replace h3 := h3.mono Lw16
      replace hn19 := hn19.mono Lw16
      replace hn39 := hn39.mono Lw16
      replace hn45 := hn45.mono Lw16
      replace hn77 := hn77.mono Lw16
      replace hn79 := hn79.mono Lw16
      have hn83 := hf83.nat hM83; replace hf83 := hf83.less hS83
      refine ops_guard_t rfl rfl ?_
      refine ops_move rfl rfl ?_
      refine ops_guard_t rfl rfl ?_
      refine ops_callv rfl bod28 rfl rfl ?_
      refine (rof_c (M := M) (by omega) hM).mono ?_
      rintro v85 w17 ⟨hB85, hf85⟩
      have hM85 := hM; have hS85 := LL.size
      have Lw17 := Le.of_below (Fz := Fz) (M := M) hB85
      replace LL := LL.trans Lw17
      replace hM := hM.mono Lw17
      replace hF := hF.mono Lw17
      replace h1 := h1.mono Lw17
      replace h2 := h2.mono Lw17
      replace h3 := h3.mono Lw17
      replace hn19 := hn19.mono Lw17
      replace hn39 := hn39.mono Lw17
      replace hn45 := hn45.mono Lw17
      replace hn77 := hn77.mono Lw17
      replace hn79 := hn79.mono Lw17
      replace hn83 := hn83.mono Lw17
      have hn85 := hf85.nat hM85; replace hf85 := hf85.less hS85
      refine ops_guard_t rfl rfl ?_
      refine ops_callv rfl bod22 rfl rfl ?_
      refine (same1_c (M := M) (by assumption) (by assumption) hM).mono ?_
      rintro v86 w18 ⟨hB86, rfl⟩
      have Lw18 := Le.of_below (Fz := Fz) (M := M) hB86
      replace LL := LL.trans Lw18
      replace hM := hM.mono Lw18
      replace hF := hF.mono Lw18
      replace h1 := h1.mono Lw18
      replace h2 := h2.mono Lw18
      replace h3 := h3.mono Lw18
      replace hn19 := hn19.mono Lw18
      replace hn39 := hn39.mono Lw18
      replace hn45 := hn45.mono Lw18
      replace hn77 := hn77.mono Lw18
      replace hn79 := hn79.mono Lw18
      replace hn83 := hn83.mono Lw18
      replace hn85 := hn85.mono Lw18
      refine ops_pick rfl rfl rfl ?_
      refine ops_move rfl rfl ?_
      refine ops_bt (d := 88) rfl (by first | rfl | simp | omega) ?_
      refine ops_guard_t rfl rfl ?_
      refine ops_move rfl rfl ?_
      refine ops_guard_t rfl rfl ?_
      refine ops_callv rfl bod29 rfl rfl ?_
      refine (add_c (M := M) (by assumption) (by assumption) (by first | omega | simp) hM).mono ?_
      rintro v90 w19 ⟨hB90, hf90⟩
      have hM90 := hM; have hS90 := LL.size
      have Lw19 := Le.of_below (Fz := Fz) (M := M) hB90
      replace LL := LL.trans Lw19
      replace hM := hM.mono Lw19
      replace hF := hF.mono Lw19
      replace h1 := h1.mono Lw19
      replace h2 := h2.mono Lw19
      replace h3 := h3.mono Lw19
      replace hn19 := hn19.mono Lw19
      replace hn39 := hn39.mono Lw19
      replace hn45 := hn45.mono Lw19
      replace hn77 := hn77.mono Lw19
      replace hn79 := hn79.mono Lw19
      replace hn83 := hn83.mono Lw19
      replace hn85 := hn85.mono Lw19
      have hn90 := hf90.nat hM90; replace hf90 := hf90.less hS90
      refine ops_guard_t rfl rfl ?_
      refine ops_move rfl rfl ?_
      refine ops_guard_t rfl rfl ?_
      refine ops_callv rfl bod30 rfl rfl ?_
      refine (radd_c (M := M) (by assumption) (by assumption) (by first | omega | simp) hM).mono ?_
      rintro v92 w20 ⟨hB92, hf92⟩
      have hM92 := hM; have hS92 := LL.size
      have Lw20 := Le.of_below (Fz := Fz) (M := M) hB92
      replace LL := LL.trans Lw20
      replace hM := hM.mono Lw20
      replace hF := hF.mono Lw20
      replace h1 := h1.mono Lw20
      replace h2 := h2.mono Lw20
      replace h3 := h3.mono Lw20
      replace hn19 := hn19.mono Lw20
      replace hn39 := hn39.mono Lw20
      replace hn45 := hn45.mono Lw20
      replace hn77 := hn77.mono Lw20
      replace hn79 := hn79.mono Lw20
      replace hn83 := hn83.mono Lw20
      replace hn85 := hn85.mono Lw20
      replace hn90 := hn90.mono Lw20
      have hn92 := hf92.nat hM92; replace hf92 := hf92.less hS92
      refine ops_guard_t rfl rfl ?_
      refine ops_callv rfl bod22 rfl rfl ?_
      refine (same1_c (M := M) (by assumption) (by assumption) hM).mono ?_
      rintro v93 w21 ⟨hB93, rfl⟩
      have Lw21 := Le.of_below (Fz := Fz) (M := M) hB93
      replace LL := LL.trans Lw21
      replace hM := hM.mono Lw21
      replace hF := hF.mono Lw21
      replace h1 := h1.mono Lw21
      replace h2 := h2.mono Lw21
      replace h3 := h3.mono Lw21
      replace hn19 := hn19.mono Lw21
      replace hn39 := hn39.mono Lw21
      replace hn45 := hn45.mono Lw21
      replace hn77 := hn77.mono Lw21
      replace hn79 := hn79.mono Lw21
      replace hn83 := hn83.mono Lw21
      replace hn85 := hn85.mono Lw21
      replace hn90 := hn90.mono Lw21
      replace hn92 := hn92.mono Lw21
      refine ops_pick rfl rfl rfl ?_
      refine ops_move rfl rfl ?_
      refine ops_bt (d := 95) rfl (by first | rfl | simp | omega) ?_
      refine ops_guard_t rfl rfl ?_
      refine ops_move rfl rfl ?_
      refine ops_guard_t rfl rfl ?_
      refine ops_callv rfl bod31 rfl rfl ?_
      refine (least_c (M := M) (by assumption) (by assumption) (by omega) hM).mono ?_
      rintro v97 w22 ⟨hB97, rfl⟩
      have Lw22 := Le.of_below (Fz := Fz) (M := M) hB97
      replace LL := LL.trans Lw22
      replace hM := hM.mono Lw22
      replace hF := hF.mono Lw22
      replace h1 := h1.mono Lw22
      replace h2 := h2.mono Lw22
      replace h3 := h3.mono Lw22
      replace hn19 := hn19.mono Lw22
      replace hn39 := hn39.mono Lw22
      replace hn45 := hn45.mono Lw22
      replace hn77 := hn77.mono Lw22
      replace hn79 := hn79.mono Lw22
      replace hn83 := hn83.mono Lw22
      replace hn85 := hn85.mono Lw22
      replace hn90 := hn90.mono Lw22
      replace hn92 := hn92.mono Lw22
      refine ops_guard_t rfl rfl ?_
      refine ops_move rfl rfl ?_
      refine ops_guard_t rfl rfl ?_
      refine ops_callv rfl bod32 rfl rfl ?_
      refine (rleast_c (M := M) (by assumption) (by assumption) (by omega) hM).mono ?_
      rintro v99 w23 ⟨hB99, rfl⟩
      have Lw23 := Le.of_below (Fz := Fz) (M := M) hB99
      replace LL := LL.trans Lw23
      replace hM := hM.mono Lw23
      replace hF := hF.mono Lw23
      replace h1 := h1.mono Lw23
      replace h2 := h2.mono Lw23
      replace h3 := h3.mono Lw23
      replace hn19 := hn19.mono Lw23
      replace hn39 := hn39.mono Lw23
      replace hn45 := hn45.mono Lw23
      replace hn77 := hn77.mono Lw23
      replace hn79 := hn79.mono Lw23
      replace hn83 := hn83.mono Lw23
      replace hn85 := hn85.mono Lw23
      replace hn90 := hn90.mono Lw23
      replace hn92 := hn92.mono Lw23
      refine ops_guard_t rfl rfl ?_
      refine ops_eq rfl rfl rfl ?_
      refine ops_pick rfl rfl rfl ?_
      refine ops_move rfl rfl ?_
      refine ops_bt (d := 102) rfl (by first | rfl | simp | omega) ?_
      refine ops_guard_t rfl rfl ?_
      refine ops_callv rfl bod17 rfl rfl ?_
      refine (wakes1_c (M := M) hM).mono ?_
      rintro v103 w24 ⟨hB103, rfl⟩
      have Lw24 := Le.of_below (Fz := Fz) (M := M) hB103
      replace LL := LL.trans Lw24
      replace hM := hM.mono Lw24
      replace hF := hF.mono Lw24
      replace h1 := h1.mono Lw24
      replace h2 := h2.mono Lw24
      replace h3 := h3.mono Lw24
      replace hn19 := hn19.mono Lw24
      replace hn39 := hn39.mono Lw24
      replace hn45 := hn45.mono Lw24
      replace hn77 := hn77.mono Lw24
      replace hn79 := hn79.mono Lw24
      replace hn83 := hn83.mono Lw24
      replace hn85 := hn85.mono Lw24
      replace hn90 := hn90.mono Lw24
      replace hn92 := hn92.mono Lw24
      refine ops_pick rfl rfl rfl ?_
      refine ops_assign rfl rfl ?_
      refine ops_nil ?_
      refine SL.wp_ret ?_
      refine leave_nil ⟨[_], ⟨rfl, trivial⟩, ?_⟩
      dsimp only [resVal]
      subst hFz
      exact ⟨LL.below (Nat.le_refl _), by first | rfl | simp⟩

end Go.Proofs.Ytffakiheophioaa
