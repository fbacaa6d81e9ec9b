import Derived.Test.YtffakiheophioaaW23
import Derived.Test.YtffakiheophioaaSLq
import Derived.Test.YtffakiheophioaaSLp
import Derived.Test.YtffakiheophioaaSLo
import Derived.Test.YtffakiheophioaaSLn
set_option linter.unusedVariables false
set_option linter.unusedSimpArgs false
set_option maxRecDepth 100000
namespace Go.Proofs.Ytffakiheophioaa
open Go.SL Go.RowKit Go.Proofs

/-- yes, where each is divided -/
theorem divides_c {M : Nat → Prop} {w : World} {v u : Value} {xs : List Nat} {xss : List (List Nat)} (h1 : IsNat M w v xs) (h2 : IsNats M w u xss) (hl1 : xs.length ≤ 10000000) (hl2 : ∀ ys ∈ xss, ys.length ≤ 10000000) (hd : ∀ ys ∈ xss, val xs ∣ val ys) (hM : OkM M w) :
    CallsV Try.prog 54 [v, u] w fun r w' => Below w.heap.size w w' ∧ r = .bool true := by
  obtain ⟨Fz, hFz⟩ : ∃ Fz : Nat → Prop, Fz = (· < w.heap.size) := ⟨_, rfl⟩
  have hF : FOk Fz w := by subst hFz; exact fun _ h => h
  have hll := h2.len
  have LL := Le.refl Fz M w; have hM0 := hM
  refine calls_intro Try.func54 rfl Try.ntmps54 rfl ?_
  refine SL.wp_seq ?_
  refine SL.wp_region ?_
  refine ops_assign rfl rfl ?_
  refine ops_nil ?_
  refine SL.wp_seq ?_
  refine SL.wp_seq ?_
  refine SL.wp_region ?_
  refine ops_move rfl rfl ?_
  first | refine ops_len rfl Try.underlying24 rfl ?_ | refine ops_lens rfl Try.underlying24 rfl (IsNat.slc (by assumption)) ?_ | refine ops_lenn rfl Try.underlying24 rfl (by assumption) ?_ | refine ops_leno rfl Try.underlying24 rfl (by assumption) ?_
  refine ops_move rfl rfl ?_
  refine ops_nil ?_
  refine SL.wp_block ?_
  refine SL.wp_loopc (σ := Nat) [(0, _), (10, _), (11, _)] (fun s => [(12, .int .i64 ((s : Nat) : Int))]) (fun s w1 => Le Fz M w M w1 ∧ s ≤ xss.length) (fun s => xss.length - s) (0) (sub_cons rfl (sub_cons rfl (sub_cons rfl (sub_cons rfl sub_nil)))) ?_ (fun s w1 hJ => ?_)
  · exact ⟨Le.refl _ _ _, by omega⟩
  · obtain ⟨LR, hs⟩ := hJ
    replace LL := LL.trans LR
    replace hM := hM.mono LR
    replace hF := hF.mono LR
    replace h1 := h1.mono LR
    replace h2 := h2.mono LR
    refine SL.wp_seq ?_
    refine SL.wp_region ?_
    refine ops_lt rfl rfl rfl ?_
    refine ops_nil ?_
    refine SL.wp_seq ?_
    refine SL.wp_cond_d rfl (fun hc0 => ?_) (fun hc0 => ?_)
    · have hmem : xss.getD s [] ∈ xss := by rw [List.getD_eq_getElem?_getD, List.getElem?_eq_getElem (by omega)]; exact List.getElem_mem _
      have hys := hl2 _ hmem
      have hdv := hd _ hmem
      have hrz : (if val xs = 0 then 0 else val (xss.getD s []) % val xs) = 0 := by
        split
        · rfl
        · exact Nat.mod_eq_zero_of_dvd hdv
      refine SL.wp_skip ?_
      refine SL.wp_seq ?_
      refine SL.wp_block ?_
      refine SL.wp_seq ?_
      refine SL.wp_region ?_
      refine ops_idxs (s) rfl Try.underlying24 sz23 rfl rfl (by assumption) (by omega) (by omega) (fun b14 o14 u14 hc14 hu14 => ?_)
      refine ops_load rfl flat23 rfl hc14 ?_
      refine ops_assign rfl rfl ?_
      refine ops_nil ?_
      refine SL.wp_seq ?_
      refine SL.wp_region ?_
      refine ops_move rfl rfl ?_
      refine ops_move rfl rfl ?_
      refine ops_callv rfl bod51 rfl rfl ?_
      refine (div_c (M := M) hu14 h1 (by omega) (by omega) hM).mono ?_
      rintro v19 w2 ⟨hB19, q19, s19, rfl, hf19, hg19⟩
      have hM19 := hM; have hS19 := LL.size
      have Lw2 := Le.of_below (Fz := Fz) (M := M) hB19
      replace LL := LL.trans Lw2
      replace LR := LR.trans Lw2
      replace hM := hM.mono Lw2
      replace hF := hF.mono Lw2
      replace h1 := h1.mono Lw2
      replace h2 := h2.mono Lw2
      replace hu14 := hu14.mono Lw2
      have hn19 := hf19.nat hM19; have hm19 := hg19.nat hM19
      refine ops_move rfl rfl ?_
      refine ops_extract rfl rfl rfl ?_
      refine ops_extract rfl rfl rfl ?_
      refine ops_extract rfl rfl rfl ?_
      refine ops_assign rfl rfl ?_
      refine ops_assign rfl rfl ?_
      refine ops_assign rfl rfl ?_
      refine ops_nil ?_
      refine SL.wp_seq ?_
      refine SL.wp_region ?_
      refine ops_move rfl rfl ?_
      refine ops_ne rfl rfl rfl ?_
      refine ops_move rfl rfl ?_
      refine ops_dcase (d := 25) rfl (fun hg5_2 => ?_) (fun hg5_2 => ?_)
      · have hy0 : val xs = 0 := Classical.byContradiction fun c => by simp [c] at hg5_2
        have hz0 : val (xss.getD s []) = 0 := by rw [hy0] at hdv; exact Nat.eq_zero_of_zero_dvd hdv
        refine ops_guard_t rfl rfl ?_
        refine ops_move rfl rfl ?_
        refine ops_guard_t rfl rfl ?_
        refine ops_callv rfl bod25 rfl rfl ?_
        refine (trim_c (M := M) (by assumption) (by omega) hM).mono ?_
        rintro v27 w3 ⟨hB27, hf27⟩
        have hM27 := hM; have hS27 := LL.size
        have Lw3 := Le.of_below (Fz := Fz) (M := M) hB27
        replace LL := LL.trans Lw3
        replace LR := LR.trans Lw3
        replace hM := hM.mono Lw3
        replace hF := hF.mono Lw3
        replace h1 := h1.mono Lw3
        replace h2 := h2.mono Lw3
        replace hu14 := hu14.mono Lw3
        replace hn19 := hn19.mono Lw3
        replace hm19 := hm19.mono Lw3
        have hn27 := hf27.nat hM27; replace hf27 := hf27.less hS27
        refine ops_guard_t rfl rfl ?_
        first | refine ops_len rfl Try.underlying23 rfl ?_ | refine ops_lens rfl Try.underlying23 rfl (IsNat.slc (by assumption)) ?_ | refine ops_lenn rfl Try.underlying23 rfl (by assumption) ?_ | refine ops_leno rfl Try.underlying23 rfl (by assumption) ?_
        refine ops_guard_t rfl rfl ?_
        refine ops_gt rfl rfl rfl ?_
        refine ops_bf (d := 29) rfl (decide_eq_false (by rw [hz0, limbs_zero]; simp)) ?_
        refine ops_pick rfl rfl rfl ?_
        refine ops_move rfl rfl ?_
        refine ops_guard_t rfl rfl ?_
        refine ops_move rfl rfl ?_
        refine ops_guard_t rfl rfl ?_
        first | refine ops_len rfl Try.underlying23 rfl ?_ | refine ops_lens rfl Try.underlying23 rfl (IsNat.slc (by assumption)) ?_ | refine ops_lenn rfl Try.underlying23 rfl (by assumption) ?_ | refine ops_leno rfl Try.underlying23 rfl (by assumption) ?_
        refine ops_guard_t rfl rfl ?_
        refine ops_gt rfl rfl rfl ?_
        refine ops_bf (d := 34) rfl (decide_eq_false (by rw [hrz, limbs_zero]; simp)) ?_
        refine ops_pick rfl rfl rfl ?_
        refine ops_nil ?_
        refine SL.wp_cond_f rfl ?_
        refine SL.wp_skip ?_
        refine SL.wp_region ?_
        refine ops_add rfl rfl rfl (by omega) ?_
        refine ops_move rfl rfl ?_
        refine ops_nil ?_
        refine ⟨rfl, s + 1, (sub_cons' rfl (rfl) (sub_cons rfl (sub_cons rfl (sub_cons rfl sub_nil)))), ?_, ?_⟩
        exact ⟨LR, by omega⟩
        omega
      · refine ops_guard_f rfl rfl rfl rfl ?_
        refine ops_guard_f rfl rfl rfl rfl ?_
        refine ops_guard_f rfl rfl rfl rfl ?_
        refine ops_guard_f rfl rfl rfl rfl ?_
        refine ops_pick rfl rfl rfl ?_
        refine ops_move rfl rfl ?_
        refine ops_guard_t rfl rfl ?_
        refine ops_move rfl rfl ?_
        refine ops_guard_t rfl rfl ?_
        first | refine ops_len rfl Try.underlying23 rfl ?_ | refine ops_lens rfl Try.underlying23 rfl (IsNat.slc (by assumption)) ?_ | refine ops_lenn rfl Try.underlying23 rfl (by assumption) ?_ | refine ops_leno rfl Try.underlying23 rfl (by assumption) ?_
        refine ops_guard_t rfl rfl ?_
        refine ops_gt rfl rfl rfl ?_
        refine ops_bf (d := 34) rfl (decide_eq_false (by rw [hrz, limbs_zero]; simp)) ?_
        refine ops_pick rfl rfl rfl ?_
        refine ops_nil ?_
        refine SL.wp_cond_f rfl ?_
        refine SL.wp_skip ?_
        refine SL.wp_region ?_
        refine ops_add rfl rfl rfl (by omega) ?_
        refine ops_move rfl rfl ?_
        refine ops_nil ?_
        refine ⟨rfl, s + 1, (sub_cons' rfl (rfl) (sub_cons rfl (sub_cons rfl (sub_cons rfl sub_nil)))), ?_, ?_⟩
        exact ⟨LR, by omega⟩
        omega
    · refine SL.wp_exit ?_
      refine upd_hit ?_
      refine SL.wp_seq ?_
      refine SL.wp_region ?_
      refine ops_assign rfl rfl ?_
      refine ops_nil ?_
      refine SL.wp_ret ?_
      refine leave_nil ⟨[_], ⟨rfl, trivial⟩, ?_⟩
      dsimp only [resVal]
      subst hFz
      exact ⟨LL.below (Nat.le_refl _), rfl⟩


/-- how often, where the number is told by its parts -/
theorem times_c {M : Nat → Prop} {w : World} {v u : Value} {xs ys : List Nat} {n r : Nat} (h1 : IsNat M w v xs) (h2 : IsNat M w u ys) (hl1 : xs.length ≤ 10000000) (hl2 : ys.length ≤ 10000000) (hy : 2 ≤ val ys) (hx0 : val xs ≠ 0) (hx : val xs = val ys ^ n * r) (hr : r % val ys ≠ 0) (hn : n ≤ 1000000) (hM : OkM M w) :
    CallsV Try.prog 69 [v, u] w fun r w' => Below w.heap.size w w' ∧ r = .int .i64 (n : Int) := by
  obtain ⟨Fz, hFz⟩ : ∃ Fz : Nat → Prop, Fz = (· < w.heap.size) := ⟨_, rfl⟩
  have hF : FOk Fz w := by subst hFz; exact fun _ h => h
  have hxl := limbs_val_length_le xs h1.lt
  have LL := Le.refl Fz M w; have hM0 := hM
  refine calls_intro Try.func69 rfl Try.ntmps69 rfl ?_
  refine SL.wp_seq ?_
  refine SL.wp_region ?_
  refine ops_assign rfl rfl ?_
  refine ops_nil ?_
  refine SL.wp_seq ?_
  refine SL.wp_seq ?_
  refine SL.wp_region ?_
  refine ops_move rfl rfl ?_
  refine ops_callv rfl bod25 rfl rfl ?_
  refine (trim_c (M := M) (by assumption) (by omega) hM).mono ?_
  rintro v9 w1 ⟨hB9, hf9⟩
  have hM9 := hM; have hS9 := LL.size
  have Lw1 := Le.of_below (Fz := Fz) (M := M) hB9
  replace LL := LL.trans Lw1
  replace hM := hM.mono Lw1
  replace hF := hF.mono Lw1
  replace h1 := h1.mono Lw1
  replace h2 := h2.mono Lw1
  have hn9 := hf9.nat hM9; replace hf9 := hf9.less hS9
  first | refine ops_len rfl Try.underlying23 rfl ?_ | refine ops_lens rfl Try.underlying23 rfl (IsNat.slc (by assumption)) ?_ | refine ops_lenn rfl Try.underlying23 rfl (by assumption) ?_ | refine ops_leno rfl Try.underlying23 rfl (by assumption) ?_
  refine ops_eq rfl rfl rfl ?_
  refine ops_bf (d := 11) rfl (decide_eq_false (by rw [Int.natCast_eq_zero]; exact fun c => hx0 (limbs_length_eq_zero.1 c))) ?_
  refine ops_move rfl rfl ?_
  refine ops_guard_t rfl rfl ?_
  refine ops_move rfl rfl ?_
  refine ops_guard_t rfl rfl ?_
  refine ops_buildSlice rfl Try.underlying23 sz43 rfl rfl rfl (by simp [Value.oneCell', lw]) rfl (fun w2 b14 N14 => ?_)
  have hBw2 := N14.below
  have nM14 := hM.new N14; have B14 := N14.blk
  have Lw2 := Le.of_below (Fz := Fz) (M := M) hBw2
  replace LL := LL.trans Lw2
  replace hM := hM.mono Lw2
  replace hF := hF.mono Lw2
  replace h1 := h1.mono Lw2
  replace h2 := h2.mono Lw2
  replace hn9 := hn9.mono Lw2
  have hn14 : IsNat M w2 (.slice (some ⟨b14, 0, none⟩) 1 1) [2] := blk_nat (xs := [2]) B14 nM14 rfl (by simp) (by simp)
  refine ops_guard_t rfl rfl ?_
  refine ops_callv rfl bod23 rfl rfl ?_
  refine (cmp_c (M := M) h2 hn14 (by omega) (by simp) hM).mono ?_
  rintro v15 w3 ⟨hB15, rfl⟩
  have Lw3 := Le.of_below (Fz := Fz) (M := M) hB15
  replace LL := LL.trans Lw3
  replace hM := hM.mono Lw3
  replace hF := hF.mono Lw3
  replace h1 := h1.mono Lw3
  replace h2 := h2.mono Lw3
  replace hn9 := hn9.mono Lw3
  replace hn14 := hn14.mono Lw3
  refine ops_guard_t rfl rfl ?_
  refine ops_lt rfl rfl rfl ?_
  refine ops_bf (d := 16) rfl (decide_eq_false (by rw [cmpN_neg, show val [2] = 2 by decide]; omega)) ?_
  refine ops_pick rfl rfl rfl ?_
  refine ops_nil ?_
  refine SL.wp_cond_f rfl ?_
  refine SL.wp_skip ?_
  refine SL.wp_block ?_
  refine SL.wp_loopc (σ := Nat × Value) [(1, _)] (fun s => [(0, s.2), (4, .int .i64 ((s.1 : Nat) : Int))]) (fun s w4 => Le Fz M w3 M w4 ∧ s.1 ≤ n ∧ ∃ zs : List Nat, IsNat M w4 s.2 zs ∧ val zs = val ys ^ (n - s.1) * r ∧ zs.length ≤ 10000000) (fun s => n - s.1) ((0, v)) (sub_cons rfl (sub_cons rfl (sub_cons rfl sub_nil))) ?_ (fun s w4 hJ => ?_)
  · exact ⟨Le.refl _ _ _, by omega, xs, h1, hx, hl1⟩
  · obtain ⟨i, a⟩ := s
    dsimp only at hJ ⊢
    obtain ⟨LR, hi, zs, ha, hav, hal⟩ := hJ
    have hal2 := limbs_val_length_le zs ha.lt
    have hqz : (limbs (val zs / val ys)).length ≤ 10000000 := Nat.le_trans (limbs_length_le (Nat.lt_of_le_of_lt (Nat.div_le_self _ _) (val_lt zs ha.lt))) hal
    replace LL := LL.trans LR
    replace hM := hM.mono LR
    replace hF := hF.mono LR
    replace h1 := h1.mono LR
    replace h2 := h2.mono LR
    replace hn9 := hn9.mono LR
    replace hn14 := hn14.mono LR
    refine SL.wp_block ?_
    refine SL.wp_seq ?_
    refine SL.wp_region ?_
    refine ops_move rfl rfl ?_
    refine ops_move rfl rfl ?_
    refine ops_callv rfl bod51 rfl rfl ?_
    refine (div_c (M := M) ha h2 (by omega) (by omega) hM).mono ?_
    rintro v21 w5 ⟨hB21, q21, s21, rfl, hf21, hg21⟩
    have hM21 := hM; have hS21 := LL.size
    have Lw5 := Le.of_below (Fz := Fz) (M := M) hB21
    replace LL := LL.trans Lw5
    replace LR := LR.trans Lw5
    replace hM := hM.mono Lw5
    replace hF := hF.mono Lw5
    replace h1 := h1.mono Lw5
    replace h2 := h2.mono Lw5
    replace hn9 := hn9.mono Lw5
    replace hn14 := hn14.mono Lw5
    replace ha := ha.mono Lw5
    have hn21 := hf21.nat hM21; have hm21 := hg21.nat hM21
    refine ops_move rfl rfl ?_
    refine ops_extract rfl rfl rfl ?_
    refine ops_extract rfl rfl rfl ?_
    refine ops_extract rfl rfl rfl ?_
    refine ops_assign rfl rfl ?_
    refine ops_assign rfl rfl ?_
    refine ops_assign rfl rfl ?_
    refine ops_nil ?_
    refine SL.wp_seq ?_
    refine SL.wp_seq ?_
    refine SL.wp_region ?_
    refine ops_move rfl rfl ?_
    first | refine ops_len rfl Try.underlying23 rfl ?_ | refine ops_lens rfl Try.underlying23 rfl (IsNat.slc (by assumption)) ?_ | refine ops_lenn rfl Try.underlying23 rfl (by assumption) ?_ | refine ops_leno rfl Try.underlying23 rfl (by assumption) ?_
    refine ops_gt rfl rfl rfl ?_
    refine ops_nil ?_
    refine SL.wp_cond_d rfl (fun hc0 => ?_) (fun hc0 => ?_)
    · have hin : i = n := Classical.byContradiction fun c => by
        have e : val zs % val ys = 0 := by
          rw [hav, show n - i = (n - (i + 1)) + 1 by omega, Nat.pow_succ, Nat.mul_right_comm]; exact Nat.mul_mod_left _ _
        rw [if_neg (by omega), e, limbs_zero] at hc0; simp at hc0
      refine SL.wp_seq ?_
      refine SL.wp_region ?_
      refine ops_move rfl rfl ?_
      refine ops_assign rfl rfl ?_
      refine ops_nil ?_
      refine SL.wp_ret ?_
      refine leave_nil ⟨[_], ⟨rfl, trivial⟩, ?_⟩
      dsimp only [resVal]
      subst hFz
      exact ⟨LL.below (Nat.le_refl _), by rw [hin]⟩
    · have hin : i < n := Classical.byContradiction fun c => by
        have hi2 : i = n := by omega
        rw [hi2, Nat.sub_self, Nat.pow_zero, Nat.one_mul] at hav
        rw [if_neg (by omega), hav] at hc0
        have : (limbs (r % val ys)).length = 0 := by omega
        exact hr (limbs_length_eq_zero.1 this)
      refine SL.wp_skip ?_
      refine SL.wp_seq ?_
      refine SL.wp_region ?_
      refine ops_move rfl rfl ?_
      refine ops_assign rfl rfl ?_
      refine ops_nil ?_
      refine SL.wp_region ?_
      refine ops_move rfl rfl ?_
      refine ops_add rfl rfl rfl (by omega) ?_
      refine ops_assign rfl rfl ?_
      refine ops_nil ?_
      refine ⟨rfl, (i + 1, q21), (sub_cons' rfl (rfl) (sub_cons' rfl (rfl) (sub_cons rfl sub_nil))), ?_, ?_⟩
      dsimp only
      exact ⟨LR, by omega, _, hn21, by
        rw [val_limbs, hav, show n - i = (n - (i + 1)) + 1 by omega, Nat.pow_succ, Nat.mul_right_comm, Nat.mul_div_cancel _ (show 0 < val ys by omega)], by omega⟩
      dsimp only
      omega


theorem same3_c {M : Nat → Prop} {w : World} {v u : Value} {xs ys : List Nat} (h1 : IsNat M w v xs) (h2 : IsNat M w u ys) (hM : OkM M w) :
    CallsV Try.prog 52 [v, u] w fun r w' => Below w.heap.size w w' ∧ r = .bool (decide (xs = ys)) := by
  obtain ⟨Fz, hFz⟩ : ∃ Fz : Nat → Prop, Fz = (· < w.heap.size) := ⟨_, rfl⟩
  have hF : FOk Fz w := by subst hFz; exact fun _ h => h
  have LL := Le.refl Fz M w; have hM0 := hM
  refine calls_intro Try.func52 rfl Try.ntmps52 rfl ?_
  refine SL.wp_seq ?_
  refine SL.wp_region ?_
  refine ops_assign rfl rfl ?_
  refine ops_nil ?_
  refine SL.wp_seq ?_
  refine SL.wp_region ?_
  refine ops_move rfl rfl ?_
  refine ops_move rfl rfl ?_
  refine ops_callv rfl bod58 rfl rfl ?_
  refine (same_c (M := M) (by assumption) (by assumption) hM).mono ?_
  rintro v7 w1 ⟨hB7, rfl⟩
  have Lw1 := Le.of_below (Fz := Fz) (M := M) hB7
  replace LL := LL.trans Lw1
  replace hM := hM.mono Lw1
  replace hF := hF.mono Lw1
  replace h1 := h1.mono Lw1
  replace h2 := h2.mono Lw1
  refine ops_assign rfl rfl ?_
  refine ops_nil ?_
  refine SL.wp_ret ?_
  refine leave_nil ⟨[_], ⟨rfl, trivial⟩, ?_⟩
  dsimp only [resVal]
  subst hFz
  exact ⟨LL.below (Nat.le_refl _), rfl⟩

theorem limbs_one {n : Nat} (h0 : n ≠ 0) (h : n < 4294967296) : limbs n = [n] := by rw [limbs_pos h0, Nat.mod_eq_of_lt h, Nat.div_eq_of_lt h, limbs_zero]
theorem lim73 : limbs (val [7] / val [2]) = [3] := by rw [show val [7] / val [2] = 3 by decide]; exact limbs_one (by decide) (by decide)
theorem lim71 : limbs (if val [2] = 0 then 0 else val [7] % val [2]) = [1] := by rw [show (if val [2] = 0 then 0 else val [7] % val [2]) = 1 by decide]; exact limbs_one (by decide) (by decide)
theorem lim10 : limbs (val [0, 1] / 10) = [429496729] := by rw [show val [0, 1] / 10 = 429496729 by decide]; exact limbs_one (by decide) (by decide)

theorem wakes3_c {M : Nat → Prop} {w : World} (hM : OkM M w) :
    CallsV Try.prog 50 [] w fun r w' => Below w.heap.size w w' ∧ r = .bool true := by
  obtain ⟨Fz, hFz⟩ : ∃ Fz : Nat → Prop, Fz = (· < w.heap.size) := ⟨_, rfl⟩
  have hF : FOk Fz w := by subst hFz; exact fun _ h => h
  have l1 := len1 3; have l2 := len1 1; have l3 := len1 429496729
  have LL := Le.refl Fz M w; have hM0 := hM
  refine calls_intro Try.func50 rfl Try.ntmps50 rfl ?_
  refine SL.wp_seq ?_
  refine SL.wp_region ?_
  refine ops_assign rfl rfl ?_
  refine ops_nil ?_
  refine SL.wp_seq ?_
  refine SL.wp_region ?_
  refine ops_buildSlice rfl Try.underlying23 sz43 rfl rfl rfl (by simp [Value.oneCell', lw]) rfl (fun w1 b11 N11 => ?_)
  have hBw1 := N11.below
  have nM11 := hM.new N11; have B11 := N11.blk
  have Lw1 := Le.of_below (Fz := Fz) (M := M) hBw1
  replace LL := LL.trans Lw1
  replace hM := hM.mono Lw1
  replace hF := hF.mono Lw1
  have hn11 : IsNat M w1 (.slice (some ⟨b11, 0, none⟩) 1 1) [7] := blk_nat (xs := [7]) B11 nM11 rfl (by simp) (by simp)
  refine ops_buildSlice rfl Try.underlying23 sz43 rfl rfl rfl (by simp [Value.oneCell', lw]) rfl (fun w2 b12 N12 => ?_)
  have hBw2 := N12.below
  have nM12 := hM.new N12; have B12 := N12.blk
  have Lw2 := Le.of_below (Fz := Fz) (M := M) hBw2
  replace LL := LL.trans Lw2
  replace hM := hM.mono Lw2
  replace hF := hF.mono Lw2
  replace hn11 := hn11.mono Lw2
  have hn12 : IsNat M w2 (.slice (some ⟨b12, 0, none⟩) 1 1) [2] := blk_nat (xs := [2]) B12 nM12 rfl (by simp) (by simp)
  refine ops_callv rfl bod51 rfl rfl ?_
  refine (div_c (M := M) hn11 hn12 (by simp) (by simp) hM).mono ?_
  rintro v13 w3 ⟨hB13, q13, s13, rfl, hf13, hg13⟩
  have hM13 := hM; have hS13 := LL.size
  have Lw3 := Le.of_below (Fz := Fz) (M := M) hB13
  replace LL := LL.trans Lw3
  replace hM := hM.mono Lw3
  replace hF := hF.mono Lw3
  replace hn11 := hn11.mono Lw3
  replace hn12 := hn12.mono Lw3
  rw [lim73] at hf13; rw [lim71] at hg13
  have hn13 := hf13.nat hM13; have hm13 := hg13.nat hM13
  refine ops_move rfl rfl ?_
  refine ops_extract rfl rfl rfl ?_
  refine ops_extract rfl rfl rfl ?_
  refine ops_extract rfl rfl rfl ?_
  refine ops_assign rfl rfl ?_
  refine ops_assign rfl rfl ?_
  refine ops_assign rfl rfl ?_
  refine ops_nil ?_
  refine SL.wp_seq ?_
  refine SL.wp_region ?_
  refine ops_buildSlice rfl Try.underlying23 sz43 rfl rfl rfl (by simp [Value.oneCell', lw]) rfl (fun w4 b18 N18 => ?_)
  have hBw4 := N18.below
  have nM18 := hM.new N18; have B18 := N18.blk
  have Lw4 := Le.of_below (Fz := Fz) (M := M) hBw4
  replace LL := LL.trans Lw4
  replace hM := hM.mono Lw4
  replace hF := hF.mono Lw4
  replace hn11 := hn11.mono Lw4
  replace hn12 := hn12.mono Lw4
  replace hn13 := hn13.mono Lw4
  replace hm13 := hm13.mono Lw4
  have hn18 : IsNat M w4 (.slice (some ⟨b18, 0, none⟩) 1 1) [7] := blk_nat (xs := [7]) B18 nM18 rfl (by simp) (by simp)
  refine ops_buildSlice rfl Try.underlying23 sz43 rfl rfl rfl (by simp [Value.oneCell', lw]) rfl (fun w5 b19 N19 => ?_)
  have hBw5 := N19.below
  have nM19 := hM.new N19; have B19 := N19.blk
  have Lw5 := Le.of_below (Fz := Fz) (M := M) hBw5
  replace LL := LL.trans Lw5
  replace hM := hM.mono Lw5
  replace hF := hF.mono Lw5
  replace hn11 := hn11.mono Lw5
  replace hn12 := hn12.mono Lw5
  replace hn13 := hn13.mono Lw5
  replace hm13 := hm13.mono Lw5
  replace hn18 := hn18.mono Lw5
  have hn19 : IsNat M w5 (.slice (some ⟨b19, 0, none⟩) 2 2) [0, 0] := blk_nat (xs := [0, 0]) B19 nM19 rfl (by simp) (by simp)
  refine ops_callv rfl bod51 rfl rfl ?_
  refine (div_c (M := M) hn18 hn19 (by simp) (by simp) hM).mono ?_
  rintro v20 w6 ⟨hB20, q20, s20, rfl, hf20, hg20⟩
  have hM20 := hM; have hS20 := LL.size
  have Lw6 := Le.of_below (Fz := Fz) (M := M) hB20
  replace LL := LL.trans Lw6
  replace hM := hM.mono Lw6
  replace hF := hF.mono Lw6
  replace hn11 := hn11.mono Lw6
  replace hn12 := hn12.mono Lw6
  replace hn13 := hn13.mono Lw6
  replace hm13 := hm13.mono Lw6
  replace hn18 := hn18.mono Lw6
  replace hn19 := hn19.mono Lw6
  have hn20 := hf20.nat hM20; have hm20 := hg20.nat hM20
  refine ops_move rfl rfl ?_
  refine ops_extract rfl rfl rfl ?_
  refine ops_extract rfl rfl rfl ?_
  refine ops_extract rfl rfl rfl ?_
  refine ops_assign rfl rfl ?_
  refine ops_assign rfl rfl ?_
  refine ops_assign rfl rfl ?_
  refine ops_nil ?_
  refine SL.wp_seq ?_
  refine SL.wp_region ?_
  refine ops_buildSlice rfl Try.underlying23 sz43 rfl rfl rfl (by simp [Value.oneCell', lw]) rfl (fun w7 b25 N25 => ?_)
  have hBw7 := N25.below
  have nM25 := hM.new N25; have B25 := N25.blk
  have Lw7 := Le.of_below (Fz := Fz) (M := M) hBw7
  replace LL := LL.trans Lw7
  replace hM := hM.mono Lw7
  replace hF := hF.mono Lw7
  replace hn11 := hn11.mono Lw7
  replace hn12 := hn12.mono Lw7
  replace hn13 := hn13.mono Lw7
  replace hm13 := hm13.mono Lw7
  replace hn18 := hn18.mono Lw7
  replace hn19 := hn19.mono Lw7
  replace hn20 := hn20.mono Lw7
  replace hm20 := hm20.mono Lw7
  have hn25 : IsNat M w7 (.slice (some ⟨b25, 0, none⟩) 2 2) [0, 1] := blk_nat (xs := [0, 1]) B25 nM25 rfl (by simp) (by simp)
  refine ops_callv rfl bod53 rfl rfl ?_
  refine (short_c (M := M) (n := 10) hn25 (by simp) (by omega) hM).mono ?_
  rintro v26 w8 ⟨hB26, q26, rfl, hf26⟩
  have hM26 := hM; have hS26 := LL.size
  have Lw8 := Le.of_below (Fz := Fz) (M := M) hB26
  replace LL := LL.trans Lw8
  replace hM := hM.mono Lw8
  replace hF := hF.mono Lw8
  replace hn11 := hn11.mono Lw8
  replace hn12 := hn12.mono Lw8
  replace hn13 := hn13.mono Lw8
  replace hm13 := hm13.mono Lw8
  replace hn18 := hn18.mono Lw8
  replace hn19 := hn19.mono Lw8
  replace hn20 := hn20.mono Lw8
  replace hm20 := hm20.mono Lw8
  replace hn25 := hn25.mono Lw8
  rw [lim10] at hf26
  have hn26 := hf26.nat hM26
  refine ops_move rfl rfl ?_
  refine ops_extract rfl rfl rfl ?_
  refine ops_extract rfl rfl rfl ?_
  refine ops_extract rfl rfl rfl ?_
  refine ops_assign rfl rfl ?_
  refine ops_assign rfl rfl ?_
  refine ops_assign rfl rfl ?_
  refine ops_nil ?_
  refine SL.wp_seq ?_
  refine SL.wp_region ?_
  refine ops_move rfl rfl ?_
  refine ops_eq rfl rfl rfl ?_
  refine ops_move rfl rfl ?_
  refine ops_dt (d := 32) rfl (by first | rfl | decide | (simp [val]; done) | decide +kernel) ?_
  refine ops_guard_t rfl rfl ?_
  refine ops_move rfl rfl ?_
  refine ops_guard_t rfl rfl ?_
  first | refine ops_len rfl Try.underlying23 rfl ?_ | refine ops_lens rfl Try.underlying23 rfl (IsNat.slc (by assumption)) ?_ | refine ops_lenn rfl Try.underlying23 rfl (by assumption) ?_ | refine ops_leno rfl Try.underlying23 rfl (by assumption) ?_
  refine ops_guard_t rfl rfl ?_
  refine ops_eq rfl rfl rfl ?_
  refine ops_pick rfl rfl rfl ?_
  refine ops_move rfl rfl ?_
  refine ops_dt (d := 37) rfl (by first | rfl | decide | (simp [val]; done) | decide +kernel) ?_
  refine ops_guard_t rfl rfl ?_
  refine ops_move rfl rfl ?_
  refine ops_guard_t rfl rfl ?_
  refine ops_idxn (0) rfl Try.underlying23 sz43 rfl rfl (by assumption) (by omega) (by omega) (fun b39 o39 hc39 hb39 => ?_)
  refine ops_guard_t rfl rfl ?_
  refine ops_load rfl flat43 rfl hc39 ?_
  refine ops_guard_t rfl rfl ?_
  refine ops_eq rfl rfl rfl ?_
  refine ops_pick rfl rfl rfl ?_
  refine ops_move rfl rfl ?_
  refine ops_dt (d := 43) rfl (by first | rfl | decide | (simp [val]; done) | decide +kernel) ?_
  refine ops_guard_t rfl rfl ?_
  refine ops_move rfl rfl ?_
  refine ops_guard_t rfl rfl ?_
  first | refine ops_len rfl Try.underlying23 rfl ?_ | refine ops_lens rfl Try.underlying23 rfl (IsNat.slc (by assumption)) ?_ | refine ops_lenn rfl Try.underlying23 rfl (by assumption) ?_ | refine ops_leno rfl Try.underlying23 rfl (by assumption) ?_
  refine ops_guard_t rfl rfl ?_
  refine ops_eq rfl rfl rfl ?_
  refine ops_pick rfl rfl rfl ?_
  refine ops_move rfl rfl ?_
  refine ops_dt (d := 48) rfl (by first | rfl | decide | (simp [val]; done) | decide +kernel) ?_
  refine ops_guard_t rfl rfl ?_
  refine ops_move rfl rfl ?_
  refine ops_guard_t rfl rfl ?_
  refine ops_idxn (0) rfl Try.underlying23 sz43 rfl rfl (by assumption) (by omega) (by omega) (fun b50 o50 hc50 hb50 => ?_)
  refine ops_guard_t rfl rfl ?_
  refine ops_load rfl flat43 rfl hc50 ?_
  refine ops_guard_t rfl rfl ?_
  refine ops_eq rfl rfl rfl ?_
  refine ops_pick rfl rfl rfl ?_
  refine ops_move rfl rfl ?_
  refine ops_dt (d := 54) rfl (by first | rfl | decide | (simp [val]; done) | decide +kernel) ?_
  refine ops_guard_t rfl rfl ?_
  refine ops_move rfl rfl ?_
  refine ops_guard_t rfl rfl ?_
  refine ops_eq rfl rfl rfl ?_
  refine ops_pick rfl rfl rfl ?_
  refine ops_move rfl rfl ?_
  refine ops_dt (d := 58) rfl (by first | rfl | decide | (simp [val]; done) | decide +kernel) ?_
  refine ops_guard_t rfl rfl ?_
  refine ops_move rfl rfl ?_
  refine ops_guard_t rfl rfl ?_
  refine ops_eq rfl rfl rfl ?_
  refine ops_pick rfl rfl rfl ?_
  refine ops_move rfl rfl ?_
  refine ops_dt (d := 62) rfl (by first | rfl | decide | (simp [val]; done) | decide +kernel) ?_
  refine ops_guard_t rfl rfl ?_
  refine ops_move rfl rfl ?_
  refine ops_guard_t rfl rfl ?_
  first | refine ops_len rfl Try.underlying23 rfl ?_ | refine ops_lens rfl Try.underlying23 rfl (IsNat.slc (by assumption)) ?_ | refine ops_lenn rfl Try.underlying23 rfl (by assumption) ?_ | refine ops_leno rfl Try.underlying23 rfl (by assumption) ?_
  refine ops_guard_t rfl rfl ?_
  refine ops_eq rfl rfl rfl ?_
  refine ops_pick rfl rfl rfl ?_
  refine ops_move rfl rfl ?_
  refine ops_dt (d := 67) rfl (by first | rfl | decide | (simp [val]; done) | decide +kernel) ?_
  refine ops_guard_t rfl rfl ?_
  refine ops_move rfl rfl ?_
  refine ops_guard_t rfl rfl ?_
  refine ops_idxn (0) rfl Try.underlying23 sz43 rfl rfl (by assumption) (by omega) (by omega) (fun b69 o69 hc69 hb69 => ?_)
  refine ops_guard_t rfl rfl ?_
  refine ops_load rfl flat43 rfl hc69 ?_
  refine ops_guard_t rfl rfl ?_
  refine ops_eq rfl rfl rfl ?_
  refine ops_pick rfl rfl rfl ?_
  refine ops_move rfl rfl ?_
  refine ops_dt (d := 73) rfl (by first | rfl | decide | (simp [val]; done) | decide +kernel) ?_
  refine ops_guard_t rfl rfl ?_
  refine ops_move rfl rfl ?_
  refine ops_guard_t rfl rfl ?_
  refine ops_eq rfl rfl rfl ?_
  refine ops_pick rfl rfl rfl ?_
  refine ops_bt (d := 76) rfl (by first | rfl | decide | (simp [val]; done) | decide +kernel) ?_
  refine ops_move rfl rfl ?_
  refine ops_guard_t rfl rfl ?_
  refine ops_buildSlice rfl Try.underlying23 sz43 rfl rfl rfl (by simp [Value.oneCell', lw]) rfl (fun w9 b78 N78 => ?_)
  have hBw9 := N78.below
  have nM78 := hM.new N78; have B78 := N78.blk
  have Lw9 := Le.of_below (Fz := Fz) (M := M) hBw9
  replace LL := LL.trans Lw9
  replace hM := hM.mono Lw9
  replace hF := hF.mono Lw9
  replace hn11 := hn11.mono Lw9
  replace hn12 := hn12.mono Lw9
  replace hn13 := hn13.mono Lw9
  replace hm13 := hm13.mono Lw9
  replace hn18 := hn18.mono Lw9
  replace hn19 := hn19.mono Lw9
  replace hn20 := hn20.mono Lw9
  replace hm20 := hm20.mono Lw9
  replace hn25 := hn25.mono Lw9
  replace hn26 := hn26.mono Lw9
  have hn78 : IsNat M w9 (.slice (some ⟨b78, 0, none⟩) 1 1) [12] := blk_nat (xs := [12]) B78 nM78 rfl (by simp) (by simp)
  refine ops_guard_t rfl rfl ?_
  refine ops_buildSlice rfl Try.underlying23 sz43 rfl rfl rfl (by simp [Value.oneCell', lw]) rfl (fun w10 b79 N79 => ?_)
  have hBw10 := N79.below
  have nM79 := hM.new N79; have B79 := N79.blk
  have Lw10 := Le.of_below (Fz := Fz) (M := M) hBw10
  replace LL := LL.trans Lw10
  replace hM := hM.mono Lw10
  replace hF := hF.mono Lw10
  replace hn11 := hn11.mono Lw10
  replace hn12 := hn12.mono Lw10
  replace hn13 := hn13.mono Lw10
  replace hm13 := hm13.mono Lw10
  replace hn18 := hn18.mono Lw10
  replace hn19 := hn19.mono Lw10
  replace hn20 := hn20.mono Lw10
  replace hm20 := hm20.mono Lw10
  replace hn25 := hn25.mono Lw10
  replace hn26 := hn26.mono Lw10
  replace hn78 := hn78.mono Lw10
  have hn79 : IsNat M w10 (.slice (some ⟨b79, 0, none⟩) 1 1) [2] := blk_nat (xs := [2]) B79 nM79 rfl (by simp) (by simp)
  refine ops_guard_t rfl rfl ?_
  refine ops_callv rfl bod69 rfl rfl ?_
  refine (times_c (M := M) (n := 2) (r := 3) hn78 hn79 (by simp) (by simp) (by decide) (by decide) (by decide) (by decide) (by omega) hM).mono ?_
  rintro v80 w11 ⟨hB80, rfl⟩
  have Lw11 := Le.of_below (Fz := Fz) (M := M) hB80
  replace LL := LL.trans Lw11
  replace hM := hM.mono Lw11
  replace hF := hF.mono Lw11
  replace hn11 := hn11.mono Lw11
  replace hn12 := hn12.mono Lw11
  replace hn13 := hn13.mono Lw11
  replace hm13 := hm13.mono Lw11
  replace hn18 := hn18.mono Lw11
  replace hn19 := hn19.mono Lw11
  replace hn20 := hn20.mono Lw11
  replace hm20 := hm20.mono Lw11
  replace hn25 := hn25.mono Lw11
  replace hn26 := hn26.mono Lw11
  replace hn78 := hn78.mono Lw11
  replace hn79 := hn79.mono Lw11
  refine ops_guard_t rfl rfl ?_
  refine ops_eq rfl rfl rfl ?_
  refine ops_bt (d := 81) rfl (by first | rfl | decide | (simp [val]; done) | decide +kernel) ?_
  refine ops_pick rfl rfl rfl ?_
  refine ops_move rfl rfl ?_
  refine ops_guard_t rfl rfl ?_
  refine ops_buildSlice rfl Try.underlying23 sz43 rfl rfl rfl (by simp [Value.oneCell', lw]) rfl (fun w12 b84 N84 => ?_)
  have hBw12 := N84.below
  have nM84 := hM.new N84; have B84 := N84.blk
  have Lw12 := Le.of_below (Fz := Fz) (M := M) hBw12
  replace LL := LL.trans Lw12
  replace hM := hM.mono Lw12
  replace hF := hF.mono Lw12
  replace hn11 := hn11.mono Lw12
  replace hn12 := hn12.mono Lw12
  replace hn13 := hn13.mono Lw12
  replace hm13 := hm13.mono Lw12
  replace hn18 := hn18.mono Lw12
  replace hn19 := hn19.mono Lw12
  replace hn20 := hn20.mono Lw12
  replace hm20 := hm20.mono Lw12
  replace hn25 := hn25.mono Lw12
  replace hn26 := hn26.mono Lw12
  replace hn78 := hn78.mono Lw12
  replace hn79 := hn79.mono Lw12
  have hn84 : IsNat M w12 (.slice (some ⟨b84, 0, none⟩) 1 1) [3] := blk_nat (xs := [3]) B84 nM84 rfl (by simp) (by simp)
  refine ops_guard_t rfl rfl ?_
  refine ops_buildSlice rfl Try.underlying23 sz43 rfl rfl rfl (by simp [Value.oneCell', lw]) rfl (fun w13 b85 N85 => ?_)
  have hBw13 := N85.below
  have nM85 := hM.new N85; have B85 := N85.blk
  have Lw13 := Le.of_below (Fz := Fz) (M := M) hBw13
  replace LL := LL.trans Lw13
  replace hM := hM.mono Lw13
  replace hF := hF.mono Lw13
  replace hn11 := hn11.mono Lw13
  replace hn12 := hn12.mono Lw13
  replace hn13 := hn13.mono Lw13
  replace hm13 := hm13.mono Lw13
  replace hn18 := hn18.mono Lw13
  replace hn19 := hn19.mono Lw13
  replace hn20 := hn20.mono Lw13
  replace hm20 := hm20.mono Lw13
  replace hn25 := hn25.mono Lw13
  replace hn26 := hn26.mono Lw13
  replace hn78 := hn78.mono Lw13
  replace hn79 := hn79.mono Lw13
  replace hn84 := hn84.mono Lw13
  have hn85 : IsNat M w13 (.slice (some ⟨b85, 0, none⟩) 1 1) [12] := blk_nat (xs := [12]) B85 nM85 rfl (by simp) (by simp)
  refine ops_guard_t rfl rfl ?_
  refine ops_buildSlice rfl Try.underlying24 sz23 rfl rfl rfl (one2 (by first | rfl | exact nat_one (by assumption) | exact own_one (by assumption)) (by first | rfl | exact nat_one (by assumption) | exact own_one (by assumption))) rfl (fun w14 b86 N86 => ?_)
  have hBw14 := N86.below
  have nM86 := hM.new N86; have B86 := N86.blk
  have Lw14 := Le.of_below (Fz := Fz) (M := M) hBw14
  replace LL := LL.trans Lw14
  replace hM := hM.mono Lw14
  replace hF := hF.mono Lw14
  replace hn11 := hn11.mono Lw14
  replace hn12 := hn12.mono Lw14
  replace hn13 := hn13.mono Lw14
  replace hm13 := hm13.mono Lw14
  replace hn18 := hn18.mono Lw14
  replace hn19 := hn19.mono Lw14
  replace hn20 := hn20.mono Lw14
  replace hm20 := hm20.mono Lw14
  replace hn25 := hn25.mono Lw14
  replace hn26 := hn26.mono Lw14
  replace hn78 := hn78.mono Lw14
  replace hn79 := hn79.mono Lw14
  replace hn84 := hn84.mono Lw14
  replace hn85 := hn85.mono Lw14
  have hn86 := nats2 B86 nM86 hn85 isNat_nil
  refine ops_guard_t rfl rfl ?_
  refine ops_callv rfl bod54 rfl rfl ?_
  refine (divides_c (M := M) hn84 hn86 (by simp) (by intro q hq; simp at hq; rcases hq with rfl | rfl <;> simp) (by intro q hq; simp at hq; rcases hq with rfl | rfl <;> decide) hM).mono ?_
  rintro v87 w15 ⟨hB87, rfl⟩
  have Lw15 := Le.of_below (Fz := Fz) (M := M) hB87
  replace LL := LL.trans Lw15
  replace hM := hM.mono Lw15
  replace hF := hF.mono Lw15
  replace hn11 := hn11.mono Lw15
  replace hn12 := hn12.mono Lw15
  replace hn13 := hn13.mono Lw15
  replace hm13 := hm13.mono Lw15
  replace hn18 := hn18.mono Lw15
  replace hn19 := hn19.mono Lw15
  replace hn20 := hn20.mono Lw15
  replace hm20 := hm20.mono Lw15
  replace hn25 := hn25.mono Lw15
  replace hn26 := hn26.mono Lw15
  replace hn78 := hn78.mono Lw15
  replace hn79 := hn79.mono Lw15
  replace hn84 := hn84.mono Lw15
  replace hn85 := hn85.mono Lw15
  replace hn86 := hn86.mono Lw15
  refine ops_pick rfl rfl rfl ?_
  refine ops_assign rfl rfl ?_
  refine ops_nil ?_
  refine SL.wp_ret ?_
  refine leave_nil ⟨[_], ⟨rfl, trivial⟩, ?_⟩
  dsimp only [resVal]
  subst hFz
  exact ⟨LL.below (Nat.le_refl _), by first | rfl | decide | decide +kernel⟩

end Go.Proofs.Ytffakiheophioaa
