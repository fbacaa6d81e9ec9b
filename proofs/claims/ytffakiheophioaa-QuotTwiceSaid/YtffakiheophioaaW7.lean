import Derived.Test.YtffakiheophioaaW6
import Derived.Test.YtffakiheophioaaSLn
set_option linter.unusedVariables false
set_option linter.unusedSimpArgs false
set_option maxRecDepth 100000
namespace Go.Proofs.Ytffakiheophioaa
open Go.SL Go.RowKit Go.Proofs
theorem add2_c {M : Nat → Prop} {w : World} {v : Value} {xs ys : List Nat} (h : IsNats M w v [xs, ys]) (hx : ∀ x ∈ xs, x < 4294967296) (hy : ∀ x ∈ ys, x < 4294967296) (hl1 : xs.length ≤ 100000000) (hl2 : ys.length ≤ 100000000) (hM : OkM M w) :
    CallsV Try.prog 29 [v] w fun r w' => Below w.heap.size w w' ∧ Fresh 43 w w' r (limbs (val xs + val ys)) ∧ (limbs (val xs + val ys)).length ≤ max xs.length ys.length + 1 :=
  (add_c h (by intro q hq; simp at hq; rcases hq with rfl | rfl <;> omega) (by simp) hM).mono fun r w' ⟨hB, hf⟩ => ⟨hB, hf, add_len (val_lt_pow hx (by omega)) (val_lt_pow hy (by omega))⟩

theorem natOrder_c {M : Nat → Prop} {w : World} {v1 v2 v3 : Value} {xs ys zs : List Nat} (h1 : IsNat M w v1 xs) (h2 : IsNat M w v2 ys) (h3 : IsNat M w v3 zs) (hM : OkM M w) :
    CallsV Try.prog 5 [v1, v2, v3] w fun r w' => Below w.heap.size w w' ∧ r = .bool true := by
  obtain ⟨Fz, hFz⟩ : ∃ Fz : Nat → Prop, Fz = (· < w.heap.size) := ⟨_, rfl⟩
  have hF : FOk Fz w := by subst hFz; exact fun _ h => h
  have hcb := cmpN_le (val xs) (val ys)
  have LL := Le.refl Fz M w; have hM0 := hM
  refine calls_intro Try.func5 rfl Try.ntmps5 rfl ?_
  refine SL.wp_seq ?_
  refine SL.wp_region ?_
  refine ops_assign rfl rfl ?_
  refine ops_nil ?_
  refine SL.wp_seq ?_
  refine SL.wp_seq ?_
  refine SL.wp_region ?_
  refine ops_move rfl rfl ?_
  refine ops_move rfl rfl ?_
  refine ops_move rfl rfl ?_
  refine ops_buildSlice rfl Try.underlying24 sz23 rfl rfl rfl (one3 (by first | rfl | exact nat_one (by assumption) | exact own_one (by assumption)) (by first | rfl | exact nat_one (by assumption) | exact own_one (by assumption)) (by first | rfl | exact nat_one (by assumption) | exact own_one (by assumption))) rfl (fun w1 b13 N13 => ?_)
  have hBw1 := N13.below
  have nM13 := hM.new N13; have B13 := N13.blk
  have Lw1 := Le.of_below (Fz := Fz) (M := M) hBw1
  replace LL := LL.trans Lw1
  replace hM := hM.mono Lw1
  replace hF := hF.mono Lw1
  replace h1 := h1.mono Lw1
  replace h2 := h2.mono Lw1
  replace h3 := h3.mono Lw1
  have hn13 := nats3 B13 nM13 h1 h2 h3
  refine ops_callv rfl bod16 rfl rfl ?_
  refine (great_d (M := M) (by assumption) hM).mono ?_
  rintro v14 w2 ⟨hB14, rfl⟩
  have Lw2 := Le.of_below (Fz := Fz) (M := M) hB14
  replace LL := LL.trans Lw2
  replace hM := hM.mono Lw2
  replace hF := hF.mono Lw2
  replace h1 := h1.mono Lw2
  replace h2 := h2.mono Lw2
  replace h3 := h3.mono Lw2
  replace hn13 := hn13.mono Lw2
  refine ops_nil ?_
  refine SL.wp_cond_d rfl (fun hc0 => ?_) (fun hc0 => ?_)
  · refine SL.wp_seq ?_
    refine SL.wp_region ?_
    refine ops_callv rfl bod17 rfl rfl ?_
    refine (wakes1_c (M := M) hM).mono ?_
    rintro v15 w3 ⟨hB15, rfl⟩
    have Lw3 := Le.of_below (Fz := Fz) (M := M) hB15
    replace LL := LL.trans Lw3
    replace hM := hM.mono Lw3
    replace hF := hF.mono Lw3
    replace h1 := h1.mono Lw3
    replace h2 := h2.mono Lw3
    replace h3 := h3.mono Lw3
    replace hn13 := hn13.mono Lw3
    refine ops_assign rfl rfl ?_
    refine ops_nil ?_
    refine SL.wp_ret ?_
    refine leave_nil ⟨[_], ⟨rfl, trivial⟩, ?_⟩
    dsimp only [resVal]
    subst hFz
    exact ⟨LL.below (Nat.le_refl _), by first | rfl | simp⟩
  · have hg := not_great3 (xs := xs) (ys := ys) (zs := zs) (by simpa using hc0)
    have hq4 := hg.1; have hq5 := hg.2.1; have hq6 := hg.2.2
    refine SL.wp_skip ?_
    refine SL.wp_seq ?_
    refine SL.wp_region ?_
    refine ops_move rfl rfl ?_
    refine ops_move rfl rfl ?_
    refine ops_callv rfl bod23 rfl rfl ?_
    refine (cmp_c (M := M) (by assumption) (by assumption) (by omega) (by omega) hM).mono ?_
    rintro v18 w4 ⟨hB18, rfl⟩
    have Lw4 := Le.of_below (Fz := Fz) (M := M) hB18
    replace LL := LL.trans Lw4
    replace hM := hM.mono Lw4
    replace hF := hF.mono Lw4
    replace h1 := h1.mono Lw4
    replace h2 := h2.mono Lw4
    replace h3 := h3.mono Lw4
    replace hn13 := hn13.mono Lw4
    refine ops_assign rfl rfl ?_
    refine ops_nil ?_
    refine SL.wp_seq ?_
    refine SL.wp_region ?_
    refine ops_move rfl rfl ?_
    refine ops_move rfl rfl ?_
    refine ops_callv rfl bod20 rfl rfl ?_
    refine (sub_d (M := M) (by assumption) (by assumption) (by omega) (by omega) hM).mono ?_
    rintro v22 w5 ⟨hB22, q22, rfl, hf22⟩
    have hM22 := hM; have hS22 := LL.size
    have Lw5 := Le.of_below (Fz := Fz) (M := M) hB22
    replace LL := LL.trans Lw5
    replace hM := hM.mono Lw5
    replace hF := hF.mono Lw5
    replace h1 := h1.mono Lw5
    replace h2 := h2.mono Lw5
    replace h3 := h3.mono Lw5
    replace hn13 := hn13.mono Lw5
    have hn22 := hf22.nat hM22; replace hf22 := hf22.less hS22
    refine ops_move rfl rfl ?_
    refine ops_extract rfl rfl rfl ?_
    refine ops_extract rfl rfl rfl ?_
    refine ops_assign rfl rfl ?_
    refine ops_assign rfl rfl ?_
    refine ops_nil ?_
    refine SL.wp_seq ?_
    refine SL.wp_seq ?_
    refine SL.wp_region ?_
    refine ops_move rfl rfl ?_
    refine ops_lt rfl rfl rfl ?_
    refine ops_move rfl rfl ?_
    refine ops_bf (d := 27) rfl (by simp; omega) ?_
    refine ops_guard_t rfl rfl ?_
    refine ops_move rfl rfl ?_
    refine ops_guard_t rfl rfl ?_
    refine ops_gt rfl rfl rfl ?_
    refine ops_pick rfl rfl rfl ?_
    refine ops_move rfl rfl ?_
    refine ops_bf (d := 31) rfl (by simp; omega) ?_
    refine ops_guard_t rfl rfl ?_
    refine ops_move rfl rfl ?_
    refine ops_guard_t rfl rfl ?_
    refine ops_move rfl rfl ?_
    refine ops_guard_t rfl rfl ?_
    refine ops_callv rfl bod23 rfl rfl ?_
    refine (cmp_c (M := M) (by assumption) (by assumption) (by omega) (by omega) hM).mono ?_
    rintro v34 w6 ⟨hB34, rfl⟩
    have Lw6 := Le.of_below (Fz := Fz) (M := M) hB34
    replace LL := LL.trans Lw6
    replace hM := hM.mono Lw6
    replace hF := hF.mono Lw6
    replace h1 := h1.mono Lw6
    replace h2 := h2.mono Lw6
    replace h3 := h3.mono Lw6
    replace hn13 := hn13.mono Lw6
    replace hn22 := hn22.mono Lw6
    refine ops_guard_t rfl rfl ?_
    refine ops_move rfl rfl ?_
    refine ops_guard_t rfl rfl ?_
    refine ops_neg rfl rfl (by omega) ?_
    refine ops_guard_t rfl rfl ?_
    refine ops_ne rfl rfl rfl ?_
    refine ops_pick rfl rfl rfl ?_
    refine ops_move rfl rfl ?_
    refine ops_bf (d := 39) rfl (by rw [cmpN_swap]; simp) ?_
    refine ops_guard_t rfl rfl ?_
    refine ops_move rfl rfl ?_
    refine ops_guard_t rfl rfl ?_
    refine ops_move rfl rfl ?_
    refine ops_guard_t rfl rfl ?_
    refine ops_callv rfl bod23 rfl rfl ?_
    refine (cmp_c (M := M) (by assumption) (by assumption) (by omega) (by omega) hM).mono ?_
    rintro v42 w7 ⟨hB42, rfl⟩
    have Lw7 := Le.of_below (Fz := Fz) (M := M) hB42
    replace LL := LL.trans Lw7
    replace hM := hM.mono Lw7
    replace hF := hF.mono Lw7
    replace h1 := h1.mono Lw7
    replace h2 := h2.mono Lw7
    replace h3 := h3.mono Lw7
    replace hn13 := hn13.mono Lw7
    replace hn22 := hn22.mono Lw7
    refine ops_guard_t rfl rfl ?_
    refine ops_ne rfl rfl rfl ?_
    refine ops_pick rfl rfl rfl ?_
    refine ops_move rfl rfl ?_
    refine ops_bf (d := 45) rfl (by rw [cmpN_self]; simp) ?_
    refine ops_guard_t rfl rfl ?_
    refine ops_move rfl rfl ?_
    refine ops_guard_t rfl rfl ?_
    refine ops_le rfl rfl rfl ?_
    refine ops_guard_t rfl rfl ?_
    refine ops_move rfl rfl ?_
    refine ops_dcase (d := 48) rfl (fun hg5_23 => ?_) (fun hg5_23 => ?_)
    · refine ops_guard_t rfl rfl ?_
      refine ops_move rfl rfl ?_
      refine ops_guard_t rfl rfl ?_
      refine ops_move rfl rfl ?_
      refine ops_guard_t rfl rfl ?_
      refine ops_callv rfl bod23 rfl rfl ?_
      refine (cmp_c (M := M) (by assumption) (by assumption) (by omega) (by omega) hM).mono ?_
      rintro v51 w8 ⟨hB51, rfl⟩
      have Lw8 := Le.of_below (Fz := Fz) (M := M) hB51
      replace LL := LL.trans Lw8
      replace hM := hM.mono Lw8
      replace hF := hF.mono Lw8
      replace h1 := h1.mono Lw8
      replace h2 := h2.mono Lw8
      replace h3 := h3.mono Lw8
      replace hn13 := hn13.mono Lw8
      replace hn22 := hn22.mono Lw8
      refine ops_guard_t rfl rfl ?_
      refine ops_le rfl rfl rfl ?_
      refine ops_guard_t rfl rfl ?_
      refine ops_pick rfl rfl rfl ?_
      refine ops_guard_t rfl rfl ?_
      refine ops_move rfl rfl ?_
      refine ops_dcase (d := 54) rfl (fun hg5_29 => ?_) (fun hg5_29 => ?_)
      · refine ops_guard_t rfl rfl ?_
        refine ops_move rfl rfl ?_
        refine ops_guard_t rfl rfl ?_
        refine ops_move rfl rfl ?_
        refine ops_guard_t rfl rfl ?_
        refine ops_callv rfl bod23 rfl rfl ?_
        refine (cmp_c (M := M) (by assumption) (by assumption) (by omega) (by omega) hM).mono ?_
        rintro v57 w9 ⟨hB57, rfl⟩
        have Lw9 := Le.of_below (Fz := Fz) (M := M) hB57
        replace LL := LL.trans Lw9
        replace hM := hM.mono Lw9
        replace hF := hF.mono Lw9
        replace h1 := h1.mono Lw9
        replace h2 := h2.mono Lw9
        replace h3 := h3.mono Lw9
        replace hn13 := hn13.mono Lw9
        replace hn22 := hn22.mono Lw9
        refine ops_guard_t rfl rfl ?_
        refine ops_gt rfl rfl rfl ?_
        refine ops_bf (d := 58) rfl (decide_eq_false (cmpN_trans hg5_23 hg5_29)) ?_
        refine ops_guard_t rfl rfl ?_
        refine ops_pick rfl rfl rfl ?_
        refine ops_pick rfl rfl rfl ?_
        refine ops_move rfl rfl ?_
        refine ops_guard_t rfl rfl ?_
        refine ops_move rfl rfl ?_
        refine ops_guard_t rfl rfl ?_
        refine ops_move rfl rfl ?_
        refine ops_guard_t rfl rfl ?_
        refine ops_buildSlice rfl Try.underlying24 sz23 rfl rfl rfl (one2 (by first | rfl | exact nat_one (by assumption) | exact own_one (by assumption)) (by first | rfl | exact nat_one (by assumption) | exact own_one (by assumption))) rfl (fun w10 b64 N64 => ?_)
        have hBw10 := N64.below
        have nM64 := hM.new N64; have B64 := N64.blk
        have Lw10 := Le.of_below (Fz := Fz) (M := M) hBw10
        replace LL := LL.trans Lw10
        replace hM := hM.mono Lw10
        replace hF := hF.mono Lw10
        replace h1 := h1.mono Lw10
        replace h2 := h2.mono Lw10
        replace h3 := h3.mono Lw10
        replace hn13 := hn13.mono Lw10
        replace hn22 := hn22.mono Lw10
        have hn64 := nats2 B64 nM64 h1 h3
        refine ops_guard_t rfl rfl ?_
        refine ops_callv rfl bod29 rfl rfl ?_
        refine (add2_c (M := M) (by assumption) (IsNat.lt (by assumption)) (IsNat.lt (by assumption)) (by omega) (by omega) hM).mono ?_
        rintro v65 w11 ⟨hB65, hf65, hl65⟩
        have hM65 := hM; have hS65 := LL.size
        have Lw11 := Le.of_below (Fz := Fz) (M := M) hB65
        replace LL := LL.trans Lw11
        replace hM := hM.mono Lw11
        replace hF := hF.mono Lw11
        replace h1 := h1.mono Lw11
        replace h2 := h2.mono Lw11
        replace h3 := h3.mono Lw11
        replace hn13 := hn13.mono Lw11
        replace hn22 := hn22.mono Lw11
        replace hn64 := hn64.mono Lw11
        have hn65 := hf65.nat hM65; replace hf65 := hf65.less hS65
        refine ops_guard_t rfl rfl ?_
        refine ops_move rfl rfl ?_
        refine ops_guard_t rfl rfl ?_
        refine ops_move rfl rfl ?_
        refine ops_guard_t rfl rfl ?_
        refine ops_buildSlice rfl Try.underlying24 sz23 rfl rfl rfl (one2 (by first | rfl | exact nat_one (by assumption) | exact own_one (by assumption)) (by first | rfl | exact nat_one (by assumption) | exact own_one (by assumption))) rfl (fun w12 b68 N68 => ?_)
        have hBw12 := N68.below
        have nM68 := hM.new N68; have B68 := N68.blk
        have Lw12 := Le.of_below (Fz := Fz) (M := M) hBw12
        replace LL := LL.trans Lw12
        replace hM := hM.mono Lw12
        replace hF := hF.mono Lw12
        replace h1 := h1.mono Lw12
        replace h2 := h2.mono Lw12
        replace h3 := h3.mono Lw12
        replace hn13 := hn13.mono Lw12
        replace hn22 := hn22.mono Lw12
        replace hn64 := hn64.mono Lw12
        replace hn65 := hn65.mono Lw12
        have hn68 := nats2 B68 nM68 h2 h3
        refine ops_guard_t rfl rfl ?_
        refine ops_callv rfl bod29 rfl rfl ?_
        refine (add2_c (M := M) (by assumption) (IsNat.lt (by assumption)) (IsNat.lt (by assumption)) (by omega) (by omega) hM).mono ?_
        rintro v69 w13 ⟨hB69, hf69, hl69⟩
        have hM69 := hM; have hS69 := LL.size
        have Lw13 := Le.of_below (Fz := Fz) (M := M) hB69
        replace LL := LL.trans Lw13
        replace hM := hM.mono Lw13
        replace hF := hF.mono Lw13
        replace h1 := h1.mono Lw13
        replace h2 := h2.mono Lw13
        replace h3 := h3.mono Lw13
        replace hn13 := hn13.mono Lw13
        replace hn22 := hn22.mono Lw13
        replace hn64 := hn64.mono Lw13
        replace hn65 := hn65.mono Lw13
        replace hn68 := hn68.mono Lw13
        have hn69 := hf69.nat hM69; replace hf69 := hf69.less hS69
        refine ops_guard_t rfl rfl ?_
        refine ops_callv rfl bod23 rfl rfl ?_
        refine (cmp_c (M := M) (by assumption) (by assumption) (by omega) (by omega) hM).mono ?_
        rintro v70 w14 ⟨hB70, rfl⟩
        have Lw14 := Le.of_below (Fz := Fz) (M := M) hB70
        replace LL := LL.trans Lw14
        replace hM := hM.mono Lw14
        replace hF := hF.mono Lw14
        replace h1 := h1.mono Lw14
        replace h2 := h2.mono Lw14
        replace h3 := h3.mono Lw14
        replace hn13 := hn13.mono Lw14
        replace hn22 := hn22.mono Lw14
        replace hn64 := hn64.mono Lw14
        replace hn65 := hn65.mono Lw14
        replace hn68 := hn68.mono Lw14
        replace hn69 := hn69.mono Lw14
        refine ops_guard_t rfl rfl ?_
        refine ops_move rfl rfl ?_
        refine ops_guard_t rfl rfl ?_
        refine ops_ne rfl rfl rfl ?_
        refine ops_bf (d := 72) rfl (by simp [val_limbs, cmpN_add]) ?_
        refine ops_pick rfl rfl rfl ?_
        refine ops_nil ?_
        refine SL.wp_cond_f rfl ?_
        refine SL.wp_skip ?_
        refine SL.wp_seq ?_
        refine SL.wp_region ?_
        refine ops_move rfl rfl ?_
        refine ops_eq rfl rfl rfl ?_
        refine ops_move rfl rfl ?_
        refine ops_lt rfl rfl rfl ?_
        refine ops_beq rfl rfl rfl Try.underlying4 ?_
        refine ops_move rfl rfl ?_
        refine ops_bt (d := 79) rfl (order_e _ _) ?_
        refine ops_guard_t rfl rfl ?_
        refine ops_move rfl rfl ?_
        refine ops_guard_t rfl rfl ?_
        refine ops_eq rfl rfl rfl ?_
        refine ops_guard_t rfl rfl ?_
        refine ops_move rfl rfl ?_
        refine ops_guard_t rfl rfl ?_
        refine ops_ge rfl rfl rfl ?_
        refine ops_guard_t rfl rfl ?_
        refine ops_beq rfl rfl rfl Try.underlying4 ?_
        refine ops_pick rfl rfl rfl ?_
        refine ops_move rfl rfl ?_
        refine ops_bt (d := 86) rfl (order_f _ _) ?_
        refine ops_guard_t rfl rfl ?_
        refine ops_move rfl rfl ?_
        refine ops_guard_t rfl rfl ?_
        first | refine ops_len rfl Try.underlying23 rfl ?_ | refine ops_lens rfl Try.underlying23 rfl (IsNat.slc (by assumption)) ?_ | refine ops_lenn rfl Try.underlying23 rfl (by assumption) ?_ | refine ops_leno rfl Try.underlying23 rfl (by assumption) ?_
        refine ops_guard_t rfl rfl ?_
        refine ops_eq rfl rfl rfl ?_
        refine ops_guard_t rfl rfl ?_
        refine ops_move rfl rfl ?_
        refine ops_guard_t rfl rfl ?_
        refine ops_le rfl rfl rfl ?_
        refine ops_guard_t rfl rfl ?_
        refine ops_beq rfl rfl rfl Try.underlying4 ?_
        refine ops_pick rfl rfl rfl ?_
        refine ops_move rfl rfl ?_
        refine ops_bt (d := 94) rfl (order_l _ _) ?_
        refine ops_guard_t rfl rfl ?_
        refine ops_move rfl rfl ?_
        refine ops_guard_t rfl rfl ?_
        refine ops_callv rfl bod25 rfl rfl ?_
        refine (trim_c (M := M) (by assumption) (by omega) hM).mono ?_
        rintro v96 w15 ⟨hB96, hf96⟩
        have hM96 := hM; have hS96 := LL.size
        have Lw15 := Le.of_below (Fz := Fz) (M := M) hB96
        replace LL := LL.trans Lw15
        replace hM := hM.mono Lw15
        replace hF := hF.mono Lw15
        replace h1 := h1.mono Lw15
        replace h2 := h2.mono Lw15
        replace h3 := h3.mono Lw15
        replace hn13 := hn13.mono Lw15
        replace hn22 := hn22.mono Lw15
        replace hn64 := hn64.mono Lw15
        replace hn65 := hn65.mono Lw15
        replace hn68 := hn68.mono Lw15
        replace hn69 := hn69.mono Lw15
        have hn96 := hf96.nat hM96; replace hf96 := hf96.less hS96
        refine ops_guard_t rfl rfl ?_
        refine ops_move rfl rfl ?_
        refine ops_guard_t rfl rfl ?_
        refine ops_callv rfl bod25 rfl rfl ?_
        refine (trim_c (M := M) (by assumption) (by omega) hM).mono ?_
        rintro v98 w16 ⟨hB98, hf98⟩
        have hM98 := hM; have hS98 := LL.size
        have Lw16 := Le.of_below (Fz := Fz) (M := M) hB98
        replace LL := LL.trans Lw16
        replace hM := hM.mono Lw16
        replace hF := hF.mono Lw16
        replace h1 := h1.mono Lw16
        replace h2 := h2.mono Lw16
        replace h3 := h3.mono Lw16
        replace hn13 := hn13.mono Lw16
        replace hn22 := hn22.mono Lw16
        replace hn64 := hn64.mono Lw16
        replace hn65 := hn65.mono Lw16
        replace hn68 := hn68.mono Lw16
        replace hn69 := hn69.mono Lw16
        replace hn96 := hn96.mono Lw16
        have hn98 := hf98.nat hM98; replace hf98 := hf98.less hS98
        refine ops_guard_t rfl rfl ?_
        refine ops_callv rfl bod22 rfl rfl ?_
        refine (same1_c (M := M) (by assumption) (by assumption) hM).mono ?_
        rintro v99 w17 ⟨hB99, rfl⟩
        have Lw17 := Le.of_below (Fz := Fz) (M := M) hB99
        replace LL := LL.trans Lw17
        replace hM := hM.mono Lw17
        replace hF := hF.mono Lw17
        replace h1 := h1.mono Lw17
        replace h2 := h2.mono Lw17
        replace h3 := h3.mono Lw17
        replace hn13 := hn13.mono Lw17
        replace hn22 := hn22.mono Lw17
        replace hn64 := hn64.mono Lw17
        replace hn65 := hn65.mono Lw17
        replace hn68 := hn68.mono Lw17
        replace hn69 := hn69.mono Lw17
        replace hn96 := hn96.mono Lw17
        replace hn98 := hn98.mono Lw17
        refine ops_guard_t rfl rfl ?_
        refine ops_move rfl rfl ?_
        refine ops_guard_t rfl rfl ?_
        refine ops_eq rfl rfl rfl ?_
        refine ops_guard_t rfl rfl ?_
        refine ops_beq rfl rfl rfl Try.underlying4 ?_
        refine ops_pick rfl rfl rfl ?_
        refine ops_move rfl rfl ?_
        refine ops_bt (d := 104) rfl (order_s _ _) ?_
        refine ops_guard_t rfl rfl ?_
        refine ops_callv rfl bod17 rfl rfl ?_
        refine (wakes1_c (M := M) hM).mono ?_
        rintro v105 w18 ⟨hB105, rfl⟩
        have Lw18 := Le.of_below (Fz := Fz) (M := M) hB105
        replace LL := LL.trans Lw18
        replace hM := hM.mono Lw18
        replace hF := hF.mono Lw18
        replace h1 := h1.mono Lw18
        replace h2 := h2.mono Lw18
        replace h3 := h3.mono Lw18
        replace hn13 := hn13.mono Lw18
        replace hn22 := hn22.mono Lw18
        replace hn64 := hn64.mono Lw18
        replace hn65 := hn65.mono Lw18
        replace hn68 := hn68.mono Lw18
        replace hn69 := hn69.mono Lw18
        replace hn96 := hn96.mono Lw18
        replace hn98 := hn98.mono Lw18
        refine ops_pick rfl rfl rfl ?_
        refine ops_assign rfl rfl ?_
        refine ops_nil ?_
        refine SL.wp_ret ?_
        refine leave_nil ⟨[_], ⟨rfl, trivial⟩, ?_⟩
        dsimp only [resVal]
        subst hFz
        exact ⟨LL.below (Nat.le_refl _), by first | rfl | simp⟩
      · refine ops_guard_f rfl rfl rfl rfl ?_
        refine ops_guard_f rfl rfl rfl rfl ?_
        refine ops_guard_f rfl rfl rfl rfl ?_
        refine ops_guard_f rfl rfl rfl rfl ?_
        refine ops_guard_t rfl rfl ?_
        refine ops_pick rfl rfl rfl ?_
        refine ops_pick rfl rfl rfl ?_
        refine ops_move rfl rfl ?_
        refine ops_guard_t rfl rfl ?_
        refine ops_move rfl rfl ?_
        refine ops_guard_t rfl rfl ?_
        refine ops_move rfl rfl ?_
        refine ops_guard_t rfl rfl ?_
        refine ops_buildSlice rfl Try.underlying24 sz23 rfl rfl rfl (one2 (by first | rfl | exact nat_one (by assumption) | exact own_one (by assumption)) (by first | rfl | exact nat_one (by assumption) | exact own_one (by assumption))) rfl (fun w19 b64 N64 => ?_)
        have hBw19 := N64.below
        have nM64 := hM.new N64; have B64 := N64.blk
        have Lw19 := Le.of_below (Fz := Fz) (M := M) hBw19
        replace LL := LL.trans Lw19
        replace hM := hM.mono Lw19
        replace hF := hF.mono Lw19
        replace h1 := h1.mono Lw19
        replace h2 := h2.mono Lw19
        replace h3 := h3.mono Lw19
        replace hn13 := hn13.mono Lw19
        replace hn22 := hn22.mono Lw19
        have hn64 := nats2 B64 nM64 h1 h3
        refine ops_guard_t rfl rfl ?_
        refine ops_callv rfl bod29 rfl rfl ?_
        refine (add2_c (M := M) (by assumption) (IsNat.lt (by assumption)) (IsNat.lt (by assumption)) (by omega) (by omega) hM).mono ?_
        rintro v65 w20 ⟨hB65, hf65, hl65⟩
        have hM65 := hM; have hS65 := LL.size
        have Lw20 := Le.of_below (Fz := Fz) (M := M) hB65
        replace LL := LL.trans Lw20
        replace hM := hM.mono Lw20
        replace hF := hF.mono Lw20
        replace h1 := h1.mono Lw20
        replace h2 := h2.mono Lw20
        replace h3 := h3.mono Lw20
        replace hn13 := hn13.mono Lw20
        replace hn22 := hn22.mono Lw20
        replace hn64 := hn64.mono Lw20
        have hn65 := hf65.nat hM65; replace hf65 := hf65.less hS65
        refine ops_guard_t rfl rfl ?_
        refine ops_move rfl rfl ?_
        refine ops_guard_t rfl rfl ?_
        refine ops_move rfl rfl ?_
        refine ops_guard_t rfl rfl ?_
        refine ops_buildSlice rfl Try.underlying24 sz23 rfl rfl rfl (one2 (by first | rfl | exact nat_one (by assumption) | exact own_one (by assumption)) (by first | rfl | exact nat_one (by assumption) | exact own_one (by assumption))) rfl (fun w21 b68 N68 => ?_)
        have hBw21 := N68.below
        have nM68 := hM.new N68; have B68 := N68.blk
        have Lw21 := Le.of_below (Fz := Fz) (M := M) hBw21
        replace LL := LL.trans Lw21
        replace hM := hM.mono Lw21
        replace hF := hF.mono Lw21
        replace h1 := h1.mono Lw21
        replace h2 := h2.mono Lw21
        replace h3 := h3.mono Lw21
        replace hn13 := hn13.mono Lw21
        replace hn22 := hn22.mono Lw21
        replace hn64 := hn64.mono Lw21
        replace hn65 := hn65.mono Lw21
        have hn68 := nats2 B68 nM68 h2 h3
        refine ops_guard_t rfl rfl ?_
        refine ops_callv rfl bod29 rfl rfl ?_
        refine (add2_c (M := M) (by assumption) (IsNat.lt (by assumption)) (IsNat.lt (by assumption)) (by omega) (by omega) hM).mono ?_
        rintro v69 w22 ⟨hB69, hf69, hl69⟩
        have hM69 := hM; have hS69 := LL.size
        have Lw22 := Le.of_below (Fz := Fz) (M := M) hB69
        replace LL := LL.trans Lw22
        replace hM := hM.mono Lw22
        replace hF := hF.mono Lw22
        replace h1 := h1.mono Lw22
        replace h2 := h2.mono Lw22
        replace h3 := h3.mono Lw22
        replace hn13 := hn13.mono Lw22
        replace hn22 := hn22.mono Lw22
        replace hn64 := hn64.mono Lw22
        replace hn65 := hn65.mono Lw22
        replace hn68 := hn68.mono Lw22
        have hn69 := hf69.nat hM69; replace hf69 := hf69.less hS69
        refine ops_guard_t rfl rfl ?_
        refine ops_callv rfl bod23 rfl rfl ?_
        refine (cmp_c (M := M) (by assumption) (by assumption) (by omega) (by omega) hM).mono ?_
        rintro v70 w23 ⟨hB70, rfl⟩
        have Lw23 := Le.of_below (Fz := Fz) (M := M) hB70
        replace LL := LL.trans Lw23
        replace hM := hM.mono Lw23
        replace hF := hF.mono Lw23
        replace h1 := h1.mono Lw23
        replace h2 := h2.mono Lw23
        replace h3 := h3.mono Lw23
        replace hn13 := hn13.mono Lw23
        replace hn22 := hn22.mono Lw23
        replace hn64 := hn64.mono Lw23
        replace hn65 := hn65.mono Lw23
        replace hn68 := hn68.mono Lw23
        replace hn69 := hn69.mono Lw23
        refine ops_guard_t rfl rfl ?_
        refine ops_move rfl rfl ?_
        refine ops_guard_t rfl rfl ?_
        refine ops_ne rfl rfl rfl ?_
        refine ops_bf (d := 72) rfl (by simp [val_limbs, cmpN_add]) ?_
        refine ops_pick rfl rfl rfl ?_
        refine ops_nil ?_
        refine SL.wp_cond_f rfl ?_
        refine SL.wp_skip ?_
        refine SL.wp_seq ?_
        refine SL.wp_region ?_
        refine ops_move rfl rfl ?_
        refine ops_eq rfl rfl rfl ?_
        refine ops_move rfl rfl ?_
        refine ops_lt rfl rfl rfl ?_
        refine ops_beq rfl rfl rfl Try.underlying4 ?_
        refine ops_move rfl rfl ?_
        refine ops_bt (d := 79) rfl (order_e _ _) ?_
        refine ops_guard_t rfl rfl ?_
        refine ops_move rfl rfl ?_
        refine ops_guard_t rfl rfl ?_
        refine ops_eq rfl rfl rfl ?_
        refine ops_guard_t rfl rfl ?_
        refine ops_move rfl rfl ?_
        refine ops_guard_t rfl rfl ?_
        refine ops_ge rfl rfl rfl ?_
        refine ops_guard_t rfl rfl ?_
        refine ops_beq rfl rfl rfl Try.underlying4 ?_
        refine ops_pick rfl rfl rfl ?_
        refine ops_move rfl rfl ?_
        refine ops_bt (d := 86) rfl (order_f _ _) ?_
        refine ops_guard_t rfl rfl ?_
        refine ops_move rfl rfl ?_
        refine ops_guard_t rfl rfl ?_
        first | refine ops_len rfl Try.underlying23 rfl ?_ | refine ops_lens rfl Try.underlying23 rfl (IsNat.slc (by assumption)) ?_ | refine ops_lenn rfl Try.underlying23 rfl (by assumption) ?_ | refine ops_leno rfl Try.underlying23 rfl (by assumption) ?_
        refine ops_guard_t rfl rfl ?_
        refine ops_eq rfl rfl rfl ?_
        refine ops_guard_t rfl rfl ?_
        refine ops_move rfl rfl ?_
        refine ops_guard_t rfl rfl ?_
        refine ops_le rfl rfl rfl ?_
        refine ops_guard_t rfl rfl ?_
        refine ops_beq rfl rfl rfl Try.underlying4 ?_
        refine ops_pick rfl rfl rfl ?_
        refine ops_move rfl rfl ?_
        refine ops_bt (d := 94) rfl (order_l _ _) ?_
        refine ops_guard_t rfl rfl ?_
        refine ops_move rfl rfl ?_
        refine ops_guard_t rfl rfl ?_
        refine ops_callv rfl bod25 rfl rfl ?_
        refine (trim_c (M := M) (by assumption) (by omega) hM).mono ?_
        rintro v96 w24 ⟨hB96, hf96⟩
        have hM96 := hM; have hS96 := LL.size
        have Lw24 := Le.of_below (Fz := Fz) (M := M) hB96
        replace LL := LL.trans Lw24
        replace hM := hM.mono Lw24
        replace hF := hF.mono Lw24
        replace h1 := h1.mono Lw24
        replace h2 := h2.mono Lw24
        replace h3 := h3.mono Lw24
        replace hn13 := hn13.mono Lw24
        replace hn22 := hn22.mono Lw24
        replace hn64 := hn64.mono Lw24
        replace hn65 := hn65.mono Lw24
        replace hn68 := hn68.mono Lw24
        replace hn69 := hn69.mono Lw24
        have hn96 := hf96.nat hM96; replace hf96 := hf96.less hS96
        refine ops_guard_t rfl rfl ?_
        refine ops_move rfl rfl ?_
        refine ops_guard_t rfl rfl ?_
        refine ops_callv rfl bod25 rfl rfl ?_
        refine (trim_c (M := M) (by assumption) (by omega) hM).mono ?_
        rintro v98 w25 ⟨hB98, hf98⟩
        have hM98 := hM; have hS98 := LL.size
        have Lw25 := Le.of_below (Fz := Fz) (M := M) hB98
        replace LL := LL.trans Lw25
        replace hM := hM.mono Lw25
        replace hF := hF.mono Lw25
        replace h1 := h1.mono Lw25
        replace h2 := h2.mono Lw25
        replace h3 := h3.mono Lw25
        replace hn13 := hn13.mono Lw25
        replace hn22 := hn22.mono Lw25
        replace hn64 := hn64.mono Lw25
        replace hn65 := hn65.mono Lw25
        replace hn68 := hn68.mono Lw25
        replace hn69 := hn69.mono Lw25
        replace hn96 := hn96.mono Lw25
        have hn98 := hf98.nat hM98; replace hf98 := hf98.less hS98
        refine ops_guard_t rfl rfl ?_
        refine ops_callv rfl bod22 rfl rfl ?_
        refine (same1_c (M := M) (by assumption) (by assumption) hM).mono ?_
        rintro v99 w26 ⟨hB99, rfl⟩
        have Lw26 := Le.of_below (Fz := Fz) (M := M) hB99
        replace LL := LL.trans Lw26
        replace hM := hM.mono Lw26
        replace hF := hF.mono Lw26
        replace h1 := h1.mono Lw26
        replace h2 := h2.mono Lw26
        replace h3 := h3.mono Lw26
        replace hn13 := hn13.mono Lw26
        replace hn22 := hn22.mono Lw26
        replace hn64 := hn64.mono Lw26
        replace hn65 := hn65.mono Lw26
        replace hn68 := hn68.mono Lw26
        replace hn69 := hn69.mono Lw26
        replace hn96 := hn96.mono Lw26
        replace hn98 := hn98.mono Lw26
        refine ops_guard_t rfl rfl ?_
        refine ops_move rfl rfl ?_
        refine ops_guard_t rfl rfl ?_
        refine ops_eq rfl rfl rfl ?_
        refine ops_guard_t rfl rfl ?_
        refine ops_beq rfl rfl rfl Try.underlying4 ?_
        refine ops_pick rfl rfl rfl ?_
        refine ops_move rfl rfl ?_
        refine ops_bt (d := 104) rfl (order_s _ _) ?_
        refine ops_guard_t rfl rfl ?_
        refine ops_callv rfl bod17 rfl rfl ?_
        refine (wakes1_c (M := M) hM).mono ?_
        rintro v105 w27 ⟨hB105, rfl⟩
        have Lw27 := Le.of_below (Fz := Fz) (M := M) hB105
        replace LL := LL.trans Lw27
        replace hM := hM.mono Lw27
        replace hF := hF.mono Lw27
        replace h1 := h1.mono Lw27
        replace h2 := h2.mono Lw27
        replace h3 := h3.mono Lw27
        replace hn13 := hn13.mono Lw27
        replace hn22 := hn22.mono Lw27
        replace hn64 := hn64.mono Lw27
        replace hn65 := hn65.mono Lw27
        replace hn68 := hn68.mono Lw27
        replace hn69 := hn69.mono Lw27
        replace hn96 := hn96.mono Lw27
        replace hn98 := hn98.mono Lw27
        refine ops_pick rfl rfl rfl ?_
        refine ops_assign rfl rfl ?_
        refine ops_nil ?_
        refine SL.wp_ret ?_
        refine leave_nil ⟨[_], ⟨rfl, trivial⟩, ?_⟩
        dsimp only [resVal]
        subst hFz
        exact ⟨LL.below (Nat.le_refl _), by first | rfl | simp⟩
    · refine ops_guard_f rfl rfl rfl rfl ?_
      refine ops_guard_f rfl rfl rfl rfl ?_
      refine ops_guard_f rfl rfl rfl rfl ?_
      refine ops_guard_f rfl rfl rfl rfl ?_
      refine ops_guard_t rfl rfl ?_
      refine ops_pick rfl rfl rfl ?_
      refine ops_guard_t rfl rfl ?_
      refine ops_move rfl rfl ?_
      refine ops_guard_f rfl rfl rfl rfl ?_
      refine ops_guard_f rfl rfl rfl rfl ?_
      refine ops_guard_f rfl rfl rfl rfl ?_
      refine ops_guard_f rfl rfl rfl rfl ?_
      refine ops_guard_t rfl rfl ?_
      refine ops_pick rfl rfl rfl ?_
      refine ops_pick rfl rfl rfl ?_
      refine ops_move rfl rfl ?_
      refine ops_guard_t rfl rfl ?_
      refine ops_move rfl rfl ?_
      refine ops_guard_t rfl rfl ?_
      refine ops_move rfl rfl ?_
      refine ops_guard_t rfl rfl ?_
      refine ops_buildSlice rfl Try.underlying24 sz23 rfl rfl rfl (one2 (by first | rfl | exact nat_one (by assumption) | exact own_one (by assumption)) (by first | rfl | exact nat_one (by assumption) | exact own_one (by assumption))) rfl (fun w28 b64 N64 => ?_)
      have hBw28 := N64.below
      have nM64 := hM.new N64; have B64 := N64.blk
      have Lw28 := Le.of_below (Fz := Fz) (M := M) hBw28
      replace LL := LL.trans Lw28
      replace hM := hM.mono Lw28
      replace hF := hF.mono Lw28
      replace h1 := h1.mono Lw28
      replace h2 := h2.mono Lw28
      replace h3 := h3.mono Lw28
      replace hn13 := hn13.mono Lw28
      replace hn22 := hn22.mono Lw28
      have hn64 := nats2 B64 nM64 h1 h3
      refine ops_guard_t rfl rfl ?_
      refine ops_callv rfl bod29 rfl rfl ?_
      refine (add2_c (M := M) (by assumption) (IsNat.lt (by assumption)) (IsNat.lt (by assumption)) (by omega) (by omega) hM).mono ?_
      rintro v65 w29 ⟨hB65, hf65, hl65⟩
      have hM65 := hM; have hS65 := LL.size
      have Lw29 := Le.of_below (Fz := Fz) (M := M) hB65
      replace LL := LL.trans Lw29
      replace hM := hM.mono Lw29
      replace hF := hF.mono Lw29
      replace h1 := h1.mono Lw29
      replace h2 := h2.mono Lw29
      replace h3 := h3.mono Lw29
      replace hn13 := hn13.mono Lw29
      replace hn22 := hn22.mono Lw29
      replace hn64 := hn64.mono Lw29
      have hn65 := hf65.nat hM65; replace hf65 := hf65.less hS65
      refine ops_guard_t rfl rfl ?_
      refine ops_move rfl rfl ?_
      refine ops_guard_t rfl rfl ?_
      refine ops_move rfl rfl ?_
      refine ops_guard_t rfl rfl ?_
      refine ops_buildSlice rfl Try.underlying24 sz23 rfl rfl rfl (one2 (by first | rfl | exact nat_one (by assumption) | exact own_one (by assumption)) (by first | rfl | exact nat_one (by assumption) | exact own_one (by assumption))) rfl (fun w30 b68 N68 => ?_)
      have hBw30 := N68.below
      have nM68 := hM.new N68; have B68 := N68.blk
      have Lw30 := Le.of_below (Fz := Fz) (M := M) hBw30
      replace LL := LL.trans Lw30
      replace hM := hM.mono Lw30
      replace hF := hF.mono Lw30
      replace h1 := h1.mono Lw30
      replace h2 := h2.mono Lw30
      replace h3 := h3.mono Lw30
      replace hn13 := hn13.mono Lw30
      replace hn22 := hn22.mono Lw30
      replace hn64 := hn64.mono Lw30
      replace hn65 := hn65.mono Lw30
      have hn68 := nats2 B68 nM68 h2 h3
      refine ops_guard_t rfl rfl ?_
      refine ops_callv rfl bod29 rfl rfl ?_
      refine (add2_c (M := M) (by assumption) (IsNat.lt (by assumption)) (IsNat.lt (by assumption)) (by omega) (by omega) hM).mono ?_
      rintro v69 w31 ⟨hB69, hf69, hl69⟩
      have hM69 := hM; have hS69 := LL.size
      have Lw31 := Le.of_below (Fz := Fz) (M := M) hB69
      replace LL := LL.trans Lw31
      replace hM := hM.mono Lw31
      replace hF := hF.mono Lw31
      replace h1 := h1.mono Lw31
      replace h2 := h2.mono Lw31
      replace h3 := h3.mono Lw31
      replace hn13 := hn13.mono Lw31
      replace hn22 := hn22.mono Lw31
      replace hn64 := hn64.mono Lw31
      replace hn65 := hn65.mono Lw31
      replace hn68 := hn68.mono Lw31
      have hn69 := hf69.nat hM69; replace hf69 := hf69.less hS69
      refine ops_guard_t rfl rfl ?_
      refine ops_callv rfl bod23 rfl rfl ?_
      refine (cmp_c (M := M) (by assumption) (by assumption) (by omega) (by omega) hM).mono ?_
      rintro v70 w32 ⟨hB70, rfl⟩
      have Lw32 := Le.of_below (Fz := Fz) (M := M) hB70
      replace LL := LL.trans Lw32
      replace hM := hM.mono Lw32
      replace hF := hF.mono Lw32
      replace h1 := h1.mono Lw32
      replace h2 := h2.mono Lw32
      replace h3 := h3.mono Lw32
      replace hn13 := hn13.mono Lw32
      replace hn22 := hn22.mono Lw32
      replace hn64 := hn64.mono Lw32
      replace hn65 := hn65.mono Lw32
      replace hn68 := hn68.mono Lw32
      replace hn69 := hn69.mono Lw32
      refine ops_guard_t rfl rfl ?_
      refine ops_move rfl rfl ?_
      refine ops_guard_t rfl rfl ?_
      refine ops_ne rfl rfl rfl ?_
      refine ops_bf (d := 72) rfl (by simp [val_limbs, cmpN_add]) ?_
      refine ops_pick rfl rfl rfl ?_
      refine ops_nil ?_
      refine SL.wp_cond_f rfl ?_
      refine SL.wp_skip ?_
      refine SL.wp_seq ?_
      refine SL.wp_region ?_
      refine ops_move rfl rfl ?_
      refine ops_eq rfl rfl rfl ?_
      refine ops_move rfl rfl ?_
      refine ops_lt rfl rfl rfl ?_
      refine ops_beq rfl rfl rfl Try.underlying4 ?_
      refine ops_move rfl rfl ?_
      refine ops_bt (d := 79) rfl (order_e _ _) ?_
      refine ops_guard_t rfl rfl ?_
      refine ops_move rfl rfl ?_
      refine ops_guard_t rfl rfl ?_
      refine ops_eq rfl rfl rfl ?_
      refine ops_guard_t rfl rfl ?_
      refine ops_move rfl rfl ?_
      refine ops_guard_t rfl rfl ?_
      refine ops_ge rfl rfl rfl ?_
      refine ops_guard_t rfl rfl ?_
      refine ops_beq rfl rfl rfl Try.underlying4 ?_
      refine ops_pick rfl rfl rfl ?_
      refine ops_move rfl rfl ?_
      refine ops_bt (d := 86) rfl (order_f _ _) ?_
      refine ops_guard_t rfl rfl ?_
      refine ops_move rfl rfl ?_
      refine ops_guard_t rfl rfl ?_
      first | refine ops_len rfl Try.underlying23 rfl ?_ | refine ops_lens rfl Try.underlying23 rfl (IsNat.slc (by assumption)) ?_ | refine ops_lenn rfl Try.underlying23 rfl (by assumption) ?_ | refine ops_leno rfl Try.underlying23 rfl (by assumption) ?_
      refine ops_guard_t rfl rfl ?_
      refine ops_eq rfl rfl rfl ?_
      refine ops_guard_t rfl rfl ?_
      refine ops_move rfl rfl ?_
      refine ops_guard_t rfl rfl ?_
      refine ops_le rfl rfl rfl ?_
      refine ops_guard_t rfl rfl ?_
      refine ops_beq rfl rfl rfl Try.underlying4 ?_
      refine ops_pick rfl rfl rfl ?_
      refine ops_move rfl rfl ?_
      refine ops_bt (d := 94) rfl (order_l _ _) ?_
      refine ops_guard_t rfl rfl ?_
      refine ops_move rfl rfl ?_
      refine ops_guard_t rfl rfl ?_
      refine ops_callv rfl bod25 rfl rfl ?_
      refine (trim_c (M := M) (by assumption) (by omega) hM).mono ?_
      rintro v96 w33 ⟨hB96, hf96⟩
      have hM96 := hM; have hS96 := LL.size
      have Lw33 := Le.of_below (Fz := Fz) (M := M) hB96
      replace LL := LL.trans Lw33
      replace hM := hM.mono Lw33
      replace hF := hF.mono Lw33
      replace h1 := h1.mono Lw33
      replace h2 := h2.mono Lw33
      replace h3 := h3.mono Lw33
      replace hn13 := hn13.mono Lw33
      replace hn22 := hn22.mono Lw33
      replace hn64 := hn64.mono Lw33
      replace hn65 := hn65.mono Lw33
      replace hn68 := hn68.mono Lw33
      replace hn69 := hn69.mono Lw33
      have hn96 := hf96.nat hM96; replace hf96 := hf96.less hS96
      refine ops_guard_t rfl rfl ?_
      refine ops_move rfl rfl ?_
      refine ops_guard_t rfl rfl ?_
      refine ops_callv rfl bod25 rfl rfl ?_
      refine (trim_c (M := M) (by assumption) (by omega) hM).mono ?_
      rintro v98 w34 ⟨hB98, hf98⟩
      have hM98 := hM; have hS98 := LL.size
      have Lw34 := Le.of_below (Fz := Fz) (M := M) hB98
      replace LL := LL.trans Lw34
      replace hM := hM.mono Lw34
      replace hF := hF.mono Lw34
      replace h1 := h1.mono Lw34
      replace h2 := h2.mono Lw34
      replace h3 := h3.mono Lw34
      replace hn13 := hn13.mono Lw34
      replace hn22 := hn22.mono Lw34
      replace hn64 := hn64.mono Lw34
      replace hn65 := hn65.mono Lw34
      replace hn68 := hn68.mono Lw34
      replace hn69 := hn69.mono Lw34
      replace hn96 := hn96.mono Lw34
      have hn98 := hf98.nat hM98; replace hf98 := hf98.less hS98
      refine ops_guard_t rfl rfl ?_
      refine ops_callv rfl bod22 rfl rfl ?_
      refine (same1_c (M := M) (by assumption) (by assumption) hM).mono ?_
      rintro v99 w35 ⟨hB99, rfl⟩
      have Lw35 := Le.of_below (Fz := Fz) (M := M) hB99
      replace LL := LL.trans Lw35
      replace hM := hM.mono Lw35
      replace hF := hF.mono Lw35
      replace h1 := h1.mono Lw35
      replace h2 := h2.mono Lw35
      replace h3 := h3.mono Lw35
      replace hn13 := hn13.mono Lw35
      replace hn22 := hn22.mono Lw35
      replace hn64 := hn64.mono Lw35
      replace hn65 := hn65.mono Lw35
      replace hn68 := hn68.mono Lw35
      replace hn69 := hn69.mono Lw35
      replace hn96 := hn96.mono Lw35
      replace hn98 := hn98.mono Lw35
      refine ops_guard_t rfl rfl ?_
      refine ops_move rfl rfl ?_
      refine ops_guard_t rfl rfl ?_
      refine ops_eq rfl rfl rfl ?_
      refine ops_guard_t rfl rfl ?_
      refine ops_beq rfl rfl rfl Try.underlying4 ?_
      refine ops_pick rfl rfl rfl ?_
      refine ops_move rfl rfl ?_
      refine ops_bt (d := 104) rfl (order_s _ _) ?_
      refine ops_guard_t rfl rfl ?_
      refine ops_callv rfl bod17 rfl rfl ?_
      refine (wakes1_c (M := M) hM).mono ?_
      rintro v105 w36 ⟨hB105, rfl⟩
      have Lw36 := Le.of_below (Fz := Fz) (M := M) hB105
      replace LL := LL.trans Lw36
      replace hM := hM.mono Lw36
      replace hF := hF.mono Lw36
      replace h1 := h1.mono Lw36
      replace h2 := h2.mono Lw36
      replace h3 := h3.mono Lw36
      replace hn13 := hn13.mono Lw36
      replace hn22 := hn22.mono Lw36
      replace hn64 := hn64.mono Lw36
      replace hn65 := hn65.mono Lw36
      replace hn68 := hn68.mono Lw36
      replace hn69 := hn69.mono Lw36
      replace hn96 := hn96.mono Lw36
      replace hn98 := hn98.mono Lw36
      refine ops_pick rfl rfl rfl ?_
      refine ops_assign rfl rfl ?_
      refine ops_nil ?_
      refine SL.wp_ret ?_
      refine leave_nil ⟨[_], ⟨rfl, trivial⟩, ?_⟩
      dsimp only [resVal]
      subst hFz
      exact ⟨LL.below (Nat.le_refl _), by first | rfl | simp⟩

end Go.Proofs.Ytffakiheophioaa
