import Derived.Test.YtffakiheophioaaW22
import Derived.Test.YtffakiheophioaaSLq
import Derived.Test.YtffakiheophioaaSLp
import Derived.Test.YtffakiheophioaaSLo
import Derived.Test.YtffakiheophioaaSLn
set_option linter.unusedVariables false
set_option linter.unusedSimpArgs false
set_option maxRecDepth 100000
namespace Go.Proofs.Ytffakiheophioaa
open Go.SL Go.RowKit Go.Proofs

theorem div_c {M : Nat → Prop} {w : World} {v u : Value} {xs ys : List Nat} (h1 : IsNat M w v xs) (h2 : IsNat M w u ys) (hl1 : xs.length ≤ 10000000) (hl2 : ys.length ≤ 10000000) (hM : OkM M w) :
    CallsV Try.prog 51 [v, u] w fun r w' => Below w.heap.size w w' ∧ ∃ q s, r = .tuple #[q, s, .int .i64 (if val ys = 0 then 30 else 0)] ∧ Fresh 43 w w' q (limbs (val xs / val ys)) ∧ Fresh 43 w w' s (limbs (if val ys = 0 then 0 else val xs % val ys)) := by
  obtain ⟨Fz, hFz⟩ : ∃ Fz : Nat → Prop, Fz = (· < w.heap.size) := ⟨_, rfl⟩
  have hF : FOk Fz w := by subst hFz; exact fun _ h => h
  have hal := limbs_val_length_le xs h1.lt; have hbl := limbs_val_length_le ys h2.lt
  have LL := Le.refl Fz M w; have hM0 := hM
  have Mk : Marks M w.heap.size [] w := marks_nil
  refine calls_intro Try.func51 rfl Try.ntmps51 rfl ?_
  refine SL.wp_seq ?_
  refine SL.wp_region ?_
  refine ops_alloc rfl sz23 (fun w1 b4 N4 => ?_)
  have hBw1 := N4.below
  have nF4 := hF.new N4; have nM4 := hM.new N4
  have Lw1 := Le.of_new (Fz := Fz) (M := M) N4
  replace LL := LL.trans Lw1
  replace hM := hM.mono Lw1
  replace hF := hF.mono Lw1
  replace h1 := h1.mono Lw1
  replace h2 := h2.mono Lw1
  replace Mk := Mk.mono Lw1
  have B4 := N4.blk
  refine ops_assign rfl rfl ?_
  refine ops_assign rfl rfl ?_
  refine ops_nil ?_
  refine SL.wp_seq ?_
  refine SL.wp_region ?_
  refine ops_move rfl rfl ?_
  refine ops_callv rfl bod25 rfl rfl ?_
  refine (trim_c (M := (Ins b4 M)) h1 (by omega) hM).mono ?_
  rintro v15 w2 ⟨hB15, hf15⟩
  have hM15 := hM; have hS15 := LL.size
  have Lw2 := Le.of_below (Fz := Fz) (M := (Ins b4 M)) hB15
  replace LL := LL.trans Lw2
  replace hM := hM.mono Lw2
  replace hF := hF.mono Lw2
  replace h1 := h1.mono Lw2
  replace h2 := h2.mono Lw2
  replace Mk := Mk.mono Lw2
  replace B4 := B4.below hB15
  have ho15 := SL.Own.of hf15 hM15 hS15; have hn15 := ho15.nat
  refine ops_move rfl rfl ?_
  refine ops_callv rfl bod25 rfl rfl ?_
  refine (trim_c (M := (Ins b4 M)) h2 (by omega) hM).mono ?_
  rintro v17 w3 ⟨hB17, hf17⟩
  have hM17 := hM; have hS17 := LL.size
  have Lw3 := Le.of_below (Fz := Fz) (M := (Ins b4 M)) hB17
  replace LL := LL.trans Lw3
  replace hM := hM.mono Lw3
  replace hF := hF.mono Lw3
  replace h1 := h1.mono Lw3
  replace h2 := h2.mono Lw3
  replace Mk := Mk.mono Lw3
  replace ho15 := ho15.mono Lw3
  replace hn15 := hn15.mono Lw3
  replace B4 := B4.below hB17
  have ho17 := SL.Own.of hf17 hM17 hS17; have hn17 := ho17.nat
  refine ops_assign rfl rfl ?_
  refine ops_assign rfl rfl ?_
  refine ops_nil ?_
  refine SL.wp_seq ?_
  refine SL.wp_block ?_
  refine SL.wp_seq ?_
  refine SL.wp_region ?_
  refine ops_move rfl rfl ?_
  first | refine ops_len rfl Try.underlying23 rfl ?_ | refine ops_lens rfl Try.underlying23 rfl (IsNat.slc (by assumption)) ?_ | refine ops_lenn rfl Try.underlying23 rfl (by assumption) ?_ | refine ops_leno rfl Try.underlying23 rfl (by assumption) ?_
  refine ops_eq rfl rfl rfl ?_
  refine ops_assign rfl rfl ?_
  refine ops_nil ?_
  refine SL.wp_cond_d rfl (fun hc0 => ?_) (fun hc0 => ?_)
  · have hy0 : val ys = 0 := limbs_length_eq_zero.1 (by omega)
    refine SL.wp_seq ?_
    refine SL.wp_region ?_
    refine ops_store1 rfl rfl sz23 B4 (by first | rfl | exact own_one (by assumption) | exact nat_one (by assumption)) (fun w4 Cw4 Bw4 => ?_)
    have Lw4 := Le.of_chg (Fz := Fz) (M := (Ins b4 M)) Cw4 ins_here nF4
    replace LL := LL.trans Lw4
    replace hM := hM.mono Lw4
    replace hF := hF.mono Lw4
    replace h1 := h1.mono Lw4
    replace h2 := h2.mono Lw4
    replace Mk := Mk.mono Lw4
    replace ho15 := ho15.mono Lw4
    replace hn15 := hn15.mono Lw4
    replace ho17 := ho17.mono Lw4
    replace hn17 := hn17.mono Lw4
    clear B4; have B4 := Bw4; clear Bw4
    refine ops_assign rfl rfl ?_
    refine ops_assign rfl rfl ?_
    refine ops_nil ?_
    refine SL.wp_ret ?_
    refine leave_marks Mk (fun wz hz => ⟨[_, _, _], ⟨⟨_, rfl, load_blk flat23 (B4.drift hz (fun c => c)) rfl⟩, rfl, rfl, trivial⟩, ?_⟩)
    dsimp only [resVal]
    subst hFz
    exact ⟨SL.Below.drift (LL.below (Nat.le_refl _)) hz (Nat.le_refl _), .slice none 0 0, .slice none 0 0, by rw [if_pos hy0], by rw [hy0, Nat.div_zero, limbs_zero]; exact Fresh.nil, by rw [if_pos hy0, limbs_zero]; exact Fresh.nil⟩
  · have hy0 : val ys ≠ 0 := fun c => hc0 (by rw [c, limbs_zero]; rfl)
    have hyp := Nat.pos_of_ne_zero hy0
    refine SL.wp_seq ?_
    refine SL.wp_region ?_
    refine ops_move rfl rfl ?_
    refine ops_move rfl rfl ?_
    refine ops_callv rfl bod23 rfl rfl ?_
    refine (cmp_c (M := (Ins b4 M)) hn15 hn17 (by omega) (by omega) hM).mono ?_
    rintro v25 w5 ⟨hB25, rfl⟩
    have Lw5 := Le.of_below (Fz := Fz) (M := (Ins b4 M)) hB25
    replace LL := LL.trans Lw5
    replace hM := hM.mono Lw5
    replace hF := hF.mono Lw5
    replace h1 := h1.mono Lw5
    replace h2 := h2.mono Lw5
    replace Mk := Mk.mono Lw5
    replace ho15 := ho15.mono Lw5
    replace hn15 := hn15.mono Lw5
    replace ho17 := ho17.mono Lw5
    replace hn17 := hn17.mono Lw5
    replace B4 := B4.below hB25
    simp only [val_limbs]
    refine ops_lt rfl rfl rfl ?_
    refine ops_assign rfl rfl ?_
    refine ops_nil ?_
    refine SL.wp_cond_d rfl (fun hc1 => ?_) (fun hc1 => ?_)
    · have hxy : val xs < val ys := cmpN_neg.1 hc1
      refine SL.wp_seq ?_
      refine SL.wp_region ?_
      refine ops_move rfl rfl ?_
      refine ops_store1 rfl rfl sz23 B4 (by first | rfl | exact own_one (by assumption) | exact nat_one (by assumption)) (fun w6 Cw6 Bw6 => ?_)
      have Lw6 := Le.of_chg (Fz := Fz) (M := (Ins b4 M)) Cw6 ins_here nF4
      replace LL := LL.trans Lw6
      replace hM := hM.mono Lw6
      replace hF := hF.mono Lw6
      replace h1 := h1.mono Lw6
      replace h2 := h2.mono Lw6
      replace Mk := Mk.mono Lw6
      replace ho15 := ho15.mono Lw6
      replace hn15 := hn15.mono Lw6
      replace ho17 := ho17.mono Lw6
      replace hn17 := hn17.mono Lw6
      clear B4; have B4 := Bw6; clear Bw6
      refine ops_assign rfl rfl ?_
      refine ops_assign rfl rfl ?_
      refine ops_nil ?_
      refine SL.wp_ret ?_
      refine leave_marks Mk (fun wz hz => ⟨[_, _, _], ⟨⟨_, rfl, load_blk flat23 (B4.drift hz (fun c => c)) rfl⟩, rfl, rfl, trivial⟩, ?_⟩)
      dsimp only [resVal]
      have hq15 := ho15.fresh
      subst hFz
      exact ⟨SL.Below.drift (LL.below (Nat.le_refl _)) hz (Nat.le_refl _), .slice none 0 0, v15, by rw [if_neg hy0], by rw [Nat.div_eq_of_lt hxy, limbs_zero]; exact Fresh.nil, by rw [if_neg hy0, Nat.mod_eq_of_lt hxy]; exact hq15.drift hz⟩
    · have hxy : ¬ val xs < val ys := fun c => hc1 (cmpN_neg.2 c)
      have hx0 : val xs ≠ 0 := by omega
      refine SL.wp_seq ?_
      refine SL.wp_region ?_
      refine ops_move rfl rfl ?_
      first | refine ops_len rfl Try.underlying23 rfl ?_ | refine ops_lens rfl Try.underlying23 rfl (IsNat.slc (by assumption)) ?_ | refine ops_lenn rfl Try.underlying23 rfl (by assumption) ?_ | refine ops_leno rfl Try.underlying23 rfl (by assumption) ?_
      refine ops_eq rfl rfl rfl ?_
      refine ops_assign rfl rfl ?_
      refine ops_nil ?_
      refine SL.wp_cond_d rfl (fun hc2 => ?_) (fun hc2 => ?_)
      · have hy1 : val ys = (limbs (val ys)).getD 0 0 := by
          have := val_top (zs := (limbs (val ys))) (n := 0) (fun j hj => getD_out (by omega))
          rw [val_limbs] at this; simpa [val] using this
        have hyb : val ys < 4294967296 := by rw [hy1]; exact hn17.lim 0
        refine SL.wp_seq ?_
        refine SL.wp_region ?_
        refine ops_move rfl rfl ?_
        refine ops_move rfl rfl ?_
        refine ops_idxn (0) rfl Try.underlying23 sz43 rfl rfl (by assumption) (by omega) (by omega) (fun b35 o35 hc35 hb35 => ?_)
        refine ops_load rfl flat43 rfl hc35 ?_
        refine ops_callv rfl bod53 rfl rfl ?_
        refine (short_c (M := (Ins b4 M)) (n := (limbs (val ys)).getD 0 0) hn15 (by omega) (hn17.lim 0) hM).mono ?_
        rintro v37 w7 ⟨hB37, q37, rfl, hf37⟩
        have hM37 := hM; have hS37 := LL.size
        have Lw7 := Le.of_below (Fz := Fz) (M := (Ins b4 M)) hB37
        replace LL := LL.trans Lw7
        replace hM := hM.mono Lw7
        replace hF := hF.mono Lw7
        replace h1 := h1.mono Lw7
        replace h2 := h2.mono Lw7
        replace Mk := Mk.mono Lw7
        replace ho15 := ho15.mono Lw7
        replace hn15 := hn15.mono Lw7
        replace ho17 := ho17.mono Lw7
        replace hn17 := hn17.mono Lw7
        replace B4 := B4.below hB37
        have hrb := Nat.lt_trans (Nat.mod_lt (val xs) hyp) hyb
        rw [val_limbs, ← hy1] at hf37
        rw [val_limbs, ← hy1, if_neg hy0, if_neg hy0]
        have ho37 := SL.Own.of hf37 hM37 hS37
        refine ops_move rfl rfl ?_
        refine ops_extract rfl rfl rfl ?_
        refine ops_extract rfl rfl rfl ?_
        refine ops_extract rfl rfl rfl ?_
        refine ops_assign rfl rfl ?_
        refine ops_assign rfl rfl ?_
        refine ops_assign rfl rfl ?_
        refine ops_nil ?_
        refine SL.wp_seq ?_
        refine SL.wp_region ?_
        refine ops_move rfl rfl ?_
        refine ops_move rfl rfl ?_
        refine ops_to64 rfl Try.underlying43 Try.underlying25 rfl (by omega) ?_
        refine ops_callv rfl bod27 rfl rfl ?_
        refine (of_c (M := (Ins b4 M)) (by have := Nat.mod_lt (val xs) (Nat.pos_of_ne_zero hy0); have := hyb; omega) hM).mono ?_
        rintro v44 w8 ⟨hB44, hf44⟩
        have hM44 := hM; have hS44 := LL.size
        have Lw8 := Le.of_below (Fz := Fz) (M := (Ins b4 M)) hB44
        replace LL := LL.trans Lw8
        replace hM := hM.mono Lw8
        replace hF := hF.mono Lw8
        replace h1 := h1.mono Lw8
        replace h2 := h2.mono Lw8
        replace Mk := Mk.mono Lw8
        replace ho15 := ho15.mono Lw8
        replace hn15 := hn15.mono Lw8
        replace ho17 := ho17.mono Lw8
        replace hn17 := hn17.mono Lw8
        replace ho37 := ho37.mono Lw8
        replace B4 := B4.below hB44
        have ho44 := SL.Own.of hf44 hM44 hS44; have hn44 := ho44.nat
        refine ops_move rfl rfl ?_
        have hoq := ho37.fresh.own
        refine ops_store1 rfl rfl sz23 B4 (by first | rfl | exact own_one (by assumption) | exact nat_one (by assumption)) (fun w9 Cw9 Bw9 => ?_)
        have Lw9 := Le.of_chg (Fz := Fz) (M := (Ins b4 M)) Cw9 ins_here nF4
        replace LL := LL.trans Lw9
        replace hM := hM.mono Lw9
        replace hF := hF.mono Lw9
        replace h1 := h1.mono Lw9
        replace h2 := h2.mono Lw9
        replace Mk := Mk.mono Lw9
        replace ho15 := ho15.mono Lw9
        replace hn15 := hn15.mono Lw9
        replace ho17 := ho17.mono Lw9
        replace hn17 := hn17.mono Lw9
        replace ho37 := ho37.mono Lw9
        replace ho44 := ho44.mono Lw9
        replace hn44 := hn44.mono Lw9
        clear B4; have B4 := Bw9; clear Bw9
        refine ops_assign rfl rfl ?_
        refine ops_assign rfl rfl ?_
        refine ops_nil ?_
        refine SL.wp_ret ?_
        refine leave_marks Mk (fun wz hz => ⟨[_, _, _], ⟨⟨_, rfl, load_blk flat23 (B4.drift hz (fun c => c)) rfl⟩, rfl, rfl, trivial⟩, ?_⟩)
        dsimp only [resVal]
        have hq1 := ho37.fresh; have hq2 := ho44.fresh
        subst hFz
        exact ⟨SL.Below.drift (LL.below (Nat.le_refl _)) hz (Nat.le_refl _), q37, v44, by first | rfl | (rw [if_neg hy0]; rfl), hq1.drift hz, by first | exact hq2.drift hz | (rw [if_neg hy0]; exact hq2.drift hz)⟩
      · refine SL.wp_skip ?_
        refine SL.wp_seq ?_
        refine SL.wp_region ?_
        refine ops_move rfl rfl ?_
        refine ops_move rfl rfl ?_
        first | refine ops_len rfl Try.underlying23 rfl ?_ | refine ops_lens rfl Try.underlying23 rfl (IsNat.slc (by assumption)) ?_ | refine ops_lenn rfl Try.underlying23 rfl (by assumption) ?_ | refine ops_leno rfl Try.underlying23 rfl (by assumption) ?_
        refine ops_sub rfl rfl rfl (by omega) ?_
        refine ops_idxn ((limbs (val ys)).length - 1) rfl Try.underlying23 sz43 rfl rfl (by assumption) (by omega) (by omega) (fun b50 o50 hc50 hb50 => ?_)
        refine ops_load rfl flat43 rfl hc50 ?_
        refine ops_callv rfl bod70 rfl rfl ?_
        refine (lead_c (M := (Ins b4 M)) (hn17.lim _) hM).mono ?_
        rintro v52 w10 ⟨hB52, rfl⟩
        have Lw10 := Le.of_below (Fz := Fz) (M := (Ins b4 M)) hB52
        replace LL := LL.trans Lw10
        replace hM := hM.mono Lw10
        replace hF := hF.mono Lw10
        replace h1 := h1.mono Lw10
        replace h2 := h2.mono Lw10
        replace Mk := Mk.mono Lw10
        replace ho15 := ho15.mono Lw10
        replace hn15 := hn15.mono Lw10
        replace ho17 := ho17.mono Lw10
        replace hn17 := hn17.mono Lw10
        replace B4 := B4.below hB52
        have hbw := bitsN_word (hn17.lim ((limbs (val ys)).length - 1))
        have hbt : bitsN ((limbs (val ys)).getD ((limbs (val ys)).length - 1) 0) ≠ 0 := fun c => limbs_last (fun e => by simp [e] at hc0) (bitsN_eq_zero.1 c)
        obtain ⟨k, hk⟩ : ∃ k : Nat, (32 : Int) - (bitsN ((limbs (val ys)).getD ((limbs (val ys)).length - 1) 0) : Int) = (k : Int) := ⟨32 - bitsN ((limbs (val ys)).getD ((limbs (val ys)).length - 1) 0), by omega⟩
        rw [hk]
        have hk32 : k < 32 := by omega
        have hkc : cntN (k : Int) 65536 = k := cntN_nat (m := 65536) (by omega)
        have hnb := norm_by hy0 (k := k) (by omega)
        have hul := up_lens hx0 hk32
        have hlm := limbs_len_mono (Nat.le_of_not_lt hxy)
        have hrm := div_room (k := k) (X := val xs) (Y := val ys) (m := (limbs (val xs)).length + 1 - (limbs (val ys)).length) hy0 (by omega)
        refine ops_assign rfl rfl ?_
        refine ops_nil ?_
        refine SL.wp_seq ?_
        refine SL.wp_region ?_
        refine ops_move rfl rfl ?_
        refine ops_move rfl rfl ?_
        refine ops_callv rfl bod37 rfl rfl ?_
        refine (up_c (M := (Ins b4 M)) hn15 (by omega) hM).mono ?_
        rintro v55 w11 ⟨hB55, hf55⟩
        have F55 : ∀ k, v55.ownBlock = some k → ¬ Fz k := fun k hk c => absurd (hF k c) (Nat.not_lt.2 (hf55.new k hk))
        have X55 : ∀ k, v55.ownBlock = some k → ¬ (Ins b4 M) k := fun k hk c => absurd (hM k c) (Nat.not_lt.2 (hf55.new k hk))
        have Lw11 := Le.of_fresh (Fz := Fz) (M := (Ins b4 M)) hB55 hf55
        replace LL := LL.trans Lw11
        replace hM := hM.mono Lw11
        replace hF := hF.mono Lw11
        replace h1 := h1.mono Lw11
        replace h2 := h2.mono Lw11
        replace Mk := Mk.mono Lw11
        replace ho15 := ho15.mono Lw11
        replace hn15 := hn15.mono Lw11
        replace ho17 := ho17.mono Lw11
        replace hn17 := hn17.mono Lw11
        replace B4 := B4.below hB55
        have O55 := hf55.own; have T55 := hf55.lt; have Z55 := hf55.len
        simp only [val_limbs, hkc] at O55 T55 Z55
        refine ops_move rfl rfl ?_
        refine ops_move rfl rfl ?_
        refine ops_callv rfl bod37 rfl rfl ?_
        refine (up_c (M := (Mo v55 (Ins b4 M))) hn17 (by omega) hM).mono ?_
        rintro v58 w12 ⟨hB58, hf58⟩
        have hM58 := hM; have hS58 := LL.size
        have Lw12 := Le.of_below (Fz := Fz) (M := (Mo v55 (Ins b4 M))) hB58
        replace LL := LL.trans Lw12
        replace hM := hM.mono Lw12
        replace hF := hF.mono Lw12
        replace h1 := h1.mono Lw12
        replace h2 := h2.mono Lw12
        replace Mk := Mk.mono Lw12
        replace ho15 := ho15.mono Lw12
        replace hn15 := hn15.mono Lw12
        replace ho17 := ho17.mono Lw12
        replace hn17 := hn17.mono Lw12
        replace B4 := B4.below hB58
        replace O55 := own_below O55 hB58
        simp only [val_limbs, hkc] at hf58
        have hn58 := hf58.nat hM58
        refine ops_build rfl plc68 rfl rfl (cls_cons (cell1 (by first | rfl | exact nat_one (by assumption) | exact own_one (by assumption))) (cls_cons (cell1 (by first | rfl | exact nat_one (by assumption) | exact own_one (by assumption))) cls_nil)) rfl ?_
        have O55q := O55
        refine ops_box rfl rfl (fun w13 b60 N60 => ?_)
        have hBw13 := N60.below
        have nF60 := hF.new N60; have nM60 := hM.new N60
        have Lw13 := Le.of_new (Fz := Fz) (M := (Mo v55 (Ins b4 M))) N60
        have lt4_60 := B4.lt; replace B4 := B4.below hBw13; have ne4_60 : b4 ≠ b60 := by have := N60.at_; omega
        replace O55 := own_below O55 hBw13
        replace LL := LL.trans Lw13
        replace hM := hM.mono Lw13
        replace hF := hF.mono Lw13
        replace h1 := h1.mono Lw13
        replace h2 := h2.mono Lw13
        replace Mk := Mk.mono Lw13
        replace ho15 := ho15.mono Lw13
        replace hn15 := hn15.mono Lw13
        replace ho17 := ho17.mono Lw13
        replace hn17 := hn17.mono Lw13
        replace hn58 := hn58.mono Lw13
        have B60 := N60.blk
        replace B60 : Blk w13 b60 68 [v55, v58] := B60
        refine ops_assign rfl rfl ?_
        refine ops_nil ?_
        refine SL.wp_seq ?_
        refine SL.wp_draw (R := Rs (fun k => v55.ownBlock = some k)) (R' := Rb) (st := some (14, (fun w => w.ownsRow 0 43 1 v55 (limbs (val xs * 2 ^ k)).length ((limbs (val xs * 2 ^ k)).map lw)), (fun w => True))) mixed 15 [4, 5, 6, 10, 11, 61, 75] (by decide +kernel) rs_trans rs_rb (rs_drew _) (fun _ _ _ h => by cases h; exact ⟨by decide, O55, fun _ _ h r => own_below h r, fun _ _ _ _ => trivial, _, rfl⟩) ?_
        apply drs_exs rfl
        · intro wq hR hst
          refine obl_e rfl rfl ?_
          refine obl_done ?_
          have Lq := Le.of_rs (Fz := Fz) (M := (Ins b60 (Mo v55 (Ins b4 M)))) hR (fun k h => .inr (.inl h)) F55
          replace LL := LL.trans Lq
          replace hM := hM.mono Lq
          replace hF := hF.mono Lq
          replace h1 := h1.mono Lq
          replace h2 := h2.mono Lq
          replace Mk := Mk.mono Lq
          replace ho15 := ho15.mono Lq
          replace hn15 := hn15.mono Lq
          replace ho17 := ho17.mono Lq
          replace hn17 := hn17.mono Lq
          replace hn58 := hn58.mono Lq
          replace B4 := B4.rs hR (fun c => X55 _ c ins_here)
          replace B60 := B60.rs hR (fun c => by have := (O55q.lt _ c).2; have := N60.at_; omega)
          refine ops_move rfl rfl ?_
          exact ops_nil ⟨rfl, rb_refl _, _, rfl, rfl⟩
        apply drs_exs rfl
        · intro wq hR hst
          refine obl_e rfl rfl ?_
          refine obl_done ?_
          have Lq := Le.of_rs (Fz := Fz) (M := (Ins b60 (Mo v55 (Ins b4 M)))) hR (fun k h => .inr (.inl h)) F55
          replace LL := LL.trans Lq
          replace hM := hM.mono Lq
          replace hF := hF.mono Lq
          replace h1 := h1.mono Lq
          replace h2 := h2.mono Lq
          replace Mk := Mk.mono Lq
          replace ho15 := ho15.mono Lq
          replace hn15 := hn15.mono Lq
          replace ho17 := ho17.mono Lq
          replace hn17 := hn17.mono Lq
          replace hn58 := hn58.mono Lq
          replace B4 := B4.rs hR (fun c => X55 _ c ins_here)
          replace B60 := B60.rs hR (fun c => by have := (O55q.lt _ c).2; have := N60.at_; omega)
          refine ops_move rfl rfl ?_
          exact ops_nil ⟨rfl, rb_refl _, _, rfl, rfl⟩
        apply drs_exs rfl
        · intro wq hR hst
          refine obl_x rfl ?_
          refine obl_done ?_
          have Lq := Le.of_rs (Fz := Fz) (M := (Ins b60 (Mo v55 (Ins b4 M)))) hR (fun k h => .inr (.inl h)) F55
          replace LL := LL.trans Lq
          replace hM := hM.mono Lq
          replace hF := hF.mono Lq
          replace h1 := h1.mono Lq
          replace h2 := h2.mono Lq
          replace Mk := Mk.mono Lq
          replace ho15 := ho15.mono Lq
          replace hn15 := hn15.mono Lq
          replace ho17 := ho17.mono Lq
          replace hn17 := hn17.mono Lq
          replace hn58 := hn58.mono Lq
          replace B4 := B4.rs hR (fun c => X55 _ c ins_here)
          replace B60 := B60.rs hR (fun c => by have := (O55q.lt _ c).2; have := N60.at_; omega)
          refine ops_nilck rfl rfl ?_
          exact ops_nil ⟨rfl, rb_refl _, _, rfl, rfl⟩
        apply drs_exs rfl
        · intro wq hR hst
          refine obl_x rfl ?_
          refine obl_done ?_
          have Lq := Le.of_rs (Fz := Fz) (M := (Ins b60 (Mo v55 (Ins b4 M)))) hR (fun k h => .inr (.inl h)) F55
          replace LL := LL.trans Lq
          replace hM := hM.mono Lq
          replace hF := hF.mono Lq
          replace h1 := h1.mono Lq
          replace h2 := h2.mono Lq
          replace Mk := Mk.mono Lq
          replace ho15 := ho15.mono Lq
          replace hn15 := hn15.mono Lq
          replace ho17 := ho17.mono Lq
          replace hn17 := hn17.mono Lq
          replace hn58 := hn58.mono Lq
          replace B4 := B4.rs hR (fun c => X55 _ c ins_here)
          replace B60 := B60.rs hR (fun c => by have := (O55q.lt _ c).2; have := N60.at_; omega)
          refine ops_field0 0 rfl Try.underlying68 rfl rfl sz23 rfl rfl ?_
          exact ops_nil ⟨rfl, rb_refl _, _, rfl, rfl⟩
        apply drs_exs rfl
        · intro wq hR hst
          refine obl_x rfl ?_
          refine obl_done ?_
          have Lq := Le.of_rs (Fz := Fz) (M := (Ins b60 (Mo v55 (Ins b4 M)))) hR (fun k h => .inr (.inl h)) F55
          replace LL := LL.trans Lq
          replace hM := hM.mono Lq
          replace hF := hF.mono Lq
          replace h1 := h1.mono Lq
          replace h2 := h2.mono Lq
          replace Mk := Mk.mono Lq
          replace ho15 := ho15.mono Lq
          replace hn15 := hn15.mono Lq
          replace ho17 := ho17.mono Lq
          replace hn17 := hn17.mono Lq
          replace hn58 := hn58.mono Lq
          replace B4 := B4.rs hR (fun c => X55 _ c ins_here)
          replace B60 := B60.rs hR (fun c => by have := (O55q.lt _ c).2; have := N60.at_; omega)
          refine ops_loadb rfl flat23 rfl B60 rfl ?_
          exact ops_nil ⟨rfl, rb_refl _, _, rfl, rfl⟩
        apply drs_exs rfl
        · intro wq hR hst
          refine obl_e rfl rfl ?_
          refine obl_done ?_
          have Lq := Le.of_rs (Fz := Fz) (M := (Ins b60 (Mo v55 (Ins b4 M)))) hR (fun k h => .inr (.inl h)) F55
          replace LL := LL.trans Lq
          replace hM := hM.mono Lq
          replace hF := hF.mono Lq
          replace h1 := h1.mono Lq
          replace h2 := h2.mono Lq
          replace Mk := Mk.mono Lq
          replace ho15 := ho15.mono Lq
          replace hn15 := hn15.mono Lq
          replace ho17 := ho17.mono Lq
          replace hn17 := hn17.mono Lq
          replace hn58 := hn58.mono Lq
          replace B4 := B4.rs hR (fun c => X55 _ c ins_here)
          replace B60 := B60.rs hR (fun c => by have := (O55q.lt _ c).2; have := N60.at_; omega)
          refine ops_move rfl rfl ?_
          exact ops_nil ⟨rfl, rb_refl _, _, rfl, rfl⟩
        apply drs_exs rfl
        · intro wq hR hst
          refine obl_x rfl ?_
          refine obl_done ?_
          have Lq := Le.of_rs (Fz := Fz) (M := (Ins b60 (Mo v55 (Ins b4 M)))) hR (fun k h => .inr (.inl h)) F55
          replace LL := LL.trans Lq
          replace hM := hM.mono Lq
          replace hF := hF.mono Lq
          replace h1 := h1.mono Lq
          replace h2 := h2.mono Lq
          replace Mk := Mk.mono Lq
          replace ho15 := ho15.mono Lq
          replace hn15 := hn15.mono Lq
          replace ho17 := ho17.mono Lq
          replace hn17 := hn17.mono Lq
          replace hn58 := hn58.mono Lq
          replace B4 := B4.rs hR (fun c => X55 _ c ins_here)
          replace B60 := B60.rs hR (fun c => by have := (O55q.lt _ c).2; have := N60.at_; omega)
          first | refine ops_len rfl Try.underlying23 rfl ?_ | refine ops_lens rfl Try.underlying23 rfl (IsNat.slc (by assumption)) ?_ | refine ops_lenn rfl Try.underlying23 rfl (by assumption) ?_ | refine ops_leno rfl Try.underlying23 rfl (by assumption) ?_
          exact ops_nil ⟨rfl, rb_refl _, _, rfl, rfl⟩
        apply drs_exs rfl
        · intro wq hR hst
          refine obl_x rfl ?_
          refine obl_done ?_
          have Lq := Le.of_rs (Fz := Fz) (M := (Ins b60 (Mo v55 (Ins b4 M)))) hR (fun k h => .inr (.inl h)) F55
          replace LL := LL.trans Lq
          replace hM := hM.mono Lq
          replace hF := hF.mono Lq
          replace h1 := h1.mono Lq
          replace h2 := h2.mono Lq
          replace Mk := Mk.mono Lq
          replace ho15 := ho15.mono Lq
          replace hn15 := hn15.mono Lq
          replace ho17 := ho17.mono Lq
          replace hn17 := hn17.mono Lq
          replace hn58 := hn58.mono Lq
          replace B4 := B4.rs hR (fun c => X55 _ c ins_here)
          replace B60 := B60.rs hR (fun c => by have := (O55q.lt _ c).2; have := N60.at_; omega)
          refine ops_add rfl rfl rfl (by omega) ?_
          exact ops_nil ⟨rfl, rb_refl _, _, rfl, rfl⟩
        apply drs_exs rfl
        · intro wq hR hst
          refine obl_e rfl rfl ?_
          refine obl_done ?_
          have Lq := Le.of_rs (Fz := Fz) (M := (Ins b60 (Mo v55 (Ins b4 M)))) hR (fun k h => .inr (.inl h)) F55
          replace LL := LL.trans Lq
          replace hM := hM.mono Lq
          replace hF := hF.mono Lq
          replace h1 := h1.mono Lq
          replace h2 := h2.mono Lq
          replace Mk := Mk.mono Lq
          replace ho15 := ho15.mono Lq
          replace hn15 := hn15.mono Lq
          replace ho17 := ho17.mono Lq
          replace hn17 := hn17.mono Lq
          replace hn58 := hn58.mono Lq
          replace B4 := B4.rs hR (fun c => X55 _ c ins_here)
          replace B60 := B60.rs hR (fun c => by have := (O55q.lt _ c).2; have := N60.at_; omega)
          refine ops_move rfl rfl ?_
          exact ops_nil ⟨rfl, rb_refl _, _, rfl, rfl⟩
        apply drs_exs rfl
        · intro wq hR hst
          refine obl_x rfl ?_
          refine obl_done ?_
          have Lq := Le.of_rs (Fz := Fz) (M := (Ins b60 (Mo v55 (Ins b4 M)))) hR (fun k h => .inr (.inl h)) F55
          replace LL := LL.trans Lq
          replace hM := hM.mono Lq
          replace hF := hF.mono Lq
          replace h1 := h1.mono Lq
          replace h2 := h2.mono Lq
          replace Mk := Mk.mono Lq
          replace ho15 := ho15.mono Lq
          replace hn15 := hn15.mono Lq
          replace ho17 := ho17.mono Lq
          replace hn17 := hn17.mono Lq
          replace hn58 := hn58.mono Lq
          replace B4 := B4.rs hR (fun c => X55 _ c ins_here)
          replace B60 := B60.rs hR (fun c => by have := (O55q.lt _ c).2; have := N60.at_; omega)
          refine ops_nilck rfl rfl ?_
          exact ops_nil ⟨rfl, rb_refl _, _, rfl, rfl⟩
        apply drs_exs rfl
        · intro wq hR hst
          refine obl_x rfl ?_
          refine obl_done ?_
          have Lq := Le.of_rs (Fz := Fz) (M := (Ins b60 (Mo v55 (Ins b4 M)))) hR (fun k h => .inr (.inl h)) F55
          replace LL := LL.trans Lq
          replace hM := hM.mono Lq
          replace hF := hF.mono Lq
          replace h1 := h1.mono Lq
          replace h2 := h2.mono Lq
          replace Mk := Mk.mono Lq
          replace ho15 := ho15.mono Lq
          replace hn15 := hn15.mono Lq
          replace ho17 := ho17.mono Lq
          replace hn17 := hn17.mono Lq
          replace hn58 := hn58.mono Lq
          replace B4 := B4.rs hR (fun c => X55 _ c ins_here)
          replace B60 := B60.rs hR (fun c => by have := (O55q.lt _ c).2; have := N60.at_; omega)
          refine ops_field0 0 rfl Try.underlying68 rfl rfl sz23 rfl rfl ?_
          exact ops_nil ⟨rfl, rb_refl _, _, rfl, rfl⟩
        apply drs_exs rfl
        · intro wq hR hst
          refine obl_x rfl ?_
          refine obl_done ?_
          have Lq := Le.of_rs (Fz := Fz) (M := (Ins b60 (Mo v55 (Ins b4 M)))) hR (fun k h => .inr (.inl h)) F55
          replace LL := LL.trans Lq
          replace hM := hM.mono Lq
          replace hF := hF.mono Lq
          replace h1 := h1.mono Lq
          replace h2 := h2.mono Lq
          replace Mk := Mk.mono Lq
          replace ho15 := ho15.mono Lq
          replace hn15 := hn15.mono Lq
          replace ho17 := ho17.mono Lq
          replace hn17 := hn17.mono Lq
          replace hn58 := hn58.mono Lq
          replace B4 := B4.rs hR (fun c => X55 _ c ins_here)
          replace B60 := B60.rs hR (fun c => by have := (O55q.lt _ c).2; have := N60.at_; omega)
          refine ops_loadb rfl flat23 rfl B60 rfl ?_
          exact ops_nil ⟨rfl, rb_refl _, _, rfl, rfl⟩
        apply drs_exs rfl
        · intro wq hR hst
          refine obl_x rfl ?_
          refine obl_done ?_
          have Lq := Le.of_rs (Fz := Fz) (M := (Ins b60 (Mo v55 (Ins b4 M)))) hR (fun k h => .inr (.inl h)) F55
          replace LL := LL.trans Lq
          replace hM := hM.mono Lq
          replace hF := hF.mono Lq
          replace h1 := h1.mono Lq
          replace h2 := h2.mono Lq
          replace Mk := Mk.mono Lq
          replace ho15 := ho15.mono Lq
          replace hn15 := hn15.mono Lq
          replace ho17 := ho17.mono Lq
          replace hn17 := hn17.mono Lq
          replace hn58 := hn58.mono Lq
          replace B4 := B4.rs hR (fun c => X55 _ c ins_here)
          replace B60 := B60.rs hR (fun c => by have := (O55q.lt _ c).2; have := N60.at_; omega)
          have hpre := (hst.2 (by decide +kernel))
          first | refine ops_len rfl Try.underlying23 rfl ?_ | refine ops_lens rfl Try.underlying23 rfl (IsNat.slc (by assumption)) ?_ | refine ops_lenn rfl Try.underlying23 rfl (by assumption) ?_ | refine ops_leno rfl Try.underlying23 rfl (by assumption) ?_
          exact ops_nil ⟨rfl, rb_refl _, _, rfl, rfl⟩
        apply drs_exs rfl
        · intro wq hR hst
          refine obl_x rfl ?_
          refine obl_x rfl ?_
          refine obl_done ?_
          have Lq := Le.of_rs (Fz := Fz) (M := (Ins b60 (Mo v55 (Ins b4 M)))) hR (fun k h => .inr (.inl h)) F55
          replace LL := LL.trans Lq
          replace hM := hM.mono Lq
          replace hF := hF.mono Lq
          replace h1 := h1.mono Lq
          replace h2 := h2.mono Lq
          replace Mk := Mk.mono Lq
          replace ho15 := ho15.mono Lq
          replace hn15 := hn15.mono Lq
          replace ho17 := ho17.mono Lq
          replace hn17 := hn17.mono Lq
          replace hn58 := hn58.mono Lq
          replace B4 := B4.rs hR (fun c => X55 _ c ins_here)
          replace B60 := B60.rs hR (fun c => by have := (O55q.lt _ c).2; have := N60.at_; omega)
          refine ops_sub rfl rfl rfl (by omega) ?_
          exact ops_nil ⟨rfl, rb_refl _, _, rfl, rfl⟩
        refine drs_chg rfl (fun v w => ∃ br cap ex, v = .slice (some ⟨br, 0, none⟩) ((limbs (val xs)).length + 1) cap ∧ Blk w br 43 (((limbs (val xs * 2 ^ k)) ++ List.replicate (((limbs (val xs)).length + 1) - (limbs (val xs * 2 ^ k)).length) 0).map lw ++ ex) ∧ cap = ((limbs (val xs)).length + 1) + ex.length ∧ (v55.ownBlock = some br ∨ w13.heap.size ≤ br)) (fun v a b h r => let ⟨x, y, z, p1, p2, p3, p4⟩ := h; ⟨x, y, z, p1, p2.below r, p3, p4⟩) (fun wq hR hst => ?_) ?_
        · refine obl_x rfl ?_
          refine obl_x rfl ?_
          refine obl_done ?_
          have Lq := Le.of_rs (Fz := Fz) (M := (Ins b60 (Mo v55 (Ins b4 M)))) hR (fun k h => .inr (.inl h)) F55
          replace LL := LL.trans Lq
          replace hM := hM.mono Lq
          replace hF := hF.mono Lq
          replace h1 := h1.mono Lq
          replace h2 := h2.mono Lq
          replace Mk := Mk.mono Lq
          replace ho15 := ho15.mono Lq
          replace hn15 := hn15.mono Lq
          replace ho17 := ho17.mono Lq
          replace hn17 := hn17.mono Lq
          replace hn58 := hn58.mono Lq
          replace B4 := B4.rs hR (fun c => X55 _ c ins_here)
          replace B60 := B60.rs hR (fun c => by have := (O55q.lt _ c).2; have := N60.at_; omega)
          have hpre := hst
          refine ops_append0 (m := (((limbs (val xs)).length + 1) - (limbs (val xs * 2 ^ k)).length)) rfl Try.underlying23 Try.underlying3 sz43 rfl rfl rfl (by omega) hpre (by omega) (by omega) (by omega) (fun v75 w75 A75 G75 S75 => ?_)
          obtain ⟨br, cap, ex, hv75, BR, hcap⟩ := own_to_blk (n := ((limbs (val xs)).length + 1)) (xs := ((limbs (val xs * 2 ^ k)) ++ List.replicate (((limbs (val xs)).length + 1) - (limbs (val xs * 2 ^ k)).length) 0)) (by have := A75; simp only [List.map_append, List.map_replicate]; rwa [show (limbs (val xs * 2 ^ k)).length + (((limbs (val xs)).length + 1) - (limbs (val xs * 2 ^ k)).length) = ((limbs (val xs)).length + 1) by omega] at this) (by omega)
          exact ops_nil ⟨rfl, rs_grown G75, trivial, _, rfl, br, cap, ex, hv75, BR, hcap, by
            rw [hv75] at S75
            rcases S75 with S75 | S75
            · exact .inl S75.symm
            · right; have := hR.2.2.2.1; have e : br = wq.heap.size := by simpa [Value.ownBlock] using S75
              omega⟩
        refine drs_nil (fun wq11 hR11 hpost11 => ?_)
        refine obl_e rfl rfl ?_
        refine obl_e rfl rfl ?_
        refine obl_e rfl rfl ?_
        refine obl_e rfl rfl ?_
        refine obl_e rfl rfl ?_
        refine obl_x rfl ?_
        refine obl_g rfl (fun v75 hn75 => ?_)
        refine obl_done ?_
        simp only [List.drop_succ_cons, List.drop_zero, List.drop_nil, List.toList_toArray]
        obtain ⟨br, cap, ex, rfl, BR, hcap, hbr⟩ := hn75
        have hmbr : (Ins b60 (Mo v55 (Ins b4 M))) br ∨ w13.heap.size ≤ br := hbr.elim (fun e => .inl (.inr (.inl e))) .inr
        have Lwq11 := Le.of_rs_to (Fz := Fz) (M := (Ins b60 (Mo v55 (Ins b4 M)))) (M' := (Ins b60 (Ins br (Ins b4 M)))) hR11 (fun k h => .inr (.inl h)) F55 (fun k hk => hk.elim (fun e => .inl (.inl e)) (fun hk => hk.elim (fun e => e ▸ hmbr) (fun c => .inl (.inr (.inr c))))) (fun k hk => hk.elim (fun e => .inl (.inl e)) (fun hk => hk.elim (fun e => .inr (e ▸ BR.lt)) (fun c => .inl (.inr (.inr c)))))
        have nFr : ¬ Fz br := fun c => hbr.elim (fun e => F55 _ e c) (fun e => by have := hF br c; omega)
        have xbr : ¬ (Ins b4 M) br := fun c => hbr.elim (fun e => X55 _ e c) (fun e => by have := hM br (.inr (.inr c)); omega)
        replace LL := LL.trans Lwq11
        replace hM := hM.mono Lwq11
        replace hF := hF.mono Lwq11
        replace h1 := h1.mono Lwq11
        replace h2 := h2.mono Lwq11
        replace Mk := Mk.mono Lwq11
        replace ho15 := ho15.mono Lwq11
        replace hn15 := hn15.mono Lwq11
        replace ho17 := ho17.mono Lwq11
        replace hn17 := hn17.mono Lwq11
        replace hn58 := hn58.mono Lwq11
        replace B4 := B4.rs hR11 (fun c => X55 _ c ins_here)
        replace B60 := B60.rs hR11 (fun c => by have := (O55q.lt _ c).2; have := N60.at_; omega)
        have ne60_r : b60 ≠ br := blk_ne B60 BR (.inl rfl); have ne4_r : b4 ≠ br := blk_ne B4 BR (.inl rfl)
        refine ops_nilck rfl rfl ?_
        refine ops_field0 0 rfl Try.underlying68 rfl rfl sz23 rfl rfl ?_
        refine ops_storei (i := 0) rfl rfl sz23 B60 (by first | rfl | exact own_one (by assumption) | exact nat_one (by assumption)) (by simp) (fun w14 Cw14 Bw14 => ?_)
        have Lw14 := Le.of_chg (Fz := Fz) (M := (Ins b60 (Ins br (Ins b4 M)))) Cw14 ins_here nF60
        replace LL := LL.trans Lw14
        replace hM := hM.mono Lw14
        replace hF := hF.mono Lw14
        replace h1 := h1.mono Lw14
        replace h2 := h2.mono Lw14
        replace Mk := Mk.mono Lw14
        replace ho15 := ho15.mono Lw14
        replace hn15 := hn15.mono Lw14
        replace ho17 := ho17.mono Lw14
        replace hn17 := hn17.mono Lw14
        replace hn58 := hn58.mono Lw14
        replace B4 := B4.other Cw14 ne4_60
        replace BR := BR.other Cw14 ne60_r.symm
        clear B60; have B60 := Bw14; clear Bw14
        replace B60 : Blk w14 b60 68 [.slice (some ⟨br, 0, none⟩) ((limbs (val xs)).length + 1) cap, v58] := B60
        refine ops_nil ?_
        refine SL.wp_seq ?_
        refine SL.wp_draw (R := Rb) (R' := Rb) (st := none) mixed 10 [4, 5, 6, 10, 11, 82, 87] (by decide +kernel) rb_trans rb_self (rb_drew _) (fun _ _ _ h => by cases h) ?_
        apply drs_ex
        · intro wq hR hst
          refine obl_e rfl rfl ?_
          refine obl_done ?_
          have Lq := Le.of_below (Fz := Fz) (M := (Ins b60 (Ins br (Ins b4 M)))) hR
          replace LL := LL.trans Lq
          replace hM := hM.mono Lq
          replace hF := hF.mono Lq
          replace h1 := h1.mono Lq
          replace h2 := h2.mono Lq
          replace Mk := Mk.mono Lq
          replace ho15 := ho15.mono Lq
          replace hn15 := hn15.mono Lq
          replace ho17 := ho17.mono Lq
          replace hn17 := hn17.mono Lq
          replace hn58 := hn58.mono Lq
          replace B4 := B4.below hR
          replace B60 := B60.below hR
          replace BR := BR.below hR
          refine ops_move rfl rfl ?_
          exact ops_nil ⟨rfl, rb_refl _, _, rfl, rfl⟩
        apply drs_ex
        · intro wq hR hst
          refine obl_x rfl ?_
          refine obl_done ?_
          have Lq := Le.of_below (Fz := Fz) (M := (Ins b60 (Ins br (Ins b4 M)))) hR
          replace LL := LL.trans Lq
          replace hM := hM.mono Lq
          replace hF := hF.mono Lq
          replace h1 := h1.mono Lq
          replace h2 := h2.mono Lq
          replace Mk := Mk.mono Lq
          replace ho15 := ho15.mono Lq
          replace hn15 := hn15.mono Lq
          replace ho17 := ho17.mono Lq
          replace hn17 := hn17.mono Lq
          replace hn58 := hn58.mono Lq
          replace B4 := B4.below hR
          replace B60 := B60.below hR
          replace BR := BR.below hR
          refine ops_nilck rfl rfl ?_
          exact ops_nil ⟨rfl, rb_refl _, _, rfl, rfl⟩
        apply drs_ex
        · intro wq hR hst
          refine obl_x rfl ?_
          refine obl_done ?_
          have Lq := Le.of_below (Fz := Fz) (M := (Ins b60 (Ins br (Ins b4 M)))) hR
          replace LL := LL.trans Lq
          replace hM := hM.mono Lq
          replace hF := hF.mono Lq
          replace h1 := h1.mono Lq
          replace h2 := h2.mono Lq
          replace Mk := Mk.mono Lq
          replace ho15 := ho15.mono Lq
          replace hn15 := hn15.mono Lq
          replace ho17 := ho17.mono Lq
          replace hn17 := hn17.mono Lq
          replace hn58 := hn58.mono Lq
          replace B4 := B4.below hR
          replace B60 := B60.below hR
          replace BR := BR.below hR
          refine ops_field0 0 rfl Try.underlying68 rfl rfl sz23 rfl rfl ?_
          exact ops_nil ⟨rfl, rb_refl _, _, rfl, rfl⟩
        apply drs_ex
        · intro wq hR hst
          refine obl_x rfl ?_
          refine obl_done ?_
          have Lq := Le.of_below (Fz := Fz) (M := (Ins b60 (Ins br (Ins b4 M)))) hR
          replace LL := LL.trans Lq
          replace hM := hM.mono Lq
          replace hF := hF.mono Lq
          replace h1 := h1.mono Lq
          replace h2 := h2.mono Lq
          replace Mk := Mk.mono Lq
          replace ho15 := ho15.mono Lq
          replace hn15 := hn15.mono Lq
          replace ho17 := ho17.mono Lq
          replace hn17 := hn17.mono Lq
          replace hn58 := hn58.mono Lq
          replace B4 := B4.below hR
          replace B60 := B60.below hR
          replace BR := BR.below hR
          refine ops_loadb rfl flat23 rfl B60 rfl ?_
          exact ops_nil ⟨rfl, rb_refl _, _, rfl, rfl⟩
        apply drs_ex
        · intro wq hR hst
          refine obl_x rfl ?_
          refine obl_done ?_
          have Lq := Le.of_below (Fz := Fz) (M := (Ins b60 (Ins br (Ins b4 M)))) hR
          replace LL := LL.trans Lq
          replace hM := hM.mono Lq
          replace hF := hF.mono Lq
          replace h1 := h1.mono Lq
          replace h2 := h2.mono Lq
          replace Mk := Mk.mono Lq
          replace ho15 := ho15.mono Lq
          replace hn15 := hn15.mono Lq
          replace ho17 := ho17.mono Lq
          replace hn17 := hn17.mono Lq
          replace hn58 := hn58.mono Lq
          replace B4 := B4.below hR
          replace B60 := B60.below hR
          replace BR := BR.below hR
          first | refine ops_len rfl Try.underlying23 rfl ?_ | refine ops_lens rfl Try.underlying23 rfl (IsNat.slc (by assumption)) ?_ | refine ops_lenn rfl Try.underlying23 rfl (by assumption) ?_ | refine ops_leno rfl Try.underlying23 rfl (by assumption) ?_
          exact ops_nil ⟨rfl, rb_refl _, _, rfl, rfl⟩
        apply drs_ex
        · intro wq hR hst
          refine obl_e rfl rfl ?_
          refine obl_done ?_
          have Lq := Le.of_below (Fz := Fz) (M := (Ins b60 (Ins br (Ins b4 M)))) hR
          replace LL := LL.trans Lq
          replace hM := hM.mono Lq
          replace hF := hF.mono Lq
          replace h1 := h1.mono Lq
          replace h2 := h2.mono Lq
          replace Mk := Mk.mono Lq
          replace ho15 := ho15.mono Lq
          replace hn15 := hn15.mono Lq
          replace ho17 := ho17.mono Lq
          replace hn17 := hn17.mono Lq
          replace hn58 := hn58.mono Lq
          replace B4 := B4.below hR
          replace B60 := B60.below hR
          replace BR := BR.below hR
          refine ops_move rfl rfl ?_
          exact ops_nil ⟨rfl, rb_refl _, _, rfl, rfl⟩
        apply drs_ex
        · intro wq hR hst
          refine obl_x rfl ?_
          refine obl_done ?_
          have Lq := Le.of_below (Fz := Fz) (M := (Ins b60 (Ins br (Ins b4 M)))) hR
          replace LL := LL.trans Lq
          replace hM := hM.mono Lq
          replace hF := hF.mono Lq
          replace h1 := h1.mono Lq
          replace h2 := h2.mono Lq
          replace Mk := Mk.mono Lq
          replace ho15 := ho15.mono Lq
          replace hn15 := hn15.mono Lq
          replace ho17 := ho17.mono Lq
          replace hn17 := hn17.mono Lq
          replace hn58 := hn58.mono Lq
          replace B4 := B4.below hR
          replace B60 := B60.below hR
          replace BR := BR.below hR
          refine ops_nilck rfl rfl ?_
          exact ops_nil ⟨rfl, rb_refl _, _, rfl, rfl⟩
        apply drs_ex
        · intro wq hR hst
          refine obl_x rfl ?_
          refine obl_done ?_
          have Lq := Le.of_below (Fz := Fz) (M := (Ins b60 (Ins br (Ins b4 M)))) hR
          replace LL := LL.trans Lq
          replace hM := hM.mono Lq
          replace hF := hF.mono Lq
          replace h1 := h1.mono Lq
          replace h2 := h2.mono Lq
          replace Mk := Mk.mono Lq
          replace ho15 := ho15.mono Lq
          replace hn15 := hn15.mono Lq
          replace ho17 := ho17.mono Lq
          replace hn17 := hn17.mono Lq
          replace hn58 := hn58.mono Lq
          replace B4 := B4.below hR
          replace B60 := B60.below hR
          replace BR := BR.below hR
          refine ops_field0 1 rfl Try.underlying68 rfl rfl sz23 rfl rfl ?_
          exact ops_nil ⟨rfl, rb_refl _, _, rfl, rfl⟩
        apply drs_ex
        · intro wq hR hst
          refine obl_x rfl ?_
          refine obl_done ?_
          have Lq := Le.of_below (Fz := Fz) (M := (Ins b60 (Ins br (Ins b4 M)))) hR
          replace LL := LL.trans Lq
          replace hM := hM.mono Lq
          replace hF := hF.mono Lq
          replace h1 := h1.mono Lq
          replace h2 := h2.mono Lq
          replace Mk := Mk.mono Lq
          replace ho15 := ho15.mono Lq
          replace hn15 := hn15.mono Lq
          replace ho17 := ho17.mono Lq
          replace hn17 := hn17.mono Lq
          replace hn58 := hn58.mono Lq
          replace B4 := B4.below hR
          replace B60 := B60.below hR
          replace BR := BR.below hR
          refine ops_loadb rfl flat23 rfl B60 rfl ?_
          exact ops_nil ⟨rfl, rb_refl _, _, rfl, rfl⟩
        apply drs_ex
        · intro wq hR hst
          refine obl_x rfl ?_
          refine obl_done ?_
          have Lq := Le.of_below (Fz := Fz) (M := (Ins b60 (Ins br (Ins b4 M)))) hR
          replace LL := LL.trans Lq
          replace hM := hM.mono Lq
          replace hF := hF.mono Lq
          replace h1 := h1.mono Lq
          replace h2 := h2.mono Lq
          replace Mk := Mk.mono Lq
          replace ho15 := ho15.mono Lq
          replace hn15 := hn15.mono Lq
          replace ho17 := ho17.mono Lq
          replace hn17 := hn17.mono Lq
          replace hn58 := hn58.mono Lq
          replace B4 := B4.below hR
          replace B60 := B60.below hR
          replace BR := BR.below hR
          first | refine ops_len rfl Try.underlying23 rfl ?_ | refine ops_lens rfl Try.underlying23 rfl (IsNat.slc (by assumption)) ?_ | refine ops_lenn rfl Try.underlying23 rfl (by assumption) ?_ | refine ops_leno rfl Try.underlying23 rfl (by assumption) ?_
          exact ops_nil ⟨rfl, rb_refl _, _, rfl, rfl⟩
        refine drs_nil (fun wq12 hR12 hpost12 => ?_)
        refine obl_e rfl rfl ?_
        refine obl_e rfl rfl ?_
        refine obl_e rfl rfl ?_
        refine obl_e rfl rfl ?_
        refine obl_e rfl rfl ?_
        refine obl_x rfl ?_
        refine obl_x rfl ?_
        refine obl_done ?_
        simp only [List.drop_succ_cons, List.drop_zero, List.drop_nil, List.toList_toArray]
        have Lwq12 := Le.of_below (Fz := Fz) (M := (Ins b60 (Ins br (Ins b4 M)))) hR12
        replace LL := LL.trans Lwq12
        replace hM := hM.mono Lwq12
        replace hF := hF.mono Lwq12
        replace h1 := h1.mono Lwq12
        replace h2 := h2.mono Lwq12
        replace Mk := Mk.mono Lwq12
        replace ho15 := ho15.mono Lwq12
        replace hn15 := hn15.mono Lwq12
        replace ho17 := ho17.mono Lwq12
        replace hn17 := hn17.mono Lwq12
        replace hn58 := hn58.mono Lwq12
        replace B4 := B4.below hR12
        replace B60 := B60.below hR12
        replace BR := BR.below hR12
        refine ops_sub rfl rfl rfl (by omega) ?_
        refine ops_make ((((limbs (val xs)).length + 1) - (limbs (val ys * 2 ^ k)).length)) ((((limbs (val xs)).length + 1) - (limbs (val ys * 2 ^ k)).length)) rfl Try.underlying23 sz43 rfl rfl rfl (by omega) (by omega) (by omega) (by omega) (by omega) (fun w15 b89 N89 => ?_)
        have hBw15 := N89.below
        have nF89 := hF.new N89; have nM89 := hM.new N89
        have Lw15 := Le.of_new (Fz := Fz) (M := (Ins b60 (Ins br (Ins b4 M)))) N89
        have lt4_89 := B4.lt; replace B4 := B4.below hBw15; have ne4_89 : b4 ≠ b89 := by have := N89.at_; omega
        have lt60_89 := B60.lt; replace B60 := B60.below hBw15; have ne60_89 : b60 ≠ b89 := by have := N89.at_; omega
        have ltr_89 := BR.lt; replace BR := BR.below hBw15; have ne89_r : b89 ≠ br := by have := N89.at_; omega
        replace LL := LL.trans Lw15
        replace hM := hM.mono Lw15
        replace hF := hF.mono Lw15
        replace h1 := h1.mono Lw15
        replace h2 := h2.mono Lw15
        replace Mk := Mk.mono Lw15
        replace ho15 := ho15.mono Lw15
        replace hn15 := hn15.mono Lw15
        replace ho17 := ho17.mono Lw15
        replace hn17 := hn17.mono Lw15
        replace hn58 := hn58.mono Lw15
        have B89 := N89.blk
        replace B89 : Blk w15 b89 43 ((List.replicate (((limbs (val xs)).length + 1) - (limbs (val ys * 2 ^ k)).length) 0).map lw) := by simpa [lw] using B89
        have hmr : (Ins b89 (Ins b60 (Ins br (Ins b4 M)))) br := .inr (.inr ins_here)
        have hvrs : val ((limbs (val xs * 2 ^ k)) ++ List.replicate (((limbs (val xs)).length + 1) - (limbs (val xs * 2 ^ k)).length) 0) = (val xs * 2 ^ k) := val_pad _ _
        have hv58 : val (limbs (val ys * 2 ^ k)) = (val ys * 2 ^ k) := val_limbs _
        have hrl : ((limbs (val xs * 2 ^ k)) ++ List.replicate (((limbs (val xs)).length + 1) - (limbs (val xs * 2 ^ k)).length) 0).length = ((limbs (val xs)).length + 1) := by rw [List.length_append, List.length_replicate]; omega
        have hrlt : ∀ x ∈ ((limbs (val xs * 2 ^ k)) ++ List.replicate (((limbs (val xs)).length + 1) - (limbs (val xs * 2 ^ k)).length) 0), x < 4294967296 := fun x hx => by
          rcases List.mem_append.1 hx with h | h
          · exact limbs_lt _ x h
          · have := (List.mem_replicate.1 h).2; omega
        have hvr : val ((limbs (val xs * 2 ^ k)) ++ List.replicate (((limbs (val xs)).length + 1) - (limbs (val xs * 2 ^ k)).length) 0) < 4294967296 ^ (((limbs (val xs)).length + 1) - (limbs (val ys * 2 ^ k)).length) * val (limbs (val ys * 2 ^ k)) := by rw [hvrs, hv58, hnb.1]; exact hrm
        refine ops_store1 rfl rfl sz23 B4 (by first | rfl | exact own_one (by assumption) | exact nat_one (by assumption)) (fun w16 Cw16 Bw16 => ?_)
        have Lw16 := Le.of_chg (Fz := Fz) (M := (Ins b89 (Ins b60 (Ins br (Ins b4 M))))) Cw16 (.inr (.inr (.inr ins_here))) nF4
        replace LL := LL.trans Lw16
        replace hM := hM.mono Lw16
        replace hF := hF.mono Lw16
        replace h1 := h1.mono Lw16
        replace h2 := h2.mono Lw16
        replace Mk := Mk.mono Lw16
        replace ho15 := ho15.mono Lw16
        replace hn15 := hn15.mono Lw16
        replace ho17 := ho17.mono Lw16
        replace hn17 := hn17.mono Lw16
        replace hn58 := hn58.mono Lw16
        replace B60 := B60.other Cw16 ne4_60.symm
        replace BR := BR.other Cw16 ne4_r.symm
        replace B89 := B89.other Cw16 ne4_89.symm
        clear B4; have B4 := Bw16; clear Bw16
        refine ops_nil ?_
        refine SL.wp_seq ?_
        refine SL.wp_seq ?_
        refine SL.wp_region ?_
        refine ops_move rfl rfl ?_
        refine ops_callv rfl bod71 rfl rfl ?_
        refine (qlimbs_c (M := (fun k => k = b89 ∨ k = br)) (T := (· = br)) (m := (((limbs (val xs)).length + 1) - (limbs (val ys * 2 ^ k)).length)) (rs := ((limbs (val xs * 2 ^ k)) ++ List.replicate (((limbs (val xs)).length + 1) - (limbs (val xs * 2 ^ k)).length) 0)) (ys := (limbs (val ys * 2 ^ k))) hrl B60 BR (hn58.less (two_of ins_here (.inr (.inr ins_here)))) hrlt (by omega) hnb.2 (by omega) hvr (by omega) (by omega) (fun c => c.elim ne60_89 ne60_r) rfl (fun _ h => h) (fun k h => .inr h) (two_of B89.lt BR.lt)).mono ?_
        rintro v91 w17 ⟨hB91, cap91, rfl, hit91⟩
        have Lw17 := Le.of_below (Fz := Fz) (M := (Ins b89 (Ins b60 (Ins br (Ins b4 M))))) hB91
        replace LL := LL.trans Lw17
        replace hM := hM.mono Lw17
        replace hF := hF.mono Lw17
        replace h1 := h1.mono Lw17
        replace h2 := h2.mono Lw17
        replace Mk := Mk.mono Lw17
        replace ho15 := ho15.mono Lw17
        replace hn15 := hn15.mono Lw17
        replace ho17 := ho17.mono Lw17
        replace hn17 := hn17.mono Lw17
        replace hn58 := hn58.mono Lw17
        replace B4 := B4.below hB91
        replace B60 := B60.below hB91
        replace BR := BR.below hB91
        replace B89 := B89.below hB91
        refine ops_nil ?_
        refine SL.wp_block ?_
        have hbrl := BR.lt
        have hMS0 := hM
        have hszLL := LL.size
        have Mold0 := Mk.old (Nat.le_refl _)
        refine SL.wp_range (M := (fun k => k = b89 ∨ k = br)) (T := (· = br)) ((List.range (((limbs (val xs)).length + 1) - (limbs (val ys * 2 ^ k)).length)).map (fun j => ((((limbs (val xs)).length + 1) - (limbs (val ys * 2 ^ k)).length) - j - 1, val ((limbs (val xs * 2 ^ k)) ++ List.replicate (((limbs (val xs)).length + 1) - (limbs (val xs * 2 ^ k)).length) 0) / (4294967296 ^ ((((limbs (val xs)).length + 1) - (limbs (val ys * 2 ^ k)).length) - j - 1) * val (limbs (val ys * 2 ^ k))) % 4294967296))) (encB) rfl bod75 (hit91) (by rintro _ rfl; exact BR.lt) (trivial) (fun _ => rfl) rfl [(4, _)] (sub_cons rfl sub_nil) (fun pre w18 => Le Fz (Ins b89 (Ins b60 (Ins br (Ins b4 M)))) w17 (Ins b89 (Ins b60 (Ins br (Ins b4 M)))) w18 ∧ Keep (fun k => k = b89 ∨ k = br) w17 w18 ∧ Blk w18 b4 23 [.slice (some ⟨b89, 0, none⟩) (((limbs (val xs)).length + 1) - (limbs (val ys * 2 ^ k)).length) (((limbs (val xs)).length + 1) - (limbs (val ys * 2 ^ k)).length)] ∧ Blk w18 b60 68 [.slice (some ⟨br, 0, none⟩) ((limbs (val xs)).length + 1) cap, v58] ∧ ∃ zs : List Nat, Blk w18 b89 43 (zs.map lw) ∧ zs.length = (((limbs (val xs)).length + 1) - (limbs (val ys * 2 ^ k)).length) ∧ (∀ z ∈ zs, z < 4294967296) ∧ ∀ j, j < pre.length → zs.getD ((((limbs (val xs)).length + 1) - (limbs (val ys * 2 ^ k)).length) - j - 1) 0 = val ((limbs (val xs * 2 ^ k)) ++ List.replicate (((limbs (val xs)).length + 1) - (limbs (val xs * 2 ^ k)).length) 0) / (4294967296 ^ ((((limbs (val xs)).length + 1) - (limbs (val ys * 2 ^ k)).length) - j - 1) * val (limbs (val ys * 2 ^ k))) % 4294967296) (fun _ _ => False) (fun _ => False) (⟨Le.refl _ _ _, Keep.refl _ _, B4, B60, _, B89, by simp, by intro z hz; have := (List.mem_replicate.1 hz).2; omega, fun j hj => by simp at hj⟩) (fun pre w h => h.2.1) (fun pre w1 w2 hJ hd => (by obtain ⟨h1, h2, h3, h4, zs, h5, h6⟩ := hJ; exact ⟨h1.drift hd (Nat.le_refl _) (by rintro _ rfl; exact ⟨hmr, nFr⟩) (by rintro _ rfl; exact hmr), h2.drift hd (fun k h => .inr h), h3.drift hd ne4_r, h4.drift hd ne60_r, zs, h5.drift hd ne89_r, h6⟩)) (fun _ _ _ h _ => h) (fun _ _ h _ => h) (fun _ _ ⟨zs, h1, h2⟩ hd => ⟨zs, h1.drift hd (fun c => c), h2⟩) ?_ ?_ (fun _ _ h _ => h.elim) (fun _ h _ => h.elim)
        · intro pre x post l b w18 ρ δ hx hJ hnl hnb hl hb hbc
          clear BR
          obtain ⟨LS0, hKp, B4, B60, zs, B89, hzl, hzlt, hzd⟩ := hJ
          replace LL := LL.trans LS0
          replace hM := hM.mono LS0
          replace hF := hF.mono LS0
          replace h1 := h1.mono LS0
          replace h2 := h2.mono LS0
          replace Mk := Mk.mono LS0
          replace ho15 := ho15.mono LS0
          replace hn15 := hn15.mono LS0
          replace ho17 := ho17.mono LS0
          replace hn17 := hn17.mono LS0
          replace hn58 := hn58.mono LS0
          have RL : Rec (Ins b89 (Ins b60 (Ins br (Ins b4 M)))) w18 l (.loop ρ) := ⟨hl, (not_old hMS0 hnl)⟩
          have RB : Rec (Ins b89 (Ins b60 (Ins br (Ins b4 M)))) w18 b δ := ⟨hb, (not_old hMS0 hnb)⟩
          have hs1 : w18.heap.size ≤ w18.heap.size := Nat.le_refl _
          obtain ⟨hk', hxe⟩ := rng_split hx
          have hx1 : x.1 = (((limbs (val xs)).length + 1) - (limbs (val ys * 2 ^ k)).length) - pre.length - 1 := by rw [hxe]
          have hx2 : x.2 = val ((limbs (val xs * 2 ^ k)) ++ List.replicate (((limbs (val xs)).length + 1) - (limbs (val xs * 2 ^ k)).length) 0) / (4294967296 ^ ((((limbs (val xs)).length + 1) - (limbs (val ys * 2 ^ k)).length) - pre.length - 1) * val (limbs (val ys * 2 ^ k))) % 4294967296 := by rw [hxe]
          refine SL.wp_seq ?_
          refine SL.wp_region ?_
          refine ops_assign rfl rfl ?_
          refine ops_nil ?_
          refine SL.wp_region ?_
          refine ops_assign rfl rfl ?_
          refine ops_nil ?_
          refine ⟨RL.at_, RB.at_, rfl, fun w19 ρ' δ' hdr hl' hb' hbc' => ?_⟩
          replace LL := LL.drift0 hdr hszLL
          replace LS0 := LS0.drift0 hdr (Nat.le_refl _)
          replace hM := hM.drift hdr; replace hF := hF.drift hdr; replace hs1 := Nat.le_trans hs1 hdr.size
          replace h1 := h1.drift hdr noT
          replace h2 := h2.drift hdr noT
          replace ho15 := ho15.drift hdr noT
          replace hn15 := hn15.drift hdr noT
          replace ho17 := ho17.drift hdr noT
          replace hn17 := hn17.drift hdr noT
          replace hn58 := hn58.drift hdr noT
          replace RL : Rec (Ins b89 (Ins b60 (Ins br (Ins b4 M)))) w19 l (.loop ρ') := ⟨hl', RL.not⟩; replace RB : Rec (Ins b89 (Ins b60 (Ins br (Ins b4 M)))) w19 b δ' := ⟨hb', RB.not⟩
          replace B4 := B4.drift hdr (fun c => c)
          replace B60 := B60.drift hdr (fun c => c)
          replace B89 := B89.drift hdr (fun c => c)
          refine SL.wp_block ?_
          refine SL.wp_region ?_
          refine ops_loadb rfl flat23 rfl B4 rfl ?_
          refine ops_move rfl rfl ?_
          refine ops_move rfl rfl ?_
          refine ops_idxb0 (x.1) rfl Try.underlying23 sz43 rfl rfl rfl (by omega) ?_
          refine ops_storei (i := x.1) rfl rfl sz43 B89 rfl (by simp; omega) (fun w20 Cw20 BN => ?_)
          have C16 := Cw20
          have Lw20 := Le.of_chg (Fz := Fz) (M := (Ins b89 (Ins b60 (Ins br (Ins b4 M))))) Cw20 ins_here nF89
          replace LL := LL.trans Lw20
          replace LS0 := LS0.trans Lw20
          replace hM := hM.mono Lw20
          replace hF := hF.mono Lw20
          replace h1 := h1.mono Lw20
          replace h2 := h2.mono Lw20
          replace ho15 := ho15.mono Lw20
          replace hn15 := hn15.mono Lw20
          replace ho17 := ho17.mono Lw20
          replace hn17 := hn17.mono Lw20
          replace hn58 := hn58.mono Lw20
          replace RL := RL.mono Lw20
          replace RB := RB.mono Lw20
          replace hs1 := Nat.le_trans hs1 Lw20.size
          replace B4 := B4.other Cw20 ne4_89
          replace B60 := B60.other Cw20 ne60_89
          clear B89; have B89 : Blk w20 b89 43 ((zs.set x.1 x.2).map lw) := by rw [List.map_set]; exact BN
          refine ops_nil ?_
          refine ⟨RL.at_, RB.at_, hs1, by rintro _ rfl; exact (C16.other _ (Ne.symm ne89_r)).trans (hdr.low _ hbrl (fun c => c)), ?_⟩
          exact ⟨LS0, (hKp.drift hdr noT).chg C16 (.inl rfl), B4, B60, zs.set x.1 x.2, B89, by simp [hzl], set_lt hzlt (by omega), fun j hj => by
            rw [List.length_append, List.length_singleton] at hj
            by_cases e : j = pre.length
            · subst e; rw [← hx1, List.getD_eq_getElem?_getD, List.getElem?_set_self (by omega), hx1]; exact hx2
            · rw [val_set_ne (by omega)]; exact hzd j (by omega)⟩
        · intro w21 hJ hZ hDd
          clear BR
          obtain ⟨LS0, hKp, B4, B60, zs, B89, hzl, hzlt, hzd⟩ := hJ
          replace LL := LL.trans LS0
          replace hM := hM.mono LS0
          replace hF := hF.mono LS0
          replace h1 := h1.mono LS0
          replace h2 := h2.mono LS0
          replace Mk := Mk.mono LS0
          replace ho15 := ho15.mono LS0
          replace hn15 := hn15.mono LS0
          replace ho17 := ho17.mono LS0
          replace hn17 := hn17.mono LS0
          replace hn58 := hn58.mono LS0
          have hdd := hDd _ rfl rfl
          have RD : Rec (Ins b89 (Ins b60 (Ins br (Ins b4 M)))) w21 w17.heap.size (.deferred (some [])) := ⟨hdd, (not_old hMS0 (Nat.le_refl _))⟩
          replace Mk := Mk.cons hszLL RD Mold0
          obtain ⟨zr, BR, hzrl, hzrt, hzrv⟩ := hZ
          simp only [List.length_map, List.length_range] at hzd
          have hzq : val zs = val xs / val ys := by
            rw [quot_digits hzl (by rw [hv58]; exact Nat.mul_pos hyp (two_pow_pos k)) hvr hzd, hv58, hvrs, Nat.mul_div_mul_right _ _ (two_pow_pos k)]
          rw [hv58, hvrs] at hzrv
          refine SL.wp_seq ?_
          have hszd := LL.size
          refine SL.wp_draw (R := Rb) (R' := Rb) (st := none) mixed 8 [4, 5, 6, 99, 104, 105] (by decide +kernel) rb_trans rb_self (rb_drew _) (fun _ _ _ h => by cases h) ?_
          apply drs_ex
          · intro wq hR hst
            refine obl_e rfl rfl ?_
            refine obl_done ?_
            have Lq := Le.of_below (Fz := Fz) (M := (Ins b89 (Ins b60 (Ins br (Ins b4 M))))) hR
            replace LL := LL.trans Lq
            replace LS0 := LS0.trans Lq
            replace hM := hM.mono Lq
            replace hF := hF.mono Lq
            replace h1 := h1.mono Lq
            replace h2 := h2.mono Lq
            replace Mk := Mk.mono Lq
            replace ho15 := ho15.mono Lq
            replace hn15 := hn15.mono Lq
            replace ho17 := ho17.mono Lq
            replace hn17 := hn17.mono Lq
            replace hn58 := hn58.mono Lq
            replace B4 := B4.below hR
            replace B60 := B60.below hR
            replace B89 := B89.below hR
            replace BR := BR.below hR
            refine ops_loadb rfl flat23 rfl B4 rfl ?_
            exact ops_nil ⟨rfl, rb_refl _, _, rfl, rfl⟩
          refine drs_val (fun v w => SL.Own (Ins b89 (Ins b60 (Ins br (Ins b4 M)))) 43 w21 w v (limbs (val xs / val ys))) (fun v a b h r => h.mono (Fz := fun _ => False) (Le.of_below r)) (fun wq hR hst => ?_) ?_
          · refine obl_x rfl ?_
            refine obl_done ?_
            have Lq := Le.of_below (Fz := Fz) (M := (Ins b89 (Ins b60 (Ins br (Ins b4 M))))) hR
            replace LL := LL.trans Lq
            replace LS0 := LS0.trans Lq
            replace hM := hM.mono Lq
            replace hF := hF.mono Lq
            replace h1 := h1.mono Lq
            replace h2 := h2.mono Lq
            replace Mk := Mk.mono Lq
            replace ho15 := ho15.mono Lq
            replace hn15 := hn15.mono Lq
            replace ho17 := ho17.mono Lq
            replace hn17 := hn17.mono Lq
            replace hn58 := hn58.mono Lq
            replace B4 := B4.below hR
            replace B60 := B60.below hR
            replace B89 := B89.below hR
            replace BR := BR.below hR
            refine ops_callv rfl bod25 rfl rfl ?_
            have hq : IsNat (fun _ => False) wq (.slice (some ⟨b89, 0, none⟩) (((limbs (val xs)).length + 1) - (limbs (val ys * 2 ^ k)).length) (((limbs (val xs)).length + 1) - (limbs (val ys * 2 ^ k)).length)) zs := by have := blk_nat (M := fun _ => False) B89 (fun c => c) rfl (by omega) hzlt; rw [hzl] at this; exact this
            refine (trim_c (M := fun _ => False) (xs := zs) hq (by omega) (fun _ c => c.elim)).mono ?_
            rintro v99 w22 ⟨hB99, hf99⟩
            have hM99 := hM
            have Lw22 := Le.of_below (Fz := Fz) (M := (Ins b89 (Ins b60 (Ins br (Ins b4 M))))) hB99
            replace LL := LL.trans Lw22
            replace LS0 := LS0.trans Lw22
            replace hM := hM.mono Lw22
            replace hF := hF.mono Lw22
            replace h1 := h1.mono Lw22
            replace h2 := h2.mono Lw22
            replace Mk := Mk.mono Lw22
            replace ho15 := ho15.mono Lw22
            replace hn15 := hn15.mono Lw22
            replace ho17 := ho17.mono Lw22
            replace hn17 := hn17.mono Lw22
            replace hn58 := hn58.mono Lw22
            replace B4 := B4.below hB99
            replace B60 := B60.below hB99
            replace B89 := B89.below hB99
            replace BR := BR.below hB99
            rw [hzq] at hf99
            exact ops_nil ⟨rfl, hB99, _, rfl, SL.Own.of hf99 hM99 hR.size⟩
          apply drs_ex
          · intro wq hR hst
            refine obl_e rfl rfl ?_
            refine obl_done ?_
            have Lq := Le.of_below (Fz := Fz) (M := (Ins b89 (Ins b60 (Ins br (Ins b4 M))))) hR
            replace LL := LL.trans Lq
            replace LS0 := LS0.trans Lq
            replace hM := hM.mono Lq
            replace hF := hF.mono Lq
            replace h1 := h1.mono Lq
            replace h2 := h2.mono Lq
            replace Mk := Mk.mono Lq
            replace ho15 := ho15.mono Lq
            replace hn15 := hn15.mono Lq
            replace ho17 := ho17.mono Lq
            replace hn17 := hn17.mono Lq
            replace hn58 := hn58.mono Lq
            replace B4 := B4.below hR
            replace B60 := B60.below hR
            replace B89 := B89.below hR
            replace BR := BR.below hR
            refine ops_move rfl rfl ?_
            exact ops_nil ⟨rfl, rb_refl _, _, rfl, rfl⟩
          apply drs_ex
          · intro wq hR hst
            refine obl_x rfl ?_
            refine obl_done ?_
            have Lq := Le.of_below (Fz := Fz) (M := (Ins b89 (Ins b60 (Ins br (Ins b4 M))))) hR
            replace LL := LL.trans Lq
            replace LS0 := LS0.trans Lq
            replace hM := hM.mono Lq
            replace hF := hF.mono Lq
            replace h1 := h1.mono Lq
            replace h2 := h2.mono Lq
            replace Mk := Mk.mono Lq
            replace ho15 := ho15.mono Lq
            replace hn15 := hn15.mono Lq
            replace ho17 := ho17.mono Lq
            replace hn17 := hn17.mono Lq
            replace hn58 := hn58.mono Lq
            replace B4 := B4.below hR
            replace B60 := B60.below hR
            replace B89 := B89.below hR
            replace BR := BR.below hR
            refine ops_nilck rfl rfl ?_
            exact ops_nil ⟨rfl, rb_refl _, _, rfl, rfl⟩
          apply drs_ex
          · intro wq hR hst
            refine obl_x rfl ?_
            refine obl_done ?_
            have Lq := Le.of_below (Fz := Fz) (M := (Ins b89 (Ins b60 (Ins br (Ins b4 M))))) hR
            replace LL := LL.trans Lq
            replace LS0 := LS0.trans Lq
            replace hM := hM.mono Lq
            replace hF := hF.mono Lq
            replace h1 := h1.mono Lq
            replace h2 := h2.mono Lq
            replace Mk := Mk.mono Lq
            replace ho15 := ho15.mono Lq
            replace hn15 := hn15.mono Lq
            replace ho17 := ho17.mono Lq
            replace hn17 := hn17.mono Lq
            replace hn58 := hn58.mono Lq
            replace B4 := B4.below hR
            replace B60 := B60.below hR
            replace B89 := B89.below hR
            replace BR := BR.below hR
            refine ops_field0 0 rfl Try.underlying68 rfl rfl sz23 rfl rfl ?_
            exact ops_nil ⟨rfl, rb_refl _, _, rfl, rfl⟩
          apply drs_ex
          · intro wq hR hst
            refine obl_x rfl ?_
            refine obl_done ?_
            have Lq := Le.of_below (Fz := Fz) (M := (Ins b89 (Ins b60 (Ins br (Ins b4 M))))) hR
            replace LL := LL.trans Lq
            replace LS0 := LS0.trans Lq
            replace hM := hM.mono Lq
            replace hF := hF.mono Lq
            replace h1 := h1.mono Lq
            replace h2 := h2.mono Lq
            replace Mk := Mk.mono Lq
            replace ho15 := ho15.mono Lq
            replace hn15 := hn15.mono Lq
            replace ho17 := ho17.mono Lq
            replace hn17 := hn17.mono Lq
            replace hn58 := hn58.mono Lq
            replace B4 := B4.below hR
            replace B60 := B60.below hR
            replace B89 := B89.below hR
            replace BR := BR.below hR
            refine ops_loadb rfl flat23 rfl B60 rfl ?_
            exact ops_nil ⟨rfl, rb_refl _, _, rfl, rfl⟩
          refine drs_val (fun v w => SL.Own (Ins b89 (Ins b60 (Ins br (Ins b4 M)))) 43 w21 w v (limbs (val xs * 2 ^ k % (val ys * 2 ^ k)))) (fun v a b h r => h.mono (Fz := fun _ => False) (Le.of_below r)) (fun wq hR hst => ?_) ?_
          · refine obl_x rfl ?_
            refine obl_done ?_
            have Lq := Le.of_below (Fz := Fz) (M := (Ins b89 (Ins b60 (Ins br (Ins b4 M))))) hR
            replace LL := LL.trans Lq
            replace LS0 := LS0.trans Lq
            replace hM := hM.mono Lq
            replace hF := hF.mono Lq
            replace h1 := h1.mono Lq
            replace h2 := h2.mono Lq
            replace Mk := Mk.mono Lq
            replace ho15 := ho15.mono Lq
            replace hn15 := hn15.mono Lq
            replace ho17 := ho17.mono Lq
            replace hn17 := hn17.mono Lq
            replace hn58 := hn58.mono Lq
            replace B4 := B4.below hR
            replace B60 := B60.below hR
            replace B89 := B89.below hR
            replace BR := BR.below hR
            refine ops_callv rfl bod25 rfl rfl ?_
            have hq : IsNat (fun _ => False) wq (.slice (some ⟨br, 0, none⟩) ((limbs (val xs)).length + 1) cap) zr := by
              refine ⟨?_, hzrt⟩
              rw [hzrl, hrl]
              exact BR.slc (fun c => c) (by rw [List.length_map, hzrl, hrl, Nat.mul_one]) (fun j u hj => by rw [List.getElem?_append_left (List.getElem?_eq_some_iff.1 hj).1]; exact hj) (by omega) (by omega)
            refine (trim_c (M := fun _ => False) (xs := zr) hq (by omega) (fun _ c => c.elim)).mono ?_
            rintro v104 w23 ⟨hB104, hf104⟩
            have hM104 := hM
            have Lw23 := Le.of_below (Fz := Fz) (M := (Ins b89 (Ins b60 (Ins br (Ins b4 M))))) hB104
            replace LL := LL.trans Lw23
            replace LS0 := LS0.trans Lw23
            replace hM := hM.mono Lw23
            replace hF := hF.mono Lw23
            replace h1 := h1.mono Lw23
            replace h2 := h2.mono Lw23
            replace Mk := Mk.mono Lw23
            replace ho15 := ho15.mono Lw23
            replace hn15 := hn15.mono Lw23
            replace ho17 := ho17.mono Lw23
            replace hn17 := hn17.mono Lw23
            replace hn58 := hn58.mono Lw23
            replace B4 := B4.below hB104
            replace B60 := B60.below hB104
            replace B89 := B89.below hB104
            replace BR := BR.below hB104
            rw [hzrv] at hf104
            exact ops_nil ⟨rfl, hB104, _, rfl, SL.Own.of hf104 hM104 hR.size⟩
          apply drs_ex
          · intro wq hR hst
            refine obl_e rfl rfl ?_
            refine obl_done ?_
            have Lq := Le.of_below (Fz := Fz) (M := (Ins b89 (Ins b60 (Ins br (Ins b4 M))))) hR
            replace LL := LL.trans Lq
            replace LS0 := LS0.trans Lq
            replace hM := hM.mono Lq
            replace hF := hF.mono Lq
            replace h1 := h1.mono Lq
            replace h2 := h2.mono Lq
            replace Mk := Mk.mono Lq
            replace ho15 := ho15.mono Lq
            replace hn15 := hn15.mono Lq
            replace ho17 := ho17.mono Lq
            replace hn17 := hn17.mono Lq
            replace hn58 := hn58.mono Lq
            replace B4 := B4.below hR
            replace B60 := B60.below hR
            replace B89 := B89.below hR
            replace BR := BR.below hR
            refine ops_move rfl rfl ?_
            exact ops_nil ⟨rfl, rb_refl _, _, rfl, rfl⟩
          refine drs_nil (fun wq17 hR17 hpost17 => ?_)
          refine obl_e rfl rfl ?_
          refine obl_e rfl rfl ?_
          refine obl_e rfl rfl ?_
          refine obl_g rfl (fun v99 hn99 => ?_)
          refine obl_g rfl (fun v104 hn104 => ?_)
          refine obl_x rfl ?_
          refine obl_done ?_
          simp only [List.drop_succ_cons, List.drop_zero, List.drop_nil, List.toList_toArray]
          have Lwq17 := Le.of_below (Fz := Fz) (M := (Ins b89 (Ins b60 (Ins br (Ins b4 M))))) hR17
          replace LL := LL.trans Lwq17
          replace LS0 := LS0.trans Lwq17
          replace hM := hM.mono Lwq17
          replace hF := hF.mono Lwq17
          replace h1 := h1.mono Lwq17
          replace h2 := h2.mono Lwq17
          replace Mk := Mk.mono Lwq17
          replace ho15 := ho15.mono Lwq17
          replace hn15 := hn15.mono Lwq17
          replace ho17 := ho17.mono Lwq17
          replace hn17 := hn17.mono Lwq17
          replace hn58 := hn58.mono Lwq17
          replace B4 := B4.below hR17
          replace B60 := B60.below hR17
          replace B89 := B89.below hR17
          replace BR := BR.below hR17
          refine ops_callv rfl bod41 rfl rfl ?_
          refine (down_c (M := (Ins b89 (Ins b60 (Ins br (Ins b4 M))))) hn104.nat (by rw [← hzrv]; have := limbs_val_length_le zr hzrt; omega) hM).mono ?_
          rintro v106 w24 ⟨hB106, hf106⟩
          have hM106 := hM; have hS106 := LL.size
          have Lw24 := Le.of_below (Fz := Fz) (M := (Ins b89 (Ins b60 (Ins br (Ins b4 M))))) hB106
          replace LL := LL.trans Lw24
          replace LS0 := LS0.trans Lw24
          replace hM := hM.mono Lw24
          replace hF := hF.mono Lw24
          replace h1 := h1.mono Lw24
          replace h2 := h2.mono Lw24
          replace Mk := Mk.mono Lw24
          replace ho15 := ho15.mono Lw24
          replace hn15 := hn15.mono Lw24
          replace ho17 := ho17.mono Lw24
          replace hn17 := hn17.mono Lw24
          replace hn58 := hn58.mono Lw24
          replace hn99 := hn99.mono Lw24
          replace hn104 := hn104.mono Lw24
          replace B4 := B4.below hB106
          replace B60 := B60.below hB106
          replace B89 := B89.below hB106
          replace BR := BR.below hB106
          simp only [val_limbs, hkc] at hf106
          rw [rest_down hyp] at hf106
          have ho106 := SL.Own.of hf106 hM106 hS106; have hn106 := ho106.nat
          have ho99 := hn99.fresh.own
          refine ops_store1 rfl rfl sz23 B4 (by first | rfl | exact own_one (by assumption) | exact nat_one (by assumption)) (fun w25 Cw25 Bw25 => ?_)
          have Lw25 := Le.of_chg (Fz := Fz) (M := (Ins b89 (Ins b60 (Ins br (Ins b4 M))))) Cw25 (.inr (.inr (.inr ins_here))) nF4
          replace LL := LL.trans Lw25
          replace LS0 := LS0.trans Lw25
          replace hM := hM.mono Lw25
          replace hF := hF.mono Lw25
          replace h1 := h1.mono Lw25
          replace h2 := h2.mono Lw25
          replace Mk := Mk.mono Lw25
          replace ho15 := ho15.mono Lw25
          replace hn15 := hn15.mono Lw25
          replace ho17 := ho17.mono Lw25
          replace hn17 := hn17.mono Lw25
          replace hn58 := hn58.mono Lw25
          replace hn99 := hn99.mono Lw25
          replace hn104 := hn104.mono Lw25
          replace ho106 := ho106.mono Lw25
          replace hn106 := hn106.mono Lw25
          replace B60 := B60.other Cw25 ne4_60.symm
          replace B89 := B89.other Cw25 ne4_89.symm
          replace BR := BR.other Cw25 ne4_r.symm
          clear B4; have B4 := Bw25; clear Bw25
          refine ops_assign rfl rfl ?_
          refine ops_assign rfl rfl ?_
          refine ops_nil ?_
          refine SL.wp_ret ?_
          refine leave_marks Mk (fun wz hz => ⟨[_, _, _], ⟨⟨_, rfl, load_blk flat23 (B4.drift hz (fun c => c)) rfl⟩, rfl, rfl, trivial⟩, ?_⟩)
          dsimp only [resVal]
          have hq1 := hn99.fresh.less hszd; have hq2 := ho106.fresh
          subst hFz
          exact ⟨SL.Below.drift (LL.below (Nat.le_refl _)) hz (Nat.le_refl _), v99, v106, by rw [if_neg hy0], hq1.drift hz, by rw [if_neg hy0]; exact hq2.drift hz⟩

end Go.Proofs.Ytffakiheophioaa
