import Derived.Test.YtffakiheophioaaW11
import Derived.Test.YtffakiheophioaaSLp
import Derived.Test.YtffakiheophioaaSLo
import Derived.Test.YtffakiheophioaaSLn
set_option linter.unusedVariables false
set_option linter.unusedSimpArgs false
set_option maxRecDepth 100000
namespace Go.Proofs.Ytffakiheophioaa
open Go.SL Go.RowKit Go.Proofs

theorem rall_c {M : Nat → Prop} {w : World} {v : Value} {xss : List (List Nat)} (h : IsNats M w v xss) {L : Nat} (hL : L ≤ 1000) (hl : ∀ xs ∈ xss, xs.length ≤ L) (hn : xss.length ≤ 1000) (hM : OkM M w) :
    CallsV Try.prog 44 [v] w fun r w' => Below w.heap.size w w' ∧ IsNat M w' r (limbs (prodN (xss.map val))) := by
  obtain ⟨Fz, hFz⟩ : ∃ Fz : Nat → Prop, Fz = (· < w.heap.size) := ⟨_, rfl⟩
  have hF : FOk Fz w := by subst hFz; exact fun _ h => h
  have LL := Le.refl Fz M w; have hM0 := hM
  refine calls_intro Try.func44 rfl Try.ntmps44 rfl ?_
  refine SL.wp_seq ?_
  refine SL.wp_region ?_
  refine ops_assign rfl rfl ?_
  refine ops_nil ?_
  refine SL.wp_seq ?_
  refine SL.wp_region ?_
  refine ops_buildSlice rfl Try.underlying23 sz43 rfl rfl rfl (by simp [Value.oneCell', lw]) rfl (fun w1 b5 N5 => ?_)
  have hBw1 := N5.below
  have nM5 := hM.new N5; have B5 := N5.blk
  have Lw1 := Le.of_below (Fz := Fz) (M := M) hBw1
  replace LL := LL.trans Lw1
  replace hM := hM.mono Lw1
  replace hF := hF.mono Lw1
  replace h := h.mono Lw1
  have hn5 : IsNat M w1 (.slice (some ⟨b5, 0, none⟩) 1 1) [1] := blk_nat (xs := [1]) B5 nM5 rfl (by simp) (by simp)
  refine ops_assign rfl rfl ?_
  refine ops_nil ?_
  refine SL.wp_seq ?_
  refine SL.wp_seq ?_
  refine SL.wp_region ?_
  refine ops_assign rfl rfl ?_
  refine ops_nil ?_
  refine SL.wp_block ?_
  refine SL.wp_loopc (σ := Nat × Value) [(0, _)] (fun s => [(3, s.2), (4, .int .i64 ((s.1 : Nat) : Int))]) (fun s w2 => Le Fz M w1 M w2 ∧ s.1 ≤ xss.length ∧ IsNat M w2 s.2 (limbs (prodN ((xss.map val).take s.1))) ∧ (limbs (prodN ((xss.map val).take s.1))).length ≤ 1 + L * s.1) (fun s => xss.length - s.1) ((0, _)) (sub_cons rfl (sub_cons rfl (sub_cons rfl sub_nil))) ?_ (fun s w2 hJ => ?_)
  · dsimp only
    exact ⟨Le.refl _ _ _, by omega, by simpa [prodN, one_limbs] using hn5, by simp [prodN, one_limbs]⟩
  · obtain ⟨k, u⟩ := s
    dsimp only at hJ ⊢
    obtain ⟨LR, hk, hy, hyl⟩ := hJ
    have hLk : L * k ≤ 1000 * k := Nat.mul_le_mul_right _ hL
    have hLs : L * (k + 1) = L * k + L := Nat.mul_succ _ _
    have hq6 : (xss.getD k []).length ≤ L := by
      rcases Nat.lt_or_ge k xss.length with h | h
      · exact hl _ (by simp [List.getElem?_eq_getElem h])
      · simp [List.getElem?_eq_none h]
    replace LL := LL.trans LR
    replace hM := hM.mono LR
    replace hF := hF.mono LR
    replace h := h.mono LR
    replace hn5 := hn5.mono LR
    refine SL.wp_seq ?_
    refine SL.wp_seq ?_
    refine SL.wp_region ?_
    refine ops_move rfl rfl ?_
    refine ops_move rfl rfl ?_
    first | refine ops_len rfl Try.underlying24 rfl ?_ | refine ops_lens rfl Try.underlying24 rfl (IsNat.slc (by assumption)) ?_ | refine ops_lenn rfl Try.underlying24 rfl (by assumption) ?_ | refine ops_leno rfl Try.underlying24 rfl (by assumption) ?_
    refine ops_lt rfl rfl rfl ?_
    refine ops_nil ?_
    refine SL.wp_cond_d rfl (fun hc0 => ?_) (fun hc0 => ?_)
    · refine SL.wp_skip ?_
      refine SL.wp_seq ?_
      refine SL.wp_block ?_
      refine SL.wp_region ?_
      refine ops_move rfl rfl ?_
      refine ops_move rfl rfl ?_
      refine ops_move rfl rfl ?_
      refine ops_idxs (k) rfl Try.underlying24 sz23 rfl rfl (by assumption) (by omega) (by omega) (fun b15 o15 u15 hc15 hu15 => ?_)
      refine ops_load rfl flat23 rfl hc15 ?_
      refine ops_callv rfl bod43 rfl rfl ?_
      refine (rmul_c (M := M) (by assumption) (by assumption) (by omega) (by omega) hM).mono ?_
      rintro v17 w3 ⟨hB17, hf17⟩
      have hM17 := hM; have hS17 := LL.size
      have Lw3 := Le.of_below (Fz := Fz) (M := M) hB17
      replace LL := LL.trans Lw3
      replace LR := LR.trans Lw3
      replace hM := hM.mono Lw3
      replace hF := hF.mono Lw3
      replace h := h.mono Lw3
      replace hn5 := hn5.mono Lw3
      replace hy := hy.mono Lw3
      replace hu15 := hu15.mono Lw3
      have hn17 := hf17.nat hM17; replace hf17 := hf17.less hS17
      refine ops_assign rfl rfl ?_
      refine ops_nil ?_
      refine SL.wp_region ?_
      refine ops_move rfl rfl ?_
      refine ops_add rfl rfl rfl (by omega) ?_
      refine ops_assign rfl rfl ?_
      refine ops_nil ?_
      refine ⟨rfl, (k + 1, v17), (sub_cons' rfl (rfl) (sub_cons' rfl (by rw [Int.natCast_add]; rfl) (sub_cons rfl sub_nil))), ?_, ?_⟩
      dsimp only
      have hlm : (limbs (val (limbs (prodN ((xss.map val).take k))) * val (xss.getD k []))).length ≤ (1 + L * k) + L := mul_len (val_lt_pow (limbs_lt _) hyl) (val_lt_pow hu15.lt hq6)
      rw [val_limbs, ← prodN_take (by omega)] at hlm hn17
      exact ⟨LR, by omega, hn17, by omega⟩
      dsimp only
      omega
    · refine SL.wp_exit ?_
      refine upd_hit ?_
      refine SL.wp_seq ?_
      refine SL.wp_region ?_
      refine ops_move rfl rfl ?_
      refine ops_assign rfl rfl ?_
      refine ops_nil ?_
      refine SL.wp_ret ?_
      refine leave_nil ⟨[_], ⟨rfl, trivial⟩, ?_⟩
      dsimp only [resVal]
      subst hFz
      obtain rfl : k = xss.length := by omega
      rw [List.take_of_length_le (by simp)] at hy
      exact ⟨LL.below (Nat.le_refl _), hy⟩


theorem rby_c {M : Nat → Prop} {w : World} {v : Value} {xs : List Nat} {n : Nat} (h : IsNat M w v xs) (hn : n < 4294967296) (hl : xs.length ≤ 100000000) (hM : OkM M w) :
    CallsV Try.prog 45 [v, .int .u32 (n : Int)] w fun r w' => Below w.heap.size w w' ∧ Fresh 43 w w' r (limbs (val xs * n)) := by
  obtain ⟨Fz, hFz⟩ : ∃ Fz : Nat → Prop, Fz = (· < w.heap.size) := ⟨_, rfl⟩
  have hF : FOk Fz w := by subst hFz; exact fun _ h => h
  have LL := Le.refl Fz M w; have hM0 := hM
  refine calls_intro Try.func45 rfl Try.ntmps45 rfl ?_
  refine SL.wp_seq ?_
  refine SL.wp_region ?_
  refine ops_assign rfl rfl ?_
  refine ops_nil ?_
  refine SL.wp_seq ?_
  refine SL.wp_region ?_
  refine ops_move rfl rfl ?_
  refine ops_move rfl rfl ?_
  refine ops_buildSlice rfl Try.underlying23 sz43 rfl rfl rfl (by simp [Value.oneCell']) rfl (fun w1 b7 N7 => ?_)
  have hBw1 := N7.below
  have nM7 := hM.new N7; have B7 := N7.blk
  have Lw1 := Le.of_below (Fz := Fz) (M := M) hBw1
  replace LL := LL.trans Lw1
  replace hM := hM.mono Lw1
  replace hF := hF.mono Lw1
  replace h := h.mono Lw1
  have hn7 : IsNat M w1 (.slice (some ⟨b7, 0, none⟩) 1 1) [n] := blk_nat (xs := [n]) B7 nM7 rfl (by simp) (by simpa using hn)
  refine ops_callv rfl bod43 rfl rfl ?_
  refine (rmul_c (M := M) h hn7 (by omega) (by simp) hM).mono ?_
  rintro v8 w2 ⟨hB8, hf8⟩
  have hM8 := hM; have hS8 := LL.size
  have Lw2 := Le.of_below (Fz := Fz) (M := M) hB8
  replace LL := LL.trans Lw2
  replace hM := hM.mono Lw2
  replace hF := hF.mono Lw2
  replace h := h.mono Lw2
  replace hn7 := hn7.mono Lw2
  have hn8 := hf8.nat hM8; replace hf8 := hf8.less hS8
  refine ops_assign rfl rfl ?_
  refine ops_nil ?_
  refine SL.wp_ret ?_
  refine leave_nil ⟨[_], ⟨rfl, trivial⟩, ?_⟩
  dsimp only [resVal]
  subst hFz
  rw [show val [n] = n by simp [val]] at hf8
  exact ⟨LL.below (Nat.le_refl _), hf8⟩


theorem rbits_c {M : Nat → Prop} {w : World} {v : Value} {xs : List Nat} (h : IsNat M w v xs) (hl : xs.length ≤ 100000000) (hM : OkM M w) :
    CallsV Try.prog 46 [v] w fun r w' => Below w.heap.size w w' ∧ r = .int .i64 ((bitsN (val xs) : Nat) : Int) := by
  obtain ⟨Fz, hFz⟩ : ∃ Fz : Nat → Prop, Fz = (· < w.heap.size) := ⟨_, rfl⟩
  have hF : FOk Fz w := by subst hFz; exact fun _ h => h
  have hln := limbs_val_length_le xs h.lt
  have LL := Le.refl Fz M w; have hM0 := hM
  refine calls_intro Try.func46 rfl Try.ntmps46 rfl ?_
  refine SL.wp_seq ?_
  refine SL.wp_region ?_
  refine ops_assign rfl rfl ?_
  refine ops_nil ?_
  refine SL.wp_seq ?_
  refine SL.wp_region ?_
  refine ops_move rfl rfl ?_
  refine ops_callv rfl bod26 rfl rfl ?_
  refine (rtrim_c (M := M) (by assumption) (by omega) hM).mono ?_
  rintro v6 w1 ⟨hB6, hf6⟩
  have hM6 := hM; have hS6 := LL.size
  have Lw1 := Le.of_below (Fz := Fz) (M := M) hB6
  replace LL := LL.trans Lw1
  replace hM := hM.mono Lw1
  replace hF := hF.mono Lw1
  replace h := h.mono Lw1
  have hn6 := hf6.nat hM6; replace hf6 := hf6.less hS6
  refine ops_assign rfl rfl ?_
  refine ops_nil ?_
  refine SL.wp_seq ?_
  refine SL.wp_seq ?_
  refine SL.wp_region ?_
  refine ops_move rfl rfl ?_
  first | refine ops_len rfl Try.underlying23 rfl ?_ | refine ops_lens rfl Try.underlying23 rfl (IsNat.slc (by assumption)) ?_ | refine ops_lenn rfl Try.underlying23 rfl (by assumption) ?_ | refine ops_leno rfl Try.underlying23 rfl (by assumption) ?_
  refine ops_eq rfl rfl rfl ?_
  refine ops_nil ?_
  refine SL.wp_cond_d rfl (fun hc0 => ?_) (fun hc0 => ?_)
  · refine SL.wp_seq ?_
    refine SL.wp_region ?_
    refine ops_assign rfl rfl ?_
    refine ops_nil ?_
    refine SL.wp_ret ?_
    refine leave_nil ⟨[_], ⟨rfl, trivial⟩, ?_⟩
    dsimp only [resVal]
    subst hFz
    have e : limbs (val xs) = [] := List.length_eq_zero_iff.1 (by omega)
    rw [limbs_eq_nil] at e
    exact ⟨LL.below (Nat.le_refl _), by rw [e]; rfl⟩
  · have hne : limbs (val xs) ≠ [] := fun e => by rw [e] at hc0; simp at hc0
    have htop := getD_lt (limbs_lt (val xs)) ((limbs (val xs)).length - 1)
    refine SL.wp_skip ?_
    refine SL.wp_seq ?_
    refine SL.wp_region ?_
    refine ops_move rfl rfl ?_
    first | refine ops_len rfl Try.underlying23 rfl ?_ | refine ops_lens rfl Try.underlying23 rfl (IsNat.slc (by assumption)) ?_ | refine ops_lenn rfl Try.underlying23 rfl (by assumption) ?_ | refine ops_leno rfl Try.underlying23 rfl (by assumption) ?_
    refine ops_sub rfl rfl rfl (by omega) ?_
    refine ops_mul rfl rfl rfl (by omega) ?_
    refine ops_assign rfl rfl ?_
    refine ops_nil ?_
    refine SL.wp_seq ?_
    refine SL.wp_seq ?_
    refine SL.wp_region ?_
    refine ops_move rfl rfl ?_
    refine ops_move rfl rfl ?_
    first | refine ops_len rfl Try.underlying23 rfl ?_ | refine ops_lens rfl Try.underlying23 rfl (IsNat.slc (by assumption)) ?_ | refine ops_lenn rfl Try.underlying23 rfl (by assumption) ?_ | refine ops_leno rfl Try.underlying23 rfl (by assumption) ?_
    refine ops_sub rfl rfl rfl (by omega) ?_
    refine ops_idxn ((limbs (val xs)).length - 1) rfl Try.underlying23 sz43 rfl rfl (by assumption) (by omega) (by omega) (fun b18 o18 hc18 hb18 => ?_)
    refine ops_load rfl flat43 rfl hc18 ?_
    refine ops_assign rfl rfl ?_
    refine ops_nil ?_
    refine SL.wp_block ?_
    refine SL.wp_loopc (σ := Nat × Nat) [] (fun s => [(3, .int .i64 ((32 * ((limbs (val xs)).length - 1) + s.1 : Nat) : Int)), (4, .int .u32 ((s.2 : Nat) : Int))]) (fun s w2 => Le Fz M w1 M w2 ∧ s.2 < 4294967296 ∧ s.1 + s.2 ≤ 4294967296 ∧ s.1 + bitsN s.2 = bitsN ((limbs (val xs)).getD ((limbs (val xs)).length - 1) 0)) (fun s => s.2) ((0, (limbs (val xs)).getD ((limbs (val xs)).length - 1) 0)) (sub_cons' rfl (by congr 1; omega) (sub_cons rfl sub_nil)) ?_ (fun s w2 hJ => ?_)
    · dsimp only
      exact ⟨Le.refl _ _ _, by omega, by omega, by omega⟩
    · obtain ⟨c, t⟩ := s
      dsimp only at hJ ⊢
      obtain ⟨LR, ht, hct, hb⟩ := hJ
      replace LL := LL.trans LR
      replace hM := hM.mono LR
      replace hF := hF.mono LR
      replace h := h.mono LR
      replace hn6 := hn6.mono LR
      refine SL.wp_seq ?_
      refine SL.wp_seq ?_
      refine SL.wp_region ?_
      refine ops_move rfl rfl ?_
      refine ops_gt rfl rfl rfl ?_
      refine ops_nil ?_
      refine SL.wp_cond_d rfl (fun hc1 => ?_) (fun hc1 => ?_)
      · refine SL.wp_skip ?_
        refine SL.wp_seq ?_
        refine SL.wp_block ?_
        refine SL.wp_region ?_
        refine ops_move rfl rfl ?_
        refine ops_add rfl rfl rfl (by omega) ?_
        refine ops_assign rfl rfl ?_
        refine ops_nil ?_
        refine SL.wp_region ?_
        refine ops_move rfl rfl ?_
        refine ops_quo32 (b := 2) rfl rfl rfl (by omega) (by omega) ?_
        refine ops_assign rfl rfl ?_
        refine ops_nil ?_
        refine ⟨rfl, (c + 1, t / 2), (sub_cons' rfl (by congr 1) (sub_cons' rfl (rfl) sub_nil)), ?_, ?_⟩
        dsimp only
        have := bitsN_half (n := t) (by omega)
        exact ⟨LR, by omega, by omega, by omega⟩
        dsimp only
        omega
      · refine SL.wp_exit ?_
        refine upd_hit ?_
        refine SL.wp_seq ?_
        refine SL.wp_region ?_
        refine ops_move rfl rfl ?_
        refine ops_assign rfl rfl ?_
        refine ops_nil ?_
        refine SL.wp_ret ?_
        refine leave_nil ⟨[_], ⟨rfl, trivial⟩, ?_⟩
        dsimp only [resVal]
        subst hFz
        obtain rfl : t = 0 := by omega
        rw [bitsN_zero] at hb
        exact ⟨LL.below (Nat.le_refl _), by rw [bits_limbs hne, ← hb]; congr 1⟩


theorem rpow_c {M : Nat → Prop} {w : World} {v : Value} {xs : List Nat} {j : Int} (h : IsNat M w v xs) (hl : xs.length ≤ 1000) (hM : OkM M w) :
    CallsV Try.prog 47 [v, .int .i64 j] w fun r w' => Below w.heap.size w w' ∧ IsNat M w' r (limbs (val xs ^ cntN j 256)) := by
  obtain ⟨Fz, hFz⟩ : ∃ Fz : Nat → Prop, Fz = (· < w.heap.size) := ⟨_, rfl⟩
  have hF : FOk Fz w := by subst hFz; exact fun _ h => h
  have hcc := (cntN_is (k := j) (m := 256) (by omega)).2.2
  have hvl := val_lt_pow h.lt hl
  have LL := Le.refl Fz M w; have hM0 := hM
  refine calls_intro Try.func47 rfl Try.ntmps47 rfl ?_
  refine SL.wp_seq ?_
  refine SL.wp_region ?_
  refine ops_assign rfl rfl ?_
  refine ops_nil ?_
  refine SL.wp_seq ?_
  refine SL.wp_region ?_
  refine ops_buildSlice rfl Try.underlying23 sz43 rfl rfl rfl (by simp [Value.oneCell', lw]) rfl (fun w1 b7 N7 => ?_)
  have hBw1 := N7.below
  have nM7 := hM.new N7; have B7 := N7.blk
  have Lw1 := Le.of_below (Fz := Fz) (M := M) hBw1
  replace LL := LL.trans Lw1
  replace hM := hM.mono Lw1
  replace hF := hF.mono Lw1
  replace h := h.mono Lw1
  have hn7 : IsNat M w1 (.slice (some ⟨b7, 0, none⟩) 1 1) [1] := blk_nat (xs := [1]) B7 nM7 rfl (by simp) (by simp)
  refine ops_assign rfl rfl ?_
  refine ops_nil ?_
  refine SL.wp_seq ?_
  refine SL.wp_seq ?_
  refine SL.wp_region ?_
  refine ops_assign rfl rfl ?_
  refine ops_nil ?_
  refine SL.wp_block ?_
  refine SL.wp_loopc (σ := Nat × Value) [(0, _), (1, _)] (fun s => [(5, s.2), (6, .int .i64 ((s.1 : Nat) : Int))]) (fun s w2 => Le Fz M w1 M w2 ∧ s.1 ≤ cntN j 256 ∧ IsNat M w2 s.2 (limbs (val xs ^ s.1))) (fun s => cntN j 256 - s.1) ((0, _)) (sub_cons rfl (sub_cons rfl (sub_cons rfl (sub_cons rfl sub_nil)))) ?_ (fun s w2 hJ => ?_)
  · dsimp only
    exact ⟨Le.refl _ _ _, by omega, by simpa [one_limbs] using hn7⟩
  · obtain ⟨k, u⟩ := s
    dsimp only at hJ ⊢
    obtain ⟨LR, hk, hy⟩ := hJ
    have hyl := limbs_length_le (pow_lt_pow hvl k)
    replace LL := LL.trans LR
    replace hM := hM.mono LR
    replace hF := hF.mono LR
    replace h := h.mono LR
    replace hn7 := hn7.mono LR
    refine SL.wp_seq ?_
    refine SL.wp_seq ?_
    refine SL.wp_region ?_
    refine ops_move rfl rfl ?_
    refine ops_move rfl rfl ?_
    refine ops_callv rfl bod68 rfl rfl ?_
    refine (rcount_c (M := M) (by omega) hM).mono ?_
    rintro v10 w3 ⟨hB10, rfl⟩
    have Lw3 := Le.of_below (Fz := Fz) (M := M) hB10
    replace LL := LL.trans Lw3
    replace LR := LR.trans Lw3
    replace hM := hM.mono Lw3
    replace hF := hF.mono Lw3
    replace h := h.mono Lw3
    replace hn7 := hn7.mono Lw3
    replace hy := hy.mono Lw3
    refine ops_lt rfl rfl rfl ?_
    refine ops_nil ?_
    refine SL.wp_cond_d rfl (fun hc0 => ?_) (fun hc0 => ?_)
    · refine SL.wp_skip ?_
      refine SL.wp_seq ?_
      refine SL.wp_block ?_
      refine SL.wp_region ?_
      refine ops_move rfl rfl ?_
      refine ops_move rfl rfl ?_
      refine ops_callv rfl bod43 rfl rfl ?_
      refine (rmul_c (M := M) (by assumption) (by assumption) (by omega) (by omega) hM).mono ?_
      rintro v16 w4 ⟨hB16, hf16⟩
      have hM16 := hM; have hS16 := LL.size
      have Lw4 := Le.of_below (Fz := Fz) (M := M) hB16
      replace LL := LL.trans Lw4
      replace LR := LR.trans Lw4
      replace hM := hM.mono Lw4
      replace hF := hF.mono Lw4
      replace h := h.mono Lw4
      replace hn7 := hn7.mono Lw4
      replace hy := hy.mono Lw4
      have hn16 := hf16.nat hM16; replace hf16 := hf16.less hS16
      refine ops_assign rfl rfl ?_
      refine ops_nil ?_
      refine SL.wp_region ?_
      refine ops_move rfl rfl ?_
      refine ops_add rfl rfl rfl (by omega) ?_
      refine ops_assign rfl rfl ?_
      refine ops_nil ?_
      refine ⟨rfl, (k + 1, v16), (sub_cons' rfl (rfl) (sub_cons' rfl (by rw [Int.natCast_add]; rfl) (sub_cons rfl (sub_cons rfl sub_nil)))), ?_, ?_⟩
      dsimp only
      rw [val_limbs, ← Nat.pow_succ] at hn16
      exact ⟨LR, by omega, hn16⟩
      dsimp only
      omega
    · refine SL.wp_exit ?_
      refine upd_hit ?_
      refine SL.wp_seq ?_
      refine SL.wp_region ?_
      refine ops_move rfl rfl ?_
      refine ops_assign rfl rfl ?_
      refine ops_nil ?_
      refine SL.wp_ret ?_
      refine leave_nil ⟨[_], ⟨rfl, trivial⟩, ?_⟩
      dsimp only [resVal]
      subst hFz
      obtain rfl : k = cntN j 256 := by omega
      exact ⟨LL.below (Nat.le_refl _), hy⟩

end Go.Proofs.Ytffakiheophioaa
