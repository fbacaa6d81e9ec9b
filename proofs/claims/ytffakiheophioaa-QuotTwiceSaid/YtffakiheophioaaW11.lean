import Derived.Test.YtffakiheophioaaW10
import Derived.Test.YtffakiheophioaaSLp
import Derived.Test.YtffakiheophioaaSLo
import Derived.Test.YtffakiheophioaaSLn
set_option linter.unusedVariables false
set_option linter.unusedSimpArgs false
set_option maxRecDepth 100000
namespace Go.Proofs.Ytffakiheophioaa
open Go.SL Go.RowKit Go.Proofs

theorem count_c {M : Nat → Prop} {w : World} {k m : Int} (hm : 0 ≤ m) (hM : OkM M w) :
    CallsV Try.prog 66 [.int .i64 k, .int .i64 m] w fun r w' => Below w.heap.size w w' ∧ r = .int .i64 ((cntN k m : Nat) : Int) := by
  obtain ⟨Fz, hFz⟩ : ∃ Fz : Nat → Prop, Fz = (· < w.heap.size) := ⟨_, rfl⟩
  have hF : FOk Fz w := by subst hFz; exact fun _ h => h
  have LL := Le.refl Fz M w; have hM0 := hM
  refine calls_intro Try.func66 rfl Try.ntmps66 rfl ?_
  refine SL.wp_seq ?_
  refine SL.wp_region ?_
  refine ops_assign rfl rfl ?_
  refine ops_nil ?_
  refine SL.wp_seq ?_
  refine SL.wp_region ?_
  refine ops_move rfl rfl ?_
  refine ops_move rfl rfl ?_
  refine ops_min rfl rfl rfl ?_
  refine ops_max rfl rfl rfl ?_
  refine ops_assign rfl rfl ?_
  refine ops_nil ?_
  refine SL.wp_ret ?_
  refine leave_nil ⟨[_], ⟨rfl, trivial⟩, ?_⟩
  dsimp only [resVal]
  subst hFz
  exact ⟨LL.below (Nat.le_refl _), by have h := cntN_is (k := k) hm; first | rw [h.1] | rw [h.2.1]⟩


theorem rcount_c {M : Nat → Prop} {w : World} {k m : Int} (hm : 0 ≤ m) (hM : OkM M w) :
    CallsV Try.prog 68 [.int .i64 k, .int .i64 m] w fun r w' => Below w.heap.size w w' ∧ r = .int .i64 ((cntN k m : Nat) : Int) := by
  obtain ⟨Fz, hFz⟩ : ∃ Fz : Nat → Prop, Fz = (· < w.heap.size) := ⟨_, rfl⟩
  have hF : FOk Fz w := by subst hFz; exact fun _ h => h
  have LL := Le.refl Fz M w; have hM0 := hM
  refine calls_intro Try.func68 rfl Try.ntmps68 rfl ?_
  refine SL.wp_seq ?_
  refine SL.wp_region ?_
  refine ops_assign rfl rfl ?_
  refine ops_nil ?_
  refine SL.wp_seq ?_
  refine SL.wp_region ?_
  refine ops_move rfl rfl ?_
  refine ops_max rfl rfl rfl ?_
  refine ops_move rfl rfl ?_
  refine ops_min rfl rfl rfl ?_
  refine ops_assign rfl rfl ?_
  refine ops_nil ?_
  refine SL.wp_ret ?_
  refine leave_nil ⟨[_], ⟨rfl, trivial⟩, ?_⟩
  dsimp only [resVal]
  subst hFz
  exact ⟨LL.below (Nat.le_refl _), by have h := cntN_is (k := k) hm; first | rw [h.1] | rw [h.2.1]⟩


theorem same2_c {M : Nat → Prop} {w : World} {v u : Value} {xs ys : List Nat} (h1 : IsNat M w v xs) (h2 : IsNat M w u ys) (hM : OkM M w) :
    CallsV Try.prog 38 [v, u] w fun r w' => Below w.heap.size w w' ∧ r = .bool (decide (xs = ys)) := by
  obtain ⟨Fz, hFz⟩ : ∃ Fz : Nat → Prop, Fz = (· < w.heap.size) := ⟨_, rfl⟩
  have hF : FOk Fz w := by subst hFz; exact fun _ h => h
  have hl1 := h1.len; have hl2 := h2.len
  have LL := Le.refl Fz M w; have hM0 := hM
  refine calls_intro Try.func38 rfl Try.ntmps38 rfl ?_
  refine SL.wp_seq ?_
  refine SL.wp_region ?_
  refine ops_assign rfl rfl ?_
  refine ops_nil ?_
  refine SL.wp_seq ?_
  refine SL.wp_seq ?_
  refine SL.wp_region ?_
  refine ops_move rfl rfl ?_
  first | refine ops_len rfl Try.underlying23 rfl ?_ | refine ops_lens rfl Try.underlying23 rfl (IsNat.slc (by assumption)) ?_ | refine ops_lenn rfl Try.underlying23 rfl (by assumption) ?_ | refine ops_leno rfl Try.underlying23 rfl (by assumption) ?_
  refine ops_move rfl rfl ?_
  first | refine ops_len rfl Try.underlying23 rfl ?_ | refine ops_lens rfl Try.underlying23 rfl (IsNat.slc (by assumption)) ?_ | refine ops_lenn rfl Try.underlying23 rfl (by assumption) ?_ | refine ops_leno rfl Try.underlying23 rfl (by assumption) ?_
  refine ops_ne rfl rfl rfl ?_
  refine ops_nil ?_
  refine SL.wp_cond_d rfl (fun hc0 => ?_) (fun hc0 => ?_)
  · refine SL.wp_seq ?_
    refine SL.wp_region ?_
    refine ops_assign rfl rfl ?_
    refine ops_nil ?_
    refine SL.wp_ret ?_
    refine leave_nil ⟨[_], ⟨rfl, trivial⟩, ?_⟩
    dsimp only [resVal]
    subst hFz
    have hne : ¬ xs = ys := fun e => by subst e; omega
    exact ⟨LL.below (Nat.le_refl _), by rw [decide_eq_false hne]⟩
  · refine SL.wp_skip ?_
    refine SL.wp_seq ?_
    refine SL.wp_seq ?_
    refine SL.wp_region ?_
    refine ops_assign rfl rfl ?_
    refine ops_nil ?_
    refine SL.wp_block ?_
    refine SL.wp_loopc (σ := Nat) [(0, _), (1, _)] (fun s => [(5, .int .i64 ((s : Nat) : Int))]) (fun s w1 => Le Fz M w M w1 ∧ s ≤ xs.length ∧ ∀ j, j < s → xs.getD j 0 = ys.getD j 0) (fun s => xs.length - s) (0) (sub_cons rfl (sub_cons rfl (sub_cons rfl sub_nil))) ?_ (fun s w1 hJ => ?_)
    · exact ⟨Le.refl _ _ _, by omega, fun j hj => by omega⟩
    · obtain ⟨LR, hs, hz⟩ := hJ
      replace LL := LL.trans LR
      replace hM := hM.mono LR
      replace hF := hF.mono LR
      replace h1 := h1.mono LR
      replace h2 := h2.mono LR
      refine SL.wp_seq ?_
      refine SL.wp_seq ?_
      refine SL.wp_region ?_
      refine ops_move rfl rfl ?_
      refine ops_move rfl rfl ?_
      first | refine ops_len rfl Try.underlying23 rfl ?_ | refine ops_lens rfl Try.underlying23 rfl (IsNat.slc (by assumption)) ?_ | refine ops_lenn rfl Try.underlying23 rfl (by assumption) ?_ | refine ops_leno rfl Try.underlying23 rfl (by assumption) ?_
      refine ops_lt rfl rfl rfl ?_
      refine ops_nil ?_
      refine SL.wp_cond_d rfl (fun hc1 => ?_) (fun hc1 => ?_)
      · refine SL.wp_skip ?_
        refine SL.wp_seq ?_
        refine SL.wp_block ?_
        refine SL.wp_seq ?_
        refine SL.wp_draw (R := Rb) (R' := Rb) (st := none) mixed 8 [0, 1, 5, 11, 12, 13, 14, 17, 18, 19, 20, 21, 22, 23, 24] (by decide +kernel) rb_trans rb_self (rb_drew _) (fun _ _ _ h => by cases h) ?_
        apply drs_ex
        · intro wq hR hst
          refine obl_e rfl rfl ?_
          refine obl_done ?_
          have Lq := Le.of_below (Fz := Fz) (M := M) hR
          replace LL := LL.trans Lq
          replace LR := LR.trans Lq
          replace hM := hM.mono Lq
          replace hF := hF.mono Lq
          replace h1 := h1.mono Lq
          replace h2 := h2.mono Lq
          refine ops_move rfl rfl ?_
          exact ops_nil ⟨rfl, rb_refl _, _, rfl, rfl⟩
        apply drs_ex
        · intro wq hR hst
          refine obl_e rfl rfl ?_
          refine obl_done ?_
          have Lq := Le.of_below (Fz := Fz) (M := M) hR
          replace LL := LL.trans Lq
          replace LR := LR.trans Lq
          replace hM := hM.mono Lq
          replace hF := hF.mono Lq
          replace h1 := h1.mono Lq
          replace h2 := h2.mono Lq
          refine ops_move rfl rfl ?_
          exact ops_nil ⟨rfl, rb_refl _, _, rfl, rfl⟩
        apply drs_ptr
        · intro wq hR hst
          refine obl_x rfl ?_
          refine obl_x rfl ?_
          refine obl_done ?_
          have Lq := Le.of_below (Fz := Fz) (M := M) hR
          replace LL := LL.trans Lq
          replace LR := LR.trans Lq
          replace hM := hM.mono Lq
          replace hF := hF.mono Lq
          replace h1 := h1.mono Lq
          replace h2 := h2.mono Lq
          refine ops_idxn (s) rfl Try.underlying23 sz43 rfl rfl (by assumption) (by omega) (by omega) (fun b19 o19 hc19 hb19 => ?_)
          exact ops_nil ⟨rfl, rb_refl _, _, rfl, ⟨_, _, rfl, hc19⟩⟩
        apply drs_ex
        · intro wq hR hst
          refine obl_g rfl (fun v19 hp19 => ?_)
          obtain ⟨b19, o19, rfl, hc19⟩ := hp19
          refine obl_done ?_
          have Lq := Le.of_below (Fz := Fz) (M := M) hR
          replace LL := LL.trans Lq
          replace LR := LR.trans Lq
          replace hM := hM.mono Lq
          replace hF := hF.mono Lq
          replace h1 := h1.mono Lq
          replace h2 := h2.mono Lq
          refine ops_load rfl flat43 rfl hc19 ?_
          exact ops_nil ⟨rfl, rb_refl _, _, rfl, rfl⟩
        apply drs_ex
        · intro wq hR hst
          refine obl_e rfl rfl ?_
          refine obl_done ?_
          have Lq := Le.of_below (Fz := Fz) (M := M) hR
          replace LL := LL.trans Lq
          replace LR := LR.trans Lq
          replace hM := hM.mono Lq
          replace hF := hF.mono Lq
          replace h1 := h1.mono Lq
          replace h2 := h2.mono Lq
          refine ops_move rfl rfl ?_
          exact ops_nil ⟨rfl, rb_refl _, _, rfl, rfl⟩
        apply drs_ex
        · intro wq hR hst
          refine obl_e rfl rfl ?_
          refine obl_done ?_
          have Lq := Le.of_below (Fz := Fz) (M := M) hR
          replace LL := LL.trans Lq
          replace LR := LR.trans Lq
          replace hM := hM.mono Lq
          replace hF := hF.mono Lq
          replace h1 := h1.mono Lq
          replace h2 := h2.mono Lq
          refine ops_move rfl rfl ?_
          exact ops_nil ⟨rfl, rb_refl _, _, rfl, rfl⟩
        apply drs_ptr
        · intro wq hR hst
          refine obl_x rfl ?_
          refine obl_x rfl ?_
          refine obl_done ?_
          have Lq := Le.of_below (Fz := Fz) (M := M) hR
          replace LL := LL.trans Lq
          replace LR := LR.trans Lq
          replace hM := hM.mono Lq
          replace hF := hF.mono Lq
          replace h1 := h1.mono Lq
          replace h2 := h2.mono Lq
          refine ops_idxn (s) rfl Try.underlying23 sz43 rfl rfl (by assumption) (by omega) (by omega) (fun b23 o23 hc23 hb23 => ?_)
          exact ops_nil ⟨rfl, rb_refl _, _, rfl, ⟨_, _, rfl, hc23⟩⟩
        apply drs_ex
        · intro wq hR hst
          refine obl_g rfl (fun v23 hp23 => ?_)
          obtain ⟨b23, o23, rfl, hc23⟩ := hp23
          refine obl_done ?_
          have Lq := Le.of_below (Fz := Fz) (M := M) hR
          replace LL := LL.trans Lq
          replace LR := LR.trans Lq
          replace hM := hM.mono Lq
          replace hF := hF.mono Lq
          replace h1 := h1.mono Lq
          replace h2 := h2.mono Lq
          refine ops_load rfl flat43 rfl hc23 ?_
          exact ops_nil ⟨rfl, rb_refl _, _, rfl, rfl⟩
        refine drs_nil (fun wq6 hR6 hpost6 => ?_)
        refine obl_e rfl rfl ?_
        refine obl_e rfl rfl ?_
        refine obl_e rfl rfl ?_
        refine obl_e rfl rfl ?_
        refine obl_e rfl rfl ?_
        refine obl_e rfl rfl ?_
        refine obl_e rfl rfl ?_
        refine obl_x rfl ?_
        refine obl_x rfl ?_
        refine obl_g rfl (fun v19 hp19 => ?_)
        obtain ⟨b19, o19, rfl, hc19⟩ := hp19
        refine obl_x rfl ?_
        refine obl_x rfl ?_
        refine obl_x rfl ?_
        refine obl_g rfl (fun v23 hp23 => ?_)
        obtain ⟨b23, o23, rfl, hc23⟩ := hp23
        refine obl_x rfl ?_
        refine obl_done ?_
        simp only [List.drop_succ_cons, List.drop_zero, List.drop_nil, List.toList_toArray]
        have Lwq6 := Le.of_below (Fz := Fz) (M := M) hR6
        replace LL := LL.trans Lwq6
        replace LR := LR.trans Lwq6
        replace hM := hM.mono Lwq6
        replace hF := hF.mono Lwq6
        replace h1 := h1.mono Lwq6
        replace h2 := h2.mono Lwq6
        refine ops_ne rfl rfl rfl ?_
        refine ops_nil ?_
        refine SL.wp_cond_d rfl (fun hc2 => ?_) (fun hc2 => ?_)
        · refine SL.wp_seq ?_
          refine SL.wp_region ?_
          refine ops_assign rfl rfl ?_
          refine ops_nil ?_
          refine SL.wp_ret ?_
          refine leave_nil ⟨[_], ⟨rfl, trivial⟩, ?_⟩
          dsimp only [resVal]
          subst hFz
          have hne : ¬ xs = ys := fun e => by subst e; omega
          exact ⟨LL.below (Nat.le_refl _), by rw [decide_eq_false hne]⟩
        · refine SL.wp_skip ?_
          refine SL.wp_region ?_
          refine ops_move rfl rfl ?_
          refine ops_add rfl rfl rfl (by omega) ?_
          refine ops_assign rfl rfl ?_
          refine ops_nil ?_
          refine ⟨rfl, s + 1, (sub_cons' rfl (rfl) (sub_cons rfl (sub_cons rfl sub_nil))), ?_, ?_⟩
          exact ⟨LR, by omega, fun j hj => by
            rcases Nat.lt_or_ge j s with h | h
            · exact hz j h
            · obtain rfl : j = s := by omega
              omega⟩
          omega
      · refine SL.wp_exit ?_
        refine upd_hit ?_
        refine SL.wp_seq ?_
        refine SL.wp_region ?_
        refine ops_assign rfl rfl ?_
        refine ops_nil ?_
        refine SL.wp_ret ?_
        refine leave_nil ⟨[_], ⟨rfl, trivial⟩, ?_⟩
        dsimp only [resVal]
        subst hFz
        have heq : xs = ys := eq_of_getD (by omega) (fun j hj => hz j (by omega))
        exact ⟨LL.below (Nat.le_refl _), by rw [decide_eq_true heq]⟩


def gsum2 (xss : List (List Nat)) : Nat → Nat
  | 0 => 0
  | k + 1 => gsum2 xss k + min (xss.getD k []).length 1000
def greatB2 (xss : List (List Nat)) : Bool := decide (20 < xss.length ∨ 120 < gsum2 xss (min xss.length 21))
theorem gsum2_le (xss : List (List Nat)) : ∀ k, gsum2 xss k ≤ 1000 * k
  | 0 => by simp [gsum2]
  | k + 1 => by have := gsum2_le xss k; simp only [gsum2]; omega
theorem gsum2_mono (xss : List (List Nat)) {j k : Nat} (h : j ≤ k) : gsum2 xss j ≤ gsum2 xss k := by
  induction k with
  | zero => obtain rfl : j = 0 := by omega
            exact Nat.le_refl _
  | succ k ih =>
    rcases Nat.eq_or_lt_of_le h with rfl | h
    · exact Nat.le_refl _
    · have := ih (by omega); simp only [gsum2]; omega
theorem not_gr {xss : List (List Nat)} (h : ¬ greatB2 xss = true) : xss.length ≤ 20 ∧ ∀ xs ∈ xss, xs.length ≤ 120 := by
  unfold greatB2 at h
  simp only [decide_eq_true_eq, not_or, Nat.not_lt] at h
  refine ⟨h.1, fun xs hx => ?_⟩
  obtain ⟨k, hk, rfl⟩ := List.getElem_of_mem hx
  have h1 : gsum2 xss (k + 1) ≤ gsum2 xss (min xss.length 21) := gsum2_mono xss (by omega)
  have h2 : xss.getD k [] = xss[k] := by simp [hk]
  simp only [gsum2, h2] at h1
  omega
theorem great2_c {M : Nat → Prop} {w : World} {v : Value} {xss : List (List Nat)} (h : IsNats M w v xss) (hM : OkM M w) :
    CallsV Try.prog 33 [v] w fun r w' => Below w.heap.size w w' ∧ r = .bool (decide (greatB2 xss = true)) := by
  obtain ⟨Fz, hFz⟩ : ∃ Fz : Nat → Prop, Fz = (· < w.heap.size) := ⟨_, rfl⟩
  have hF : FOk Fz w := by subst hFz; exact fun _ h => h
  have hl := h.len
  have LL := Le.refl Fz M w; have hM0 := hM
  refine calls_intro Try.func33 rfl Try.ntmps33 rfl ?_
  refine SL.wp_seq ?_
  refine SL.wp_region ?_
  refine ops_assign rfl rfl ?_
  refine ops_nil ?_
  refine SL.wp_seq ?_
  refine SL.wp_region ?_
  refine ops_assign rfl rfl ?_
  refine ops_nil ?_
  refine SL.wp_seq ?_
  refine SL.wp_seq ?_
  refine SL.wp_region ?_
  refine ops_assign rfl rfl ?_
  refine ops_nil ?_
  refine SL.wp_block ?_
  refine SL.wp_loopc (σ := Nat) [(0, _)] (fun s => [(3, .int .i64 ((gsum2 xss s : Nat) : Int)), (4, .int .i64 ((s : Nat) : Int))]) (fun s w1 => Le Fz M w M w1 ∧ s ≤ xss.length ∧ s ≤ 21) (fun s => xss.length - s) (0) (sub_cons rfl (sub_cons rfl (sub_cons rfl sub_nil))) ?_ (fun s w1 hJ => ?_)
  · exact ⟨Le.refl _ _ _, by omega, by omega⟩
  · obtain ⟨LR, hs, hs2⟩ := hJ
    have hg := gsum2_le xss s
    replace LL := LL.trans LR
    replace hM := hM.mono LR
    replace hF := hF.mono LR
    replace h := h.mono LR
    refine SL.wp_seq ?_
    refine SL.wp_seq ?_
    refine SL.wp_region ?_
    refine ops_move rfl rfl ?_
    refine ops_move rfl rfl ?_
    first | refine ops_len rfl Try.underlying24 rfl ?_ | refine ops_lens rfl Try.underlying24 rfl (IsNat.slc (by assumption)) ?_ | refine ops_lenn rfl Try.underlying24 rfl (by assumption) ?_ | refine ops_leno rfl Try.underlying24 rfl (by assumption) ?_
    refine ops_lt rfl rfl rfl ?_
    refine ops_move rfl rfl ?_
    refine ops_dcase (d := 9) rfl (fun hg3_4 => ?_) (fun hg3_4 => ?_)
    · refine ops_guard_t rfl rfl ?_
      refine ops_move rfl rfl ?_
      refine ops_guard_t rfl rfl ?_
      refine ops_le rfl rfl rfl ?_
      refine ops_pick rfl rfl rfl ?_
      refine ops_nil ?_
      refine SL.wp_cond_d rfl (fun hc0 => ?_) (fun hc0 => ?_)
      · refine SL.wp_skip ?_
        refine SL.wp_seq ?_
        refine SL.wp_block ?_
        refine SL.wp_region ?_
        refine ops_move rfl rfl ?_
        refine ops_move rfl rfl ?_
        refine ops_move rfl rfl ?_
        refine ops_idxs (s) rfl Try.underlying24 sz23 rfl rfl (by assumption) (by omega) (by omega) (fun b18 o18 u18 hc18 hu18 => ?_)
        refine ops_load rfl flat23 rfl hc18 ?_
        first | refine ops_len rfl Try.underlying23 rfl ?_ | refine ops_lens rfl Try.underlying23 rfl (IsNat.slc (by assumption)) ?_ | refine ops_lenn rfl Try.underlying23 rfl (by assumption) ?_ | refine ops_leno rfl Try.underlying23 rfl (by assumption) ?_
        refine ops_min rfl rfl rfl ?_
        refine ops_add rfl rfl rfl (by omega) ?_
        refine ops_assign rfl rfl ?_
        refine ops_nil ?_
        refine SL.wp_region ?_
        refine ops_move rfl rfl ?_
        refine ops_add rfl rfl rfl (by omega) ?_
        refine ops_assign rfl rfl ?_
        refine ops_nil ?_
        refine ⟨rfl, s + 1, (sub_cons' rfl (by rw [gsum2, Int.natCast_add]; congr 2; omega) (sub_cons' rfl (rfl) (sub_cons rfl sub_nil))), ?_, ?_⟩
        exact ⟨LR, by omega, by omega⟩
        omega
      · refine SL.wp_exit ?_
        refine upd_hit ?_
        refine SL.wp_seq ?_
        refine SL.wp_region ?_
        refine ops_move rfl rfl ?_
        first | refine ops_len rfl Try.underlying24 rfl ?_ | refine ops_lens rfl Try.underlying24 rfl (IsNat.slc (by assumption)) ?_ | refine ops_lenn rfl Try.underlying24 rfl (by assumption) ?_ | refine ops_leno rfl Try.underlying24 rfl (by assumption) ?_
        refine ops_gt rfl rfl rfl ?_
        refine ops_move rfl rfl ?_
        refine ops_dcase (d := 26) rfl (fun hg6_3 => ?_) (fun hg6_3 => ?_)
        · refine ops_guard_f rfl rfl rfl rfl ?_
          refine ops_guard_f rfl rfl rfl rfl ?_
          refine ops_pick rfl rfl rfl ?_
          refine ops_assign rfl rfl ?_
          refine ops_nil ?_
          refine SL.wp_ret ?_
          refine leave_nil ⟨[_], ⟨rfl, trivial⟩, ?_⟩
          dsimp only [resVal]
          subst hFz
          refine ⟨LL.below (Nat.le_refl _), ?_⟩
          rw [show decide (greatB2 xss = true) = greatB2 xss by simp, greatB2, show min xss.length 21 = s by omega]
          first
          | (exfalso; omega)
          | (rw [show (decide (20 < xss.length ∨ 120 < gsum2 xss s)) = true from decide_eq_true (by omega)])
          | (congr 1; rw [Bool.eq_iff_iff]; simp only [decide_eq_true_eq]; omega)
        · refine ops_guard_t rfl rfl ?_
          refine ops_move rfl rfl ?_
          refine ops_guard_t rfl rfl ?_
          refine ops_gt rfl rfl rfl ?_
          refine ops_pick rfl rfl rfl ?_
          refine ops_assign rfl rfl ?_
          refine ops_nil ?_
          refine SL.wp_ret ?_
          refine leave_nil ⟨[_], ⟨rfl, trivial⟩, ?_⟩
          dsimp only [resVal]
          subst hFz
          refine ⟨LL.below (Nat.le_refl _), ?_⟩
          rw [show decide (greatB2 xss = true) = greatB2 xss by simp, greatB2, show min xss.length 21 = s by omega]
          first
          | (exfalso; omega)
          | (rw [show (decide (20 < xss.length ∨ 120 < gsum2 xss s)) = true from decide_eq_true (by omega)])
          | (congr 1; rw [Bool.eq_iff_iff]; simp only [decide_eq_true_eq]; omega)
    · refine ops_guard_f rfl rfl rfl rfl ?_
      refine ops_guard_f rfl rfl rfl rfl ?_
      refine ops_pick rfl rfl rfl ?_
      refine ops_nil ?_
      refine SL.wp_cond_f rfl ?_
      refine SL.wp_exit ?_
      refine upd_hit ?_
      refine SL.wp_seq ?_
      refine SL.wp_region ?_
      refine ops_move rfl rfl ?_
      first | refine ops_len rfl Try.underlying24 rfl ?_ | refine ops_lens rfl Try.underlying24 rfl (IsNat.slc (by assumption)) ?_ | refine ops_lenn rfl Try.underlying24 rfl (by assumption) ?_ | refine ops_leno rfl Try.underlying24 rfl (by assumption) ?_
      refine ops_gt rfl rfl rfl ?_
      refine ops_move rfl rfl ?_
      refine ops_dcase (d := 26) rfl (fun hg6_3 => ?_) (fun hg6_3 => ?_)
      · refine ops_guard_f rfl rfl rfl rfl ?_
        refine ops_guard_f rfl rfl rfl rfl ?_
        refine ops_pick rfl rfl rfl ?_
        refine ops_assign rfl rfl ?_
        refine ops_nil ?_
        refine SL.wp_ret ?_
        refine leave_nil ⟨[_], ⟨rfl, trivial⟩, ?_⟩
        dsimp only [resVal]
        subst hFz
        refine ⟨LL.below (Nat.le_refl _), ?_⟩
        rw [show decide (greatB2 xss = true) = greatB2 xss by simp, greatB2, show min xss.length 21 = s by omega]
        first
        | (exfalso; omega)
        | (rw [show (decide (20 < xss.length ∨ 120 < gsum2 xss s)) = true from decide_eq_true (by omega)])
        | (congr 1; rw [Bool.eq_iff_iff]; simp only [decide_eq_true_eq]; omega)
      · refine ops_guard_t rfl rfl ?_
        refine ops_move rfl rfl ?_
        refine ops_guard_t rfl rfl ?_
        refine ops_gt rfl rfl rfl ?_
        refine ops_pick rfl rfl rfl ?_
        refine ops_assign rfl rfl ?_
        refine ops_nil ?_
        refine SL.wp_ret ?_
        refine leave_nil ⟨[_], ⟨rfl, trivial⟩, ?_⟩
        dsimp only [resVal]
        subst hFz
        refine ⟨LL.below (Nat.le_refl _), ?_⟩
        rw [show decide (greatB2 xss = true) = greatB2 xss by simp, greatB2, show min xss.length 21 = s by omega]
        first
        | (exfalso; omega)
        | (rw [show (decide (20 < xss.length ∨ 120 < gsum2 xss s)) = true from decide_eq_true (by omega)])
        | (congr 1; rw [Bool.eq_iff_iff]; simp only [decide_eq_true_eq]; omega)


theorem rmul_c {M : Nat → Prop} {w : World} {v u : Value} {xs ys : List Nat} (h1 : IsNat M w v xs) (h2 : IsNat M w u ys) (hl1 : xs.length ≤ 1000000000) (hl2 : ys.length ≤ 1000000000) (hM : OkM M w) :
    CallsV Try.prog 43 [v, u] w fun r w' => Below w.heap.size w w' ∧ Fresh 43 w w' r (limbs (val xs * val ys)) := by
  obtain ⟨Fz, hFz⟩ : ∃ Fz : Nat → Prop, Fz = (· < w.heap.size) := ⟨_, rfl⟩
  have hF : FOk Fz w := by subst hFz; exact fun _ h => h
  have LL := Le.refl Fz M w; have hM0 := hM
  refine calls_intro Try.func43 rfl Try.ntmps43 rfl ?_
  refine SL.wp_seq ?_
  refine SL.wp_region ?_
  refine ops_assign rfl rfl ?_
  refine ops_nil ?_
  refine SL.wp_seq ?_
  refine SL.wp_region ?_
  refine ops_move rfl rfl ?_
  first | refine ops_len rfl Try.underlying23 rfl ?_ | refine ops_lens rfl Try.underlying23 rfl (IsNat.slc (by assumption)) ?_ | refine ops_lenn rfl Try.underlying23 rfl (by assumption) ?_ | refine ops_leno rfl Try.underlying23 rfl (by assumption) ?_
  refine ops_move rfl rfl ?_
  first | refine ops_len rfl Try.underlying23 rfl ?_ | refine ops_lens rfl Try.underlying23 rfl (IsNat.slc (by assumption)) ?_ | refine ops_lenn rfl Try.underlying23 rfl (by assumption) ?_ | refine ops_leno rfl Try.underlying23 rfl (by assumption) ?_
  refine ops_add rfl rfl rfl (by omega) ?_
  refine ops_make (xs.length + ys.length) (xs.length + ys.length) rfl Try.underlying23 sz43 rfl rfl rfl (by omega) (by omega) (by omega) (by omega) (by omega) (fun w1 b15 N15 => ?_)
  have nF15 := hF.new N15; have nM15 := hM.new N15; have hBw1 := N15.below
  have Lw1 := Le.of_new_mo (Fz := Fz) (M := M) (v := Value.slice (some ⟨b15, 0, none⟩) (xs.length + ys.length) (xs.length + ys.length)) N15 rfl
  replace LL := LL.trans Lw1
  replace hM := hM.mono Lw1
  replace hF := hF.mono Lw1
  replace h1 := h1.mono Lw1
  replace h2 := h2.mono Lw1
  have Of : ∀ k, (Value.slice (some ⟨b15, 0, none⟩) (xs.length + ys.length) (xs.length + ys.length)).ownBlock = some k → ¬ Fz k := slice_own nF15
  have Om : ∀ k, (Value.slice (some ⟨b15, 0, none⟩) (xs.length + ys.length) (xs.length + ys.length)).ownBlock = some k → ¬ M k := slice_own nM15
  have Ow := own_blk (n := xs.length + ys.length) (c := xs.length + ys.length) N15.blk (by simp) (by omega) (by omega)
  have Ow : World.ownsRow w1 0 43 1 (Value.slice (some ⟨b15, 0, none⟩) (xs.length + ys.length) (xs.length + ys.length)) (List.replicate (xs.length + ys.length) 0).length ((List.replicate (xs.length + ys.length) 0).map lw) := by simpa [lw] using Ow
  refine ops_assign rfl rfl ?_
  refine ops_nil ?_
  refine SL.wp_seq ?_
  refine SL.wp_seq ?_
  refine SL.wp_region ?_
  refine ops_assign rfl rfl ?_
  refine ops_nil ?_
  refine SL.wp_block ?_
  refine SL.wp_loopc (σ := Nat) [(0, _), (1, _), (5, _)] (fun i => [(6, .int .i64 ((i : Nat) : Int))]) (fun i w2 => Le Fz (Mo (Value.slice (some ⟨b15, 0, none⟩) (xs.length + ys.length) (xs.length + ys.length)) M) w1 (Mo (Value.slice (some ⟨b15, 0, none⟩) (xs.length + ys.length) (xs.length + ys.length)) M) w2 ∧ i ≤ xs.length ∧ ∃ zs : List Nat, w2.ownsRow 0 43 1 (Value.slice (some ⟨b15, 0, none⟩) (xs.length + ys.length) (xs.length + ys.length)) zs.length (zs.map lw) ∧ zs.length = xs.length + ys.length ∧ (∀ z ∈ zs, z < 4294967296) ∧ (∀ j, i + ys.length ≤ j → zs.getD j 0 = 0) ∧ val zs = val (xs.take i) * val ys) (fun i => xs.length - i) (0) (sub_cons rfl (sub_cons rfl (sub_cons rfl (sub_cons rfl sub_nil)))) ?_ (fun i w2 hJ => ?_)
  · exact ⟨Le.refl _ _ _, by omega, _, Ow, by simp, by intro z hz; have := (List.mem_replicate.1 hz).2; omega, fun j _ => by simp [List.getD_eq_getElem?_getD, List.getElem?_replicate]; split <;> rfl, by simp [val_zeros, val]⟩
  · clear Ow
    obtain ⟨LR, hi, zs, Ow, hzl, hzlt, hz0, hzv⟩ := hJ
    replace LL := LL.trans LR
    replace hM := hM.mono LR
    replace hF := hF.mono LR
    replace h1 := h1.mono LR
    replace h2 := h2.mono LR
    refine SL.wp_seq ?_
    refine SL.wp_seq ?_
    refine SL.wp_region ?_
    refine ops_move rfl rfl ?_
    refine ops_move rfl rfl ?_
    first | refine ops_len rfl Try.underlying23 rfl ?_ | refine ops_lens rfl Try.underlying23 rfl (IsNat.slc (by assumption)) ?_ | refine ops_lenn rfl Try.underlying23 rfl (by assumption) ?_ | refine ops_leno rfl Try.underlying23 rfl (by assumption) ?_
    refine ops_lt rfl rfl rfl ?_
    refine ops_nil ?_
    refine SL.wp_cond_d rfl (fun hc0 => ?_) (fun hc0 => ?_)
    · refine SL.wp_skip ?_
      refine SL.wp_seq ?_
      refine SL.wp_block ?_
      refine SL.wp_seq ?_
      refine SL.wp_region ?_
      refine ops_assign rfl rfl ?_
      refine ops_nil ?_
      refine SL.wp_seq ?_
      refine SL.wp_seq ?_
      refine SL.wp_region ?_
      refine ops_assign rfl rfl ?_
      refine ops_nil ?_
      refine SL.wp_block ?_
      refine SL.wp_loopc (σ := Nat × Nat) [(0, _), (1, _), (5, _), (6, _)] (fun s => [(7, .int .u64 ((s.2 : Nat) : Int)), (8, .int .i64 ((s.1 : Nat) : Int))]) (fun s w3 => Le Fz (Mo (Value.slice (some ⟨b15, 0, none⟩) (xs.length + ys.length) (xs.length + ys.length)) M) w2 (Mo (Value.slice (some ⟨b15, 0, none⟩) (xs.length + ys.length) (xs.length + ys.length)) M) w3 ∧ s.1 ≤ ys.length ∧ s.2 < 4294967296 ∧ ∃ zs : List Nat, w3.ownsRow 0 43 1 (Value.slice (some ⟨b15, 0, none⟩) (xs.length + ys.length) (xs.length + ys.length)) zs.length (zs.map lw) ∧ zs.length = xs.length + ys.length ∧ (∀ z ∈ zs, z < 4294967296) ∧ (∀ j, i + ys.length ≤ j → zs.getD j 0 = 0) ∧ val zs + 4294967296 ^ (i + s.1) * s.2 = val (xs.take i) * val ys + 4294967296 ^ i * (xs.getD i 0 * val (ys.take s.1))) (fun s => ys.length - s.1) ((0, 0)) (sub_cons rfl (sub_cons rfl (sub_cons rfl (sub_cons rfl (sub_cons rfl (sub_cons rfl sub_nil)))))) ?_ (fun s w3 hJ => ?_)
      · dsimp only
        exact ⟨Le.refl _ _ _, by omega, by omega, zs, Ow, hzl, hzlt, hz0, by simp [val, hzv]⟩
      · clear Ow hzl hzlt hz0 hzv
        obtain ⟨k, c⟩ := s
        dsimp only at hJ ⊢
        obtain ⟨LR2, hk, hc, zs, Ow, hzl, hzlt, hz0, hzv⟩ := hJ
        replace LL := LL.trans LR2
        replace LR := LR.trans LR2
        replace hM := hM.mono LR2
        replace hF := hF.mono LR2
        replace h1 := h1.mono LR2
        replace h2 := h2.mono LR2
        refine SL.wp_seq ?_
        refine SL.wp_seq ?_
        refine SL.wp_region ?_
        refine ops_move rfl rfl ?_
        refine ops_move rfl rfl ?_
        first | refine ops_len rfl Try.underlying23 rfl ?_ | refine ops_lens rfl Try.underlying23 rfl (IsNat.slc (by assumption)) ?_ | refine ops_lenn rfl Try.underlying23 rfl (by assumption) ?_ | refine ops_leno rfl Try.underlying23 rfl (by assumption) ?_
        refine ops_lt rfl rfl rfl ?_
        refine ops_nil ?_
        refine SL.wp_cond_d rfl (fun hc1 => ?_) (fun hc1 => ?_)
        · refine SL.wp_skip ?_
          refine SL.wp_seq ?_
          refine SL.wp_block ?_
          refine SL.wp_seq ?_
          have hbx := h1.lim i; have hby := h2.lim k; have hbz := getD_lt hzlt (i + k)
          have hxy : xs.getD i 0 * ys.getD k 0 ≤ 4294967295 * 4294967295 := Nat.mul_le_mul (by omega) (by omega)
          refine SL.wp_draw (R := Rb) (R' := Rb) (st := none) mixed 20 [0, 1, 5, 6, 7, 8, 22, 23, 24, 25, 28, 29, 30, 31, 32, 33, 34, 35, 36, 37, 38, 39, 40, 41, 42, 43, 44, 45, 46, 47] (by decide +kernel) rb_trans rb_self (rb_drew _) (fun _ _ _ h => by cases h) ?_
          apply drs_ex
          · intro wq hR hst
            refine obl_e rfl rfl ?_
            refine obl_done ?_
            have Lq := Le.of_below (Fz := Fz) (M := (Mo (Value.slice (some ⟨b15, 0, none⟩) (xs.length + ys.length) (xs.length + ys.length)) M)) hR
            replace LL := LL.trans Lq
            replace LR := LR.trans Lq
            replace LR2 := LR2.trans Lq
            replace hM := hM.mono Lq
            replace hF := hF.mono Lq
            replace h1 := h1.mono Lq
            replace h2 := h2.mono Lq
            replace Ow := own_below Ow hR
            refine ops_move rfl rfl ?_
            exact ops_nil ⟨rfl, rb_refl _, _, rfl, rfl⟩
          apply drs_ex
          · intro wq hR hst
            refine obl_e rfl rfl ?_
            refine obl_done ?_
            have Lq := Le.of_below (Fz := Fz) (M := (Mo (Value.slice (some ⟨b15, 0, none⟩) (xs.length + ys.length) (xs.length + ys.length)) M)) hR
            replace LL := LL.trans Lq
            replace LR := LR.trans Lq
            replace LR2 := LR2.trans Lq
            replace hM := hM.mono Lq
            replace hF := hF.mono Lq
            replace h1 := h1.mono Lq
            replace h2 := h2.mono Lq
            replace Ow := own_below Ow hR
            refine ops_move rfl rfl ?_
            exact ops_nil ⟨rfl, rb_refl _, _, rfl, rfl⟩
          apply drs_ptr
          · intro wq hR hst
            refine obl_x rfl ?_
            refine obl_x rfl ?_
            refine obl_done ?_
            have Lq := Le.of_below (Fz := Fz) (M := (Mo (Value.slice (some ⟨b15, 0, none⟩) (xs.length + ys.length) (xs.length + ys.length)) M)) hR
            replace LL := LL.trans Lq
            replace LR := LR.trans Lq
            replace LR2 := LR2.trans Lq
            replace hM := hM.mono Lq
            replace hF := hF.mono Lq
            replace h1 := h1.mono Lq
            replace h2 := h2.mono Lq
            replace Ow := own_below Ow hR
            refine ops_idxn (i) rfl Try.underlying23 sz43 rfl rfl (by assumption) (by omega) (by omega) (fun b30 o30 hc30 hb30 => ?_)
            exact ops_nil ⟨rfl, rb_refl _, _, rfl, ⟨_, _, rfl, hc30⟩⟩
          apply drs_ex
          · intro wq hR hst
            refine obl_g rfl (fun v30 hp30 => ?_)
            obtain ⟨b30, o30, rfl, hc30⟩ := hp30
            refine obl_done ?_
            have Lq := Le.of_below (Fz := Fz) (M := (Mo (Value.slice (some ⟨b15, 0, none⟩) (xs.length + ys.length) (xs.length + ys.length)) M)) hR
            replace LL := LL.trans Lq
            replace LR := LR.trans Lq
            replace LR2 := LR2.trans Lq
            replace hM := hM.mono Lq
            replace hF := hF.mono Lq
            replace h1 := h1.mono Lq
            replace h2 := h2.mono Lq
            replace Ow := own_below Ow hR
            refine ops_load rfl flat43 rfl hc30 ?_
            exact ops_nil ⟨rfl, rb_refl _, _, rfl, rfl⟩
          apply drs_ex
          · intro wq hR hst
            refine obl_x rfl ?_
            refine obl_done ?_
            have Lq := Le.of_below (Fz := Fz) (M := (Mo (Value.slice (some ⟨b15, 0, none⟩) (xs.length + ys.length) (xs.length + ys.length)) M)) hR
            replace LL := LL.trans Lq
            replace LR := LR.trans Lq
            replace LR2 := LR2.trans Lq
            replace hM := hM.mono Lq
            replace hF := hF.mono Lq
            replace h1 := h1.mono Lq
            replace h2 := h2.mono Lq
            replace Ow := own_below Ow hR
            refine ops_to64 rfl Try.underlying43 Try.underlying25 rfl (by omega) ?_
            exact ops_nil ⟨rfl, rb_refl _, _, rfl, rfl⟩
          apply drs_ex
          · intro wq hR hst
            refine obl_e rfl rfl ?_
            refine obl_done ?_
            have Lq := Le.of_below (Fz := Fz) (M := (Mo (Value.slice (some ⟨b15, 0, none⟩) (xs.length + ys.length) (xs.length + ys.length)) M)) hR
            replace LL := LL.trans Lq
            replace LR := LR.trans Lq
            replace LR2 := LR2.trans Lq
            replace hM := hM.mono Lq
            replace hF := hF.mono Lq
            replace h1 := h1.mono Lq
            replace h2 := h2.mono Lq
            replace Ow := own_below Ow hR
            refine ops_move rfl rfl ?_
            exact ops_nil ⟨rfl, rb_refl _, _, rfl, rfl⟩
          apply drs_ex
          · intro wq hR hst
            refine obl_e rfl rfl ?_
            refine obl_done ?_
            have Lq := Le.of_below (Fz := Fz) (M := (Mo (Value.slice (some ⟨b15, 0, none⟩) (xs.length + ys.length) (xs.length + ys.length)) M)) hR
            replace LL := LL.trans Lq
            replace LR := LR.trans Lq
            replace LR2 := LR2.trans Lq
            replace hM := hM.mono Lq
            replace hF := hF.mono Lq
            replace h1 := h1.mono Lq
            replace h2 := h2.mono Lq
            replace Ow := own_below Ow hR
            refine ops_move rfl rfl ?_
            exact ops_nil ⟨rfl, rb_refl _, _, rfl, rfl⟩
          apply drs_ptr
          · intro wq hR hst
            refine obl_x rfl ?_
            refine obl_x rfl ?_
            refine obl_done ?_
            have Lq := Le.of_below (Fz := Fz) (M := (Mo (Value.slice (some ⟨b15, 0, none⟩) (xs.length + ys.length) (xs.length + ys.length)) M)) hR
            replace LL := LL.trans Lq
            replace LR := LR.trans Lq
            replace LR2 := LR2.trans Lq
            replace hM := hM.mono Lq
            replace hF := hF.mono Lq
            replace h1 := h1.mono Lq
            replace h2 := h2.mono Lq
            replace Ow := own_below Ow hR
            refine ops_idxn (k) rfl Try.underlying23 sz43 rfl rfl (by assumption) (by omega) (by omega) (fun b35 o35 hc35 hb35 => ?_)
            exact ops_nil ⟨rfl, rb_refl _, _, rfl, ⟨_, _, rfl, hc35⟩⟩
          apply drs_ex
          · intro wq hR hst
            refine obl_g rfl (fun v35 hp35 => ?_)
            obtain ⟨b35, o35, rfl, hc35⟩ := hp35
            refine obl_done ?_
            have Lq := Le.of_below (Fz := Fz) (M := (Mo (Value.slice (some ⟨b15, 0, none⟩) (xs.length + ys.length) (xs.length + ys.length)) M)) hR
            replace LL := LL.trans Lq
            replace LR := LR.trans Lq
            replace LR2 := LR2.trans Lq
            replace hM := hM.mono Lq
            replace hF := hF.mono Lq
            replace h1 := h1.mono Lq
            replace h2 := h2.mono Lq
            replace Ow := own_below Ow hR
            refine ops_load rfl flat43 rfl hc35 ?_
            exact ops_nil ⟨rfl, rb_refl _, _, rfl, rfl⟩
          apply drs_ex
          · intro wq hR hst
            refine obl_x rfl ?_
            refine obl_done ?_
            have Lq := Le.of_below (Fz := Fz) (M := (Mo (Value.slice (some ⟨b15, 0, none⟩) (xs.length + ys.length) (xs.length + ys.length)) M)) hR
            replace LL := LL.trans Lq
            replace LR := LR.trans Lq
            replace LR2 := LR2.trans Lq
            replace hM := hM.mono Lq
            replace hF := hF.mono Lq
            replace h1 := h1.mono Lq
            replace h2 := h2.mono Lq
            replace Ow := own_below Ow hR
            refine ops_to64 rfl Try.underlying43 Try.underlying25 rfl (by omega) ?_
            exact ops_nil ⟨rfl, rb_refl _, _, rfl, rfl⟩
          apply drs_ex
          · intro wq hR hst
            refine obl_x rfl ?_
            refine obl_x rfl ?_
            refine obl_done ?_
            have Lq := Le.of_below (Fz := Fz) (M := (Mo (Value.slice (some ⟨b15, 0, none⟩) (xs.length + ys.length) (xs.length + ys.length)) M)) hR
            replace LL := LL.trans Lq
            replace LR := LR.trans Lq
            replace LR2 := LR2.trans Lq
            replace hM := hM.mono Lq
            replace hF := hF.mono Lq
            replace h1 := h1.mono Lq
            replace h2 := h2.mono Lq
            replace Ow := own_below Ow hR
            first | refine ops_mulv rfl rfl rfl (by omega) ?_ | refine ops_mulu rfl rfl rfl ?_
            exact ops_nil ⟨rfl, rb_refl _, _, rfl, rfl⟩
          apply drs_ex
          · intro wq hR hst
            refine obl_e rfl rfl ?_
            refine obl_done ?_
            have Lq := Le.of_below (Fz := Fz) (M := (Mo (Value.slice (some ⟨b15, 0, none⟩) (xs.length + ys.length) (xs.length + ys.length)) M)) hR
            replace LL := LL.trans Lq
            replace LR := LR.trans Lq
            replace LR2 := LR2.trans Lq
            replace hM := hM.mono Lq
            replace hF := hF.mono Lq
            replace h1 := h1.mono Lq
            replace h2 := h2.mono Lq
            replace Ow := own_below Ow hR
            refine ops_move rfl rfl ?_
            exact ops_nil ⟨rfl, rb_refl _, _, rfl, rfl⟩
          apply drs_ex
          · intro wq hR hst
            refine obl_e rfl rfl ?_
            refine obl_done ?_
            have Lq := Le.of_below (Fz := Fz) (M := (Mo (Value.slice (some ⟨b15, 0, none⟩) (xs.length + ys.length) (xs.length + ys.length)) M)) hR
            replace LL := LL.trans Lq
            replace LR := LR.trans Lq
            replace LR2 := LR2.trans Lq
            replace hM := hM.mono Lq
            replace hF := hF.mono Lq
            replace h1 := h1.mono Lq
            replace h2 := h2.mono Lq
            replace Ow := own_below Ow hR
            refine ops_move rfl rfl ?_
            exact ops_nil ⟨rfl, rb_refl _, _, rfl, rfl⟩
          apply drs_ex
          · intro wq hR hst
            refine obl_e rfl rfl ?_
            refine obl_done ?_
            have Lq := Le.of_below (Fz := Fz) (M := (Mo (Value.slice (some ⟨b15, 0, none⟩) (xs.length + ys.length) (xs.length + ys.length)) M)) hR
            replace LL := LL.trans Lq
            replace LR := LR.trans Lq
            replace LR2 := LR2.trans Lq
            replace hM := hM.mono Lq
            replace hF := hF.mono Lq
            replace h1 := h1.mono Lq
            replace h2 := h2.mono Lq
            replace Ow := own_below Ow hR
            refine ops_move rfl rfl ?_
            exact ops_nil ⟨rfl, rb_refl _, _, rfl, rfl⟩
          apply drs_ex
          · intro wq hR hst
            refine obl_x rfl ?_
            refine obl_x rfl ?_
            refine obl_done ?_
            have Lq := Le.of_below (Fz := Fz) (M := (Mo (Value.slice (some ⟨b15, 0, none⟩) (xs.length + ys.length) (xs.length + ys.length)) M)) hR
            replace LL := LL.trans Lq
            replace LR := LR.trans Lq
            replace LR2 := LR2.trans Lq
            replace hM := hM.mono Lq
            replace hF := hF.mono Lq
            replace h1 := h1.mono Lq
            replace h2 := h2.mono Lq
            replace Ow := own_below Ow hR
            refine ops_add rfl rfl rfl (by omega) ?_
            exact ops_nil ⟨rfl, rb_refl _, _, rfl, rfl⟩
          apply drs_ptr
          · intro wq hR hst
            refine obl_x rfl ?_
            refine obl_x rfl ?_
            refine obl_done ?_
            have Lq := Le.of_below (Fz := Fz) (M := (Mo (Value.slice (some ⟨b15, 0, none⟩) (xs.length + ys.length) (xs.length + ys.length)) M)) hR
            replace LL := LL.trans Lq
            replace LR := LR.trans Lq
            replace LR2 := LR2.trans Lq
            replace hM := hM.mono Lq
            replace hF := hF.mono Lq
            replace h1 := h1.mono Lq
            replace h2 := h2.mono Lq
            replace Ow := own_below Ow hR
            refine ops_idxo (i + k) rfl Try.underlying23 sz43 rfl rfl Ow (by omega) (by omega) (fun b43 cur43 cap43 B43 => ?_)
            have hc43 : wq.cell? ⟨b43, i + k, none⟩ = some (lw (zs.getD (i + k) 0)) := by rw [B43.blk.cell]; exact B43.get (map_lw_get (by omega))
            exact ops_nil ⟨rfl, rb_refl _, _, rfl, ⟨_, _, rfl, hc43⟩⟩
          apply drs_ex
          · intro wq hR hst
            refine obl_g rfl (fun v43 hp43 => ?_)
            obtain ⟨b43, o43, rfl, hc43⟩ := hp43
            refine obl_done ?_
            have Lq := Le.of_below (Fz := Fz) (M := (Mo (Value.slice (some ⟨b15, 0, none⟩) (xs.length + ys.length) (xs.length + ys.length)) M)) hR
            replace LL := LL.trans Lq
            replace LR := LR.trans Lq
            replace LR2 := LR2.trans Lq
            replace hM := hM.mono Lq
            replace hF := hF.mono Lq
            replace h1 := h1.mono Lq
            replace h2 := h2.mono Lq
            replace Ow := own_below Ow hR
            refine ops_load rfl flat43 rfl hc43 ?_
            exact ops_nil ⟨rfl, rb_refl _, _, rfl, rfl⟩
          apply drs_ex
          · intro wq hR hst
            refine obl_x rfl ?_
            refine obl_done ?_
            have Lq := Le.of_below (Fz := Fz) (M := (Mo (Value.slice (some ⟨b15, 0, none⟩) (xs.length + ys.length) (xs.length + ys.length)) M)) hR
            replace LL := LL.trans Lq
            replace LR := LR.trans Lq
            replace LR2 := LR2.trans Lq
            replace hM := hM.mono Lq
            replace hF := hF.mono Lq
            replace h1 := h1.mono Lq
            replace h2 := h2.mono Lq
            replace Ow := own_below Ow hR
            refine ops_to64 rfl Try.underlying43 Try.underlying25 rfl (by omega) ?_
            exact ops_nil ⟨rfl, rb_refl _, _, rfl, rfl⟩
          apply drs_ex
          · intro wq hR hst
            refine obl_x rfl ?_
            refine obl_x rfl ?_
            refine obl_done ?_
            have Lq := Le.of_below (Fz := Fz) (M := (Mo (Value.slice (some ⟨b15, 0, none⟩) (xs.length + ys.length) (xs.length + ys.length)) M)) hR
            replace LL := LL.trans Lq
            replace LR := LR.trans Lq
            replace LR2 := LR2.trans Lq
            replace hM := hM.mono Lq
            replace hF := hF.mono Lq
            replace h1 := h1.mono Lq
            replace h2 := h2.mono Lq
            replace Ow := own_below Ow hR
            first | refine ops_addv rfl rfl rfl (by omega) ?_ | refine ops_addu rfl rfl rfl ?_
            exact ops_nil ⟨rfl, rb_refl _, _, rfl, rfl⟩
          apply drs_ex
          · intro wq hR hst
            refine obl_e rfl rfl ?_
            refine obl_done ?_
            have Lq := Le.of_below (Fz := Fz) (M := (Mo (Value.slice (some ⟨b15, 0, none⟩) (xs.length + ys.length) (xs.length + ys.length)) M)) hR
            replace LL := LL.trans Lq
            replace LR := LR.trans Lq
            replace LR2 := LR2.trans Lq
            replace hM := hM.mono Lq
            replace hF := hF.mono Lq
            replace h1 := h1.mono Lq
            replace h2 := h2.mono Lq
            replace Ow := own_below Ow hR
            refine ops_move rfl rfl ?_
            exact ops_nil ⟨rfl, rb_refl _, _, rfl, rfl⟩
          refine drs_nil (fun wq9 hR9 hpost9 => ?_)
          refine obl_e rfl rfl ?_
          refine obl_e rfl rfl ?_
          refine obl_e rfl rfl ?_
          refine obl_e rfl rfl ?_
          refine obl_e rfl rfl ?_
          refine obl_e rfl rfl ?_
          refine obl_e rfl rfl ?_
          refine obl_e rfl rfl ?_
          refine obl_e rfl rfl ?_
          refine obl_e rfl rfl ?_
          refine obl_x rfl ?_
          refine obl_x rfl ?_
          refine obl_g rfl (fun v30 hp30 => ?_)
          obtain ⟨b30, o30, rfl, hc30⟩ := hp30
          refine obl_x rfl ?_
          refine obl_x rfl ?_
          refine obl_x rfl ?_
          refine obl_x rfl ?_
          refine obl_g rfl (fun v35 hp35 => ?_)
          obtain ⟨b35, o35, rfl, hc35⟩ := hp35
          refine obl_x rfl ?_
          refine obl_x rfl ?_
          refine obl_x rfl ?_
          refine obl_x rfl ?_
          refine obl_x rfl ?_
          refine obl_x rfl ?_
          refine obl_x rfl ?_
          refine obl_g rfl (fun v43 hp43 => ?_)
          obtain ⟨b43, o43, rfl, hc43⟩ := hp43
          refine obl_x rfl ?_
          refine obl_x rfl ?_
          refine obl_x rfl ?_
          refine obl_x rfl ?_
          refine obl_done ?_
          simp only [List.drop_succ_cons, List.drop_zero, List.drop_nil, List.toList_toArray]
          have Lwq9 := Le.of_below (Fz := Fz) (M := (Mo (Value.slice (some ⟨b15, 0, none⟩) (xs.length + ys.length) (xs.length + ys.length)) M)) hR9
          replace LL := LL.trans Lwq9
          replace LR := LR.trans Lwq9
          replace LR2 := LR2.trans Lwq9
          replace hM := hM.mono Lwq9
          replace hF := hF.mono Lwq9
          replace h1 := h1.mono Lwq9
          replace h2 := h2.mono Lwq9
          replace Ow := own_below Ow hR9
          first | refine ops_addv rfl rfl rfl (by omega) ?_ | refine ops_addu rfl rfl rfl ?_
          refine ops_assign rfl rfl ?_
          refine ops_nil ?_
          refine SL.wp_seq ?_
          refine SL.wp_region ?_
          refine ops_move rfl rfl ?_
          refine ops_move rfl rfl ?_
          refine ops_move rfl rfl ?_
          refine ops_add rfl rfl rfl (by omega) ?_
          refine ops_move rfl rfl ?_
          refine ops_to32 rfl Try.underlying25 Try.underlying43 rfl ?_
          refine ops_idxo (i + k) rfl Try.underlying23 sz43 rfl rfl Ow (by omega) (by omega) (fun b55 cur55 cap55 B55 => ?_)
          have hc55 : wq9.cell? ⟨b55, i + k, none⟩ = some (lw (zs.getD (i + k) 0)) := by rw [B55.blk.cell]; exact B55.get (map_lw_get (by omega))
          refine ops_store rfl rfl sz43 B55.blk rfl (by have := B55.len; have := B55.le; omega) (by simp [Value.cells, Value.oneCell']) (fun w4 Cw4 BN => ?_)
          have Lw4 := Le.of_chg (Fz := Fz) (M := (Mo (Value.slice (some ⟨b15, 0, none⟩) (xs.length + ys.length) (xs.length + ys.length)) M)) Cw4 (.inl B55.own) (Of b55 B55.own)
          replace LL := LL.trans Lw4
          replace LR := LR.trans Lw4
          replace LR2 := LR2.trans Lw4
          replace hM := hM.mono Lw4
          replace hF := hF.mono Lw4
          replace h1 := h1.mono Lw4
          replace h2 := h2.mono Lw4
          have Ow2 := B55.set (by omega) BN
          replace Ow2 : World.ownsRow w4 0 43 1 (Value.slice (some ⟨b15, 0, none⟩) (xs.length + ys.length) (xs.length + ys.length)) (zs.set (i + k) ((xs.getD i 0 * ys.getD k 0 + zs.getD (i + k) 0 + c) % 4294967296)).length ((zs.set (i + k) ((xs.getD i 0 * ys.getD k 0 + zs.getD (i + k) 0 + c) % 4294967296)).map lw) := by rw [List.length_set, List.map_set]; exact Ow2
          clear Ow; have Ow := Ow2; clear Ow2 BN
          refine ops_nil ?_
          refine SL.wp_region ?_
          refine ops_move rfl rfl ?_
          refine ops_shru rfl rfl rfl (by simp only [IntKind.bits]; omega) ?_
          refine ops_assign rfl rfl ?_
          refine ops_nil ?_
          refine SL.wp_region ?_
          refine ops_move rfl rfl ?_
          refine ops_add rfl rfl rfl (by omega) ?_
          refine ops_assign rfl rfl ?_
          refine ops_nil ?_
          refine ⟨rfl, (k + 1, (xs.getD i 0 * ys.getD k 0 + zs.getD (i + k) 0 + c) / 4294967296), (sub_cons' rfl (rfl) (sub_cons' rfl (by rw [Int.natCast_add]; rfl) (sub_cons rfl (sub_cons rfl (sub_cons rfl (sub_cons rfl sub_nil)))))), ?_, ?_⟩
          dsimp only
          exact ⟨LR2, by omega, by omega, _, Ow, by simp [hzl], set_lt hzlt (by omega), fun j hj => by rw [val_set_ne (by omega)]; exact hz0 j (by omega), by
            rw [← Nat.add_assoc, mul_step (by omega) rfl hzv, mul_row]⟩
          dsimp only
          omega
        · obtain rfl : k = ys.length := by omega
          rw [List.take_length] at hzv
          refine SL.wp_exit ?_
          refine upd_hit ?_
          refine SL.wp_region ?_
          refine ops_move rfl rfl ?_
          refine ops_move rfl rfl ?_
          refine ops_move rfl rfl ?_
          first | refine ops_len rfl Try.underlying23 rfl ?_ | refine ops_lens rfl Try.underlying23 rfl (IsNat.slc (by assumption)) ?_ | refine ops_lenn rfl Try.underlying23 rfl (by assumption) ?_ | refine ops_leno rfl Try.underlying23 rfl (by assumption) ?_
          refine ops_add rfl rfl rfl (by omega) ?_
          refine ops_move rfl rfl ?_
          refine ops_to32 rfl Try.underlying25 Try.underlying43 rfl ?_
          refine ops_idxo (i + ys.length) rfl Try.underlying23 sz43 rfl rfl Ow (by omega) (by omega) (fun b65 cur65 cap65 B65 => ?_)
          have hc65 : w3.cell? ⟨b65, i + ys.length, none⟩ = some (lw (zs.getD (i + ys.length) 0)) := by rw [B65.blk.cell]; exact B65.get (map_lw_get (by omega))
          refine ops_store rfl rfl sz43 B65.blk rfl (by have := B65.len; have := B65.le; omega) (by simp [Value.cells, Value.oneCell']) (fun w5 Cw5 BN => ?_)
          have Lw5 := Le.of_chg (Fz := Fz) (M := (Mo (Value.slice (some ⟨b15, 0, none⟩) (xs.length + ys.length) (xs.length + ys.length)) M)) Cw5 (.inl B65.own) (Of b65 B65.own)
          replace LL := LL.trans Lw5
          replace LR := LR.trans Lw5
          replace LR2 := LR2.trans Lw5
          replace hM := hM.mono Lw5
          replace hF := hF.mono Lw5
          replace h1 := h1.mono Lw5
          replace h2 := h2.mono Lw5
          have Ow2 := B65.set (by omega) BN
          replace Ow2 : World.ownsRow w5 0 43 1 (Value.slice (some ⟨b15, 0, none⟩) (xs.length + ys.length) (xs.length + ys.length)) (zs.set (i + ys.length) (c % 4294967296)).length ((zs.set (i + ys.length) (c % 4294967296)).map lw) := by rw [List.length_set, List.map_set]; exact Ow2
          clear Ow; have Ow := Ow2; clear Ow2 BN
          refine ops_nil ?_
          refine SL.wp_region ?_
          refine ops_move rfl rfl ?_
          refine ops_add rfl rfl rfl (by omega) ?_
          refine ops_assign rfl rfl ?_
          refine ops_nil ?_
          refine ⟨rfl, i + 1, (sub_cons' rfl (by rw [Int.natCast_add]; rfl) (sub_cons rfl (sub_cons rfl (sub_cons rfl sub_nil)))), ?_, ?_⟩
          exact ⟨LR, by omega, _, Ow, by simp [hzl], set_lt hzlt (by omega), fun j hj => by rw [val_set_ne (by omega)]; exact hz0 j (by omega), by
            have := val_set (zs := zs) (j := i + ys.length) (c % 4294967296) (by omega)
            rw [hz0 _ (Nat.le_refl _), Nat.mod_eq_of_lt hc] at this
            rw [Nat.mod_eq_of_lt hc, ← mul_rows, ← hzv]; omega⟩
          omega
    · refine SL.wp_exit ?_
      refine upd_hit ?_
      refine SL.wp_seq ?_
      refine SL.wp_region ?_
      refine ops_move rfl rfl ?_
      refine ops_callv rfl bod26 rfl rfl ?_
      refine (rtrim_c (M := M) (xs := zs) ⟨own_slc Ow Om (by omega), hzlt⟩ (by omega) (fun k hk => hM k (.inr hk))).mono ?_
      rintro v67 w6 ⟨hB67, hf67⟩
      have hS67 := LL.size
      have Lw6 := Le.of_below (Fz := Fz) (M := (Mo (Value.slice (some ⟨b15, 0, none⟩) (xs.length + ys.length) (xs.length + ys.length)) M)) hB67
      replace LL := LL.trans Lw6
      replace LR := LR.trans Lw6
      replace hM := hM.mono Lw6
      replace hF := hF.mono Lw6
      replace h1 := h1.mono Lw6
      replace h2 := h2.mono Lw6
      replace Ow := own_below Ow hB67
      replace hf67 := hf67.less hS67
      refine ops_assign rfl rfl ?_
      refine ops_nil ?_
      refine SL.wp_ret ?_
      refine leave_nil ⟨[_], ⟨rfl, trivial⟩, ?_⟩
      dsimp only [resVal]
      subst hFz
      obtain rfl : i = xs.length := by omega
      rw [List.take_length] at hzv
      rw [hzv] at hf67
      exact ⟨LL.below (Nat.le_refl _), hf67⟩

end Go.Proofs.Ytffakiheophioaa
