import Derived.Test.YtffakiheophioaaW14
import Derived.Test.YtffakiheophioaaSLp
import Derived.Test.YtffakiheophioaaSLo
import Derived.Test.YtffakiheophioaaSLn
set_option linter.unusedVariables false
set_option linter.unusedSimpArgs false
set_option maxRecDepth 100000
namespace Go.Proofs.Ytffakiheophioaa
open Go.SL Go.RowKit Go.Proofs

theorem less_c {M : Nat → Prop} {w : World} {v u : Value} {xs ys : List Nat} (h1 : IsNat M w v xs) (h2 : IsNat M w u ys) (hl1 : xs.length ≤ 1000000000) (hl2 : ys.length ≤ 1000000000) (hM : OkM M w) :
    CallsV Try.prog 64 [v, u] w fun r w' => Below w.heap.size w w' ∧ Fresh 43 w w' r (limbs (val xs - val ys)) := by
  obtain ⟨Fz, hFz⟩ : ∃ Fz : Nat → Prop, Fz = (· < w.heap.size) := ⟨_, rfl⟩
  have hF : FOk Fz w := by subst hFz; exact fun _ h => h
  have LL := Le.refl Fz M w; have hM0 := hM
  refine calls_intro Try.func64 rfl Try.ntmps64 rfl ?_
  refine SL.wp_seq ?_
  refine SL.wp_region ?_
  refine ops_assign rfl rfl ?_
  refine ops_nil ?_
  refine SL.wp_seq ?_
  refine SL.wp_region ?_
  refine ops_move rfl rfl ?_
  refine ops_move rfl rfl ?_
  refine ops_callv rfl bod20 rfl rfl ?_
  refine (sub_d (M := M) h1 h2 (by omega) (by omega) hM).mono ?_
  rintro v10 w1 ⟨hB10, q10, rfl, hf10⟩
  have hM10 := hM; have hS10 := LL.size
  have Lw1 := Le.of_below (Fz := Fz) (M := M) hB10
  replace LL := LL.trans Lw1
  replace hM := hM.mono Lw1
  replace hF := hF.mono Lw1
  replace h1 := h1.mono Lw1
  replace h2 := h2.mono Lw1
  have hn10 := hf10.nat hM10; replace hf10 := hf10.less hS10
  refine ops_move rfl rfl ?_
  refine ops_extract rfl rfl rfl ?_
  refine ops_extract rfl rfl rfl ?_
  refine ops_assign rfl rfl ?_
  refine ops_assign rfl rfl ?_
  refine ops_nil ?_
  refine SL.wp_seq ?_
  refine SL.wp_region ?_
  refine ops_move rfl rfl ?_
  refine ops_assign rfl rfl ?_
  refine ops_nil ?_
  refine SL.wp_ret ?_
  refine leave_nil ⟨[_], ⟨rfl, trivial⟩, ?_⟩
  dsimp only [resVal]
  subst hFz
  exact ⟨LL.below (Nat.le_refl _), hf10⟩


theorem above_c {M : Nat → Prop} {w : World} {v : Value} {xs : List Nat} {n : Nat} {j : Int} (h : IsNat M w v xs) (hj : j = (n : Int)) (hn : n ≤ 100000000) (hl : xs.length ≤ 100000000) (hM : OkM M w) :
    CallsV Try.prog 65 [v, .int .i64 j] w fun r w' => Below w.heap.size w w' ∧ Fresh 43 w w' r (List.replicate n 0 ++ xs) := by
  obtain ⟨Fz, hFz⟩ : ∃ Fz : Nat → Prop, Fz = (· < w.heap.size) := ⟨_, rfl⟩
  have hF : FOk Fz w := by subst hFz; exact fun _ h => h
  have LL := Le.refl Fz M w; have hM0 := hM
  refine calls_intro Try.func65 rfl Try.ntmps65 rfl ?_
  refine SL.wp_seq ?_
  refine SL.wp_region ?_
  refine ops_assign rfl rfl ?_
  refine ops_nil ?_
  refine SL.wp_seq ?_
  refine SL.wp_region ?_
  refine ops_move rfl rfl ?_
  refine ops_make (n) (n) rfl Try.underlying23 sz43 rfl rfl rfl (by omega) (by omega) (by omega) (by omega) (by omega) (fun w1 b6 N6 => ?_)
  have nF6 := hF.new N6; have nM6 := hM.new N6; have hBw1 := N6.below
  have Lw1 := Le.of_new_mo (Fz := Fz) (M := M) (v := Value.slice (some ⟨b6, 0, none⟩) (n) (n)) N6 rfl
  replace LL := LL.trans Lw1
  replace hM := hM.mono Lw1
  replace hF := hF.mono Lw1
  replace h := h.mono Lw1
  have Of : ∀ k, (Value.slice (some ⟨b6, 0, none⟩) (n) (n)).ownBlock = some k → ¬ Fz k := slice_own nF6
  have Om : ∀ k, (Value.slice (some ⟨b6, 0, none⟩) (n) (n)).ownBlock = some k → ¬ M k := slice_own nM6
  have Ow := own_blk (n := n) (c := n) N6.blk (by simp) (by omega) (by omega)
  have Ow : World.ownsRow w1 0 43 1 (Value.slice (some ⟨b6, 0, none⟩) (n) (n)) (List.replicate (n) 0).length ((List.replicate (n) 0).map lw) := by simpa [lw] using Ow
  refine ops_move rfl rfl ?_
  refine ops_append rfl Try.underlying23 sz43 rfl rfl rfl Ow h.slc (lw_one _) (by simp; omega) (by simp; omega) (fun v8 w2 A8 G8 S8 => ?_)
  have Lw2 := Le.of_grown (Fz := Fz) (M := M) G8 S8 A8 Of
  have Omo8 := Om
  replace Of := own_step_f (w' := w2) Of hF S8; replace Om := own_step_m (w' := w2) Om (fun k hk => hM k (.inr hk)) S8
  replace LL := LL.trans Lw2
  replace hM := hM.mono Lw2
  replace hF := hF.mono Lw2
  replace h := h.mono Lw2
  clear Ow; have Ow := A8
  refine ops_assign rfl rfl ?_
  refine ops_nil ?_
  refine SL.wp_ret ?_
  refine leave_nil ⟨[_], ⟨rfl, trivial⟩, ?_⟩
  dsimp only [resVal]
  subst hFz
  refine ⟨LL.below (Nat.le_refl _), fresh_of (by rw [List.length_append, List.map_append]; exact Ow) Of (fun x hx => ?_) (by simp; omega)⟩
  rcases List.mem_append.1 hx with hx | hx
  · rw [(List.mem_replicate.1 hx).2]; omega
  · exact h.lt x hx


def Mul1P (K : Nat) : Prop := ∀ (M : Nat → Prop) (w : World) (b : Nat) (v u : Value) (xs ys : List Nat), Blk w b 45 [.func (.func 62) #[] #[.pointer (some ⟨b, 0, none⟩)]] → ¬ M b → IsNat M w v xs → IsNat M w u ys → max xs.length ys.length ≤ K → OkM M w →
  CallsV Try.prog 62 [v, u, .pointer (some ⟨b, 0, none⟩)] w fun r w' => Below w.heap.size w w' ∧ Fresh 43 w w' r (limbs (val xs * val ys))
theorem mul1_step {K : Nat} (hK : K ≤ 1000000) (ih : ∀ k, k < K → Mul1P k) {M : Nat → Prop} {w : World} {b : Nat} {v u : Value} {xs ys : List Nat} (B2 : Blk w b 45 [.func (.func 62) #[] #[.pointer (some ⟨b, 0, none⟩)]]) (n2 : ¬ M b) (h1 : IsNat M w v xs) (h2 : IsNat M w u ys) (hl : max xs.length ys.length ≤ K) (hM : OkM M w) :
    CallsV Try.prog 62 [v, u, .pointer (some ⟨b, 0, none⟩)] w fun r w' => Below w.heap.size w w' ∧ Fresh 43 w w' r (limbs (val xs * val ys)) := by
  obtain ⟨Fz, hFz⟩ : ∃ Fz : Nat → Prop, Fz = (· < w.heap.size) := ⟨_, rfl⟩
  have hF : FOk Fz w := by subst hFz; exact fun _ h => h
  have LL := Le.refl Fz M w; have hM0 := hM
  refine calls_intro Try.func62 rfl Try.ntmps62 rfl ?_
  refine SL.wp_seq ?_
  refine SL.wp_region ?_
  refine ops_assign rfl rfl ?_
  refine ops_nil ?_
  refine SL.wp_seq ?_
  refine SL.wp_region ?_
  refine ops_move rfl rfl ?_
  first | refine ops_len rfl Try.underlying23 rfl ?_ | refine ops_lens rfl Try.underlying23 rfl (IsNat.slc (by assumption)) ?_ | refine ops_lenn rfl Try.underlying23 rfl (by assumption) ?_ | refine ops_leno rfl Try.underlying23 rfl (by assumption) ?_
  refine ops_move rfl rfl ?_
  first | refine ops_len rfl Try.underlying23 rfl ?_ | refine ops_lens rfl Try.underlying23 rfl (IsNat.slc (by assumption)) ?_ | refine ops_lenn rfl Try.underlying23 rfl (by assumption) ?_ | refine ops_leno rfl Try.underlying23 rfl (by assumption) ?_
  refine ops_max rfl rfl rfl ?_
  refine ops_quo rfl rfl rfl (by omega) ?_
  rw [show (max (xs.length : Int) ys.length) / 2 = ((max xs.length ys.length / 2 : Nat) : Int) by omega]
  generalize hn : max xs.length ys.length / 2 = n
  refine ops_assign rfl rfl ?_
  refine ops_nil ?_
  refine SL.wp_seq ?_
  refine SL.wp_seq ?_
  refine SL.wp_region ?_
  refine ops_move rfl rfl ?_
  first | refine ops_len rfl Try.underlying23 rfl ?_ | refine ops_lens rfl Try.underlying23 rfl (IsNat.slc (by assumption)) ?_ | refine ops_lenn rfl Try.underlying23 rfl (by assumption) ?_ | refine ops_leno rfl Try.underlying23 rfl (by assumption) ?_
  refine ops_move rfl rfl ?_
  first | refine ops_len rfl Try.underlying23 rfl ?_ | refine ops_lens rfl Try.underlying23 rfl (IsNat.slc (by assumption)) ?_ | refine ops_lenn rfl Try.underlying23 rfl (by assumption) ?_ | refine ops_leno rfl Try.underlying23 rfl (by assumption) ?_
  refine ops_min rfl rfl rfl ?_
  refine ops_move rfl rfl ?_
  refine ops_max rfl rfl rfl ?_
  refine ops_le rfl rfl rfl ?_
  refine ops_nil ?_
  refine SL.wp_cond_d rfl (fun hc0 => ?_) (fun hc0 => ?_)
  · refine SL.wp_seq ?_
    refine SL.wp_region ?_
    refine ops_move rfl rfl ?_
    refine ops_move rfl rfl ?_
    refine ops_callv rfl bod63 rfl rfl ?_
    refine (plain_c (M := M) (by assumption) (by assumption) (by omega) (by omega) hM).mono ?_
    rintro v26 w1 ⟨hB26, hf26⟩
    have hM26 := hM; have hS26 := LL.size
    have Lw1 := Le.of_below (Fz := Fz) (M := M) hB26
    replace LL := LL.trans Lw1
    replace hM := hM.mono Lw1
    replace hF := hF.mono Lw1
    replace h1 := h1.mono Lw1
    replace h2 := h2.mono Lw1
    replace B2 := B2.below hB26
    have hn26 := hf26.nat hM26; replace hf26 := hf26.less hS26
    refine ops_assign rfl rfl ?_
    refine ops_nil ?_
    refine SL.wp_ret ?_
    refine leave_nil ⟨[_], ⟨rfl, trivial⟩, ?_⟩
    dsimp only [resVal]
    subst hFz
    exact ⟨LL.below (Nat.le_refl _), hf26⟩
  · have hnl : n ≤ xs.length ∧ n ≤ ys.length ∧ 13 ≤ K := by omega
    refine SL.wp_skip ?_
    refine SL.wp_seq ?_
    refine SL.wp_draw (R := Rb) (R' := Rb) (st := none) mixed 15 [0, 1, 2, 5, 6, 34, 35, 38, 41] (by decide +kernel) rb_trans rb_self (rb_drew _) (fun _ _ _ h => by cases h) ?_
    apply drs_ex
    · intro wq hR hst
      refine obl_e rfl rfl ?_
      refine obl_done ?_
      have Lq := Le.of_below (Fz := Fz) (M := M) hR
      replace LL := LL.trans Lq
      replace hM := hM.mono Lq
      replace hF := hF.mono Lq
      replace h1 := h1.mono Lq
      replace h2 := h2.mono Lq
      replace B2 := B2.below hR
      refine ops_loadb rfl flat45 rfl B2 rfl ?_
      exact ops_nil ⟨rfl, rb_refl _, _, rfl, rfl⟩
    apply drs_ex
    · intro wq hR hst
      refine obl_e rfl rfl ?_
      refine obl_done ?_
      have Lq := Le.of_below (Fz := Fz) (M := M) hR
      replace LL := LL.trans Lq
      replace hM := hM.mono Lq
      replace hF := hF.mono Lq
      replace h1 := h1.mono Lq
      replace h2 := h2.mono Lq
      replace B2 := B2.below hR
      refine ops_move rfl rfl ?_
      exact ops_nil ⟨rfl, rb_refl _, _, rfl, rfl⟩
    apply drs_ex
    · intro wq hR hst
      refine obl_e rfl rfl ?_
      refine obl_done ?_
      have Lq := Le.of_below (Fz := Fz) (M := M) hR
      replace LL := LL.trans Lq
      replace hM := hM.mono Lq
      replace hF := hF.mono Lq
      replace h1 := h1.mono Lq
      replace h2 := h2.mono Lq
      replace B2 := B2.below hR
      refine ops_move rfl rfl ?_
      exact ops_nil ⟨rfl, rb_refl _, _, rfl, rfl⟩
    refine drs_val (fun v w => IsNat M w v (xs.take n)) nat_mono (fun wq hR hst => ?_) ?_
    · refine obl_x rfl ?_
      refine obl_x rfl ?_
      refine obl_done ?_
      have Lq := Le.of_below (Fz := Fz) (M := M) hR
      replace LL := LL.trans Lq
      replace hM := hM.mono Lq
      replace hF := hF.mono Lq
      replace h1 := h1.mono Lq
      replace h2 := h2.mono Lq
      replace B2 := B2.below hR
      refine ops_slices (M := M) (0) (n) rfl Try.underlying23 sz43 rfl h1.slc rfl ⟨_, rfl⟩ trivial (by omega) (by omega) (fun v30 hv30 => ?_)
      have hn30 : IsNat M wq v30 (xs.take n) := by have := h1.sub (by omega) hv30; simpa using this
      exact ops_nil ⟨rfl, rb_refl _, _, rfl, by assumption⟩
    apply drs_ex
    · intro wq hR hst
      refine obl_e rfl rfl ?_
      refine obl_done ?_
      have Lq := Le.of_below (Fz := Fz) (M := M) hR
      replace LL := LL.trans Lq
      replace hM := hM.mono Lq
      replace hF := hF.mono Lq
      replace h1 := h1.mono Lq
      replace h2 := h2.mono Lq
      replace B2 := B2.below hR
      refine ops_move rfl rfl ?_
      exact ops_nil ⟨rfl, rb_refl _, _, rfl, rfl⟩
    apply drs_ex
    · intro wq hR hst
      refine obl_e rfl rfl ?_
      refine obl_done ?_
      have Lq := Le.of_below (Fz := Fz) (M := M) hR
      replace LL := LL.trans Lq
      replace hM := hM.mono Lq
      replace hF := hF.mono Lq
      replace h1 := h1.mono Lq
      replace h2 := h2.mono Lq
      replace B2 := B2.below hR
      refine ops_move rfl rfl ?_
      exact ops_nil ⟨rfl, rb_refl _, _, rfl, rfl⟩
    refine drs_val (fun v w => IsNat M w v (ys.take n)) nat_mono (fun wq hR hst => ?_) ?_
    · refine obl_x rfl ?_
      refine obl_x rfl ?_
      refine obl_done ?_
      have Lq := Le.of_below (Fz := Fz) (M := M) hR
      replace LL := LL.trans Lq
      replace hM := hM.mono Lq
      replace hF := hF.mono Lq
      replace h1 := h1.mono Lq
      replace h2 := h2.mono Lq
      replace B2 := B2.below hR
      refine ops_slices (M := M) (0) (n) rfl Try.underlying23 sz43 rfl h2.slc rfl ⟨_, rfl⟩ trivial (by omega) (by omega) (fun v33 hv33 => ?_)
      have hn33 : IsNat M wq v33 (ys.take n) := by have := h2.sub (by omega) hv33; simpa using this
      exact ops_nil ⟨rfl, rb_refl _, _, rfl, by assumption⟩
    refine drs_val (fun v w => IsNat M w v (limbs (val (xs.take n) * val (ys.take n)))) nat_mono (fun wq hR hst => ?_) ?_
    · refine obl_x rfl ?_
      refine obl_g rfl (fun v30 hn30 => ?_)
      refine obl_g rfl (fun v33 hn33 => ?_)
      refine obl_done ?_
      have Lq := Le.of_below (Fz := Fz) (M := M) hR
      replace LL := LL.trans Lq
      replace hM := hM.mono Lq
      replace hF := hF.mono Lq
      replace h1 := h1.mono Lq
      replace h2 := h2.mono Lq
      replace B2 := B2.below hR
      refine ops_callv rfl bod62 rfl rfl ?_
      refine (ih (K - 1) (by omega) M _ b _ _ (xs.take n) (ys.take n) B2 n2 (by assumption) (by assumption) (by simp; omega) hM).mono ?_
      rintro v34 w2 ⟨hB34, hf34⟩
      have hM34 := hM; have hS34 := LL.size
      have Lw2 := Le.of_below (Fz := Fz) (M := M) hB34
      replace LL := LL.trans Lw2
      replace hM := hM.mono Lw2
      replace hF := hF.mono Lw2
      replace h1 := h1.mono Lw2
      replace h2 := h2.mono Lw2
      replace hn30 := hn30.mono Lw2
      replace hn33 := hn33.mono Lw2
      replace B2 := B2.below hB34
      have hn34 := hf34.nat hM34; replace hf34 := hf34.less hS34
      exact ops_nil ⟨rfl, hB34, _, rfl, by assumption⟩
    apply drs_ex
    · intro wq hR hst
      refine obl_e rfl rfl ?_
      refine obl_done ?_
      have Lq := Le.of_below (Fz := Fz) (M := M) hR
      replace LL := LL.trans Lq
      replace hM := hM.mono Lq
      replace hF := hF.mono Lq
      replace h1 := h1.mono Lq
      replace h2 := h2.mono Lq
      replace B2 := B2.below hR
      refine ops_loadb rfl flat45 rfl B2 rfl ?_
      exact ops_nil ⟨rfl, rb_refl _, _, rfl, rfl⟩
    apply drs_ex
    · intro wq hR hst
      refine obl_e rfl rfl ?_
      refine obl_done ?_
      have Lq := Le.of_below (Fz := Fz) (M := M) hR
      replace LL := LL.trans Lq
      replace hM := hM.mono Lq
      replace hF := hF.mono Lq
      replace h1 := h1.mono Lq
      replace h2 := h2.mono Lq
      replace B2 := B2.below hR
      refine ops_move rfl rfl ?_
      exact ops_nil ⟨rfl, rb_refl _, _, rfl, rfl⟩
    apply drs_ex
    · intro wq hR hst
      refine obl_e rfl rfl ?_
      refine obl_done ?_
      have Lq := Le.of_below (Fz := Fz) (M := M) hR
      replace LL := LL.trans Lq
      replace hM := hM.mono Lq
      replace hF := hF.mono Lq
      replace h1 := h1.mono Lq
      replace h2 := h2.mono Lq
      replace B2 := B2.below hR
      refine ops_move rfl rfl ?_
      exact ops_nil ⟨rfl, rb_refl _, _, rfl, rfl⟩
    refine drs_val (fun v w => IsNat M w v (xs.drop n)) nat_mono (fun wq hR hst => ?_) ?_
    · refine obl_x rfl ?_
      refine obl_x rfl ?_
      refine obl_done ?_
      have Lq := Le.of_below (Fz := Fz) (M := M) hR
      replace LL := LL.trans Lq
      replace hM := hM.mono Lq
      replace hF := hF.mono Lq
      replace h1 := h1.mono Lq
      replace h2 := h2.mono Lq
      replace B2 := B2.below hR
      refine ops_slices (M := M) n (xs.length) rfl Try.underlying23 sz43 rfl h1.slc ⟨_, rfl⟩ rfl trivial (by omega) (by omega) (fun v38 hv38 => ?_)
      have hn38 : IsNat M wq v38 (xs.drop n) := by have := h1.sub (by omega) hv38; rw [List.take_of_length_le (by simp)] at this; exact this
      exact ops_nil ⟨rfl, rb_refl _, _, rfl, by assumption⟩
    apply drs_ex
    · intro wq hR hst
      refine obl_e rfl rfl ?_
      refine obl_done ?_
      have Lq := Le.of_below (Fz := Fz) (M := M) hR
      replace LL := LL.trans Lq
      replace hM := hM.mono Lq
      replace hF := hF.mono Lq
      replace h1 := h1.mono Lq
      replace h2 := h2.mono Lq
      replace B2 := B2.below hR
      refine ops_move rfl rfl ?_
      exact ops_nil ⟨rfl, rb_refl _, _, rfl, rfl⟩
    apply drs_ex
    · intro wq hR hst
      refine obl_e rfl rfl ?_
      refine obl_done ?_
      have Lq := Le.of_below (Fz := Fz) (M := M) hR
      replace LL := LL.trans Lq
      replace hM := hM.mono Lq
      replace hF := hF.mono Lq
      replace h1 := h1.mono Lq
      replace h2 := h2.mono Lq
      replace B2 := B2.below hR
      refine ops_move rfl rfl ?_
      exact ops_nil ⟨rfl, rb_refl _, _, rfl, rfl⟩
    refine drs_val (fun v w => IsNat M w v (ys.drop n)) nat_mono (fun wq hR hst => ?_) ?_
    · refine obl_x rfl ?_
      refine obl_x rfl ?_
      refine obl_done ?_
      have Lq := Le.of_below (Fz := Fz) (M := M) hR
      replace LL := LL.trans Lq
      replace hM := hM.mono Lq
      replace hF := hF.mono Lq
      replace h1 := h1.mono Lq
      replace h2 := h2.mono Lq
      replace B2 := B2.below hR
      refine ops_slices (M := M) n (ys.length) rfl Try.underlying23 sz43 rfl h2.slc ⟨_, rfl⟩ rfl trivial (by omega) (by omega) (fun v41 hv41 => ?_)
      have hn41 : IsNat M wq v41 (ys.drop n) := by have := h2.sub (by omega) hv41; rw [List.take_of_length_le (by simp)] at this; exact this
      exact ops_nil ⟨rfl, rb_refl _, _, rfl, by assumption⟩
    refine drs_nil (fun wq4 hR4 hpost4 => ?_)
    refine obl_e rfl rfl ?_
    refine obl_e rfl rfl ?_
    refine obl_e rfl rfl ?_
    refine obl_e rfl rfl ?_
    refine obl_e rfl rfl ?_
    refine obl_g rfl (fun v34 hn34 => ?_)
    refine obl_x rfl ?_
    refine obl_g rfl (fun v38 hn38 => ?_)
    refine obl_g rfl (fun v41 hn41 => ?_)
    refine obl_done ?_
    simp only [List.drop_succ_cons, List.drop_zero, List.drop_nil, List.toList_toArray]
    have Lwq4 := Le.of_below (Fz := Fz) (M := M) hR4
    replace LL := LL.trans Lwq4
    replace hM := hM.mono Lwq4
    replace hF := hF.mono Lwq4
    replace h1 := h1.mono Lwq4
    replace h2 := h2.mono Lwq4
    replace B2 := B2.below hR4
    have hl34 := mul_len (val_lt_pow (xs := xs.take n) (k := K) (fun x hx => h1.lt x (List.mem_of_mem_take hx)) (by simp; omega)) (val_lt_pow (xs := ys.take n) (k := K) (fun x hx => h2.lt x (List.mem_of_mem_take hx)) (by simp; omega))
    have hl42 := mul_len (val_lt_pow (xs := xs.drop n) (k := K) (fun x hx => h1.lt x (List.mem_of_mem_drop hx)) (by simp; omega)) (val_lt_pow (xs := ys.drop n) (k := K) (fun x hx => h2.lt x (List.mem_of_mem_drop hx)) (by simp; omega))
    refine ops_callv rfl bod62 rfl rfl ?_
    refine (ih (K - 1) (by omega) M _ b _ _ (xs.drop n) (ys.drop n) B2 n2 (by assumption) (by assumption) (by simp; omega) hM).mono ?_
    rintro v42 w3 ⟨hB42, hf42⟩
    have hM42 := hM; have hS42 := LL.size
    have Lw3 := Le.of_below (Fz := Fz) (M := M) hB42
    replace LL := LL.trans Lw3
    replace hM := hM.mono Lw3
    replace hF := hF.mono Lw3
    replace h1 := h1.mono Lw3
    replace h2 := h2.mono Lw3
    replace hn34 := hn34.mono Lw3
    replace hn38 := hn38.mono Lw3
    replace hn41 := hn41.mono Lw3
    replace B2 := B2.below hB42
    have hn42 := hf42.nat hM42; replace hf42 := hf42.less hS42
    refine ops_assign rfl rfl ?_
    refine ops_assign rfl rfl ?_
    refine ops_nil ?_
    refine SL.wp_seq ?_
    have hs0 : (limbs (val (xs.take n) + val (xs.drop n))).length ≤ K - 1 := Nat.le_trans (add_len (k := K - 2) (val_lt_pow (fun x hx => h1.lt x (List.mem_of_mem_take hx)) (by simp; omega)) (val_lt_pow (fun x hx => h1.lt x (List.mem_of_mem_drop hx)) (by simp; omega))) (by omega)
    have hs1 : (limbs (val (ys.take n) + val (ys.drop n))).length ≤ K - 1 := Nat.le_trans (add_len (k := K - 2) (val_lt_pow (fun x hx => h2.lt x (List.mem_of_mem_take hx)) (by simp; omega)) (val_lt_pow (fun x hx => h2.lt x (List.mem_of_mem_drop hx)) (by simp; omega))) (by omega)
    refine SL.wp_draw (R := Rb) (R' := Rb) (st := none) mixed 21 [5, 6, 7, 8, 60, 63] (by decide +kernel) rb_trans rb_self (rb_drew _) (fun _ _ _ h => by cases h) ?_
    apply drs_ex
    · intro wq hR hst
      refine obl_e rfl rfl ?_
      refine obl_done ?_
      have Lq := Le.of_below (Fz := Fz) (M := M) hR
      replace LL := LL.trans Lq
      replace hM := hM.mono Lq
      replace hF := hF.mono Lq
      replace h1 := h1.mono Lq
      replace h2 := h2.mono Lq
      replace hn34 := hn34.mono Lq
      replace hn38 := hn38.mono Lq
      replace hn41 := hn41.mono Lq
      replace hn42 := hn42.mono Lq
      replace B2 := B2.below hR
      refine ops_loadb rfl flat45 rfl B2 rfl ?_
      exact ops_nil ⟨rfl, rb_refl _, _, rfl, rfl⟩
    apply drs_ex
    · intro wq hR hst
      refine obl_e rfl rfl ?_
      refine obl_done ?_
      have Lq := Le.of_below (Fz := Fz) (M := M) hR
      replace LL := LL.trans Lq
      replace hM := hM.mono Lq
      replace hF := hF.mono Lq
      replace h1 := h1.mono Lq
      replace h2 := h2.mono Lq
      replace hn34 := hn34.mono Lq
      replace hn38 := hn38.mono Lq
      replace hn41 := hn41.mono Lq
      replace hn42 := hn42.mono Lq
      replace B2 := B2.below hR
      refine ops_move rfl rfl ?_
      exact ops_nil ⟨rfl, rb_refl _, _, rfl, rfl⟩
    apply drs_ex
    · intro wq hR hst
      refine obl_e rfl rfl ?_
      refine obl_done ?_
      have Lq := Le.of_below (Fz := Fz) (M := M) hR
      replace LL := LL.trans Lq
      replace hM := hM.mono Lq
      replace hF := hF.mono Lq
      replace h1 := h1.mono Lq
      replace h2 := h2.mono Lq
      replace hn34 := hn34.mono Lq
      replace hn38 := hn38.mono Lq
      replace hn41 := hn41.mono Lq
      replace hn42 := hn42.mono Lq
      replace B2 := B2.below hR
      refine ops_move rfl rfl ?_
      exact ops_nil ⟨rfl, rb_refl _, _, rfl, rfl⟩
    refine drs_val (fun v w => IsNat M w v (xs.take n)) nat_mono (fun wq hR hst => ?_) ?_
    · refine obl_x rfl ?_
      refine obl_x rfl ?_
      refine obl_done ?_
      have Lq := Le.of_below (Fz := Fz) (M := M) hR
      replace LL := LL.trans Lq
      replace hM := hM.mono Lq
      replace hF := hF.mono Lq
      replace h1 := h1.mono Lq
      replace h2 := h2.mono Lq
      replace hn34 := hn34.mono Lq
      replace hn38 := hn38.mono Lq
      replace hn41 := hn41.mono Lq
      replace hn42 := hn42.mono Lq
      replace B2 := B2.below hR
      refine ops_slices (M := M) (0) (n) rfl Try.underlying23 sz43 rfl h1.slc rfl ⟨_, rfl⟩ trivial (by omega) (by omega) (fun v46 hv46 => ?_)
      have hn46 : IsNat M wq v46 (xs.take n) := by have := h1.sub (by omega) hv46; simpa using this
      exact ops_nil ⟨rfl, rb_refl _, _, rfl, by assumption⟩
    apply drs_ex
    · intro wq hR hst
      refine obl_e rfl rfl ?_
      refine obl_done ?_
      have Lq := Le.of_below (Fz := Fz) (M := M) hR
      replace LL := LL.trans Lq
      replace hM := hM.mono Lq
      replace hF := hF.mono Lq
      replace h1 := h1.mono Lq
      replace h2 := h2.mono Lq
      replace hn34 := hn34.mono Lq
      replace hn38 := hn38.mono Lq
      replace hn41 := hn41.mono Lq
      replace hn42 := hn42.mono Lq
      replace B2 := B2.below hR
      refine ops_move rfl rfl ?_
      exact ops_nil ⟨rfl, rb_refl _, _, rfl, rfl⟩
    apply drs_ex
    · intro wq hR hst
      refine obl_e rfl rfl ?_
      refine obl_done ?_
      have Lq := Le.of_below (Fz := Fz) (M := M) hR
      replace LL := LL.trans Lq
      replace hM := hM.mono Lq
      replace hF := hF.mono Lq
      replace h1 := h1.mono Lq
      replace h2 := h2.mono Lq
      replace hn34 := hn34.mono Lq
      replace hn38 := hn38.mono Lq
      replace hn41 := hn41.mono Lq
      replace hn42 := hn42.mono Lq
      replace B2 := B2.below hR
      refine ops_move rfl rfl ?_
      exact ops_nil ⟨rfl, rb_refl _, _, rfl, rfl⟩
    refine drs_val (fun v w => IsNat M w v (xs.drop n)) nat_mono (fun wq hR hst => ?_) ?_
    · refine obl_x rfl ?_
      refine obl_x rfl ?_
      refine obl_done ?_
      have Lq := Le.of_below (Fz := Fz) (M := M) hR
      replace LL := LL.trans Lq
      replace hM := hM.mono Lq
      replace hF := hF.mono Lq
      replace h1 := h1.mono Lq
      replace h2 := h2.mono Lq
      replace hn34 := hn34.mono Lq
      replace hn38 := hn38.mono Lq
      replace hn41 := hn41.mono Lq
      replace hn42 := hn42.mono Lq
      replace B2 := B2.below hR
      refine ops_slices (M := M) n (xs.length) rfl Try.underlying23 sz43 rfl h1.slc ⟨_, rfl⟩ rfl trivial (by omega) (by omega) (fun v49 hv49 => ?_)
      have hn49 : IsNat M wq v49 (xs.drop n) := by have := h1.sub (by omega) hv49; rw [List.take_of_length_le (by simp)] at this; exact this
      exact ops_nil ⟨rfl, rb_refl _, _, rfl, by assumption⟩
    refine drs_val (fun v w => IsNats M w v [xs.take n, xs.drop n]) nats_mono (fun wq hR hst => ?_) ?_
    · refine obl_g rfl (fun v46 hn46 => ?_)
      refine obl_g rfl (fun v49 hn49 => ?_)
      refine obl_done ?_
      have Lq := Le.of_below (Fz := Fz) (M := M) hR
      replace LL := LL.trans Lq
      replace hM := hM.mono Lq
      replace hF := hF.mono Lq
      replace h1 := h1.mono Lq
      replace h2 := h2.mono Lq
      replace hn34 := hn34.mono Lq
      replace hn38 := hn38.mono Lq
      replace hn41 := hn41.mono Lq
      replace hn42 := hn42.mono Lq
      replace B2 := B2.below hR
      refine ops_buildSlice rfl Try.underlying24 sz23 rfl rfl rfl (one2 (by first | rfl | exact nat_one (by assumption) | exact own_one (by assumption)) (by first | rfl | exact nat_one (by assumption) | exact own_one (by assumption))) rfl (fun w4 b50 N50 => ?_)
      have hBw4 := N50.below
      have nM50 := hM.new N50; have B50 := N50.blk
      have Lw4 := Le.of_below (Fz := Fz) (M := M) hBw4
      replace LL := LL.trans Lw4
      replace hM := hM.mono Lw4
      replace hF := hF.mono Lw4
      replace h1 := h1.mono Lw4
      replace h2 := h2.mono Lw4
      replace hn34 := hn34.mono Lw4
      replace hn38 := hn38.mono Lw4
      replace hn41 := hn41.mono Lw4
      replace hn42 := hn42.mono Lw4
      replace hn46 := hn46.mono Lw4
      replace hn49 := hn49.mono Lw4
      replace B2 := B2.below hBw4
      have hn50 := nats2 B50 nM50 (by assumption) (by assumption)
      have hB50 := hBw4
      exact ops_nil ⟨rfl, hB50, _, rfl, by assumption⟩
    refine drs_val (fun v w => IsNat M w v (limbs (val (xs.take n) + val (xs.drop n)))) nat_mono (fun wq hR hst => ?_) ?_
    · refine obl_g rfl (fun v50 hn50 => ?_)
      refine obl_done ?_
      have Lq := Le.of_below (Fz := Fz) (M := M) hR
      replace LL := LL.trans Lq
      replace hM := hM.mono Lq
      replace hF := hF.mono Lq
      replace h1 := h1.mono Lq
      replace h2 := h2.mono Lq
      replace hn34 := hn34.mono Lq
      replace hn38 := hn38.mono Lq
      replace hn41 := hn41.mono Lq
      replace hn42 := hn42.mono Lq
      replace B2 := B2.below hR
      refine ops_callv rfl bod29 rfl rfl ?_
      refine (add2_c (M := M) (xs := xs.take n) (ys := xs.drop n) (by assumption) (fun x hx => h1.lt x (List.mem_of_mem_take hx)) (fun x hx => h1.lt x (List.mem_of_mem_drop hx)) (by simp; omega) (by simp; omega) hM).mono ?_
      rintro v51 w5 ⟨hB51, hf51, hl51⟩
      have hM51 := hM; have hS51 := LL.size
      have Lw5 := Le.of_below (Fz := Fz) (M := M) hB51
      replace LL := LL.trans Lw5
      replace hM := hM.mono Lw5
      replace hF := hF.mono Lw5
      replace h1 := h1.mono Lw5
      replace h2 := h2.mono Lw5
      replace hn34 := hn34.mono Lw5
      replace hn38 := hn38.mono Lw5
      replace hn41 := hn41.mono Lw5
      replace hn42 := hn42.mono Lw5
      replace hn50 := hn50.mono Lw5
      replace B2 := B2.below hB51
      have hn51 := hf51.nat hM51; replace hf51 := hf51.less hS51
      exact ops_nil ⟨rfl, hB51, _, rfl, by assumption⟩
    apply drs_ex
    · intro wq hR hst
      refine obl_e rfl rfl ?_
      refine obl_done ?_
      have Lq := Le.of_below (Fz := Fz) (M := M) hR
      replace LL := LL.trans Lq
      replace hM := hM.mono Lq
      replace hF := hF.mono Lq
      replace h1 := h1.mono Lq
      replace h2 := h2.mono Lq
      replace hn34 := hn34.mono Lq
      replace hn38 := hn38.mono Lq
      replace hn41 := hn41.mono Lq
      replace hn42 := hn42.mono Lq
      replace B2 := B2.below hR
      refine ops_move rfl rfl ?_
      exact ops_nil ⟨rfl, rb_refl _, _, rfl, rfl⟩
    apply drs_ex
    · intro wq hR hst
      refine obl_e rfl rfl ?_
      refine obl_done ?_
      have Lq := Le.of_below (Fz := Fz) (M := M) hR
      replace LL := LL.trans Lq
      replace hM := hM.mono Lq
      replace hF := hF.mono Lq
      replace h1 := h1.mono Lq
      replace h2 := h2.mono Lq
      replace hn34 := hn34.mono Lq
      replace hn38 := hn38.mono Lq
      replace hn41 := hn41.mono Lq
      replace hn42 := hn42.mono Lq
      replace B2 := B2.below hR
      refine ops_move rfl rfl ?_
      exact ops_nil ⟨rfl, rb_refl _, _, rfl, rfl⟩
    refine drs_val (fun v w => IsNat M w v (ys.take n)) nat_mono (fun wq hR hst => ?_) ?_
    · refine obl_x rfl ?_
      refine obl_x rfl ?_
      refine obl_done ?_
      have Lq := Le.of_below (Fz := Fz) (M := M) hR
      replace LL := LL.trans Lq
      replace hM := hM.mono Lq
      replace hF := hF.mono Lq
      replace h1 := h1.mono Lq
      replace h2 := h2.mono Lq
      replace hn34 := hn34.mono Lq
      replace hn38 := hn38.mono Lq
      replace hn41 := hn41.mono Lq
      replace hn42 := hn42.mono Lq
      replace B2 := B2.below hR
      refine ops_slices (M := M) (0) (n) rfl Try.underlying23 sz43 rfl h2.slc rfl ⟨_, rfl⟩ trivial (by omega) (by omega) (fun v54 hv54 => ?_)
      have hn54 : IsNat M wq v54 (ys.take n) := by have := h2.sub (by omega) hv54; simpa using this
      exact ops_nil ⟨rfl, rb_refl _, _, rfl, by assumption⟩
    apply drs_ex
    · intro wq hR hst
      refine obl_e rfl rfl ?_
      refine obl_done ?_
      have Lq := Le.of_below (Fz := Fz) (M := M) hR
      replace LL := LL.trans Lq
      replace hM := hM.mono Lq
      replace hF := hF.mono Lq
      replace h1 := h1.mono Lq
      replace h2 := h2.mono Lq
      replace hn34 := hn34.mono Lq
      replace hn38 := hn38.mono Lq
      replace hn41 := hn41.mono Lq
      replace hn42 := hn42.mono Lq
      replace B2 := B2.below hR
      refine ops_move rfl rfl ?_
      exact ops_nil ⟨rfl, rb_refl _, _, rfl, rfl⟩
    apply drs_ex
    · intro wq hR hst
      refine obl_e rfl rfl ?_
      refine obl_done ?_
      have Lq := Le.of_below (Fz := Fz) (M := M) hR
      replace LL := LL.trans Lq
      replace hM := hM.mono Lq
      replace hF := hF.mono Lq
      replace h1 := h1.mono Lq
      replace h2 := h2.mono Lq
      replace hn34 := hn34.mono Lq
      replace hn38 := hn38.mono Lq
      replace hn41 := hn41.mono Lq
      replace hn42 := hn42.mono Lq
      replace B2 := B2.below hR
      refine ops_move rfl rfl ?_
      exact ops_nil ⟨rfl, rb_refl _, _, rfl, rfl⟩
    refine drs_val (fun v w => IsNat M w v (ys.drop n)) nat_mono (fun wq hR hst => ?_) ?_
    · refine obl_x rfl ?_
      refine obl_x rfl ?_
      refine obl_done ?_
      have Lq := Le.of_below (Fz := Fz) (M := M) hR
      replace LL := LL.trans Lq
      replace hM := hM.mono Lq
      replace hF := hF.mono Lq
      replace h1 := h1.mono Lq
      replace h2 := h2.mono Lq
      replace hn34 := hn34.mono Lq
      replace hn38 := hn38.mono Lq
      replace hn41 := hn41.mono Lq
      replace hn42 := hn42.mono Lq
      replace B2 := B2.below hR
      refine ops_slices (M := M) n (ys.length) rfl Try.underlying23 sz43 rfl h2.slc ⟨_, rfl⟩ rfl trivial (by omega) (by omega) (fun v57 hv57 => ?_)
      have hn57 : IsNat M wq v57 (ys.drop n) := by have := h2.sub (by omega) hv57; rw [List.take_of_length_le (by simp)] at this; exact this
      exact ops_nil ⟨rfl, rb_refl _, _, rfl, by assumption⟩
    refine drs_val (fun v w => IsNats M w v [ys.take n, ys.drop n]) nats_mono (fun wq hR hst => ?_) ?_
    · refine obl_g rfl (fun v54 hn54 => ?_)
      refine obl_g rfl (fun v57 hn57 => ?_)
      refine obl_done ?_
      have Lq := Le.of_below (Fz := Fz) (M := M) hR
      replace LL := LL.trans Lq
      replace hM := hM.mono Lq
      replace hF := hF.mono Lq
      replace h1 := h1.mono Lq
      replace h2 := h2.mono Lq
      replace hn34 := hn34.mono Lq
      replace hn38 := hn38.mono Lq
      replace hn41 := hn41.mono Lq
      replace hn42 := hn42.mono Lq
      replace B2 := B2.below hR
      refine ops_buildSlice rfl Try.underlying24 sz23 rfl rfl rfl (one2 (by first | rfl | exact nat_one (by assumption) | exact own_one (by assumption)) (by first | rfl | exact nat_one (by assumption) | exact own_one (by assumption))) rfl (fun w6 b58 N58 => ?_)
      have hBw6 := N58.below
      have nM58 := hM.new N58; have B58 := N58.blk
      have Lw6 := Le.of_below (Fz := Fz) (M := M) hBw6
      replace LL := LL.trans Lw6
      replace hM := hM.mono Lw6
      replace hF := hF.mono Lw6
      replace h1 := h1.mono Lw6
      replace h2 := h2.mono Lw6
      replace hn34 := hn34.mono Lw6
      replace hn38 := hn38.mono Lw6
      replace hn41 := hn41.mono Lw6
      replace hn42 := hn42.mono Lw6
      replace hn54 := hn54.mono Lw6
      replace hn57 := hn57.mono Lw6
      replace B2 := B2.below hBw6
      have hn58 := nats2 B58 nM58 (by assumption) (by assumption)
      have hB58 := hBw6
      exact ops_nil ⟨rfl, hB58, _, rfl, by assumption⟩
    refine drs_val (fun v w => IsNat M w v (limbs (val (ys.take n) + val (ys.drop n)))) nat_mono (fun wq hR hst => ?_) ?_
    · refine obl_g rfl (fun v58 hn58 => ?_)
      refine obl_done ?_
      have Lq := Le.of_below (Fz := Fz) (M := M) hR
      replace LL := LL.trans Lq
      replace hM := hM.mono Lq
      replace hF := hF.mono Lq
      replace h1 := h1.mono Lq
      replace h2 := h2.mono Lq
      replace hn34 := hn34.mono Lq
      replace hn38 := hn38.mono Lq
      replace hn41 := hn41.mono Lq
      replace hn42 := hn42.mono Lq
      replace B2 := B2.below hR
      refine ops_callv rfl bod29 rfl rfl ?_
      refine (add2_c (M := M) (xs := ys.take n) (ys := ys.drop n) (by assumption) (fun x hx => h2.lt x (List.mem_of_mem_take hx)) (fun x hx => h2.lt x (List.mem_of_mem_drop hx)) (by simp; omega) (by simp; omega) hM).mono ?_
      rintro v59 w7 ⟨hB59, hf59, hl59⟩
      have hM59 := hM; have hS59 := LL.size
      have Lw7 := Le.of_below (Fz := Fz) (M := M) hB59
      replace LL := LL.trans Lw7
      replace hM := hM.mono Lw7
      replace hF := hF.mono Lw7
      replace h1 := h1.mono Lw7
      replace h2 := h2.mono Lw7
      replace hn34 := hn34.mono Lw7
      replace hn38 := hn38.mono Lw7
      replace hn41 := hn41.mono Lw7
      replace hn42 := hn42.mono Lw7
      replace hn58 := hn58.mono Lw7
      replace B2 := B2.below hB59
      have hn59 := hf59.nat hM59; replace hf59 := hf59.less hS59
      exact ops_nil ⟨rfl, hB59, _, rfl, by assumption⟩
    refine drs_val (fun v w => IsNat M w v (limbs ((val (xs.take n) + val (xs.drop n)) * (val (ys.take n) + val (ys.drop n))))) nat_mono (fun wq hR hst => ?_) ?_
    · refine obl_x rfl ?_
      refine obl_g rfl (fun v51 hn51 => ?_)
      refine obl_g rfl (fun v59 hn59 => ?_)
      refine obl_done ?_
      have Lq := Le.of_below (Fz := Fz) (M := M) hR
      replace LL := LL.trans Lq
      replace hM := hM.mono Lq
      replace hF := hF.mono Lq
      replace h1 := h1.mono Lq
      replace h2 := h2.mono Lq
      replace hn34 := hn34.mono Lq
      replace hn38 := hn38.mono Lq
      replace hn41 := hn41.mono Lq
      replace hn42 := hn42.mono Lq
      replace B2 := B2.below hR
      refine ops_callv rfl bod62 rfl rfl ?_
      refine (ih (K - 1) (by omega) M _ b _ _ (limbs (val (xs.take n) + val (xs.drop n))) (limbs (val (ys.take n) + val (ys.drop n))) B2 n2 (by assumption) (by assumption) (by omega) hM).mono ?_
      rintro v60 w8 ⟨hB60, hf60⟩
      have hM60 := hM; have hS60 := LL.size
      have Lw8 := Le.of_below (Fz := Fz) (M := M) hB60
      replace LL := LL.trans Lw8
      replace hM := hM.mono Lw8
      replace hF := hF.mono Lw8
      replace h1 := h1.mono Lw8
      replace h2 := h2.mono Lw8
      replace hn34 := hn34.mono Lw8
      replace hn38 := hn38.mono Lw8
      replace hn41 := hn41.mono Lw8
      replace hn42 := hn42.mono Lw8
      replace hn51 := hn51.mono Lw8
      replace hn59 := hn59.mono Lw8
      replace B2 := B2.below hB60
      simp only [val_limbs] at hf60
      have hn60 := hf60.nat hM60; replace hf60 := hf60.less hS60
      exact ops_nil ⟨rfl, hB60, _, rfl, by assumption⟩
    apply drs_ex
    · intro wq hR hst
      refine obl_e rfl rfl ?_
      refine obl_done ?_
      have Lq := Le.of_below (Fz := Fz) (M := M) hR
      replace LL := LL.trans Lq
      replace hM := hM.mono Lq
      replace hF := hF.mono Lq
      replace h1 := h1.mono Lq
      replace h2 := h2.mono Lq
      replace hn34 := hn34.mono Lq
      replace hn38 := hn38.mono Lq
      replace hn41 := hn41.mono Lq
      replace hn42 := hn42.mono Lq
      replace B2 := B2.below hR
      refine ops_move rfl rfl ?_
      exact ops_nil ⟨rfl, rb_refl _, _, rfl, rfl⟩
    apply drs_ex
    · intro wq hR hst
      refine obl_e rfl rfl ?_
      refine obl_done ?_
      have Lq := Le.of_below (Fz := Fz) (M := M) hR
      replace LL := LL.trans Lq
      replace hM := hM.mono Lq
      replace hF := hF.mono Lq
      replace h1 := h1.mono Lq
      replace h2 := h2.mono Lq
      replace hn34 := hn34.mono Lq
      replace hn38 := hn38.mono Lq
      replace hn41 := hn41.mono Lq
      replace hn42 := hn42.mono Lq
      replace B2 := B2.below hR
      refine ops_move rfl rfl ?_
      exact ops_nil ⟨rfl, rb_refl _, _, rfl, rfl⟩
    refine drs_val (fun v w => IsNats M w v [limbs (val (xs.take n) * val (ys.take n)), limbs (val (xs.drop n) * val (ys.drop n))]) nats_mono (fun wq hR hst => ?_) ?_
    · refine obl_x rfl ?_
      refine obl_x rfl ?_
      refine obl_done ?_
      have Lq := Le.of_below (Fz := Fz) (M := M) hR
      replace LL := LL.trans Lq
      replace hM := hM.mono Lq
      replace hF := hF.mono Lq
      replace h1 := h1.mono Lq
      replace h2 := h2.mono Lq
      replace hn34 := hn34.mono Lq
      replace hn38 := hn38.mono Lq
      replace hn41 := hn41.mono Lq
      replace hn42 := hn42.mono Lq
      replace B2 := B2.below hR
      refine ops_buildSlice rfl Try.underlying24 sz23 rfl rfl rfl (one2 (by first | rfl | exact nat_one (by assumption) | exact own_one (by assumption)) (by first | rfl | exact nat_one (by assumption) | exact own_one (by assumption))) rfl (fun w9 b63 N63 => ?_)
      have hBw9 := N63.below
      have nM63 := hM.new N63; have B63 := N63.blk
      have Lw9 := Le.of_below (Fz := Fz) (M := M) hBw9
      replace LL := LL.trans Lw9
      replace hM := hM.mono Lw9
      replace hF := hF.mono Lw9
      replace h1 := h1.mono Lw9
      replace h2 := h2.mono Lw9
      replace hn34 := hn34.mono Lw9
      replace hn38 := hn38.mono Lw9
      replace hn41 := hn41.mono Lw9
      replace hn42 := hn42.mono Lw9
      replace B2 := B2.below hBw9
      have hn63 := nats2 B63 nM63 (by assumption) (by assumption)
      have hB63 := hBw9
      exact ops_nil ⟨rfl, hB63, _, rfl, by assumption⟩
    refine drs_nil (fun wq5 hR5 hpost5 => ?_)
    refine obl_e rfl rfl ?_
    refine obl_e rfl rfl ?_
    refine obl_e rfl rfl ?_
    refine obl_e rfl rfl ?_
    refine obl_g rfl (fun v60 hn60 => ?_)
    refine obl_g rfl (fun v63 hn63 => ?_)
    refine obl_done ?_
    simp only [List.drop_succ_cons, List.drop_zero, List.drop_nil, List.toList_toArray]
    have Lwq5 := Le.of_below (Fz := Fz) (M := M) hR5
    replace LL := LL.trans Lwq5
    replace hM := hM.mono Lwq5
    replace hF := hF.mono Lwq5
    replace h1 := h1.mono Lwq5
    replace h2 := h2.mono Lwq5
    replace hn34 := hn34.mono Lwq5
    replace hn38 := hn38.mono Lwq5
    replace hn41 := hn41.mono Lwq5
    replace hn42 := hn42.mono Lwq5
    replace B2 := B2.below hR5
    have ha0 : val (xs.take n) < 4294967296 ^ K := val_lt_pow (fun x hx => h1.lt x (List.mem_of_mem_take hx)) (by simp; omega)
    have ha1 : val (xs.drop n) < 4294967296 ^ K := val_lt_pow (fun x hx => h1.lt x (List.mem_of_mem_drop hx)) (by simp; omega)
    have hb0 : val (ys.take n) < 4294967296 ^ K := val_lt_pow (fun x hx => h2.lt x (List.mem_of_mem_take hx)) (by simp; omega)
    have hb1 : val (ys.drop n) < 4294967296 ^ K := val_lt_pow (fun x hx => h2.lt x (List.mem_of_mem_drop hx)) (by simp; omega)
    have hl60 := mul_len (add_lt_pow ha0 ha1) (add_lt_pow hb0 hb1)
    refine ops_callv rfl bod29 rfl rfl ?_
    refine (add2_c (M := M) (xs := limbs (val (xs.take n) * val (ys.take n))) (ys := limbs (val (xs.drop n) * val (ys.drop n))) hn63 (limbs_lt _) (limbs_lt _) (by omega) (by omega) hM).mono ?_
    rintro v64 w10 ⟨hB64, hf64, hl64⟩
    have hM64 := hM; have hS64 := LL.size
    have Lw10 := Le.of_below (Fz := Fz) (M := M) hB64
    replace LL := LL.trans Lw10
    replace hM := hM.mono Lw10
    replace hF := hF.mono Lw10
    replace h1 := h1.mono Lw10
    replace h2 := h2.mono Lw10
    replace hn34 := hn34.mono Lw10
    replace hn38 := hn38.mono Lw10
    replace hn41 := hn41.mono Lw10
    replace hn42 := hn42.mono Lw10
    replace hn60 := hn60.mono Lw10
    replace hn63 := hn63.mono Lw10
    replace B2 := B2.below hB64
    have hn64 := hf64.nat hM64; replace hf64 := hf64.less hS64
    refine ops_callv rfl bod64 rfl rfl ?_
    refine (less_c (M := M) hn60 hn64 (by omega) (by omega) hM).mono ?_
    rintro v65 w11 ⟨hB65, hf65⟩
    have hM65 := hM; have hS65 := LL.size
    have Lw11 := Le.of_below (Fz := Fz) (M := M) hB65
    replace LL := LL.trans Lw11
    replace hM := hM.mono Lw11
    replace hF := hF.mono Lw11
    replace h1 := h1.mono Lw11
    replace h2 := h2.mono Lw11
    replace hn34 := hn34.mono Lw11
    replace hn38 := hn38.mono Lw11
    replace hn41 := hn41.mono Lw11
    replace hn42 := hn42.mono Lw11
    replace hn60 := hn60.mono Lw11
    replace hn63 := hn63.mono Lw11
    replace hn64 := hn64.mono Lw11
    replace B2 := B2.below hB65
    simp only [val_limbs, kara_mid] at hf65
    have hn65 := hf65.nat hM65; replace hf65 := hf65.less hS65
    have hl65 := add_len (mul_lt_pow ha0 hb1) (Nat.lt_of_lt_of_eq (mul_lt_pow ha1 hb0) rfl)
    refine ops_assign rfl rfl ?_
    refine ops_nil ?_
    refine SL.wp_seq ?_
    refine SL.wp_region ?_
    refine ops_move rfl rfl ?_
    refine ops_move rfl rfl ?_
    refine ops_move rfl rfl ?_
    refine ops_callv rfl bod65 rfl rfl ?_
    refine (above_c (M := M) (n := n) hn65 rfl (by omega) (by omega) hM).mono ?_
    rintro v69 w12 ⟨hB69, hf69⟩
    have hM69 := hM; have hS69 := LL.size
    have Lw12 := Le.of_below (Fz := Fz) (M := M) hB69
    replace LL := LL.trans Lw12
    replace hM := hM.mono Lw12
    replace hF := hF.mono Lw12
    replace h1 := h1.mono Lw12
    replace h2 := h2.mono Lw12
    replace hn34 := hn34.mono Lw12
    replace hn38 := hn38.mono Lw12
    replace hn41 := hn41.mono Lw12
    replace hn42 := hn42.mono Lw12
    replace hn60 := hn60.mono Lw12
    replace hn63 := hn63.mono Lw12
    replace hn64 := hn64.mono Lw12
    replace hn65 := hn65.mono Lw12
    replace B2 := B2.below hB69
    have hn69 := hf69.nat hM69; replace hf69 := hf69.less hS69
    refine ops_move rfl rfl ?_
    refine ops_move rfl rfl ?_
    refine ops_mul rfl rfl rfl (by omega) ?_
    refine ops_callv rfl bod65 rfl rfl ?_
    refine (above_c (M := M) (n := 2 * n) hn42 (by omega) (by omega) (by omega) hM).mono ?_
    rintro v73 w13 ⟨hB73, hf73⟩
    have hM73 := hM; have hS73 := LL.size
    have Lw13 := Le.of_below (Fz := Fz) (M := M) hB73
    replace LL := LL.trans Lw13
    replace hM := hM.mono Lw13
    replace hF := hF.mono Lw13
    replace h1 := h1.mono Lw13
    replace h2 := h2.mono Lw13
    replace hn34 := hn34.mono Lw13
    replace hn38 := hn38.mono Lw13
    replace hn41 := hn41.mono Lw13
    replace hn42 := hn42.mono Lw13
    replace hn60 := hn60.mono Lw13
    replace hn63 := hn63.mono Lw13
    replace hn64 := hn64.mono Lw13
    replace hn65 := hn65.mono Lw13
    replace hn69 := hn69.mono Lw13
    replace B2 := B2.below hB73
    have hn73 := hf73.nat hM73; replace hf73 := hf73.less hS73
    refine ops_buildSlice rfl Try.underlying24 sz23 rfl rfl rfl (one3 (by first | rfl | exact nat_one (by assumption) | exact own_one (by assumption)) (by first | rfl | exact nat_one (by assumption) | exact own_one (by assumption)) (by first | rfl | exact nat_one (by assumption) | exact own_one (by assumption))) rfl (fun w14 b74 N74 => ?_)
    have hBw14 := N74.below
    have nM74 := hM.new N74; have B74 := N74.blk
    have Lw14 := Le.of_below (Fz := Fz) (M := M) hBw14
    replace LL := LL.trans Lw14
    replace hM := hM.mono Lw14
    replace hF := hF.mono Lw14
    replace h1 := h1.mono Lw14
    replace h2 := h2.mono Lw14
    replace hn34 := hn34.mono Lw14
    replace hn38 := hn38.mono Lw14
    replace hn41 := hn41.mono Lw14
    replace hn42 := hn42.mono Lw14
    replace hn60 := hn60.mono Lw14
    replace hn63 := hn63.mono Lw14
    replace hn64 := hn64.mono Lw14
    replace hn65 := hn65.mono Lw14
    replace hn69 := hn69.mono Lw14
    replace hn73 := hn73.mono Lw14
    replace B2 := B2.below hBw14
    have hn74 := nats3 B74 nM74 hn34 hn69 hn73
    refine ops_callv rfl bod29 rfl rfl ?_
    refine (add_c (M := M) hn74 (by intro q hq; simp only [List.mem_cons, List.mem_nil_iff, or_false] at hq; rcases hq with rfl | rfl | rfl <;> (try simp only [List.length_append, List.length_replicate]) <;> omega) (by simp) hM).mono ?_
    rintro v75 w15 ⟨hB75, hf75⟩
    have hM75 := hM; have hS75 := LL.size
    have Lw15 := Le.of_below (Fz := Fz) (M := M) hB75
    replace LL := LL.trans Lw15
    replace hM := hM.mono Lw15
    replace hF := hF.mono Lw15
    replace h1 := h1.mono Lw15
    replace h2 := h2.mono Lw15
    replace hn34 := hn34.mono Lw15
    replace hn38 := hn38.mono Lw15
    replace hn41 := hn41.mono Lw15
    replace hn42 := hn42.mono Lw15
    replace hn60 := hn60.mono Lw15
    replace hn63 := hn63.mono Lw15
    replace hn64 := hn64.mono Lw15
    replace hn65 := hn65.mono Lw15
    replace hn69 := hn69.mono Lw15
    replace hn73 := hn73.mono Lw15
    replace hn74 := hn74.mono Lw15
    replace B2 := B2.below hB75
    have hn75 := hf75.nat hM75; replace hf75 := hf75.less hS75
    refine ops_assign rfl rfl ?_
    refine ops_nil ?_
    refine SL.wp_ret ?_
    refine leave_nil ⟨[_], ⟨rfl, trivial⟩, ?_⟩
    dsimp only [resVal]
    subst hFz
    have e : ([limbs (val (xs.take n) * val (ys.take n)), List.replicate n 0 ++ limbs (val (xs.take n) * val (ys.drop n) + val (xs.drop n) * val (ys.take n)), List.replicate (2 * n) 0 ++ limbs (val (xs.drop n) * val (ys.drop n))].map val).sum = val xs * val ys := by
      simp only [List.map_cons, List.map_nil, List.sum_cons, List.sum_nil, val_pad_up, val_limbs, Nat.add_zero]
      rw [val_split hnl.1, val_split hnl.2.1, ← kara, Nat.two_mul, Nat.pow_add]
    rw [e] at hf75
    exact ⟨LL.below (Nat.le_refl _), hf75⟩

end Go.Proofs.Ytffakiheophioaa
