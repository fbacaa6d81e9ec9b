import Derived.Test.YtffakiheophioaaTypes
import Derived.Test.YtffakiheophioaaSLn
set_option linter.unusedVariables false
set_option linter.unusedSimpArgs false
set_option maxRecDepth 100000
namespace Go.Proofs.Ytffakiheophioaa
open Go.SL Go.RowKit Go.Proofs

theorem limb_c {M : Nat → Prop} {w : World} {v : Value} {xs : List Nat} {i : Int} (h : IsNat M w v xs) (k : Nat) (hi : i = (k : Int)) (hM : OkM M w) :
    CallsV Try.prog 55 [v, .int .i64 i] w fun r w' => Below w.heap.size w w' ∧ r = lw (xs.getD k 0) ∧ xs.getD k 0 < 4294967296 := by
  obtain ⟨Fz, hFz⟩ : ∃ Fz : Nat → Prop, Fz = (· < w.heap.size) := ⟨_, rfl⟩
  have hF : FOk Fz w := by subst hFz; exact fun _ h => h
  have hl := h.len
  have LL := Le.refl Fz M w; have hM0 := hM
  refine calls_intro Try.func55 rfl Try.ntmps55 rfl ?_
  refine SL.wp_seq ?_
  refine SL.wp_region ?_
  refine ops_assign rfl rfl ?_
  refine ops_nil ?_
  refine SL.wp_seq ?_
  refine SL.wp_seq ?_
  refine SL.wp_region ?_
  refine ops_move rfl rfl ?_
  refine ops_move rfl rfl ?_
  first | refine ops_len rfl Try.underlying23 rfl ?_ | refine ops_lens rfl Try.underlying23 rfl (IsNat.slc (by assumption)) ?_ | refine ops_lenn rfl Try.underlying23 rfl (by assumption) ?_ | refine ops_leno rfl Try.underlying23 rfl (by assumption) ?_
  refine ops_lt rfl rfl rfl ?_
  refine ops_nil ?_
  refine SL.wp_cond_d rfl (fun hc0 => ?_) (fun hc0 => ?_)
  · refine SL.wp_seq ?_
    refine SL.wp_region ?_
    refine ops_move rfl rfl ?_
    refine ops_move rfl rfl ?_
    refine ops_idxn (k) rfl Try.underlying23 sz43 rfl rfl (by assumption) (by omega) (by omega) (fun b11 o11 hc11 hb11 => ?_)
    refine ops_load rfl flat43 rfl hc11 ?_
    refine ops_assign rfl rfl ?_
    refine ops_nil ?_
    refine SL.wp_ret ?_
    refine leave_nil ⟨[_], ⟨rfl, trivial⟩, ?_⟩
    dsimp only [resVal]
    exact ⟨by subst hFz; exact LL.below (Nat.le_refl _), rfl, h.lim k⟩
  · refine SL.wp_skip ?_
    refine SL.wp_seq ?_
    refine SL.wp_region ?_
    refine ops_assign rfl rfl ?_
    refine ops_nil ?_
    refine SL.wp_ret ?_
    refine leave_nil ⟨[_], ⟨rfl, trivial⟩, ?_⟩
    dsimp only [resVal]
    exact ⟨by subst hFz; exact LL.below (Nat.le_refl _), by rw [getD_out (by omega)]; rfl, h.lim k⟩


theorem clone_c {M : Nat → Prop} {w : World} {v : Value} {xs : List Nat} (h : IsNat M w v xs) (hl : xs.length ≤ 1099511627776) (hM : OkM M w) :
    CallsV Try.prog 59 [v] w fun r w' => Below w.heap.size w w' ∧ Fresh 43 w w' r xs := by
  obtain ⟨Fz, hFz⟩ : ∃ Fz : Nat → Prop, Fz = (· < w.heap.size) := ⟨_, rfl⟩
  have hF : FOk Fz w := by subst hFz; exact fun _ h => h
  have h0 := h
  obtain ⟨⟨_, _, ad, cap, rfl, hcap, h5⟩, hlt⟩ := h0
  have LL := Le.refl Fz M w; have hM0 := hM
  refine calls_intro Try.func59 rfl Try.ntmps59 rfl ?_
  refine SL.wp_seq ?_
  refine SL.wp_region ?_
  refine ops_assign rfl rfl ?_
  refine ops_nil ?_
  refine SL.wp_seq ?_
  refine SL.wp_seq ?_
  refine SL.wp_region ?_
  refine ops_move rfl rfl ?_
  refine ops_eqnil rfl ⟨_, Try.underlying23⟩ rfl rfl ?_
  refine ops_nil ?_
  refine SL.wp_cond rfl (fun hc0 => ?_) (fun hc0 => ?_)
  · refine SL.wp_seq ?_
    refine SL.wp_region ?_
    refine ops_assign rfl rfl ?_
    refine ops_nil ?_
    refine SL.wp_ret ?_
    refine leave_nil ⟨[_], ⟨rfl, trivial⟩, ?_⟩
    dsimp only [resVal]
    have hx : xs = [] := by
      rcases h5 with h5 | ⟨b, off, rfl, _⟩
      · exact List.length_eq_zero_iff.1 h5
      · simp at hc0
    subst hx
    subst hFz
    exact ⟨LL.below (Nat.le_refl _), fresh_of own_nil nil_own (by simp) (by simp)⟩
  · refine SL.wp_skip ?_
    refine SL.wp_seq ?_
    refine SL.wp_region ?_
    refine ops_buildSlice rfl Try.underlying23 sz43 rfl rfl rfl (by simp) rfl (fun w1 b5 N5 => ?_)
    have nF5 := hF.new N5; have nM5 := hM.new N5; have hBw1 := N5.below
    have Lw1 := Le.of_new_mo (Fz := Fz) (M := M) (v := Value.slice (some ⟨b5, 0, none⟩) 0 0) N5 rfl
    replace LL := LL.trans Lw1
    replace hM := hM.mono Lw1
    replace hF := hF.mono Lw1
    replace h := h.mono Lw1
    have Of : ∀ k, (Value.slice (some ⟨b5, 0, none⟩) 0 0).ownBlock = some k → ¬ Fz k := slice_own nF5
    have Om : ∀ k, (Value.slice (some ⟨b5, 0, none⟩) 0 0).ownBlock = some k → ¬ M k := slice_own nM5
    have Ow := own_blk (n := 0) (c := 0) N5.blk rfl (Nat.le_refl _) (by omega)
    refine ops_move rfl rfl ?_
    refine ops_append rfl Try.underlying23 sz43 rfl rfl rfl Ow h.slc (lw_one _) (by omega) (by omega) (fun v7 w2 A7 G7 S7 => ?_)
    have Lw2 := Le.of_grown (Fz := Fz) (M := M) G7 S7 A7 Of
    have Omo7 := Om
    replace Of := own_step_f (w' := w2) Of hF S7; replace Om := own_step_m (w' := w2) Om (fun k hk => hM k (.inr hk)) S7
    replace LL := LL.trans Lw2
    replace hM := hM.mono Lw2
    replace hF := hF.mono Lw2
    replace h := h.mono Lw2
    clear Ow; have Ow := A7
    refine ops_assign rfl rfl ?_
    refine ops_nil ?_
    refine SL.wp_ret ?_
    refine leave_nil ⟨[_], ⟨rfl, trivial⟩, ?_⟩
    dsimp only [resVal]
    subst hFz
    exact ⟨LL.below (Nat.le_refl _), fresh_of (by simpa using Ow) Of hlt (by omega)⟩


theorem trim_c {M : Nat → Prop} {w : World} {v : Value} {xs : List Nat} (h : IsNat M w v xs) (hl : xs.length ≤ 1099511627776) (hM : OkM M w) :
    CallsV Try.prog 25 [v] w fun r w' => Below w.heap.size w w' ∧ Fresh 43 w w' r (limbs (val xs)) := by
  obtain ⟨Fz, hFz⟩ : ∃ Fz : Nat → Prop, Fz = (· < w.heap.size) := ⟨_, rfl⟩
  have hF : FOk Fz w := by subst hFz; exact fun _ h => h
  have LL := Le.refl Fz M w; have hM0 := hM
  refine calls_intro Try.func25 rfl Try.ntmps25 rfl ?_
  refine SL.wp_seq ?_
  refine SL.wp_region ?_
  refine ops_assign rfl rfl ?_
  refine ops_nil ?_
  refine SL.wp_seq ?_
  refine SL.wp_region ?_
  refine ops_move rfl rfl ?_
  first | refine ops_len rfl Try.underlying23 rfl ?_ | refine ops_lens rfl Try.underlying23 rfl (IsNat.slc (by assumption)) ?_ | refine ops_lenn rfl Try.underlying23 rfl (by assumption) ?_ | refine ops_leno rfl Try.underlying23 rfl (by assumption) ?_
  refine ops_assign rfl rfl ?_
  refine ops_nil ?_
  refine SL.wp_seq ?_
  refine SL.wp_block ?_
  refine SL.wp_loopc (σ := Nat) [(0, _)] (fun s => [(3, .int .i64 ((s : Nat) : Int))]) (fun s w1 => w1 = w ∧ s ≤ xs.length ∧ ∀ j, s ≤ j → xs.getD j 0 = 0) (fun s => s) (xs.length) (sub_cons rfl (sub_cons rfl sub_nil)) ?_ (fun s w1 hJ => ?_)
  · exact ⟨rfl, Nat.le_refl _, fun j hj => getD_out hj⟩
  · obtain ⟨rfl, hs, hz⟩ := hJ
    refine SL.wp_seq ?_
    refine SL.wp_seq ?_
    refine SL.wp_region ?_
    refine ops_move rfl rfl ?_
    refine ops_gt rfl rfl rfl ?_
    refine ops_move rfl rfl ?_
    refine ops_dcase (d := 8) rfl (fun hg2_2 => ?_) (fun hg2_2 => ?_)
    · refine ops_guard_t rfl rfl ?_
      refine ops_move rfl rfl ?_
      refine ops_guard_t rfl rfl ?_
      refine ops_move rfl rfl ?_
      refine ops_guard_t rfl rfl ?_
      refine ops_sub rfl rfl rfl (by omega) ?_
      refine ops_guard_t rfl rfl ?_
      refine ops_idxn (s - 1) rfl Try.underlying23 sz43 rfl rfl (by assumption) (by omega) (by omega) (fun b12 o12 hc12 hb12 => ?_)
      refine ops_guard_t rfl rfl ?_
      refine ops_load rfl flat43 rfl hc12 ?_
      refine ops_guard_t rfl rfl ?_
      refine ops_eq rfl rfl rfl ?_
      refine ops_pick rfl rfl rfl ?_
      refine ops_nil ?_
      refine SL.wp_cond_d rfl (fun hc0 => ?_) (fun hc0 => ?_)
      · refine SL.wp_skip ?_
        refine SL.wp_block ?_
        refine SL.wp_region ?_
        refine ops_move rfl rfl ?_
        refine ops_sub rfl rfl rfl (by omega) ?_
        refine ops_assign rfl rfl ?_
        refine ops_nil ?_
        refine ⟨rfl, s - 1, (sub_cons' rfl (by congr 1; omega) (sub_cons rfl sub_nil)), ?_, ?_⟩
        exact ⟨rfl, by omega, fun j hj => by
          rcases Nat.lt_or_ge j s with h1 | h1
          · obtain rfl : j = s - 1 := by omega
            omega
          · exact hz j h1⟩
        omega
      · refine SL.wp_exit ?_
        refine upd_hit ?_
        refine SL.wp_seq ?_
        refine SL.wp_region ?_
        refine ops_move rfl rfl ?_
        refine ops_move rfl rfl ?_
        refine ops_move rfl rfl ?_
        refine ops_slices (M := M) 0 s rfl Try.underlying23 sz43 rfl h.slc rfl ⟨_, rfl⟩ ⟨rfl, _, rfl⟩ (Nat.zero_le _) hs (fun v21 hv21 => ?_)
        have hn21 : IsNat M w1 v21 (xs.take s) := ⟨by simpa [List.map_take, hs] using hv21, fun x hx => h.lt x (List.mem_of_mem_take hx)⟩
        refine ops_callv rfl bod59 rfl rfl ?_
        refine (clone_c (M := M) (by assumption) (by first | omega | (simp only [List.length_take]; omega)) hM).mono ?_
        rintro v22 w2 ⟨hB22, hf22⟩
        have hM22 := hM; have hS22 := LL.size
        have Lw2 := Le.of_below (Fz := Fz) (M := M) hB22
        replace LL := LL.trans Lw2
        replace hM := hM.mono Lw2
        replace hF := hF.mono Lw2
        replace h := h.mono Lw2
        have hn22 := hf22.nat hM22; replace hf22 := hf22.less hS22
        refine ops_assign rfl rfl ?_
        refine ops_nil ?_
        refine SL.wp_ret ?_
        refine leave_nil ⟨[_], ⟨rfl, trivial⟩, ?_⟩
        dsimp only [resVal]
        have e : xs.take s = limbs (val xs) := take_limbs h.lt hs hz (by first | (left; omega) | (right; omega))
        rw [e] at hf22
        subst hFz
        exact ⟨LL.below (Nat.le_refl _), hf22⟩
    · refine ops_guard_f rfl rfl rfl rfl ?_
      refine ops_guard_f rfl rfl rfl rfl ?_
      refine ops_guard_f rfl rfl rfl rfl ?_
      refine ops_guard_f rfl rfl rfl rfl ?_
      refine ops_guard_f rfl rfl rfl rfl ?_
      refine ops_guard_f rfl rfl rfl rfl ?_
      refine ops_pick rfl rfl rfl ?_
      refine ops_nil ?_
      refine SL.wp_cond_f rfl ?_
      refine SL.wp_exit ?_
      refine upd_hit ?_
      refine SL.wp_seq ?_
      refine SL.wp_region ?_
      refine ops_move rfl rfl ?_
      refine ops_move rfl rfl ?_
      refine ops_move rfl rfl ?_
      refine ops_slices (M := M) 0 s rfl Try.underlying23 sz43 rfl h.slc rfl ⟨_, rfl⟩ ⟨rfl, _, rfl⟩ (Nat.zero_le _) hs (fun v21 hv21 => ?_)
      have hn21 : IsNat M w1 v21 (xs.take s) := ⟨by simpa [List.map_take, hs] using hv21, fun x hx => h.lt x (List.mem_of_mem_take hx)⟩
      refine ops_callv rfl bod59 rfl rfl ?_
      refine (clone_c (M := M) (by assumption) (by first | omega | (simp only [List.length_take]; omega)) hM).mono ?_
      rintro v22 w3 ⟨hB22, hf22⟩
      have hM22 := hM; have hS22 := LL.size
      have Lw3 := Le.of_below (Fz := Fz) (M := M) hB22
      replace LL := LL.trans Lw3
      replace hM := hM.mono Lw3
      replace hF := hF.mono Lw3
      replace h := h.mono Lw3
      have hn22 := hf22.nat hM22; replace hf22 := hf22.less hS22
      refine ops_assign rfl rfl ?_
      refine ops_nil ?_
      refine SL.wp_ret ?_
      refine leave_nil ⟨[_], ⟨rfl, trivial⟩, ?_⟩
      dsimp only [resVal]
      have e : xs.take s = limbs (val xs) := take_limbs h.lt hs hz (by first | (left; omega) | (right; omega))
      rw [e] at hf22
      subst hFz
      exact ⟨LL.below (Nat.le_refl _), hf22⟩


theorem of_c {M : Nat → Prop} {w : World} {n : Nat} (hn : n < 18446744073709551616) (hM : OkM M w) :
    CallsV Try.prog 27 [.int .u64 (n : Int)] w fun r w' => Below w.heap.size w w' ∧ Fresh 43 w w' r (limbs n) := by
  obtain ⟨Fz, hFz⟩ : ∃ Fz : Nat → Prop, Fz = (· < w.heap.size) := ⟨_, rfl⟩
  have hF : FOk Fz w := by subst hFz; exact fun _ h => h
  have LL := Le.refl Fz M w; have hM0 := hM
  refine calls_intro Try.func27 rfl Try.ntmps27 rfl ?_
  refine SL.wp_seq ?_
  refine SL.wp_region ?_
  refine ops_assign rfl rfl ?_
  refine ops_nil ?_
  refine SL.wp_seq ?_
  refine SL.wp_region ?_
  refine ops_move rfl rfl ?_
  refine ops_to32 rfl Try.underlying25 Try.underlying43 rfl ?_
  refine ops_move rfl rfl ?_
  refine ops_shru rfl rfl rfl (by simp only [IntKind.bits]; omega) ?_
  refine ops_to32 rfl Try.underlying25 Try.underlying43 rfl ?_
  refine ops_buildSlice rfl Try.underlying23 sz43 rfl rfl rfl (by simp [Value.oneCell']) rfl (fun w1 b8 N8 => ?_)
  have hBw1 := N8.below
  have nM8 := hM.new N8; have B8 := N8.blk
  have Lw1 := Le.of_below (Fz := Fz) (M := M) hBw1
  replace LL := LL.trans Lw1
  replace hM := hM.mono Lw1
  replace hF := hF.mono Lw1
  have hn8 : IsNat M w1 (.slice (some ⟨b8, 0, none⟩) 2 2) [n % 4294967296, n / 4294967296 % 4294967296] :=
    ⟨B8.slc (M := M) nM8 (n := 2) (c := 2) (ds := [n % 4294967296, n / 4294967296 % 4294967296].map lw) rfl (fun j u hj => hj) (by omega) (Nat.le_refl _), by intro x hx; simp at hx; omega⟩
  refine ops_callv rfl bod25 rfl rfl ?_
  refine (trim_c (M := M) hn8 (by simp) hM).mono ?_
  rintro v9 w2 ⟨hB9, hf9⟩
  have hM9 := hM; have hS9 := LL.size
  have Lw2 := Le.of_below (Fz := Fz) (M := M) hB9
  replace LL := LL.trans Lw2
  replace hM := hM.mono Lw2
  replace hF := hF.mono Lw2
  replace hn8 := hn8.mono Lw2
  replace hf9 := hf9.less hS9
  refine ops_assign rfl rfl ?_
  refine ops_nil ?_
  refine SL.wp_ret ?_
  refine leave_nil ⟨[_], ⟨rfl, trivial⟩, ?_⟩
  dsimp only [resVal]
  have e : val [n % 4294967296, n / 4294967296 % 4294967296] = n := by simp only [val]; omega
  rw [e] at hf9
  subst hFz
  exact ⟨LL.below (Nat.le_refl _), hf9⟩


theorem small_c {M : Nat → Prop} {w : World} {v : Value} {xs : List Nat} (h : IsNat M w v xs) (hl : xs.length ≤ 1099511627776) (hM : OkM M w) :
    CallsV Try.prog 18 [v] w fun r w' => Below w.heap.size w w' ∧ r = .tuple #[.int .u64 ((smallN (val xs) : Nat) : Int), .bool (decide (val xs < 18446744073709551616))] := by
  obtain ⟨Fz, hFz⟩ : ∃ Fz : Nat → Prop, Fz = (· < w.heap.size) := ⟨_, rfl⟩
  have hF : FOk Fz w := by subst hFz; exact fun _ h => h
  have LL := Le.refl Fz M w; have hM0 := hM
  refine calls_intro Try.func18 rfl Try.ntmps18 rfl ?_
  refine SL.wp_seq ?_
  refine SL.wp_region ?_
  refine ops_assign rfl rfl ?_
  refine ops_assign rfl rfl ?_
  refine ops_nil ?_
  refine SL.wp_seq ?_
  refine SL.wp_seq ?_
  refine SL.wp_region ?_
  refine ops_move rfl rfl ?_
  first | refine ops_len rfl Try.underlying23 rfl ?_ | refine ops_lens rfl Try.underlying23 rfl (IsNat.slc (by assumption)) ?_ | refine ops_lenn rfl Try.underlying23 rfl (by assumption) ?_ | refine ops_leno rfl Try.underlying23 rfl (by assumption) ?_
  refine ops_move rfl rfl ?_
  refine ops_nil ?_
  refine SL.wp_block ?_
  refine SL.wp_loopc (σ := Nat) [(0, _), (6, _), (7, _)] (fun s => [(8, .int .i64 ((s : Nat) : Int))]) (fun s w1 => w1 = w ∧ s ≤ xs.length ∧ ∀ j, 2 ≤ j → j < s → xs.getD j 0 = 0) (fun s => xs.length - s) (0) (sub_cons rfl (sub_cons rfl (sub_cons rfl (sub_cons rfl sub_nil)))) ?_ (fun s w1 hJ => ?_)
  · exact ⟨rfl, Nat.zero_le _, fun j _ hj => absurd hj (by omega)⟩
  · obtain ⟨rfl, hs, hz⟩ := hJ
    refine SL.wp_seq ?_
    refine SL.wp_region ?_
    refine ops_lt rfl rfl rfl ?_
    refine ops_nil ?_
    refine SL.wp_seq ?_
    refine SL.wp_cond_d rfl (fun hc0 => ?_) (fun hc0 => ?_)
    · refine SL.wp_skip ?_
      refine SL.wp_seq ?_
      refine SL.wp_block ?_
      refine SL.wp_seq ?_
      refine SL.wp_region ?_
      refine ops_move rfl rfl ?_
      refine ops_idxn _ rfl Try.underlying23 sz43 rfl rfl (by assumption) rfl (by omega) (fun b11 o11 hc11 hb11 => ?_)
      refine ops_load rfl flat43 rfl hc11 ?_
      refine ops_assign rfl rfl ?_
      refine ops_assign rfl rfl ?_
      refine ops_nil ?_
      refine SL.wp_seq ?_
      refine SL.wp_region ?_
      refine ops_move rfl rfl ?_
      refine ops_gt rfl rfl rfl ?_
      refine ops_move rfl rfl ?_
      refine ops_dcase (d := 15) rfl (fun hg4_2 => ?_) (fun hg4_2 => ?_)
      · refine ops_guard_t rfl rfl ?_
        refine ops_move rfl rfl ?_
        refine ops_guard_t rfl rfl ?_
        refine ops_ne rfl rfl rfl ?_
        refine ops_pick rfl rfl rfl ?_
        refine ops_nil ?_
        refine SL.wp_cond_d rfl (fun hc1 => ?_) (fun hc1 => ?_)
        · refine SL.wp_seq ?_
          refine SL.wp_region ?_
          refine ops_assign rfl rfl ?_
          refine ops_assign rfl rfl ?_
          refine ops_nil ?_
          refine SL.wp_ret ?_
          refine leave_nil ⟨[_, _], ⟨rfl, rfl, trivial⟩, ?_⟩
          dsimp only [resVal]
          have hbig : ¬ val xs < 18446744073709551616 := small_big h.lt (j := s) (by omega) (by omega)
          subst hFz
          exact ⟨LL.below (Nat.le_refl _), by simp [smallN, hbig]⟩
        · refine SL.wp_skip ?_
          refine SL.wp_region ?_
          refine ops_add rfl rfl rfl (by omega) ?_
          refine ops_move rfl rfl ?_
          refine ops_nil ?_
          refine ⟨rfl, s + 1, (sub_cons' rfl (rfl) (sub_cons rfl (sub_cons rfl (sub_cons rfl sub_nil)))), ?_, ?_⟩
          exact ⟨rfl, by omega, fun j h2 hj => by
            rcases Nat.lt_or_ge j s with h1 | h1
            · exact hz j h2 h1
            · obtain rfl : j = s := by omega
              omega⟩
          omega
      · refine ops_guard_f rfl rfl rfl rfl ?_
        refine ops_guard_f rfl rfl rfl rfl ?_
        refine ops_pick rfl rfl rfl ?_
        refine ops_nil ?_
        refine SL.wp_cond_f rfl ?_
        refine SL.wp_skip ?_
        refine SL.wp_region ?_
        refine ops_add rfl rfl rfl (by omega) ?_
        refine ops_move rfl rfl ?_
        refine ops_nil ?_
        refine ⟨rfl, s + 1, (sub_cons' rfl (rfl) (sub_cons rfl (sub_cons rfl (sub_cons rfl sub_nil)))), ?_, ?_⟩
        exact ⟨rfl, by omega, fun j h2 hj => by
          rcases Nat.lt_or_ge j s with h1 | h1
          · exact hz j h2 h1
          · obtain rfl : j = s := by omega
            omega⟩
        omega
    · refine SL.wp_exit ?_
      refine upd_hit ?_
      refine SL.wp_seq ?_
      refine SL.wp_region ?_
      refine ops_move rfl rfl ?_
      refine ops_callv rfl bod55 rfl rfl ?_
      refine (limb_c (M := M) (by assumption) (1) (by omega) hM).mono ?_
      rintro v21 w2 ⟨hB21, rfl, hlt21⟩
      have Lw2 := Le.of_below (Fz := Fz) (M := M) hB21
      replace LL := LL.trans Lw2
      replace hM := hM.mono Lw2
      replace hF := hF.mono Lw2
      replace h := h.mono Lw2
      refine ops_to64 rfl Try.underlying43 Try.underlying25 rfl (by omega) ?_
      refine ops_shlu (m := 18446744073709551616) rfl rfl rfl (by simp only [IntKind.bits]; omega) rfl (.inl rfl) ?_
      refine ops_move rfl rfl ?_
      refine ops_callv rfl bod55 rfl rfl ?_
      refine (limb_c (M := M) (by assumption) (0) (by omega) hM).mono ?_
      rintro v25 w3 ⟨hB25, rfl, hlt25⟩
      have Lw3 := Le.of_below (Fz := Fz) (M := M) hB25
      replace LL := LL.trans Lw3
      replace hM := hM.mono Lw3
      replace hF := hF.mono Lw3
      replace h := h.mono Lw3
      refine ops_to64 rfl Try.underlying43 Try.underlying25 rfl (by omega) ?_
      refine ops_oru rfl rfl rfl (by simp only [IntKind.bits]; omega) (by simp only [IntKind.bits]; omega) (.inl rfl) ?_
      refine ops_assign rfl rfl ?_
      refine ops_assign rfl rfl ?_
      refine ops_nil ?_
      refine SL.wp_ret ?_
      refine leave_nil ⟨[_, _], ⟨rfl, rfl, trivial⟩, ?_⟩
      dsimp only [resVal]
      have hv := small_val h.lt (fun j h2 => by
        rcases Nat.lt_or_ge j s with h1 | h1
        · exact hz j h2 h1
        · exact getD_out (by omega))
      subst hFz
      exact ⟨LL.below (Nat.le_refl _), by rw [show smallN (val xs) = xs.getD 1 0 * 2 ^ (Int.toNat 32) % 18446744073709551616 ||| xs.getD 0 0 by rw [smallN, if_pos hv.1, show (2 ^ (Int.toNat 32) : Nat) = 4294967296 from rfl, Nat.mod_eq_of_lt (by omega), or_hi _ _ hlt25, hv.2]; omega]; simp [hv.1]⟩


theorem cmp_c {M : Nat → Prop} {w : World} {v u : Value} {xs ys : List Nat} (h1 : IsNat M w v xs) (h2 : IsNat M w u ys) (hl1 : xs.length ≤ 1099511627776) (hl2 : ys.length ≤ 1099511627776) (hM : OkM M w) :
    CallsV Try.prog 23 [v, u] w fun r w' => Below w.heap.size w w' ∧ r = .int .i64 (cmpN (val xs) (val ys)) := by
  obtain ⟨Fz, hFz⟩ : ∃ Fz : Nat → Prop, Fz = (· < w.heap.size) := ⟨_, rfl⟩
  have hF : FOk Fz w := by subst hFz; exact fun _ h => h
  have LL := Le.refl Fz M w; have hM0 := hM
  refine calls_intro Try.func23 rfl Try.ntmps23 rfl ?_
  refine SL.wp_seq ?_
  refine SL.wp_region ?_
  refine ops_assign rfl rfl ?_
  refine ops_nil ?_
  refine SL.wp_scope ?_
  refine SL.wp_seq ?_
  refine SL.wp_label ?_
  refine SL.wp_seq ?_
  refine SL.wp_seq ?_
  refine SL.wp_region ?_
  refine ops_move rfl rfl ?_
  first | refine ops_len rfl Try.underlying23 rfl ?_ | refine ops_lens rfl Try.underlying23 rfl (IsNat.slc (by assumption)) ?_ | refine ops_lenn rfl Try.underlying23 rfl (by assumption) ?_ | refine ops_leno rfl Try.underlying23 rfl (by assumption) ?_
  refine ops_move rfl rfl ?_
  first | refine ops_len rfl Try.underlying23 rfl ?_ | refine ops_lens rfl Try.underlying23 rfl (IsNat.slc (by assumption)) ?_ | refine ops_lenn rfl Try.underlying23 rfl (by assumption) ?_ | refine ops_leno rfl Try.underlying23 rfl (by assumption) ?_
  refine ops_max rfl rfl rfl ?_
  refine ops_sub rfl rfl rfl (by omega) ?_
  refine ops_assign rfl rfl ?_
  refine ops_nil ?_
  refine SL.wp_block ?_
  refine SL.wp_loopc (σ := Nat) [(0, _), (1, _)] (fun s => [(4, .int .i64 0), (5, .int .i64 (((s : Nat) : Int) - 1))]) (fun s w1 => Le Fz M w M w1 ∧ s ≤ 1099511627776 ∧ ∀ j, s ≤ j → xs.getD j 0 = ys.getD j 0) (fun s => s) (max xs.length ys.length) (sub_cons rfl (sub_cons' rfl (by congr 1; omega) (sub_cons rfl (sub_cons rfl sub_nil)))) ?_ (fun s w1 hJ => ?_)
  · exact ⟨Le.refl _ _ _, by omega, fun j hj => by rw [getD_out (by omega), getD_out (by omega)]⟩
  · obtain ⟨LR, hs, hz⟩ := hJ
    replace LL := LL.trans LR
    replace hM := hM.mono LR
    replace hF := hF.mono LR
    replace h1 := h1.mono LR
    replace h2 := h2.mono LR
    refine SL.wp_seq ?_
    refine SL.wp_seq ?_
    refine SL.wp_region ?_
    refine ops_move rfl rfl ?_
    refine ops_ge rfl rfl rfl ?_
    refine ops_nil ?_
    refine SL.wp_cond_d rfl (fun hc0 => ?_) (fun hc0 => ?_)
    · refine SL.wp_skip ?_
      refine SL.wp_seq ?_
      refine SL.wp_block ?_
      refine SL.wp_seq ?_
      refine SL.wp_region ?_
      refine ops_move rfl rfl ?_
      refine ops_move rfl rfl ?_
      refine ops_callv rfl bod55 rfl rfl ?_
      refine (limb_c (M := M) (by assumption) (s - 1) (by omega) hM).mono ?_
      rintro v20 w2 ⟨hB20, rfl, hlt20⟩
      have Lw2 := Le.of_below (Fz := Fz) (M := M) hB20
      replace LL := LL.trans Lw2
      replace LR := LR.trans Lw2
      replace hM := hM.mono Lw2
      replace hF := hF.mono Lw2
      replace h1 := h1.mono Lw2
      replace h2 := h2.mono Lw2
      refine ops_move rfl rfl ?_
      refine ops_move rfl rfl ?_
      refine ops_callv rfl bod55 rfl rfl ?_
      refine (limb_c (M := M) (by assumption) (s - 1) (by omega) hM).mono ?_
      rintro v23 w3 ⟨hB23, rfl, hlt23⟩
      have Lw3 := Le.of_below (Fz := Fz) (M := M) hB23
      replace LL := LL.trans Lw3
      replace LR := LR.trans Lw3
      replace hM := hM.mono Lw3
      replace hF := hF.mono Lw3
      replace h1 := h1.mono Lw3
      replace h2 := h2.mono Lw3
      refine ops_assign rfl rfl ?_
      refine ops_assign rfl rfl ?_
      refine ops_nil ?_
      refine SL.wp_block ?_
      refine SL.wp_seq ?_
      refine SL.wp_region ?_
      refine ops_move rfl rfl ?_
      refine ops_move rfl rfl ?_
      refine ops_lt rfl rfl rfl ?_
      refine ops_assign rfl rfl ?_
      refine ops_nil ?_
      refine SL.wp_cond_d rfl (fun hc1 => ?_) (fun hc1 => ?_)
      · refine SL.wp_seq ?_
        refine SL.wp_region ?_
        refine ops_assign rfl rfl ?_
        refine ops_nil ?_
        refine SL.wp_exit ?_
        refine upd_miss rfl ?_
        refine upd_miss rfl ?_
        refine upd_hit ?_
        refine SL.wp_seq ?_
        refine SL.wp_region ?_
        refine ops_move rfl rfl ?_
        refine ops_assign rfl rfl ?_
        refine ops_nil ?_
        refine SL.wp_ret ?_
        refine leave_nil ⟨[_], ⟨rfl, trivial⟩, ?_⟩
        dsimp only [resVal]
        subst hFz
        exact ⟨LL.below (Nat.le_refl _), by rw [cmpN_lt (val_lt_at h1.lt h2.lt (j := s - 1) (by omega) (fun j hj => hz j (by omega)))]⟩
      · refine SL.wp_seq ?_
        refine SL.wp_region ?_
        refine ops_move rfl rfl ?_
        refine ops_move rfl rfl ?_
        refine ops_gt rfl rfl rfl ?_
        refine ops_assign rfl rfl ?_
        refine ops_nil ?_
        refine SL.wp_cond_d rfl (fun hc2 => ?_) (fun hc2 => ?_)
        · refine SL.wp_seq ?_
          refine SL.wp_region ?_
          refine ops_assign rfl rfl ?_
          refine ops_nil ?_
          refine SL.wp_exit ?_
          refine upd_miss rfl ?_
          refine upd_miss rfl ?_
          refine upd_hit ?_
          refine SL.wp_seq ?_
          refine SL.wp_region ?_
          refine ops_move rfl rfl ?_
          refine ops_assign rfl rfl ?_
          refine ops_nil ?_
          refine SL.wp_ret ?_
          refine leave_nil ⟨[_], ⟨rfl, trivial⟩, ?_⟩
          dsimp only [resVal]
          subst hFz
          exact ⟨LL.below (Nat.le_refl _), by rw [cmpN_gt (val_lt_at h2.lt h1.lt (j := s - 1) (by omega) (fun j hj => (hz j (by omega)).symm))]⟩
        · refine SL.wp_skip ?_
          refine SL.wp_region ?_
          refine ops_move rfl rfl ?_
          refine ops_sub rfl rfl rfl (by omega) ?_
          refine ops_assign rfl rfl ?_
          refine ops_nil ?_
          refine ⟨rfl, s - 1, (sub_cons rfl (sub_cons' rfl (by congr 1; omega) (sub_cons rfl (sub_cons rfl sub_nil)))), ?_, ?_⟩
          exact ⟨LR, by omega, fun j hj => by
            rcases Nat.lt_or_ge j s with h1 | h1
            · obtain rfl : j = s - 1 := by omega
              omega
            · exact hz j h1⟩
          omega
    · refine SL.wp_exit ?_
      refine upd_hit ?_
      refine SL.wp_seq ?_
      refine SL.wp_region ?_
      refine ops_move rfl rfl ?_
      refine ops_assign rfl rfl ?_
      refine ops_nil ?_
      refine SL.wp_ret ?_
      refine leave_nil ⟨[_], ⟨rfl, trivial⟩, ?_⟩
      dsimp only [resVal]
      subst hFz
      exact ⟨LL.below (Nat.le_refl _), by rw [cmpN_eq (val_eq_at (fun j => hz j (by omega)))]⟩


def encP (p : Nat × Nat) : List Value := [.int .u64 (p.1 : Int), .int .u64 (p.2 : Int)]
theorem pairs1_c {M : Nat → Prop} {w0 : World} {b1 b2 : Nat} {v u : Value} {xs ys : List Nat} (B1 : Blk w0 b1 23 [v]) (B2 : Blk w0 b2 23 [u]) (n1 : ¬ M b1) (n2 : ¬ M b2) (h1 : IsNat M w0 v xs) (h2 : IsNat M w0 u ys)
    (hl1 : xs.length ≤ 1099511627776) (hl2 : ys.length ≤ 1099511627776) (hM : OkM M w0) :
    IterC Try.prog 73 [.pointer (some ⟨b1, 0, none⟩), .pointer (some ⟨b2, 0, none⟩)] M NoT w0 (pairsOf xs ys) encP (fun _ => True) := by
  intro n l w J X hn0 hn hdr hJ hkeep hJd hXd hy
  have B1' := B1; have B2' := B2; have h1' := h1; have h2' := h2; have hM' := hM
  replace B1 := (hkeep _ _ hJ).blk B1 n1; replace B2 := (hkeep _ _ hJ).blk B2 n2; replace h1 := (hkeep _ _ hJ).nat h1; replace h2 := (hkeep _ _ hJ).nat h2; replace hM := (hkeep _ _ hJ).okM hM
  obtain ⟨Fz, hFz⟩ : ∃ Fz : Nat → Prop, Fz = fun _ => False := ⟨_, rfl⟩
  have hFa : ∀ w, FOk Fz w := by subst hFz; exact fun _ _ h => h.elim
  have hF := hFa w
  have LL := Le.refl Fz M w; have hM0 := hM
  refine calls_intro Try.func73 rfl Try.ntmps73 rfl ?_
  refine SL.wp_seq ?_
  refine SL.wp_region ?_
  refine ops_loadb rfl flat23 rfl B1 rfl ?_
  first | refine ops_len rfl Try.underlying23 rfl ?_ | refine ops_lens rfl Try.underlying23 rfl (IsNat.slc (by assumption)) ?_ | refine ops_lenn rfl Try.underlying23 rfl (by assumption) ?_ | refine ops_leno rfl Try.underlying23 rfl (by assumption) ?_
  refine ops_loadb rfl flat23 rfl B2 rfl ?_
  first | refine ops_len rfl Try.underlying23 rfl ?_ | refine ops_lens rfl Try.underlying23 rfl (IsNat.slc (by assumption)) ?_ | refine ops_lenn rfl Try.underlying23 rfl (by assumption) ?_ | refine ops_leno rfl Try.underlying23 rfl (by assumption) ?_
  refine ops_max rfl rfl rfl ?_
  refine ops_move rfl rfl ?_
  refine ops_nil ?_
  refine SL.wp_block ?_
  refine SL.wp_loopc (σ := Nat) [(0, _), (1, _), (2, _), (9, _)] (fun s => [(10, .int .i64 ((s : Nat) : Int))]) (fun s w1 => J ((pairsOf xs ys).take s) w1 ∧ n ≤ w1.heap.size) (fun s => max xs.length ys.length - s) (0) (sub_cons rfl (sub_cons rfl (sub_cons rfl (sub_cons rfl (sub_cons rfl sub_nil))))) ?_ (fun s w1 hJ => ?_)
  · exact ⟨by simpa using hJ, hn⟩
  · obtain ⟨hJ1, hn1⟩ := hJ
    have hk := hkeep _ _ hJ1
    replace B1 := hk.blk B1' n1; replace B2 := hk.blk B2' n2; replace h1 := hk.nat h1'; replace h2 := hk.nat h2'; replace hM := hk.okM hM'
    have hF := hFa w1
    have LL := Le.refl Fz M w1
    have hBJ := Below.refl w1.heap.size w1
    have hb1 := h1.lim s; have hb2 := h2.lim s
    refine SL.wp_seq ?_
    refine SL.wp_region ?_
    refine ops_lt rfl rfl rfl ?_
    refine ops_nil ?_
    refine SL.wp_seq ?_
    refine SL.wp_cond_d rfl (fun hc0 => ?_) (fun hc0 => ?_)
    · refine SL.wp_skip ?_
      refine SL.wp_seq ?_
      refine SL.wp_block ?_
      refine SL.wp_seq ?_
      refine SL.wp_region ?_
      refine ops_move rfl rfl ?_
      refine ops_assign rfl rfl ?_
      refine ops_nil ?_
      refine SL.wp_seq ?_
      have LL := Le.refl Fz M w1
      refine SL.wp_draw (R := Rb) (R' := Rb) (st := none) mixed 9 [0, 1, 2, 4, 9, 10, 11, 12, 13, 14, 15, 16, 17, 18, 19, 20, 21] (by decide +kernel) rb_trans rb_self (rb_drew _) (fun _ _ _ h => by cases h) ?_
      apply drs_ex
      · intro wq hR hst
        refine obl_e rfl rfl ?_
        refine obl_done ?_
        have Lq := Le.of_below (Fz := Fz) (M := M) hR
        replace LL := LL.trans Lq
        replace hM := hM.mono Lq
        replace hF := hF.mono Lq
        replace h1 := h1.mono Lq
        replace h2 := h2.mono Lq
        replace B1 := B1.below hR
        replace B2 := B2.below hR
        refine ops_move rfl rfl ?_
        exact ops_nil ⟨rfl, rb_refl _, _, rfl, rfl⟩
      apply drs_ex
      · intro wq hR hst
        refine obl_e rfl rfl ?_
        refine obl_done ?_
        have Lq := Le.of_below (Fz := Fz) (M := M) hR
        replace LL := LL.trans Lq
        replace hM := hM.mono Lq
        replace hF := hF.mono Lq
        replace h1 := h1.mono Lq
        replace h2 := h2.mono Lq
        replace B1 := B1.below hR
        replace B2 := B2.below hR
        refine ops_loadb rfl flat23 rfl B1 rfl ?_
        exact ops_nil ⟨rfl, rb_refl _, _, rfl, rfl⟩
      apply drs_ex
      · intro wq hR hst
        refine obl_e rfl rfl ?_
        refine obl_done ?_
        have Lq := Le.of_below (Fz := Fz) (M := M) hR
        replace LL := LL.trans Lq
        replace hM := hM.mono Lq
        replace hF := hF.mono Lq
        replace h1 := h1.mono Lq
        replace h2 := h2.mono Lq
        replace B1 := B1.below hR
        replace B2 := B2.below hR
        refine ops_move rfl rfl ?_
        exact ops_nil ⟨rfl, rb_refl _, _, rfl, rfl⟩
      apply drs_ex
      · intro wq hR hst
        refine obl_x rfl ?_
        refine obl_x rfl ?_
        refine obl_done ?_
        have Lq := Le.of_below (Fz := Fz) (M := M) hR
        replace LL := LL.trans Lq
        replace hM := hM.mono Lq
        replace hF := hF.mono Lq
        replace h1 := h1.mono Lq
        replace h2 := h2.mono Lq
        replace B1 := B1.below hR
        replace B2 := B2.below hR
        refine ops_callv rfl bod55 rfl rfl ?_
        refine (limb_c (M := M) (by assumption) (s) (by omega) hM).mono ?_
        rintro v16 w2 ⟨hB16, rfl, hlt16⟩
        have Lw2 := Le.of_below (Fz := Fz) (M := M) hB16
        replace LL := LL.trans Lw2
        replace hM := hM.mono Lw2
        replace hF := hF.mono Lw2
        replace h1 := h1.mono Lw2
        replace h2 := h2.mono Lw2
        replace B1 := B1.below hB16
        replace B2 := B2.below hB16
        exact ops_nil ⟨rfl, hB16, _, rfl, rfl⟩
      apply drs_ex
      · intro wq hR hst
        refine obl_x rfl ?_
        refine obl_done ?_
        have Lq := Le.of_below (Fz := Fz) (M := M) hR
        replace LL := LL.trans Lq
        replace hM := hM.mono Lq
        replace hF := hF.mono Lq
        replace h1 := h1.mono Lq
        replace h2 := h2.mono Lq
        replace B1 := B1.below hR
        replace B2 := B2.below hR
        refine ops_to64 rfl Try.underlying43 Try.underlying25 rfl (by omega) ?_
        exact ops_nil ⟨rfl, rb_refl _, _, rfl, rfl⟩
      apply drs_ex
      · intro wq hR hst
        refine obl_e rfl rfl ?_
        refine obl_done ?_
        have Lq := Le.of_below (Fz := Fz) (M := M) hR
        replace LL := LL.trans Lq
        replace hM := hM.mono Lq
        replace hF := hF.mono Lq
        replace h1 := h1.mono Lq
        replace h2 := h2.mono Lq
        replace B1 := B1.below hR
        replace B2 := B2.below hR
        refine ops_loadb rfl flat23 rfl B2 rfl ?_
        exact ops_nil ⟨rfl, rb_refl _, _, rfl, rfl⟩
      apply drs_ex
      · intro wq hR hst
        refine obl_e rfl rfl ?_
        refine obl_done ?_
        have Lq := Le.of_below (Fz := Fz) (M := M) hR
        replace LL := LL.trans Lq
        replace hM := hM.mono Lq
        replace hF := hF.mono Lq
        replace h1 := h1.mono Lq
        replace h2 := h2.mono Lq
        replace B1 := B1.below hR
        replace B2 := B2.below hR
        refine ops_move rfl rfl ?_
        exact ops_nil ⟨rfl, rb_refl _, _, rfl, rfl⟩
      apply drs_ex
      · intro wq hR hst
        refine obl_x rfl ?_
        refine obl_x rfl ?_
        refine obl_done ?_
        have Lq := Le.of_below (Fz := Fz) (M := M) hR
        replace LL := LL.trans Lq
        replace hM := hM.mono Lq
        replace hF := hF.mono Lq
        replace h1 := h1.mono Lq
        replace h2 := h2.mono Lq
        replace B1 := B1.below hR
        replace B2 := B2.below hR
        refine ops_callv rfl bod55 rfl rfl ?_
        refine (limb_c (M := M) (by assumption) (s) (by omega) hM).mono ?_
        rintro v20 w3 ⟨hB20, rfl, hlt20⟩
        have Lw3 := Le.of_below (Fz := Fz) (M := M) hB20
        replace LL := LL.trans Lw3
        replace hM := hM.mono Lw3
        replace hF := hF.mono Lw3
        replace h1 := h1.mono Lw3
        replace h2 := h2.mono Lw3
        replace B1 := B1.below hB20
        replace B2 := B2.below hB20
        exact ops_nil ⟨rfl, hB20, _, rfl, rfl⟩
      apply drs_ex
      · intro wq hR hst
        refine obl_x rfl ?_
        refine obl_done ?_
        have Lq := Le.of_below (Fz := Fz) (M := M) hR
        replace LL := LL.trans Lq
        replace hM := hM.mono Lq
        replace hF := hF.mono Lq
        replace h1 := h1.mono Lq
        replace h2 := h2.mono Lq
        replace B1 := B1.below hR
        replace B2 := B2.below hR
        refine ops_to64 rfl Try.underlying43 Try.underlying25 rfl (by omega) ?_
        exact ops_nil ⟨rfl, rb_refl _, _, rfl, rfl⟩
      refine drs_nil (fun wq3 hR3 hpost3 => ?_)
      refine obl_e rfl rfl ?_
      refine obl_e rfl rfl ?_
      refine obl_e rfl rfl ?_
      refine obl_e rfl rfl ?_
      refine obl_e rfl rfl ?_
      refine obl_e rfl rfl ?_
      refine obl_e rfl rfl ?_
      refine obl_e rfl rfl ?_
      refine obl_x rfl ?_
      refine obl_x rfl ?_
      refine obl_x rfl ?_
      refine obl_x rfl ?_
      refine obl_x rfl ?_
      refine obl_x rfl ?_
      refine obl_x rfl ?_
      refine obl_x rfl ?_
      refine obl_x rfl ?_
      refine obl_done ?_
      simp only [List.drop_succ_cons, List.drop_zero, List.drop_nil, List.toList_toArray]
      have Lwq3 := Le.of_below (Fz := Fz) (M := M) hR3
      replace LL := LL.trans Lwq3
      replace hM := hM.mono Lwq3
      replace hF := hF.mono Lwq3
      replace h1 := h1.mono Lwq3
      replace h2 := h2.mono Lwq3
      replace B1 := B1.below hR3
      replace B2 := B2.below hR3
      replace hBJ := hR3
      refine ops_yield rfl rfl rfl ?_
      refine (hy _ _ _ _ ((pairs_take (by omega)).2) (hJd _ _ _ hJ1 (Drift.of_below hBJ hn1)) (Nat.le_trans hn1 hBJ.size)).mono ?_
      rintro v22 w4 ⟨hn2, _, hyn⟩
      refine ops_not rfl rfl ?_
      refine ops_nil ?_
      refine SL.wp_cond rfl (fun hc1 => ?_) (fun hc1 => ?_)
      · refine SL.wp_ret ?_
        refine leave_nil ⟨[], trivial, ?_⟩
        dsimp only [resVal]
        right
        rcases hyn with ⟨e, _⟩ | ⟨_, h⟩
        · subst e; simp at hc1
        · exact h
      · refine SL.wp_skip ?_
        refine SL.wp_region ?_
        refine ops_add rfl rfl rfl (by omega) ?_
        refine ops_move rfl rfl ?_
        refine ops_nil ?_
        refine ⟨rfl, s + 1, (sub_cons' rfl (rfl) (sub_cons rfl (sub_cons rfl (sub_cons rfl (sub_cons rfl sub_nil))))), ?_, ?_⟩
        exact ⟨by rw [(pairs_take (by omega)).1]; rcases hyn with ⟨_, h⟩ | ⟨e, _⟩
                  · exact h
                  · subst e; simp at hc1, hn2⟩
        omega
    · refine SL.wp_exit ?_
      refine upd_hit ?_
      refine leave_nil ⟨[], trivial, ?_⟩
      dsimp only [resVal]
      left
      rw [pairs_all (s := s) (by omega)] at hJ1
      exact ⟨hJ1, trivial⟩


theorem pairs_c {M : Nat → Prop} {w : World} {v u : Value} {xs ys : List Nat} (h1 : IsNat M w v xs) (h2 : IsNat M w u ys) (hl1 : xs.length ≤ 1099511627776) (hl2 : ys.length ≤ 1099511627776) (hM : OkM M w) :
    CallsV Try.prog 56 [v, u] w fun r w' => Below w.heap.size w w' ∧ ∃ cap, r = .func (.func 73) #[] cap ∧ IterC Try.prog 73 cap.toList M NoT w' (pairsOf xs ys) encP (fun _ => True) := by
  obtain ⟨Fz, hFz⟩ : ∃ Fz : Nat → Prop, Fz = (· < w.heap.size) := ⟨_, rfl⟩
  have hF : FOk Fz w := by subst hFz; exact fun _ h => h
  have LL := Le.refl Fz M w; have hM0 := hM
  refine calls_intro Try.func56 rfl Try.ntmps56 rfl ?_
  refine SL.wp_seq ?_
  refine SL.wp_region ?_
  refine ops_box rfl rfl (fun w1 b2 N2 => ?_)
  have hBw1 := N2.below
  have nF2 := hF.new N2; have nM2 := hM.new N2
  have Lw1 := Le.of_new (Fz := Fz) (M := M) N2
  replace LL := LL.trans Lw1
  replace hM := hM.mono Lw1
  replace hF := hF.mono Lw1
  replace h1 := h1.mono Lw1
  replace h2 := h2.mono Lw1
  have B2 := N2.blk
  rw [h1.one] at B2
  refine ops_box rfl rfl (fun w2 b3 N3 => ?_)
  have hBw2 := N3.below
  have nF3 := hF.new N3; have nM3 := hM.new N3
  have Lw2 := Le.of_new (Fz := Fz) (M := (Ins b2 M)) N3
  have lt2_3 := B2.lt; replace B2 := B2.below hBw2; have ne2_3 : b2 ≠ b3 := by have := N3.at_; omega
  replace LL := LL.trans Lw2
  replace hM := hM.mono Lw2
  replace hF := hF.mono Lw2
  replace h1 := h1.mono Lw2
  replace h2 := h2.mono Lw2
  have B3 := N3.blk
  rw [h2.one] at B3
  refine ops_assign rfl rfl ?_
  refine ops_nil ?_
  refine SL.wp_seq ?_
  refine SL.wp_region ?_
  refine ops_makeFunc rfl rfl ?_
  refine ops_assign rfl rfl ?_
  refine ops_nil ?_
  refine SL.wp_ret ?_
  refine leave_nil ⟨[_], ⟨rfl, trivial⟩, ?_⟩
  dsimp only [resVal]
  subst hFz
  refine ⟨LL.below (Nat.le_refl _), _, rfl, ?_⟩
  exact pairs1_c B2 B3 (fun c => nM2 c) (fun c => nM3 (ins_there c)) (h1.less fun k c => ins_there (ins_there c)) (h2.less fun k c => ins_there (ins_there c)) hl1 hl2 (fun k c => hM k (ins_there (ins_there c)))


theorem add_c {M : Nat → Prop} {w : World} {v : Value} {xss : List (List Nat)} (h : IsNats M w v xss) (hl : ∀ xs ∈ xss, xs.length ≤ 1000000000) (hn : xss.length ≤ 1000000000) (hM : OkM M w) :
    CallsV Try.prog 29 [v] w fun r w' => Below w.heap.size w w' ∧ Fresh 43 w w' r (limbs ((xss.map val).sum)) := by
  obtain ⟨Fz, hFz⟩ : ∃ Fz : Nat → Prop, Fz = (· < w.heap.size) := ⟨_, rfl⟩
  have hF : FOk Fz w := by subst hFz; exact fun _ h => h
  have LL := Le.refl Fz M w; have hM0 := hM
  have Mk : Marks M w.heap.size [] w := marks_nil
  refine calls_intro Try.func29 rfl Try.ntmps29 rfl ?_
  refine SL.wp_seq ?_
  refine SL.wp_region ?_
  refine ops_assign rfl rfl ?_
  refine ops_nil ?_
  refine SL.wp_seq ?_
  refine SL.wp_seq ?_
  refine SL.wp_region ?_
  refine ops_move rfl rfl ?_
  first | refine ops_len rfl Try.underlying24 rfl ?_ | refine ops_lens rfl Try.underlying24 rfl (IsNat.slc (by assumption)) ?_ | refine ops_lenn rfl Try.underlying24 rfl (by assumption) ?_ | refine ops_leno rfl Try.underlying24 rfl (by assumption) ?_
  refine ops_move rfl rfl ?_
  refine ops_nil ?_
  refine SL.wp_block ?_
  refine SL.wp_loopd (σ := Nat × Value) [(9, _), (10, _)] (fun s => [(2, s.2), (11, .int .i64 ((s.1 : Nat) : Int))]) (fun s D0 w1 => Le Fz M w M w1 ∧ Marks M w.heap.size D0 w1 ∧ ∃ ys, IsNat M w1 s.2 ys ∧ val ys = ((xss.map val).take s.1).sum ∧ ys.length ≤ 1000000000 + s.1 ∧ s.1 ≤ xss.length) (fun s => xss.length - s.1) ((0, .slice none 0 0)) (sub_cons rfl (sub_cons rfl (sub_cons rfl (sub_cons rfl sub_nil)))) ?_ (fun s D0 w1 hJ => ?_)
  · exact ⟨Le.refl _ _ _, Mk, [], isNat_nil, by simp [val], by simp, by omega⟩
  · obtain ⟨k, u⟩ := s
    dsimp only at hJ ⊢
    obtain ⟨LR, Mk1, ys, hy, hyv, hyl, hk⟩ := hJ
    replace LL := LL.trans LR
    replace hM := hM.mono LR
    replace hF := hF.mono LR
    replace h := h.mono LR
    replace Mk := Mk.mono LR
    clear Mk; have Mk := Mk1
    have hlk : k < xss.length → (xss.getD k []).length ≤ 1000000000 := fun hk => hl _ (by simp [List.getElem?_eq_getElem hk])
    generalize hxs : xss.getD k [] = xs at hlk
    refine SL.wp_seq ?_
    refine SL.wp_region ?_
    refine ops_lt rfl rfl rfl ?_
    refine ops_nil ?_
    refine SL.wp_seq ?_
    refine SL.wp_cond_d rfl (fun hc0 => ?_) (fun hc0 => ?_)
    · refine SL.wp_skip ?_
      refine SL.wp_seq ?_
      refine SL.wp_block ?_
      refine SL.wp_seq ?_
      refine SL.wp_region ?_
      refine ops_idxs (k) rfl Try.underlying24 sz23 rfl rfl (by assumption) (by omega) (by omega) (fun b13 o13 u13 hc13 hu13 => ?_)
      rw [hxs] at hu13
      refine ops_load rfl flat23 rfl hc13 ?_
      refine ops_assign rfl rfl ?_
      refine ops_nil ?_
      refine SL.wp_seq ?_
      refine SL.wp_region ?_
      refine ops_alloc rfl sz25 (fun w2 b5 N5 => ?_)
      have hBw2 := N5.below
      have nF5 := hF.new N5; have nM5 := hM.new N5
      have Lw2 := Le.of_new (Fz := Fz) (M := M) N5
      replace LL := LL.trans Lw2
      replace LR := LR.trans Lw2
      replace hM := hM.mono Lw2
      replace hF := hF.mono Lw2
      replace h := h.mono Lw2
      replace Mk := Mk.mono Lw2
      replace hy := hy.mono Lw2
      replace hu13 := hu13.mono Lw2
      have B5 := N5.blk
      refine ops_store1 rfl rfl sz25 B5 (by first | rfl | exact own_one (by assumption) | exact nat_one (by assumption)) (fun w3 Cw3 Bw3 => ?_)
      have Lw3 := Le.of_chg (Fz := Fz) (M := (Ins b5 M)) Cw3 ins_here nF5
      replace LL := LL.trans Lw3
      replace LR := LR.trans Lw3
      replace hM := hM.mono Lw3
      replace hF := hF.mono Lw3
      replace h := h.mono Lw3
      replace Mk := Mk.mono Lw3
      replace hy := hy.mono Lw3
      replace hu13 := hu13.mono Lw3
      clear B5; have B5 := Bw3; clear Bw3
      refine ops_nil ?_
      refine SL.wp_seq ?_
      refine SL.wp_region ?_
      refine ops_move rfl rfl ?_
      first | refine ops_len rfl Try.underlying23 rfl ?_ | refine ops_lens rfl Try.underlying23 rfl (IsNat.slc (by assumption)) ?_ | refine ops_lenn rfl Try.underlying23 rfl (by assumption) ?_ | refine ops_leno rfl Try.underlying23 rfl (by assumption) ?_
      refine ops_move rfl rfl ?_
      first | refine ops_len rfl Try.underlying23 rfl ?_ | refine ops_lens rfl Try.underlying23 rfl (IsNat.slc (by assumption)) ?_ | refine ops_lenn rfl Try.underlying23 rfl (by assumption) ?_ | refine ops_leno rfl Try.underlying23 rfl (by assumption) ?_
      refine ops_max rfl rfl rfl ?_
      refine ops_add rfl rfl rfl (by omega) ?_
      refine ops_make 0 (max xs.length ys.length + 1) rfl Try.underlying23 sz43 rfl rfl rfl (by omega) (by omega) (by omega) (by omega) (by omega) (fun w4 b21 N21 => ?_)
      have nF21 := hF.new N21; have nM21 := hM.new N21; have hBw4 := N21.below
      have Lw4 := Le.of_new_mo (Fz := Fz) (M := (Ins b5 M)) (v := Value.slice (some ⟨b21, 0, none⟩) 0 (max xs.length ys.length + 1)) N21 rfl
      have lt5_21 := B5.lt; replace B5 := B5.below hBw4; have ne5_21 : b5 ≠ b21 := by have := N21.at_; omega
      replace LL := LL.trans Lw4
      replace LR := LR.trans Lw4
      replace hM := hM.mono Lw4
      replace hF := hF.mono Lw4
      replace h := h.mono Lw4
      replace Mk := Mk.mono Lw4
      replace hy := hy.mono Lw4
      replace hu13 := hu13.mono Lw4
      have Of : ∀ k, (Value.slice (some ⟨b21, 0, none⟩) 0 (max xs.length ys.length + 1)).ownBlock = some k → ¬ Fz k := slice_own nF21
      have Om : ∀ k, (Value.slice (some ⟨b21, 0, none⟩) 0 (max xs.length ys.length + 1)).ownBlock = some k → ¬ (Ins b5 M) k := slice_own nM21
      have Ow := own_blk (n := 0) (c := max xs.length ys.length + 1) N21.blk (by simp) (by omega) (by omega)
      refine ops_alloc rfl sz23 (fun w5 b6 N6 => ?_)
      have hBw5 := N6.below
      have nF6 := hF.new N6; have nM6 := hM.new N6
      have Lw5 := Le.of_new_in (Fz := Fz) (M := (Ins b5 M)) (v := (Value.slice (some ⟨b21, 0, none⟩) 0 (max xs.length ys.length + 1))) N6
      replace Om := own_in Ow N6 Om; replace Ow := own_below Ow hBw5
      have lt5_6 := B5.lt; replace B5 := B5.below hBw5; have ne5_6 : b5 ≠ b6 := by have := N6.at_; omega
      replace LL := LL.trans Lw5
      replace LR := LR.trans Lw5
      replace hM := hM.mono Lw5
      replace hF := hF.mono Lw5
      replace h := h.mono Lw5
      replace Mk := Mk.mono Lw5
      replace hy := hy.mono Lw5
      replace hu13 := hu13.mono Lw5
      have B6 := N6.blk
      refine ops_store1 rfl rfl sz23 B6 (by first | rfl | exact own_one (by assumption) | exact nat_one (by assumption)) (fun w6 Cw6 Bw6 => ?_)
      have Lw6 := Le.of_chg (Fz := Fz) (M := (Mo (Value.slice (some ⟨b21, 0, none⟩) 0 (max xs.length ys.length + 1)) (Ins b6 (Ins b5 M)))) Cw6 (.inr ins_here) nF6
      replace LL := LL.trans Lw6
      replace LR := LR.trans Lw6
      replace hM := hM.mono Lw6
      replace hF := hF.mono Lw6
      replace h := h.mono Lw6
      replace Mk := Mk.mono Lw6
      replace hy := hy.mono Lw6
      replace hu13 := hu13.mono Lw6
      replace B5 := B5.other Cw6 ne5_6
      replace Ow := own_chg Ow Cw6 (fun h => Om _ h ins_here)
      clear B6; have B6 := Bw6; clear Bw6
      refine ops_nil ?_
      refine SL.wp_seq ?_
      refine SL.wp_seq ?_
      refine SL.wp_region ?_
      refine ops_move rfl rfl ?_
      refine ops_move rfl rfl ?_
      refine ops_callv rfl bod56 rfl rfl ?_
      refine (pairs_c (M := (Mo (Value.slice (some ⟨b21, 0, none⟩) 0 (max xs.length ys.length + 1)) (Ins b6 (Ins b5 M)))) (by assumption) (by assumption) (by omega) (by omega) hM).mono ?_
      rintro v24 w7 ⟨hB24, cap24, rfl, hit24⟩
      have Lw7 := Le.of_below (Fz := Fz) (M := (Mo (Value.slice (some ⟨b21, 0, none⟩) 0 (max xs.length ys.length + 1)) (Ins b6 (Ins b5 M)))) hB24
      replace LL := LL.trans Lw7
      replace LR := LR.trans Lw7
      replace hM := hM.mono Lw7
      replace hF := hF.mono Lw7
      replace h := h.mono Lw7
      replace Mk := Mk.mono Lw7
      replace hy := hy.mono Lw7
      replace hu13 := hu13.mono Lw7
      replace B5 := B5.below hB24
      replace B6 := B6.below hB24
      replace Ow := own_below Ow hB24
      refine ops_nil ?_
      refine SL.wp_block ?_
      have hszLL := LL.size
      have hszLR := LR.size
      have Mold0 := Mk.old (Nat.le_refl _)
      refine SL.wp_range (M := (Mo (Value.slice (some ⟨b21, 0, none⟩) 0 (max xs.length ys.length + 1)) (Ins b6 (Ins b5 M)))) (T := NoT) (pairsOf ys xs) (encP) rfl bod73 (hit24) noT (trivial) (fun _ => rfl) rfl [(5, _), (6, _)] (sub_cons rfl (sub_cons rfl sub_nil)) (fun pre w8 => ∃ v zs c, Le Fz (Mo (Value.slice (some ⟨b21, 0, none⟩) 0 (max xs.length ys.length + 1)) (Ins b6 (Ins b5 M))) w7 (Mo v (Ins b6 (Ins b5 M))) w8 ∧ Blk w8 b5 25 [.int .u64 ((c : Nat) : Int)] ∧ Blk w8 b6 23 [v] ∧ w8.ownsRow 0 43 1 v zs.length (zs.map lw) ∧ (∀ k, v.ownBlock = some k → ¬ Fz k) ∧ (∀ k, v.ownBlock = some k → ¬ Ins b6 (Ins b5 M) k) ∧
        zs.length = pre.length ∧ val zs + 4294967296 ^ zs.length * c = val (pre.map (·.1)) + val (pre.map (·.2)) ∧ c ≤ 1 ∧ (∀ z ∈ zs, z < 4294967296)) (fun _ _ => False) (fun _ => False) (⟨_, [], 0, Le.refl _ _ _, B5, B6, by simpa using Ow, Of, Om, rfl, by simp [val], by omega, by simp⟩) (fun pre w h => (by obtain ⟨_, _, _, h, _⟩ := h; exact h.keep)) (fun pre w1 w2 hJ hd => (by obtain ⟨v, zs, c, h1, h2, h3, h4, h5⟩ := hJ; exact ⟨v, zs, c, h1.drift0 hd (Nat.le_refl _), h2.drift hd (fun c => c), h3.drift hd (fun c => c), own_drift h4 hd (fun _ _ c => c), h5⟩)) (fun _ _ _ h _ => h) (fun _ _ h _ => h) (fun _ _ _ _ => trivial) ?_ ?_ (fun _ _ h _ => h.elim) (fun _ h _ => h.elim)
      · intro pre x post l b w8 ρ δ hx hJ hnl hnb hl hb hbc
        obtain ⟨v, zs, c, LS0, B5, B6, Ow, Of, Om, hzl, hzv, hc, hzlt⟩ := hJ
        replace LL := LL.trans LS0
        replace LR := LR.trans LS0
        replace hM := hM.mono LS0
        replace hF := hF.mono LS0
        replace h := h.mono LS0
        replace Mk := Mk.mono LS0
        replace hy := hy.mono LS0
        replace hu13 := hu13.mono LS0
        have RL : Rec (Mo v (Ins b6 (Ins b5 M))) w8 l (.loop ρ) := ⟨hl, (not_mo (own_ne_rec Ow hl (by simp)) (not_ins (Rec.ne hl B6 (by simp)) (not_ins (Rec.ne hl B5 (by simp)) (not_old hM0 (by omega)))))⟩
        have RB : Rec (Mo v (Ins b6 (Ins b5 M))) w8 b δ := ⟨hb, (not_mo (own_ne_rec Ow hb hbc) (not_ins (Rec.ne hb B6 hbc) (not_ins (Rec.ne hb B5 hbc) (not_old hM0 (by omega)))))⟩
        have hs1 : w8.heap.size ≤ w8.heap.size := Nat.le_refl _
        have hxb := pairs_lt hy.lt hu13.lt x (by rw [hx]; simp)
        have hpl : pre.length < max ys.length xs.length := by have := congrArg List.length hx; rw [pairs_length] at this; simp only [List.length_append, List.length_cons] at this; omega
        refine SL.wp_seq ?_
        refine SL.wp_region ?_
        refine ops_assign rfl rfl ?_
        refine ops_nil ?_
        refine SL.wp_region ?_
        refine ops_assign rfl rfl ?_
        refine ops_nil ?_
        refine ⟨RL.at_, RB.at_, rfl, fun w9 ρ' δ' hdr hl' hb' hbc' => ?_⟩
        replace LL := LL.drift0 hdr hszLL
        replace LR := LR.drift0 hdr hszLR
        replace LS0 := LS0.drift0 hdr (Nat.le_refl _)
        replace hM := hM.drift hdr; replace hF := hF.drift hdr; replace hs1 := Nat.le_trans hs1 hdr.size
        replace h := h.drift hdr noT
        replace hy := hy.drift hdr noT
        replace hu13 := hu13.drift hdr noT
        replace RL : Rec (Mo v (Ins b6 (Ins b5 M))) w9 l (.loop ρ') := ⟨hl', RL.not⟩; replace RB : Rec (Mo v (Ins b6 (Ins b5 M))) w9 b δ' := ⟨hb', RB.not⟩
        replace B5 := B5.drift hdr (fun c => c)
        replace B6 := B6.drift hdr (fun c => c)
        replace Ow := own_drift Ow hdr (fun _ _ c => c)
        refine SL.wp_block ?_
        refine SL.wp_seq ?_
        refine SL.wp_region ?_
        refine ops_loadb rfl flat25 rfl B5 rfl ?_
        refine ops_move rfl rfl ?_
        refine ops_move rfl rfl ?_
        first | refine ops_addv rfl rfl rfl (by omega) ?_ | refine ops_addu rfl rfl rfl ?_
        first | refine ops_addv rfl rfl rfl (by omega) ?_ | refine ops_addu rfl rfl rfl ?_
        refine ops_store1 rfl rfl sz25 B5 (by first | rfl | exact own_one (by assumption) | exact nat_one (by assumption)) (fun w10 Cw10 Bw10 => ?_)
        have Lw10 := Le.of_chg (Fz := Fz) (M := (Mo v (Ins b6 (Ins b5 M)))) Cw10 (.inr (.inr ins_here)) nF5
        replace LL := LL.trans Lw10
        replace LR := LR.trans Lw10
        replace LS0 := LS0.trans Lw10
        replace hM := hM.mono Lw10
        replace hF := hF.mono Lw10
        replace h := h.mono Lw10
        replace hy := hy.mono Lw10
        replace hu13 := hu13.mono Lw10
        replace RL := RL.mono Lw10
        replace RB := RB.mono Lw10
        replace hs1 := Nat.le_trans hs1 Lw10.size
        replace B6 := B6.other Cw10 ne5_6.symm
        replace Ow := own_chg Ow Cw10 (fun h => Om _ h (.inr ins_here))
        clear B5; have B5 := Bw10; clear Bw10
        refine ops_nil ?_
        refine SL.wp_seq ?_
        refine SL.wp_region ?_
        refine ops_loadb rfl flat23 rfl B6 rfl ?_
        refine ops_loadb rfl flat25 rfl B5 rfl ?_
        refine ops_to32 rfl Try.underlying25 Try.underlying43 rfl ?_
        refine ops_buildSlice rfl Try.underlying23 sz43 rfl rfl rfl (by simp [Value.oneCell', lw]) rfl (fun w11 b35 N35 => ?_)
        have hBw11 := N35.below
        have nM35 := hM.new N35; have B35 := N35.blk
        have Lw11 := Le.of_below (Fz := Fz) (M := (Mo v (Ins b6 (Ins b5 M)))) hBw11
        replace LL := LL.trans Lw11
        replace LR := LR.trans Lw11
        replace LS0 := LS0.trans Lw11
        replace hM := hM.mono Lw11
        replace hF := hF.mono Lw11
        replace h := h.mono Lw11
        replace hy := hy.mono Lw11
        replace hu13 := hu13.mono Lw11
        replace RL := RL.mono Lw11
        replace RB := RB.mono Lw11
        replace hs1 := Nat.le_trans hs1 Lw11.size
        replace B5 := B5.below hBw11
        replace B6 := B6.below hBw11
        replace Ow := own_below Ow hBw11
        refine ops_append rfl Try.underlying23 sz43 rfl rfl rfl Ow (B35.slc nM35 rfl (fun _ _ h => h) (by omega) (Nat.le_refl _)) (by simp [Value.oneCell']) (by omega) (by omega) (fun v36 w12 A36 G36 S36 => ?_)
        have Lw12 := Le.of_grown (Fz := Fz) (M := (Ins b6 (Ins b5 M))) G36 S36 A36 Of
        have Omo36 := Om
        replace Of := own_step_f (w' := w12) Of hF S36; replace Om := own_step_m (w' := w12) Om (fun k hk => hM k (.inr hk)) S36
        replace B5 := B5.grown G36 (fun h => Omo36 _ h (.inr ins_here))
        replace B6 := B6.grown G36 (fun h => Omo36 _ h ins_here)
        replace LL := LL.trans Lw12
        replace LR := LR.trans Lw12
        replace LS0 := LS0.trans Lw12
        replace hM := hM.mono Lw12
        replace hF := hF.mono Lw12
        replace h := h.mono Lw12
        replace hy := hy.mono Lw12
        replace hu13 := hu13.mono Lw12
        replace RL := RL.mono Lw12
        replace RB := RB.mono Lw12
        replace hs1 := Nat.le_trans hs1 Lw12.size
        clear Ow; have Ow := A36
        refine ops_store1 rfl rfl sz23 B6 (by first | rfl | exact own_one (by assumption) | exact nat_one (by assumption)) (fun w13 Cw13 Bw13 => ?_)
        have Lw13 := Le.of_chg (Fz := Fz) (M := (Mo v36 (Ins b6 (Ins b5 M)))) Cw13 (.inr ins_here) nF6
        replace LL := LL.trans Lw13
        replace LR := LR.trans Lw13
        replace LS0 := LS0.trans Lw13
        replace hM := hM.mono Lw13
        replace hF := hF.mono Lw13
        replace h := h.mono Lw13
        replace hy := hy.mono Lw13
        replace hu13 := hu13.mono Lw13
        replace RL := RL.mono Lw13
        replace RB := RB.mono Lw13
        replace hs1 := Nat.le_trans hs1 Lw13.size
        replace B5 := B5.other Cw13 ne5_6
        replace Ow := own_chg Ow Cw13 (fun h => Om _ h ins_here)
        clear B6; have B6 := Bw13; clear Bw13
        refine ops_nil ?_
        refine SL.wp_region ?_
        refine ops_loadb rfl flat25 rfl B5 rfl ?_
        refine ops_shru rfl rfl rfl (by simp only [IntKind.bits]; omega) ?_
        refine ops_store1 rfl rfl sz25 B5 (by first | rfl | exact own_one (by assumption) | exact nat_one (by assumption)) (fun w14 Cw14 Bw14 => ?_)
        have Lw14 := Le.of_chg (Fz := Fz) (M := (Mo v36 (Ins b6 (Ins b5 M)))) Cw14 (.inr (.inr ins_here)) nF5
        replace LL := LL.trans Lw14
        replace LR := LR.trans Lw14
        replace LS0 := LS0.trans Lw14
        replace hM := hM.mono Lw14
        replace hF := hF.mono Lw14
        replace h := h.mono Lw14
        replace hy := hy.mono Lw14
        replace hu13 := hu13.mono Lw14
        replace RL := RL.mono Lw14
        replace RB := RB.mono Lw14
        replace hs1 := Nat.le_trans hs1 Lw14.size
        replace B6 := B6.other Cw14 ne5_6.symm
        replace Ow := own_chg Ow Cw14 (fun h => Om _ h (.inr ins_here))
        clear B5; have B5 := Bw14; clear Bw14
        refine ops_nil ?_
        refine ⟨RL.at_, RB.at_, hs1, fun _ c => c.elim, ?_⟩
        refine ⟨v36, zs ++ [(c + (x.1 + x.2)) % 4294967296], (c + (x.1 + x.2)) / 4294967296, LS0, B5, B6, by simpa [lw] using Ow, Of, Om, by simp [hzl], add_step hzl hzv, by omega, ?_⟩
        intro z hz
        rcases List.mem_append.1 hz with hz | hz
        · exact hzlt z hz
        · simp at hz; omega
      · intro w15 hJ hZ hDd
        obtain ⟨v, zs, c, LS0, B5, B6, Ow, Of, Om, hzl, hzv, hc, hzlt⟩ := hJ
        replace LL := LL.trans LS0
        replace LR := LR.trans LS0
        replace hM := hM.mono LS0
        replace hF := hF.mono LS0
        replace h := h.mono LS0
        replace Mk := Mk.mono LS0
        replace hy := hy.mono LS0
        replace hu13 := hu13.mono LS0
        have hdd := hDd _ rfl rfl
        have RD : Rec (Mo v (Ins b6 (Ins b5 M))) w15 w7.heap.size (.deferred (some [])) := ⟨hdd, (not_mo (own_ne_rec Ow hdd (by simp)) (not_ins (Rec.ne hdd B6 (by simp)) (not_ins (Rec.ne hdd B5 (by simp)) (not_old hM0 (by omega)))))⟩
        replace Mk := Mk.cons hszLL RD Mold0
        have hpl := pairs_length ys xs
        refine SL.wp_region ?_
        refine ops_loadb rfl flat23 rfl B6 rfl ?_
        refine ops_loadb rfl flat25 rfl B5 rfl ?_
        refine ops_to32 rfl Try.underlying25 Try.underlying43 rfl ?_
        refine ops_buildSlice rfl Try.underlying23 sz43 rfl rfl rfl (by simp [Value.oneCell', lw]) rfl (fun w16 b42 N42 => ?_)
        have hBw16 := N42.below
        have nM42 := hM.new N42; have B42 := N42.blk
        have Lw16 := Le.of_below (Fz := Fz) (M := (Mo v (Ins b6 (Ins b5 M)))) hBw16
        replace LL := LL.trans Lw16
        replace LR := LR.trans Lw16
        replace LS0 := LS0.trans Lw16
        replace hM := hM.mono Lw16
        replace hF := hF.mono Lw16
        replace h := h.mono Lw16
        replace Mk := Mk.mono Lw16
        replace hy := hy.mono Lw16
        replace hu13 := hu13.mono Lw16
        replace B5 := B5.below hBw16
        replace B6 := B6.below hBw16
        replace Ow := own_below Ow hBw16
        refine ops_append rfl Try.underlying23 sz43 rfl rfl rfl Ow (B42.slc nM42 rfl (fun _ _ h => h) (by omega) (Nat.le_refl _)) (by simp [Value.oneCell']) (by omega) (by omega) (fun v43 w17 A43 G43 S43 => ?_)
        have Lw17 := Le.of_grown (Fz := Fz) (M := (Ins b6 (Ins b5 M))) G43 S43 A43 Of
        have Omo43 := Om
        replace Of := own_step_f (w' := w17) Of hF S43; replace Om := own_step_m (w' := w17) Om (fun k hk => hM k (.inr hk)) S43
        replace B5 := B5.grown G43 (fun h => Omo43 _ h (.inr ins_here))
        replace B6 := B6.grown G43 (fun h => Omo43 _ h ins_here)
        replace LL := LL.trans Lw17
        replace LR := LR.trans Lw17
        replace LS0 := LS0.trans Lw17
        replace hM := hM.mono Lw17
        replace hF := hF.mono Lw17
        replace h := h.mono Lw17
        replace Mk := Mk.mono Lw17
        replace hy := hy.mono Lw17
        replace hu13 := hu13.mono Lw17
        clear Ow; have Ow := A43
        refine ops_assign rfl rfl ?_
        refine ops_nil ?_
        refine SL.wp_region ?_
        refine ops_add rfl rfl rfl (by omega) ?_
        refine ops_move rfl rfl ?_
        refine ops_nil ?_
        refine ⟨(k + 1, v43), (sub_cons' rfl (rfl) (sub_cons' rfl (by rw [Int.natCast_add]; rfl) (sub_cons rfl (sub_cons rfl sub_nil)))), ?_, ?_⟩
        have hsl := own_slc Ow (fun q hq c => Om q hq (ins_there (ins_there c))) (by simp; omega)
        have hyz : IsNat M w17 v43 (zs ++ [c % 4294967296]) := ⟨by simpa [lw] using hsl, fun z hz => by
          rcases List.mem_append.1 hz with hz | hz
          · exact hzlt z hz
          · simp at hz; omega⟩
        exact ⟨LR.trans (Le.less fun q hq => .inr (.inr (.inr hq))), Mk.mono (Fz := Fz) (Le.less fun q hq => .inr (.inr (.inr hq))), _, hyz, by
          rw [show c % 4294967296 = c by omega, val_snoc, hzv, val_pairs_fst, val_pairs_snd, hyv, take_succ_sum (k := k) (by omega) hxs], by simp [hzl, pairs_length]; omega, by omega⟩
        dsimp only
        omega
    · refine SL.wp_exit ?_
      refine upd_hit ?_
      refine SL.wp_seq ?_
      refine SL.wp_region ?_
      refine ops_move rfl rfl ?_
      refine ops_callv rfl bod25 rfl rfl ?_
      refine (trim_c (M := M) (by assumption) (by omega) hM).mono ?_
      rintro v46 w18 ⟨hB46, hf46⟩
      have hM46 := hM; have hS46 := LL.size
      have Lw18 := Le.of_below (Fz := Fz) (M := M) hB46
      replace LL := LL.trans Lw18
      replace LR := LR.trans Lw18
      replace hM := hM.mono Lw18
      replace hF := hF.mono Lw18
      replace h := h.mono Lw18
      replace Mk := Mk.mono Lw18
      replace hy := hy.mono Lw18
      have hn46 := hf46.nat hM46; replace hf46 := hf46.less hS46
      refine ops_assign rfl rfl ?_
      refine ops_nil ?_
      refine SL.wp_ret ?_
      refine leave_marks Mk (fun wz hz => ⟨[_], ⟨rfl, trivial⟩, ?_⟩)
      dsimp only [resVal]
      subst hFz
      have hk' : k = xss.length := by omega
      subst hk'
      rw [List.take_of_length_le (by simp)] at hyv
      rw [hyv] at hf46
      exact ⟨SL.Below.drift (LL.below (Nat.le_refl _)) hz (Nat.le_refl _), hf46.drift hz⟩

end Go.Proofs.Ytffakiheophioaa
