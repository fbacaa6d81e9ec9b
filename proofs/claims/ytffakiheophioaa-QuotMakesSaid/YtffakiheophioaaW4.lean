import Derived.Test.YtffakiheophioaaW3
import Derived.Test.YtffakiheophioaaSLn
set_option linter.unusedVariables false
set_option linter.unusedSimpArgs false
set_option maxRecDepth 100000
namespace Go.Proofs.Ytffakiheophioaa
open Go.SL Go.RowKit Go.Proofs

theorem rleast_c {M : Nat → Prop} {w : World} {v : Value} {xss : List (List Nat)} (h : IsNats M w v xss) (hl : ∀ xs ∈ xss, xs.length ≤ 1000000000) (hn : xss.length ≤ 1000000000) (hM : OkM M w) :
    CallsV Try.prog 32 [v] w fun r w' => Below w.heap.size w w' ∧ r = .int .i64 (lst (xss.map val) xss.length) := by
  obtain ⟨Fz, hFz⟩ : ∃ Fz : Nat → Prop, Fz = (· < w.heap.size) := ⟨_, rfl⟩
  have hF : FOk Fz w := by subst hFz; exact fun _ h => h
  have LL := Le.refl Fz M w; have hM0 := hM
  refine calls_intro Try.func32 rfl Try.ntmps32 rfl ?_
  refine SL.wp_seq ?_
  refine SL.wp_region ?_
  refine ops_assign rfl rfl ?_
  refine ops_nil ?_
  refine SL.wp_seq ?_
  refine SL.wp_region ?_
  refine ops_assign rfl rfl ?_
  refine ops_nil ?_
  refine SL.wp_seq ?_
  refine SL.wp_seq ?_
  refine SL.wp_region ?_
  refine ops_assign rfl rfl ?_
  refine ops_nil ?_
  refine SL.wp_block ?_
  refine SL.wp_loopc (σ := Nat) [(0, _)] (fun s => [(3, .int .i64 (lst (xss.map val) s)), (4, .int .i64 ((s : Nat) : Int))]) (fun s w1 => Le Fz M w M w1 ∧ s ≤ xss.length) (fun s => xss.length - s) (0) (sub_cons rfl (sub_cons rfl (sub_cons rfl sub_nil))) ?_ (fun s w1 hJ => ?_)
  · exact ⟨Le.refl _ _ _, by omega⟩
  · obtain ⟨LR, hs⟩ := hJ
    have hlb := lst_bound (xss.map val) s
    have hll : ∀ k, k < xss.length → (xss.getD k []).length ≤ 1000000000 := fun k hk => hl _ (by simp [List.getElem?_eq_getElem hk])
    replace LL := LL.trans LR
    replace hM := hM.mono LR
    replace hF := hF.mono LR
    replace h := h.mono LR
    refine SL.wp_seq ?_
    refine SL.wp_seq ?_
    refine SL.wp_region ?_
    refine ops_move rfl rfl ?_
    refine ops_move rfl rfl ?_
    first | refine ops_len rfl Try.underlying24 rfl ?_ | refine ops_lens rfl Try.underlying24 rfl (IsNat.slc (by assumption)) ?_ | refine ops_lenn rfl Try.underlying24 rfl (by assumption) ?_ | refine ops_leno rfl Try.underlying24 rfl (by assumption) ?_
    refine ops_lt rfl rfl rfl ?_
    refine ops_nil ?_
    refine SL.wp_cond_d rfl (fun hc0 => ?_) (fun hc0 => ?_)
    · refine SL.wp_skip ?_
      refine SL.wp_seq ?_
      refine SL.wp_block ?_
      refine SL.wp_seq ?_
      by_cases hcase5 : lst (xss.map val) s < 0
      · skip
        refine SL.wp_draw (R := Rb) (R' := Rb) (st := none) mixed 11 [0, 3, 4, 5, 6, 7, 8, 11, 12, 13, 14, 15, 16, 17, 18, 19, 20, 21] (by decide +kernel) rb_trans rb_self (rb_drew _) (fun _ _ _ h => by cases h) ?_
        apply drs_ex
        · intro wq hR hst
          refine obl_e rfl rfl ?_
          refine obl_done ?_
          have Lq := Le.of_below (Fz := Fz) (M := M) hR
          replace LL := LL.trans Lq
          replace LR := LR.trans Lq
          replace hM := hM.mono Lq
          replace hF := hF.mono Lq
          replace h := h.mono Lq
          refine ops_move rfl rfl ?_
          exact ops_nil ⟨rfl, rb_refl _, _, rfl, rfl⟩
        refine drs_val (Ex (.bool true)) ex_mono (fun wq hR hst => ?_) ?_
        · refine obl_x rfl ?_
          refine obl_done ?_
          have Lq := Le.of_below (Fz := Fz) (M := M) hR
          replace LL := LL.trans Lq
          replace LR := LR.trans Lq
          replace hM := hM.mono Lq
          replace hF := hF.mono Lq
          replace h := h.mono Lq
          refine ops_lt rfl rfl rfl ?_
          exact ops_nil ⟨rfl, rb_refl _, _, rfl, by show Value.bool (decide _) = _; rw [decide_eq_true hcase5]⟩
        apply drs_ex
        · intro wq hR hst
          refine obl_x rfl ?_
          refine obl_done ?_
          have Lq := Le.of_below (Fz := Fz) (M := M) hR
          replace LL := LL.trans Lq
          replace LR := LR.trans Lq
          replace hM := hM.mono Lq
          replace hF := hF.mono Lq
          replace h := h.mono Lq
          refine ops_move rfl rfl ?_
          exact ops_nil ⟨rfl, rb_refl _, _, rfl, rfl⟩
        apply drs_ex
        · intro wq hR hst
          refine obl_e rfl rfl ?_
          refine obl_x rfl ?_
          refine obl_done ?_
          have Lq := Le.of_below (Fz := Fz) (M := M) hR
          replace LL := LL.trans Lq
          replace LR := LR.trans Lq
          replace hM := hM.mono Lq
          replace hF := hF.mono Lq
          replace h := h.mono Lq
          refine ops_guard_f rfl rfl rfl rfl ?_
          exact ops_nil ⟨rfl, rb_refl _, _, rfl, rfl⟩
        apply drs_ex
        · intro wq hR hst
          refine obl_e rfl rfl ?_
          refine obl_x rfl ?_
          refine obl_done ?_
          have Lq := Le.of_below (Fz := Fz) (M := M) hR
          replace LL := LL.trans Lq
          replace LR := LR.trans Lq
          replace hM := hM.mono Lq
          replace hF := hF.mono Lq
          replace h := h.mono Lq
          refine ops_guard_f rfl rfl rfl rfl ?_
          exact ops_nil ⟨rfl, rb_refl _, _, rfl, rfl⟩
        apply drs_ex
        · intro wq hR hst
          refine obl_x rfl ?_
          refine obl_x rfl ?_
          refine obl_x rfl ?_
          refine obl_done ?_
          have Lq := Le.of_below (Fz := Fz) (M := M) hR
          replace LL := LL.trans Lq
          replace LR := LR.trans Lq
          replace hM := hM.mono Lq
          replace hF := hF.mono Lq
          replace h := h.mono Lq
          refine ops_guard_f rfl rfl rfl rfl ?_
          exact ops_nil ⟨rfl, rb_refl _, _, rfl, rfl⟩
        apply drs_ex
        · intro wq hR hst
          refine obl_x rfl ?_
          refine obl_x rfl ?_
          refine obl_done ?_
          have Lq := Le.of_below (Fz := Fz) (M := M) hR
          replace LL := LL.trans Lq
          replace LR := LR.trans Lq
          replace hM := hM.mono Lq
          replace hF := hF.mono Lq
          replace h := h.mono Lq
          refine ops_guard_f rfl rfl rfl rfl ?_
          exact ops_nil ⟨rfl, rb_refl _, _, rfl, rfl⟩
        apply drs_ex
        · intro wq hR hst
          refine obl_e rfl rfl ?_
          refine obl_x rfl ?_
          refine obl_done ?_
          have Lq := Le.of_below (Fz := Fz) (M := M) hR
          replace LL := LL.trans Lq
          replace LR := LR.trans Lq
          replace hM := hM.mono Lq
          replace hF := hF.mono Lq
          replace h := h.mono Lq
          refine ops_guard_f rfl rfl rfl rfl ?_
          exact ops_nil ⟨rfl, rb_refl _, _, rfl, rfl⟩
        apply drs_ex
        · intro wq hR hst
          refine obl_e rfl rfl ?_
          refine obl_x rfl ?_
          refine obl_done ?_
          have Lq := Le.of_below (Fz := Fz) (M := M) hR
          replace LL := LL.trans Lq
          replace LR := LR.trans Lq
          replace hM := hM.mono Lq
          replace hF := hF.mono Lq
          replace h := h.mono Lq
          refine ops_guard_f rfl rfl rfl rfl ?_
          exact ops_nil ⟨rfl, rb_refl _, _, rfl, rfl⟩
        apply drs_ex
        · intro wq hR hst
          refine obl_x rfl ?_
          refine obl_x rfl ?_
          refine obl_x rfl ?_
          refine obl_done ?_
          have Lq := Le.of_below (Fz := Fz) (M := M) hR
          replace LL := LL.trans Lq
          replace LR := LR.trans Lq
          replace hM := hM.mono Lq
          replace hF := hF.mono Lq
          replace h := h.mono Lq
          refine ops_guard_f rfl rfl rfl rfl ?_
          exact ops_nil ⟨rfl, rb_refl _, _, rfl, rfl⟩
        apply drs_ex
        · intro wq hR hst
          refine obl_x rfl ?_
          refine obl_x rfl ?_
          refine obl_done ?_
          have Lq := Le.of_below (Fz := Fz) (M := M) hR
          replace LL := LL.trans Lq
          replace LR := LR.trans Lq
          replace hM := hM.mono Lq
          replace hF := hF.mono Lq
          replace h := h.mono Lq
          refine ops_guard_f rfl rfl rfl rfl ?_
          exact ops_nil ⟨rfl, rb_refl _, _, rfl, rfl⟩
        refine drs_nil (fun wq5 hR5 hpost5 => ?_)
        refine obl_e rfl rfl ?_
        refine obl_e rfl rfl ?_
        refine obl_e rfl rfl ?_
        refine obl_e rfl rfl ?_
        refine obl_e rfl rfl ?_
        refine obl_e rfl rfl ?_
        refine obl_e rfl rfl ?_
        refine obl_x rfl ?_
        refine obl_x rfl ?_
        refine obl_x rfl ?_
        refine obl_x rfl ?_
        refine obl_x rfl ?_
        refine obl_x rfl ?_
        refine obl_x rfl ?_
        refine obl_x rfl ?_
        refine obl_x rfl ?_
        refine obl_x rfl ?_
        refine obl_x rfl ?_
        refine obl_done ?_
        simp only [List.drop_succ_cons, List.drop_zero, List.drop_nil, List.toList_toArray]
        have Lwq5 := Le.of_below (Fz := Fz) (M := M) hR5
        replace LL := LL.trans Lwq5
        replace LR := LR.trans Lwq5
        replace hM := hM.mono Lwq5
        replace hF := hF.mono Lwq5
        replace h := h.mono Lwq5
        refine ops_guard_f rfl rfl rfl rfl ?_
        refine ops_guard_f rfl rfl rfl rfl ?_
        refine ops_pick rfl rfl rfl ?_
        refine ops_nil ?_
        refine SL.wp_cond_t rfl ?_
        refine SL.wp_region ?_
        refine ops_move rfl rfl ?_
        refine ops_assign rfl rfl ?_
        refine ops_nil ?_
        refine SL.wp_region ?_
        refine ops_move rfl rfl ?_
        refine ops_add rfl rfl rfl (by omega) ?_
        refine ops_assign rfl rfl ?_
        refine ops_nil ?_
        refine ⟨rfl, s + 1, (sub_cons' rfl (by rw [lst_new (.inl hcase5)]) (sub_cons' rfl (rfl) (sub_cons rfl sub_nil))), ?_, ?_⟩
        exact ⟨LR, by omega⟩
        omega
      · obtain ⟨vs, hvs, hel⟩ := h.ex
        obtain ⟨u1, hu1, hn1⟩ := hel s (xss.getD s []) (by simp [List.getElem?_eq_getElem (show s < xss.length by omega)])
        obtain ⟨u2, hu2, hn2⟩ := hel (lst (xss.map val) s).toNat (xss.getD (lst (xss.map val) s).toNat []) (by simp [List.getElem?_eq_getElem (show (lst (xss.map val) s).toNat < xss.length by omega)])
        refine SL.wp_draw (R := Rb) (R' := Rb) (st := none) mixed 11 [0, 3, 4, 5, 6, 7, 8, 11, 12, 13, 14, 15, 16, 17, 18, 19, 20, 21] (by decide +kernel) rb_trans rb_self (rb_drew _) (fun _ _ _ h => by cases h) ?_
        apply drs_ex
        · intro wq hR hst
          refine obl_e rfl rfl ?_
          refine obl_done ?_
          have Lq := Le.of_below (Fz := Fz) (M := M) hR
          replace LL := LL.trans Lq
          replace LR := LR.trans Lq
          replace hM := hM.mono Lq
          replace hF := hF.mono Lq
          replace h := h.mono Lq
          replace hvs := hvs.mono Lq
          replace hn1 := hn1.mono Lq
          replace hn2 := hn2.mono Lq
          refine ops_move rfl rfl ?_
          exact ops_nil ⟨rfl, rb_refl _, _, rfl, rfl⟩
        refine drs_val (Ex (.bool false)) ex_mono (fun wq hR hst => ?_) ?_
        · refine obl_x rfl ?_
          refine obl_done ?_
          have Lq := Le.of_below (Fz := Fz) (M := M) hR
          replace LL := LL.trans Lq
          replace LR := LR.trans Lq
          replace hM := hM.mono Lq
          replace hF := hF.mono Lq
          replace h := h.mono Lq
          replace hvs := hvs.mono Lq
          replace hn1 := hn1.mono Lq
          replace hn2 := hn2.mono Lq
          refine ops_lt rfl rfl rfl ?_
          exact ops_nil ⟨rfl, rb_refl _, _, rfl, by show Value.bool (decide _) = _; rw [decide_eq_false hcase5]⟩
        apply drs_ex
        · intro wq hR hst
          refine obl_x rfl ?_
          refine obl_done ?_
          have Lq := Le.of_below (Fz := Fz) (M := M) hR
          replace LL := LL.trans Lq
          replace LR := LR.trans Lq
          replace hM := hM.mono Lq
          replace hF := hF.mono Lq
          replace h := h.mono Lq
          replace hvs := hvs.mono Lq
          replace hn1 := hn1.mono Lq
          replace hn2 := hn2.mono Lq
          refine ops_move rfl rfl ?_
          exact ops_nil ⟨rfl, rb_refl _, _, rfl, rfl⟩
        apply drs_ex
        · intro wq hR hst
          refine obl_e rfl rfl ?_
          refine obl_x rfl ?_
          refine obl_done ?_
          have Lq := Le.of_below (Fz := Fz) (M := M) hR
          replace LL := LL.trans Lq
          replace LR := LR.trans Lq
          replace hM := hM.mono Lq
          replace hF := hF.mono Lq
          replace h := h.mono Lq
          replace hvs := hvs.mono Lq
          replace hn1 := hn1.mono Lq
          replace hn2 := hn2.mono Lq
          refine ops_guard_t rfl rfl ?_
          refine ops_move rfl rfl ?_
          exact ops_nil ⟨rfl, rb_refl _, _, rfl, rfl⟩
        apply drs_ex
        · intro wq hR hst
          refine obl_e rfl rfl ?_
          refine obl_x rfl ?_
          refine obl_done ?_
          have Lq := Le.of_below (Fz := Fz) (M := M) hR
          replace LL := LL.trans Lq
          replace LR := LR.trans Lq
          replace hM := hM.mono Lq
          replace hF := hF.mono Lq
          replace h := h.mono Lq
          replace hvs := hvs.mono Lq
          replace hn1 := hn1.mono Lq
          replace hn2 := hn2.mono Lq
          refine ops_guard_t rfl rfl ?_
          refine ops_move rfl rfl ?_
          exact ops_nil ⟨rfl, rb_refl _, _, rfl, rfl⟩
        apply drs_ptr
        · intro wq hR hst
          refine obl_x rfl ?_
          refine obl_x rfl ?_
          refine obl_x rfl ?_
          refine obl_done ?_
          have Lq := Le.of_below (Fz := Fz) (M := M) hR
          replace LL := LL.trans Lq
          replace LR := LR.trans Lq
          replace hM := hM.mono Lq
          replace hF := hF.mono Lq
          replace h := h.mono Lq
          replace hvs := hvs.mono Lq
          replace hn1 := hn1.mono Lq
          replace hn2 := hn2.mono Lq
          refine ops_guard_t rfl rfl ?_
          refine ops_idx (s) rfl Try.underlying24 sz23 rfl rfl hvs (by omega) (by omega) (fun b16 o16 _ hc16 => ?_)
          exact ops_nil ⟨rfl, rb_refl _, _, rfl, ⟨_, _, rfl, by have := hc16 0 u1 (by simpa using hu1); simpa using this⟩⟩
        apply drs_ex
        · intro wq hR hst
          refine obl_g rfl (fun v16 hp16 => ?_)
          obtain ⟨b16, o16, rfl, hc16⟩ := hp16
          refine obl_x rfl ?_
          refine obl_done ?_
          have Lq := Le.of_below (Fz := Fz) (M := M) hR
          replace LL := LL.trans Lq
          replace LR := LR.trans Lq
          replace hM := hM.mono Lq
          replace hF := hF.mono Lq
          replace h := h.mono Lq
          replace hvs := hvs.mono Lq
          replace hn1 := hn1.mono Lq
          replace hn2 := hn2.mono Lq
          refine ops_guard_t rfl rfl ?_
          refine ops_load rfl flat23 rfl hc16 ?_
          exact ops_nil ⟨rfl, rb_refl _, _, rfl, rfl⟩
        apply drs_ex
        · intro wq hR hst
          refine obl_e rfl rfl ?_
          refine obl_x rfl ?_
          refine obl_done ?_
          have Lq := Le.of_below (Fz := Fz) (M := M) hR
          replace LL := LL.trans Lq
          replace LR := LR.trans Lq
          replace hM := hM.mono Lq
          replace hF := hF.mono Lq
          replace h := h.mono Lq
          replace hvs := hvs.mono Lq
          replace hn1 := hn1.mono Lq
          replace hn2 := hn2.mono Lq
          refine ops_guard_t rfl rfl ?_
          refine ops_move rfl rfl ?_
          exact ops_nil ⟨rfl, rb_refl _, _, rfl, rfl⟩
        apply drs_ex
        · intro wq hR hst
          refine obl_e rfl rfl ?_
          refine obl_x rfl ?_
          refine obl_done ?_
          have Lq := Le.of_below (Fz := Fz) (M := M) hR
          replace LL := LL.trans Lq
          replace LR := LR.trans Lq
          replace hM := hM.mono Lq
          replace hF := hF.mono Lq
          replace h := h.mono Lq
          replace hvs := hvs.mono Lq
          replace hn1 := hn1.mono Lq
          replace hn2 := hn2.mono Lq
          refine ops_guard_t rfl rfl ?_
          refine ops_move rfl rfl ?_
          exact ops_nil ⟨rfl, rb_refl _, _, rfl, rfl⟩
        apply drs_ptr
        · intro wq hR hst
          refine obl_x rfl ?_
          refine obl_x rfl ?_
          refine obl_x rfl ?_
          refine obl_done ?_
          have Lq := Le.of_below (Fz := Fz) (M := M) hR
          replace LL := LL.trans Lq
          replace LR := LR.trans Lq
          replace hM := hM.mono Lq
          replace hF := hF.mono Lq
          replace h := h.mono Lq
          replace hvs := hvs.mono Lq
          replace hn1 := hn1.mono Lq
          replace hn2 := hn2.mono Lq
          refine ops_guard_t rfl rfl ?_
          refine ops_idx ((lst (xss.map val) s).toNat) rfl Try.underlying24 sz23 rfl rfl hvs (by omega) (by omega) (fun b20 o20 _ hc20 => ?_)
          exact ops_nil ⟨rfl, rb_refl _, _, rfl, ⟨_, _, rfl, by have := hc20 0 u2 (by simpa using hu2); simpa using this⟩⟩
        apply drs_ex
        · intro wq hR hst
          refine obl_g rfl (fun v20 hp20 => ?_)
          obtain ⟨b20, o20, rfl, hc20⟩ := hp20
          refine obl_x rfl ?_
          refine obl_done ?_
          have Lq := Le.of_below (Fz := Fz) (M := M) hR
          replace LL := LL.trans Lq
          replace LR := LR.trans Lq
          replace hM := hM.mono Lq
          replace hF := hF.mono Lq
          replace h := h.mono Lq
          replace hvs := hvs.mono Lq
          replace hn1 := hn1.mono Lq
          replace hn2 := hn2.mono Lq
          refine ops_guard_t rfl rfl ?_
          refine ops_load rfl flat23 rfl hc20 ?_
          exact ops_nil ⟨rfl, rb_refl _, _, rfl, rfl⟩
        refine drs_nil (fun wq5 hR5 hpost5 => ?_)
        refine obl_e rfl rfl ?_
        refine obl_e rfl rfl ?_
        refine obl_e rfl rfl ?_
        refine obl_e rfl rfl ?_
        refine obl_e rfl rfl ?_
        refine obl_e rfl rfl ?_
        refine obl_e rfl rfl ?_
        refine obl_x rfl ?_
        refine obl_x rfl ?_
        refine obl_x rfl ?_
        refine obl_x rfl ?_
        refine obl_x rfl ?_
        refine obl_g rfl (fun v16 hp16 => ?_)
        obtain ⟨b16, o16, rfl, hc16⟩ := hp16
        refine obl_x rfl ?_
        refine obl_x rfl ?_
        refine obl_x rfl ?_
        refine obl_g rfl (fun v20 hp20 => ?_)
        obtain ⟨b20, o20, rfl, hc20⟩ := hp20
        refine obl_x rfl ?_
        refine obl_done ?_
        simp only [List.drop_succ_cons, List.drop_zero, List.drop_nil, List.toList_toArray]
        have Lwq5 := Le.of_below (Fz := Fz) (M := M) hR5
        replace LL := LL.trans Lwq5
        replace LR := LR.trans Lwq5
        replace hM := hM.mono Lwq5
        replace hF := hF.mono Lwq5
        replace h := h.mono Lwq5
        replace hvs := hvs.mono Lwq5
        replace hn1 := hn1.mono Lwq5
        replace hn2 := hn2.mono Lwq5
        refine ops_guard_t rfl rfl ?_
        refine ops_callv rfl bod24 rfl rfl ?_
        refine (rcmp_c (M := M) hn1 hn2 (by have := hll s (by omega); omega) (by have := hll (lst (xss.map val) s).toNat (by omega); omega) hM).mono ?_
        rintro v22 w2 ⟨hB22, rfl⟩
        have Lw2 := Le.of_below (Fz := Fz) (M := M) hB22
        replace LL := LL.trans Lw2
        replace LR := LR.trans Lw2
        replace hM := hM.mono Lw2
        replace hF := hF.mono Lw2
        replace h := h.mono Lw2
        replace hvs := hvs.mono Lw2
        replace hn1 := hn1.mono Lw2
        replace hn2 := hn2.mono Lw2
        refine ops_guard_t rfl rfl ?_
        refine ops_lt rfl rfl rfl ?_
        refine ops_pick rfl rfl rfl ?_
        refine ops_nil ?_
        refine SL.wp_cond_d rfl (fun hc1 => ?_) (fun hc1 => ?_)
        · refine SL.wp_region ?_
          refine ops_move rfl rfl ?_
          refine ops_assign rfl rfl ?_
          refine ops_nil ?_
          refine SL.wp_region ?_
          refine ops_move rfl rfl ?_
          refine ops_add rfl rfl rfl (by omega) ?_
          refine ops_assign rfl rfl ?_
          refine ops_nil ?_
          refine ⟨rfl, s + 1, (sub_cons' rfl (by rw [lst_new (.inr (by rw [map_val_getD, map_val_getD]; exact cmpN_neg.1 hc1))]) (sub_cons' rfl (rfl) (sub_cons rfl sub_nil))), ?_, ?_⟩
          exact ⟨LR, by omega⟩
          omega
        · refine SL.wp_skip ?_
          refine SL.wp_region ?_
          refine ops_move rfl rfl ?_
          refine ops_add rfl rfl rfl (by omega) ?_
          refine ops_assign rfl rfl ?_
          refine ops_nil ?_
          refine ⟨rfl, s + 1, (sub_cons' rfl (by rw [lst_old hcase5 (by rw [map_val_getD, map_val_getD]; exact fun c => hc1 (cmpN_neg.2 c))]) (sub_cons' rfl (rfl) (sub_cons rfl sub_nil))), ?_, ?_⟩
          exact ⟨LR, by omega⟩
          omega
    · refine SL.wp_exit ?_
      refine upd_hit ?_
      refine SL.wp_seq ?_
      refine SL.wp_region ?_
      refine ops_move rfl rfl ?_
      refine ops_assign rfl rfl ?_
      refine ops_nil ?_
      refine SL.wp_ret ?_
      refine leave_nil ⟨[_], ⟨rfl, trivial⟩, ?_⟩
      dsimp only [resVal]
      subst hFz
      obtain rfl : s = xss.length := by omega
      exact ⟨LL.below (Nat.le_refl _), rfl⟩


theorem same_c {M : Nat → Prop} {w : World} {v u : Value} {xs ys : List Nat} (h1 : IsNat M w v xs) (h2 : IsNat M w u ys) (hM : OkM M w) :
    CallsV Try.prog 58 [v, u] w fun r w' => Below w.heap.size w w' ∧ r = .bool (decide (xs = ys)) := by
  obtain ⟨Fz, hFz⟩ : ∃ Fz : Nat → Prop, Fz = (· < w.heap.size) := ⟨_, rfl⟩
  have hF : FOk Fz w := by subst hFz; exact fun _ h => h
  have hl1 := h1.len; have hl2 := h2.len
  have LL := Le.refl Fz M w; have hM0 := hM
  refine calls_intro Try.func58 rfl Try.ntmps58 rfl ?_
  refine SL.wp_seq ?_
  refine SL.wp_region ?_
  refine ops_assign rfl rfl ?_
  refine ops_nil ?_
  refine SL.wp_seq ?_
  refine SL.wp_seq ?_
  refine SL.wp_region ?_
  refine ops_move rfl rfl ?_
  first | refine ops_len rfl Try.underlying23 rfl ?_ | refine ops_lens rfl Try.underlying23 rfl (IsNat.slc (by assumption)) ?_ | refine ops_lenn rfl Try.underlying23 rfl (by assumption) ?_ | refine ops_leno rfl Try.underlying23 rfl (by assumption) ?_
  refine ops_move rfl rfl ?_
  first | refine ops_len rfl Try.underlying23 rfl ?_ | refine ops_lens rfl Try.underlying23 rfl (IsNat.slc (by assumption)) ?_ | refine ops_lenn rfl Try.underlying23 rfl (by assumption) ?_ | refine ops_leno rfl Try.underlying23 rfl (by assumption) ?_
  refine ops_ne rfl rfl rfl ?_
  refine ops_nil ?_
  refine SL.wp_cond_d rfl (fun hc0 => ?_) (fun hc0 => ?_)
  · refine SL.wp_seq ?_
    refine SL.wp_region ?_
    refine ops_assign rfl rfl ?_
    refine ops_nil ?_
    refine SL.wp_ret ?_
    refine leave_nil ⟨[_], ⟨rfl, trivial⟩, ?_⟩
    dsimp only [resVal]
    subst hFz
    have hne : ¬ xs = ys := fun e => by subst e; omega
    exact ⟨LL.below (Nat.le_refl _), by rw [decide_eq_false hne]⟩
  · refine SL.wp_skip ?_
    refine SL.wp_seq ?_
    refine SL.wp_seq ?_
    refine SL.wp_region ?_
    refine ops_assign rfl rfl ?_
    refine ops_nil ?_
    refine SL.wp_block ?_
    refine SL.wp_loopc (σ := Nat) [(0, _), (1, _)] (fun s => [(5, .int .i64 ((s : Nat) : Int))]) (fun s w1 => Le Fz M w M w1 ∧ s ≤ xs.length ∧ ∀ j, j < s → xs.getD j 0 = ys.getD j 0) (fun s => xs.length - s) (0) (sub_cons rfl (sub_cons rfl (sub_cons rfl sub_nil))) ?_ (fun s w1 hJ => ?_)
    · exact ⟨Le.refl _ _ _, by omega, fun j hj => by omega⟩
    · obtain ⟨LR, hs, hz⟩ := hJ
      replace LL := LL.trans LR
      replace hM := hM.mono LR
      replace hF := hF.mono LR
      replace h1 := h1.mono LR
      replace h2 := h2.mono LR
      refine SL.wp_seq ?_
      refine SL.wp_seq ?_
      refine SL.wp_region ?_
      refine ops_move rfl rfl ?_
      refine ops_move rfl rfl ?_
      first | refine ops_len rfl Try.underlying23 rfl ?_ | refine ops_lens rfl Try.underlying23 rfl (IsNat.slc (by assumption)) ?_ | refine ops_lenn rfl Try.underlying23 rfl (by assumption) ?_ | refine ops_leno rfl Try.underlying23 rfl (by assumption) ?_
      refine ops_lt rfl rfl rfl ?_
      refine ops_nil ?_
      refine SL.wp_cond_d rfl (fun hc1 => ?_) (fun hc1 => ?_)
      · refine SL.wp_skip ?_
        refine SL.wp_seq ?_
        refine SL.wp_block ?_
        refine SL.wp_seq ?_
        refine SL.wp_draw (R := Rb) (R' := Rb) (st := none) mixed 8 [0, 1, 5, 11, 12, 13, 14, 17, 18, 19, 20, 21, 22, 23, 24] (by decide +kernel) rb_trans rb_self (rb_drew _) (fun _ _ _ h => by cases h) ?_
        apply drs_ex
        · intro wq hR hst
          refine obl_e rfl rfl ?_
          refine obl_done ?_
          have Lq := Le.of_below (Fz := Fz) (M := M) hR
          replace LL := LL.trans Lq
          replace LR := LR.trans Lq
          replace hM := hM.mono Lq
          replace hF := hF.mono Lq
          replace h1 := h1.mono Lq
          replace h2 := h2.mono Lq
          refine ops_move rfl rfl ?_
          exact ops_nil ⟨rfl, rb_refl _, _, rfl, rfl⟩
        apply drs_ex
        · intro wq hR hst
          refine obl_e rfl rfl ?_
          refine obl_done ?_
          have Lq := Le.of_below (Fz := Fz) (M := M) hR
          replace LL := LL.trans Lq
          replace LR := LR.trans Lq
          replace hM := hM.mono Lq
          replace hF := hF.mono Lq
          replace h1 := h1.mono Lq
          replace h2 := h2.mono Lq
          refine ops_move rfl rfl ?_
          exact ops_nil ⟨rfl, rb_refl _, _, rfl, rfl⟩
        apply drs_ptr
        · intro wq hR hst
          refine obl_x rfl ?_
          refine obl_x rfl ?_
          refine obl_done ?_
          have Lq := Le.of_below (Fz := Fz) (M := M) hR
          replace LL := LL.trans Lq
          replace LR := LR.trans Lq
          replace hM := hM.mono Lq
          replace hF := hF.mono Lq
          replace h1 := h1.mono Lq
          replace h2 := h2.mono Lq
          refine ops_idxn (s) rfl Try.underlying23 sz43 rfl rfl (by assumption) (by omega) (by omega) (fun b19 o19 hc19 hb19 => ?_)
          exact ops_nil ⟨rfl, rb_refl _, _, rfl, ⟨_, _, rfl, hc19⟩⟩
        apply drs_ex
        · intro wq hR hst
          refine obl_g rfl (fun v19 hp19 => ?_)
          obtain ⟨b19, o19, rfl, hc19⟩ := hp19
          refine obl_done ?_
          have Lq := Le.of_below (Fz := Fz) (M := M) hR
          replace LL := LL.trans Lq
          replace LR := LR.trans Lq
          replace hM := hM.mono Lq
          replace hF := hF.mono Lq
          replace h1 := h1.mono Lq
          replace h2 := h2.mono Lq
          refine ops_load rfl flat43 rfl hc19 ?_
          exact ops_nil ⟨rfl, rb_refl _, _, rfl, rfl⟩
        apply drs_ex
        · intro wq hR hst
          refine obl_e rfl rfl ?_
          refine obl_done ?_
          have Lq := Le.of_below (Fz := Fz) (M := M) hR
          replace LL := LL.trans Lq
          replace LR := LR.trans Lq
          replace hM := hM.mono Lq
          replace hF := hF.mono Lq
          replace h1 := h1.mono Lq
          replace h2 := h2.mono Lq
          refine ops_move rfl rfl ?_
          exact ops_nil ⟨rfl, rb_refl _, _, rfl, rfl⟩
        apply drs_ex
        · intro wq hR hst
          refine obl_e rfl rfl ?_
          refine obl_done ?_
          have Lq := Le.of_below (Fz := Fz) (M := M) hR
          replace LL := LL.trans Lq
          replace LR := LR.trans Lq
          replace hM := hM.mono Lq
          replace hF := hF.mono Lq
          replace h1 := h1.mono Lq
          replace h2 := h2.mono Lq
          refine ops_move rfl rfl ?_
          exact ops_nil ⟨rfl, rb_refl _, _, rfl, rfl⟩
        apply drs_ptr
        · intro wq hR hst
          refine obl_x rfl ?_
          refine obl_x rfl ?_
          refine obl_done ?_
          have Lq := Le.of_below (Fz := Fz) (M := M) hR
          replace LL := LL.trans Lq
          replace LR := LR.trans Lq
          replace hM := hM.mono Lq
          replace hF := hF.mono Lq
          replace h1 := h1.mono Lq
          replace h2 := h2.mono Lq
          refine ops_idxn (s) rfl Try.underlying23 sz43 rfl rfl (by assumption) (by omega) (by omega) (fun b23 o23 hc23 hb23 => ?_)
          exact ops_nil ⟨rfl, rb_refl _, _, rfl, ⟨_, _, rfl, hc23⟩⟩
        apply drs_ex
        · intro wq hR hst
          refine obl_g rfl (fun v23 hp23 => ?_)
          obtain ⟨b23, o23, rfl, hc23⟩ := hp23
          refine obl_done ?_
          have Lq := Le.of_below (Fz := Fz) (M := M) hR
          replace LL := LL.trans Lq
          replace LR := LR.trans Lq
          replace hM := hM.mono Lq
          replace hF := hF.mono Lq
          replace h1 := h1.mono Lq
          replace h2 := h2.mono Lq
          refine ops_load rfl flat43 rfl hc23 ?_
          exact ops_nil ⟨rfl, rb_refl _, _, rfl, rfl⟩
        refine drs_nil (fun wq6 hR6 hpost6 => ?_)
        refine obl_e rfl rfl ?_
        refine obl_e rfl rfl ?_
        refine obl_e rfl rfl ?_
        refine obl_e rfl rfl ?_
        refine obl_e rfl rfl ?_
        refine obl_e rfl rfl ?_
        refine obl_e rfl rfl ?_
        refine obl_x rfl ?_
        refine obl_x rfl ?_
        refine obl_g rfl (fun v19 hp19 => ?_)
        obtain ⟨b19, o19, rfl, hc19⟩ := hp19
        refine obl_x rfl ?_
        refine obl_x rfl ?_
        refine obl_x rfl ?_
        refine obl_g rfl (fun v23 hp23 => ?_)
        obtain ⟨b23, o23, rfl, hc23⟩ := hp23
        refine obl_x rfl ?_
        refine obl_done ?_
        simp only [List.drop_succ_cons, List.drop_zero, List.drop_nil, List.toList_toArray]
        have Lwq6 := Le.of_below (Fz := Fz) (M := M) hR6
        replace LL := LL.trans Lwq6
        replace LR := LR.trans Lwq6
        replace hM := hM.mono Lwq6
        replace hF := hF.mono Lwq6
        replace h1 := h1.mono Lwq6
        replace h2 := h2.mono Lwq6
        refine ops_ne rfl rfl rfl ?_
        refine ops_nil ?_
        refine SL.wp_cond_d rfl (fun hc2 => ?_) (fun hc2 => ?_)
        · refine SL.wp_seq ?_
          refine SL.wp_region ?_
          refine ops_assign rfl rfl ?_
          refine ops_nil ?_
          refine SL.wp_ret ?_
          refine leave_nil ⟨[_], ⟨rfl, trivial⟩, ?_⟩
          dsimp only [resVal]
          subst hFz
          have hne : ¬ xs = ys := fun e => by subst e; omega
          exact ⟨LL.below (Nat.le_refl _), by rw [decide_eq_false hne]⟩
        · refine SL.wp_skip ?_
          refine SL.wp_region ?_
          refine ops_move rfl rfl ?_
          refine ops_add rfl rfl rfl (by omega) ?_
          refine ops_assign rfl rfl ?_
          refine ops_nil ?_
          refine ⟨rfl, s + 1, (sub_cons' rfl (rfl) (sub_cons rfl (sub_cons rfl sub_nil))), ?_, ?_⟩
          exact ⟨LR, by omega, fun j hj => by
            rcases Nat.lt_or_ge j s with h | h
            · exact hz j h
            · obtain rfl : j = s := by omega
              omega⟩
          omega
      · refine SL.wp_exit ?_
        refine upd_hit ?_
        refine SL.wp_seq ?_
        refine SL.wp_region ?_
        refine ops_assign rfl rfl ?_
        refine ops_nil ?_
        refine SL.wp_ret ?_
        refine leave_nil ⟨[_], ⟨rfl, trivial⟩, ?_⟩
        dsimp only [resVal]
        subst hFz
        have heq : xs = ys := eq_of_getD (by omega) (fun j hj => hz j (by omega))
        exact ⟨LL.below (Nat.le_refl _), by rw [decide_eq_true heq]⟩


theorem same1_c {M : Nat → Prop} {w : World} {v u : Value} {xs ys : List Nat} (h1 : IsNat M w v xs) (h2 : IsNat M w u ys) (hM : OkM M w) :
    CallsV Try.prog 22 [v, u] w fun r w' => Below w.heap.size w w' ∧ r = .bool (decide (xs = ys)) := by
  obtain ⟨Fz, hFz⟩ : ∃ Fz : Nat → Prop, Fz = (· < w.heap.size) := ⟨_, rfl⟩
  have hF : FOk Fz w := by subst hFz; exact fun _ h => h
  have LL := Le.refl Fz M w; have hM0 := hM
  refine calls_intro Try.func22 rfl Try.ntmps22 rfl ?_
  refine SL.wp_seq ?_
  refine SL.wp_region ?_
  refine ops_assign rfl rfl ?_
  refine ops_nil ?_
  refine SL.wp_seq ?_
  refine SL.wp_region ?_
  refine ops_move rfl rfl ?_
  refine ops_move rfl rfl ?_
  refine ops_callv rfl bod58 rfl rfl ?_
  refine (same_c (M := M) (by assumption) (by assumption) hM).mono ?_
  rintro v7 w1 ⟨hB7, rfl⟩
  have Lw1 := Le.of_below (Fz := Fz) (M := M) hB7
  replace LL := LL.trans Lw1
  replace hM := hM.mono Lw1
  replace hF := hF.mono Lw1
  replace h1 := h1.mono Lw1
  replace h2 := h2.mono Lw1
  refine ops_assign rfl rfl ?_
  refine ops_nil ?_
  refine SL.wp_ret ?_
  refine leave_nil ⟨[_], ⟨rfl, trivial⟩, ?_⟩
  dsimp only [resVal]
  subst hFz
  exact ⟨LL.below (Nat.le_refl _), rfl⟩


theorem great_c {M : Nat → Prop} {w : World} {v : Value} {xss : List (List Nat)} (h : IsNats M w v xss) (hM : OkM M w) :
    CallsV Try.prog 16 [v] w fun r w' => Below w.heap.size w w' ∧ r = .bool (greatB xss) := by
  obtain ⟨Fz, hFz⟩ : ∃ Fz : Nat → Prop, Fz = (· < w.heap.size) := ⟨_, rfl⟩
  have hF : FOk Fz w := by subst hFz; exact fun _ h => h
  have hl := h.len
  have LL := Le.refl Fz M w; have hM0 := hM
  refine calls_intro Try.func16 rfl Try.ntmps16 rfl ?_
  refine SL.wp_seq ?_
  refine SL.wp_region ?_
  refine ops_assign rfl rfl ?_
  refine ops_nil ?_
  refine SL.wp_seq ?_
  refine SL.wp_region ?_
  refine ops_assign rfl rfl ?_
  refine ops_nil ?_
  refine SL.wp_seq ?_
  refine SL.wp_seq ?_
  refine SL.wp_region ?_
  refine ops_assign rfl rfl ?_
  refine ops_nil ?_
  refine SL.wp_block ?_
  refine SL.wp_loopc (σ := Nat) [(0, _)] (fun s => [(3, .int .i64 ((gsum xss s : Nat) : Int)), (4, .int .i64 ((s : Nat) : Int))]) (fun s w1 => Le Fz M w M w1 ∧ s ≤ xss.length ∧ s ≤ 101) (fun s => xss.length - s) (0) (sub_cons rfl (sub_cons rfl (sub_cons rfl sub_nil))) ?_ (fun s w1 hJ => ?_)
  · exact ⟨Le.refl _ _ _, by omega, by omega⟩
  · obtain ⟨LR, hs, hs2⟩ := hJ
    have hg := gsum_le xss s
    replace LL := LL.trans LR
    replace hM := hM.mono LR
    replace hF := hF.mono LR
    replace h := h.mono LR
    refine SL.wp_seq ?_
    refine SL.wp_seq ?_
    refine SL.wp_region ?_
    refine ops_move rfl rfl ?_
    refine ops_move rfl rfl ?_
    first | refine ops_len rfl Try.underlying24 rfl ?_ | refine ops_lens rfl Try.underlying24 rfl (IsNat.slc (by assumption)) ?_ | refine ops_lenn rfl Try.underlying24 rfl (by assumption) ?_ | refine ops_leno rfl Try.underlying24 rfl (by assumption) ?_
    refine ops_lt rfl rfl rfl ?_
    refine ops_move rfl rfl ?_
    refine ops_dcase (d := 9) rfl (fun hg3_4 => ?_) (fun hg3_4 => ?_)
    · refine ops_guard_t rfl rfl ?_
      refine ops_move rfl rfl ?_
      refine ops_guard_t rfl rfl ?_
      refine ops_le rfl rfl rfl ?_
      refine ops_pick rfl rfl rfl ?_
      refine ops_nil ?_
      refine SL.wp_cond_d rfl (fun hc0 => ?_) (fun hc0 => ?_)
      · refine SL.wp_skip ?_
        refine SL.wp_seq ?_
        refine SL.wp_block ?_
        refine SL.wp_region ?_
        refine ops_move rfl rfl ?_
        refine ops_move rfl rfl ?_
        refine ops_move rfl rfl ?_
        refine ops_idxs (s) rfl Try.underlying24 sz23 rfl rfl (by assumption) (by omega) (by omega) (fun b18 o18 u18 hc18 hu18 => ?_)
        refine ops_load rfl flat23 rfl hc18 ?_
        first | refine ops_len rfl Try.underlying23 rfl ?_ | refine ops_lens rfl Try.underlying23 rfl (IsNat.slc (by assumption)) ?_ | refine ops_lenn rfl Try.underlying23 rfl (by assumption) ?_ | refine ops_leno rfl Try.underlying23 rfl (by assumption) ?_
        refine ops_min rfl rfl rfl ?_
        refine ops_add rfl rfl rfl (by omega) ?_
        refine ops_assign rfl rfl ?_
        refine ops_nil ?_
        refine SL.wp_region ?_
        refine ops_move rfl rfl ?_
        refine ops_add rfl rfl rfl (by omega) ?_
        refine ops_assign rfl rfl ?_
        refine ops_nil ?_
        refine ⟨rfl, s + 1, (sub_cons' rfl (by rw [gsum, Int.natCast_add]; congr 2; omega) (sub_cons' rfl (rfl) (sub_cons rfl sub_nil))), ?_, ?_⟩
        exact ⟨LR, by omega, by omega⟩
        omega
      · refine SL.wp_exit ?_
        refine upd_hit ?_
        refine SL.wp_seq ?_
        refine SL.wp_region ?_
        refine ops_move rfl rfl ?_
        first | refine ops_len rfl Try.underlying24 rfl ?_ | refine ops_lens rfl Try.underlying24 rfl (IsNat.slc (by assumption)) ?_ | refine ops_lenn rfl Try.underlying24 rfl (by assumption) ?_ | refine ops_leno rfl Try.underlying24 rfl (by assumption) ?_
        refine ops_gt rfl rfl rfl ?_
        refine ops_move rfl rfl ?_
        refine ops_dcase (d := 26) rfl (fun hg6_3 => ?_) (fun hg6_3 => ?_)
        · refine ops_guard_f rfl rfl rfl rfl ?_
          refine ops_guard_f rfl rfl rfl rfl ?_
          refine ops_pick rfl rfl rfl ?_
          refine ops_assign rfl rfl ?_
          refine ops_nil ?_
          refine SL.wp_ret ?_
          refine leave_nil ⟨[_], ⟨rfl, trivial⟩, ?_⟩
          dsimp only [resVal]
          subst hFz
          refine ⟨LL.below (Nat.le_refl _), ?_⟩
          rw [greatB, show min xss.length 101 = s by omega]
          first
          | rfl
          | (exfalso; omega)
          | (rw [show (decide (100 < xss.length ∨ 600 < gsum xss s)) = true from decide_eq_true (by omega)])
          | (congr 1; rw [Bool.eq_iff_iff]; simp only [decide_eq_true_eq]; omega)
        · refine ops_guard_t rfl rfl ?_
          refine ops_move rfl rfl ?_
          refine ops_guard_t rfl rfl ?_
          refine ops_gt rfl rfl rfl ?_
          refine ops_pick rfl rfl rfl ?_
          refine ops_assign rfl rfl ?_
          refine ops_nil ?_
          refine SL.wp_ret ?_
          refine leave_nil ⟨[_], ⟨rfl, trivial⟩, ?_⟩
          dsimp only [resVal]
          subst hFz
          refine ⟨LL.below (Nat.le_refl _), ?_⟩
          rw [greatB, show min xss.length 101 = s by omega]
          first
          | rfl
          | (exfalso; omega)
          | (rw [show (decide (100 < xss.length ∨ 600 < gsum xss s)) = true from decide_eq_true (by omega)])
          | (congr 1; rw [Bool.eq_iff_iff]; simp only [decide_eq_true_eq]; omega)
    · refine ops_guard_f rfl rfl rfl rfl ?_
      refine ops_guard_f rfl rfl rfl rfl ?_
      refine ops_pick rfl rfl rfl ?_
      refine ops_nil ?_
      refine SL.wp_cond_f rfl ?_
      refine SL.wp_exit ?_
      refine upd_hit ?_
      refine SL.wp_seq ?_
      refine SL.wp_region ?_
      refine ops_move rfl rfl ?_
      first | refine ops_len rfl Try.underlying24 rfl ?_ | refine ops_lens rfl Try.underlying24 rfl (IsNat.slc (by assumption)) ?_ | refine ops_lenn rfl Try.underlying24 rfl (by assumption) ?_ | refine ops_leno rfl Try.underlying24 rfl (by assumption) ?_
      refine ops_gt rfl rfl rfl ?_
      refine ops_move rfl rfl ?_
      refine ops_dcase (d := 26) rfl (fun hg6_3 => ?_) (fun hg6_3 => ?_)
      · refine ops_guard_f rfl rfl rfl rfl ?_
        refine ops_guard_f rfl rfl rfl rfl ?_
        refine ops_pick rfl rfl rfl ?_
        refine ops_assign rfl rfl ?_
        refine ops_nil ?_
        refine SL.wp_ret ?_
        refine leave_nil ⟨[_], ⟨rfl, trivial⟩, ?_⟩
        dsimp only [resVal]
        subst hFz
        refine ⟨LL.below (Nat.le_refl _), ?_⟩
        rw [greatB, show min xss.length 101 = s by omega]
        first
        | rfl
        | (exfalso; omega)
        | (rw [show (decide (100 < xss.length ∨ 600 < gsum xss s)) = true from decide_eq_true (by omega)])
        | (congr 1; rw [Bool.eq_iff_iff]; simp only [decide_eq_true_eq]; omega)
      · refine ops_guard_t rfl rfl ?_
        refine ops_move rfl rfl ?_
        refine ops_guard_t rfl rfl ?_
        refine ops_gt rfl rfl rfl ?_
        refine ops_pick rfl rfl rfl ?_
        refine ops_assign rfl rfl ?_
        refine ops_nil ?_
        refine SL.wp_ret ?_
        refine leave_nil ⟨[_], ⟨rfl, trivial⟩, ?_⟩
        dsimp only [resVal]
        subst hFz
        refine ⟨LL.below (Nat.le_refl _), ?_⟩
        rw [greatB, show min xss.length 101 = s by omega]
        first
        | rfl
        | (exfalso; omega)
        | (rw [show (decide (100 < xss.length ∨ 600 < gsum xss s)) = true from decide_eq_true (by omega)])
        | (congr 1; rw [Bool.eq_iff_iff]; simp only [decide_eq_true_eq]; omega)

end Go.Proofs.Ytffakiheophioaa
