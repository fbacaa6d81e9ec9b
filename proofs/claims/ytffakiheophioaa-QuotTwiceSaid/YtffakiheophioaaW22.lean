import Derived.Test.YtffakiheophioaaW21
import Derived.Test.YtffakiheophioaaSLq
import Derived.Test.YtffakiheophioaaSLp
import Derived.Test.YtffakiheophioaaSLo
import Derived.Test.YtffakiheophioaaSLn
set_option linter.unusedVariables false
set_option linter.unusedSimpArgs false
set_option maxRecDepth 100000
namespace Go.Proofs.Ytffakiheophioaa
open Go.SL Go.RowKit Go.Proofs

theorem qlimbs1_c {M0 M : Nat → Prop} {w0 : World} {b1 bd br cap m L : Nat} {vb : Value} {rs ys : List Nat} {ex : List Value} (B1 : Blk w0 b1 66 [.pointer (some ⟨bd, 0, none⟩)]) (hL : rs.length = L) (Bd : Blk w0 bd 68 [.slice (some ⟨br, 0, none⟩) L cap, vb]) (BR : Blk w0 br 43 (rs.map lw ++ ex)) (hb : IsNat M0 w0 vb ys) (hr : ∀ x ∈ rs, x < 4294967296)
    (hy0 : 0 < ys.length) (ht : 0 < ys.getD (ys.length - 1) 0) (hrm : rs.length = m + ys.length) (hQ : val rs < 4294967296 ^ m * val ys) (hrl : rs.length ≤ 1099511627776) (hcap : cap = rs.length + ex.length)
    (n1 : ¬ M0 b1) (nd : ¬ M0 bd) (hmr : M br) (hall : ∀ k, M k → k = br) (hMs : ∀ k, M k → M0 k) :
    IterC Try.prog 75 [.pointer (some ⟨b1, 0, none⟩)] M0 M w0 ((List.range m).map (fun j => (m - j - 1, val rs / (4294967296 ^ (m - j - 1) * val ys) % 4294967296))) encB (fun w => ∃ zs : List Nat, Blk w br 43 (zs.map lw ++ ex) ∧ zs.length = rs.length ∧ (∀ z ∈ zs, z < 4294967296) ∧ val zs = val rs % val ys) := by
  intro n l w J X hn0 hn hdr hJ hkeep hJd hXd hy
  have B1' := B1; have Bd' := Bd; have hb' := hb
  have hk0 := hkeep _ _ hJ
  have nM1 : ¬ M b1 := fun c => n1 (hMs _ c)
  have nMd : ¬ M bd := fun c => nd (hMs _ c)
  replace BR := BR.drift hdr (fun c => c)
  replace B1 := hk0.blk B1 n1; replace Bd := hk0.blk Bd nd; replace hb := (hk0.nat hb).less hMs
  have hM : OkM M w := fun k hk => by rw [hall k hk]; exact BR.lt
  have hyl := hb.len
  have hV : 0 < val ys := val_pos_of_last ys (by intro e; subst e; simp at hy0) (by omega)
  obtain ⟨Fz, hFz⟩ : ∃ Fz : Nat → Prop, Fz = fun _ => False := ⟨_, rfl⟩
  have hFa : ∀ w, FOk Fz w := by subst hFz; exact fun _ _ h => h.elim
  have hF := hFa w
  have nFr : ¬ Fz br := by subst hFz; exact fun c => c
  have LL := Le.refl Fz M w; have hM0 := hM
  refine calls_intro Try.func75 rfl Try.ntmps75 rfl ?_
  refine SL.wp_seq ?_
  refine SL.wp_draw (R := Rb) (R' := Rb) (st := none) mixed 10 [0, 1, 10, 15] (by decide +kernel) rb_trans rb_self (rb_drew _) (fun _ _ _ h => by cases h) ?_
  apply drs_ex
  · intro wq hR hst
    refine obl_e rfl rfl ?_
    refine obl_done ?_
    have Lq := Le.of_below (Fz := Fz) (M := M) hR
    replace LL := LL.trans Lq
    replace hM := hM.mono Lq
    replace hF := hF.mono Lq
    replace hb := hb.mono Lq
    replace B1 := B1.below hR
    replace Bd := Bd.below hR
    replace BR := BR.below hR
    refine ops_loadb rfl flat66 rfl B1 rfl ?_
    exact ops_nil ⟨rfl, rb_refl _, _, rfl, rfl⟩
  apply drs_ex
  · intro wq hR hst
    refine obl_x rfl ?_
    refine obl_done ?_
    have Lq := Le.of_below (Fz := Fz) (M := M) hR
    replace LL := LL.trans Lq
    replace hM := hM.mono Lq
    replace hF := hF.mono Lq
    replace hb := hb.mono Lq
    replace B1 := B1.below hR
    replace Bd := Bd.below hR
    replace BR := BR.below hR
    refine ops_nilck rfl rfl ?_
    exact ops_nil ⟨rfl, rb_refl _, _, rfl, rfl⟩
  apply drs_ex
  · intro wq hR hst
    refine obl_x rfl ?_
    refine obl_done ?_
    have Lq := Le.of_below (Fz := Fz) (M := M) hR
    replace LL := LL.trans Lq
    replace hM := hM.mono Lq
    replace hF := hF.mono Lq
    replace hb := hb.mono Lq
    replace B1 := B1.below hR
    replace Bd := Bd.below hR
    replace BR := BR.below hR
    refine ops_field0 0 rfl Try.underlying68 rfl rfl sz23 rfl rfl ?_
    exact ops_nil ⟨rfl, rb_refl _, _, rfl, rfl⟩
  apply drs_ex
  · intro wq hR hst
    refine obl_x rfl ?_
    refine obl_done ?_
    have Lq := Le.of_below (Fz := Fz) (M := M) hR
    replace LL := LL.trans Lq
    replace hM := hM.mono Lq
    replace hF := hF.mono Lq
    replace hb := hb.mono Lq
    replace B1 := B1.below hR
    replace Bd := Bd.below hR
    replace BR := BR.below hR
    refine ops_loadb rfl flat23 rfl Bd rfl ?_
    exact ops_nil ⟨rfl, rb_refl _, _, rfl, rfl⟩
  apply drs_ex
  · intro wq hR hst
    refine obl_x rfl ?_
    refine obl_done ?_
    have Lq := Le.of_below (Fz := Fz) (M := M) hR
    replace LL := LL.trans Lq
    replace hM := hM.mono Lq
    replace hF := hF.mono Lq
    replace hb := hb.mono Lq
    replace B1 := B1.below hR
    replace Bd := Bd.below hR
    replace BR := BR.below hR
    first | refine ops_len rfl Try.underlying23 rfl ?_ | refine ops_lens rfl Try.underlying23 rfl (IsNat.slc (by assumption)) ?_ | refine ops_lenn rfl Try.underlying23 rfl (by assumption) ?_ | refine ops_leno rfl Try.underlying23 rfl (by assumption) ?_
    exact ops_nil ⟨rfl, rb_refl _, _, rfl, rfl⟩
  apply drs_ex
  · intro wq hR hst
    refine obl_e rfl rfl ?_
    refine obl_done ?_
    have Lq := Le.of_below (Fz := Fz) (M := M) hR
    replace LL := LL.trans Lq
    replace hM := hM.mono Lq
    replace hF := hF.mono Lq
    replace hb := hb.mono Lq
    replace B1 := B1.below hR
    replace Bd := Bd.below hR
    replace BR := BR.below hR
    refine ops_loadb rfl flat66 rfl B1 rfl ?_
    exact ops_nil ⟨rfl, rb_refl _, _, rfl, rfl⟩
  apply drs_ex
  · intro wq hR hst
    refine obl_x rfl ?_
    refine obl_done ?_
    have Lq := Le.of_below (Fz := Fz) (M := M) hR
    replace LL := LL.trans Lq
    replace hM := hM.mono Lq
    replace hF := hF.mono Lq
    replace hb := hb.mono Lq
    replace B1 := B1.below hR
    replace Bd := Bd.below hR
    replace BR := BR.below hR
    refine ops_nilck rfl rfl ?_
    exact ops_nil ⟨rfl, rb_refl _, _, rfl, rfl⟩
  apply drs_ex
  · intro wq hR hst
    refine obl_x rfl ?_
    refine obl_done ?_
    have Lq := Le.of_below (Fz := Fz) (M := M) hR
    replace LL := LL.trans Lq
    replace hM := hM.mono Lq
    replace hF := hF.mono Lq
    replace hb := hb.mono Lq
    replace B1 := B1.below hR
    replace Bd := Bd.below hR
    replace BR := BR.below hR
    refine ops_field0 1 rfl Try.underlying68 rfl rfl sz23 rfl rfl ?_
    exact ops_nil ⟨rfl, rb_refl _, _, rfl, rfl⟩
  apply drs_ex
  · intro wq hR hst
    refine obl_x rfl ?_
    refine obl_done ?_
    have Lq := Le.of_below (Fz := Fz) (M := M) hR
    replace LL := LL.trans Lq
    replace hM := hM.mono Lq
    replace hF := hF.mono Lq
    replace hb := hb.mono Lq
    replace B1 := B1.below hR
    replace Bd := Bd.below hR
    replace BR := BR.below hR
    refine ops_loadb rfl flat23 rfl Bd rfl ?_
    exact ops_nil ⟨rfl, rb_refl _, _, rfl, rfl⟩
  apply drs_ex
  · intro wq hR hst
    refine obl_x rfl ?_
    refine obl_done ?_
    have Lq := Le.of_below (Fz := Fz) (M := M) hR
    replace LL := LL.trans Lq
    replace hM := hM.mono Lq
    replace hF := hF.mono Lq
    replace hb := hb.mono Lq
    replace B1 := B1.below hR
    replace Bd := Bd.below hR
    replace BR := BR.below hR
    first | refine ops_len rfl Try.underlying23 rfl ?_ | refine ops_lens rfl Try.underlying23 rfl (IsNat.slc (by assumption)) ?_ | refine ops_lenn rfl Try.underlying23 rfl (by assumption) ?_ | refine ops_leno rfl Try.underlying23 rfl (by assumption) ?_
    exact ops_nil ⟨rfl, rb_refl _, _, rfl, rfl⟩
  refine drs_nil (fun wq0 hR0 hpost0 => ?_)
  refine obl_e rfl rfl ?_
  refine obl_e rfl rfl ?_
  refine obl_x rfl ?_
  refine obl_x rfl ?_
  refine obl_done ?_
  simp only [List.drop_succ_cons, List.drop_zero, List.drop_nil, List.toList_toArray]
  have Lwq0 := Le.of_below (Fz := Fz) (M := M) hR0
  replace LL := LL.trans Lwq0
  replace hM := hM.mono Lwq0
  replace hF := hF.mono Lwq0
  replace hb := hb.mono Lwq0
  replace B1 := B1.below hR0
  replace Bd := Bd.below hR0
  replace BR := BR.below hR0
  refine ops_sub rfl rfl rfl (by omega) ?_
  refine ops_sub rfl rfl rfl (by omega) ?_
  refine ops_assign rfl rfl ?_
  refine ops_nil ?_
  refine SL.wp_block ?_
  refine SL.wp_loopc (σ := Nat) [(0, _), (1, _)] (fun s => [(3, .int .i64 (((m - s : Nat) : Int) - 1))]) (fun s w1 => J ((List.range s).map (fun j => (m - j - 1, val rs / (4294967296 ^ (m - j - 1) * val ys) % 4294967296))) w1 ∧ n ≤ w1.heap.size ∧ s ≤ m ∧ ∃ zs : List Nat, Blk w1 br 43 (zs.map lw ++ ex) ∧ zs.length = rs.length ∧ (∀ z ∈ zs, z < 4294967296) ∧ val zs = val rs % (4294967296 ^ (m - s) * val ys)) (fun s => m - s) (0) (sub_cons' rfl (by show Value.int .i64 _ = Value.int .i64 _; congr 1; omega) (sub_cons rfl (sub_cons rfl sub_nil))) ?_ (fun s w1 hJ => ?_)
  · have hJ2 := hJd _ _ _ hJ (LL.drift_to hn)
    exact ⟨hJ2, Nat.le_trans hn LL.size, by omega, rs, BR, rfl, hr, by rw [Nat.sub_zero, Nat.mod_eq_of_lt hQ]⟩
  · clear BR
    obtain ⟨hJ1, hn1, hs, zs, BR, hzl, hzlt, hzv⟩ := hJ
    have hk := hkeep _ _ hJ1
    replace B1 := hk.blk B1' n1; replace Bd := hk.blk Bd' nd; replace hb := (hk.nat hb').less hMs
    replace hM : OkM M w1 := fun k hk => by rw [hall k hk]; exact BR.lt
    have hF := hFa w1
    have LL := Le.refl Fz M w1
    refine SL.wp_seq ?_
    refine SL.wp_seq ?_
    refine SL.wp_region ?_
    refine ops_move rfl rfl ?_
    refine ops_ge rfl rfl rfl ?_
    refine ops_nil ?_
    refine SL.wp_cond_d rfl (fun hc0 => ?_) (fun hc0 => ?_)
    · obtain ⟨p, hpe⟩ : ∃ p, p = m - s - 1 := ⟨_, rfl⟩
      have hs2 : s < m := by omega
      have hat : ((m - s : Nat) : Int) - 1 = (p : Int) := by omega
      rw [hat]
      have hzv' : val zs = val rs % (4294967296 ^ p * val ys * 4294967296) := by rw [hzv, show m - s = p + 1 by omega, Nat.pow_succ, Nat.mul_right_comm]
      have hS : val zs < 4294967296 ^ (p + 1) * val ys := by rw [hzv, show m - s = p + 1 by omega]; exact Nat.mod_lt _ (Nat.mul_pos (Nat.pow_pos (by omega)) hV)
      have hhi : ∀ j, p + ys.length < j → zs.getD j 0 = 0 := fun j hj => high_zero (n := p + 1 + ys.length) (Nat.lt_of_lt_of_le hS (by
        rw [Nat.pow_add _ (p + 1)]; exact Nat.mul_le_mul_left _ (Nat.le_of_lt (val_lt ys hb.lt)))) j (by omega)
      have hgu := guess_ok hzlt hhi hS hy0 ht
      refine SL.wp_skip ?_
      refine SL.wp_seq ?_
      refine SL.wp_block ?_
      refine SL.wp_scope ?_
      refine SL.wp_seq ?_
      refine SL.wp_region ?_
      refine ops_loadb rfl flat66 rfl B1 rfl ?_
      refine ops_move rfl rfl ?_
      refine ops_callv rfl bod76 rfl rfl ?_
      refine (qguess_c (M := M) (p := p) (hzl.trans hL) Bd BR hb hzlt hy0 ht (by omega) (by omega) hM).mono ?_
      rintro v24 w2 ⟨hB24, rfl⟩
      have Lw2 := Le.of_below (Fz := Fz) (M := M) hB24
      replace LL := LL.trans Lw2
      replace hM := hM.mono Lw2
      replace hF := hF.mono Lw2
      replace hb := hb.mono Lw2
      replace B1 := B1.below hB24
      replace Bd := Bd.below hB24
      replace BR := BR.below hB24
      obtain ⟨g, hge⟩ : ∃ g, min ((zs.getD (p + ys.length) 0 * 4294967296 + zs.getD (p + ys.length - 1) 0) / ys.getD (ys.length - 1) 0) 4294967295 = g := ⟨_, rfl⟩
      rw [hge]; rw [hge] at hgu
      have hgb : g < 4294967296 := by rw [← hge]; exact Nat.lt_of_le_of_lt (Nat.min_le_right _ _) (by decide)
      clear hge
      refine ops_assign rfl rfl ?_
      refine ops_nil ?_
      refine SL.wp_seq ?_
      refine SL.wp_label ?_
      refine SL.wp_seq ?_
      refine SL.wp_seq ?_
      refine SL.wp_region ?_
      refine ops_loadb rfl flat66 rfl B1 rfl ?_
      refine ops_move rfl rfl ?_
      refine ops_move rfl rfl ?_
      refine ops_callv rfl bod77 rfl rfl ?_
      refine (qless_c (Fz := Fz) (M := M) (p := p) (m := g) (hzl.trans hL) Bd BR hb hzlt hgb (by omega) (by omega) (by omega) hmr nFr hF hM).mono ?_
      rintro v28 w3 ⟨Lw3, Bd2, u, z1, BR2, hl1, hz1, hu1, hh1, hv1, rfl⟩
      replace LL := LL.trans Lw3
      replace hM := hM.mono Lw3
      replace hF := hF.mono Lw3
      replace hb := hb.mono Lw3
      replace B1 := B1.le Lw3 nM1
      clear Bd; have Bd := Bd2
      clear BR; have BR := BR2
      refine ops_assign rfl rfl ?_
      refine ops_nil ?_
      refine SL.wp_block ?_
      refine SL.wp_loopc (σ := Nat) [(0, _), (1, _), (3, _), (5, _)] (fun q => [(4, .int .u64 ((q : Nat) : Int))]) (fun q w4 => Le Fz M w3 M w4 ∧ Blk w4 bd 68 [.slice (some ⟨br, 0, none⟩) L cap, vb] ∧ Blk w4 b1 66 [.pointer (some ⟨bd, 0, none⟩)] ∧ ∃ zq : List Nat, Blk w4 br 43 (zq.map lw ++ ex) ∧ zq.length = rs.length ∧ (∀ z ∈ zq, z < 4294967296) ∧ (∀ j, p + ys.length < j → zq.getD j 0 = 0) ∧ q < 4294967296 ∧ val zq + (4294967296 ^ p * val ys) * q = val zs + 4294967296 ^ (p + (ys.length + 1)) * u ∧ val zs < (4294967296 ^ p * val ys) * (q + 1)) (fun q => q) (g) (sub_cons rfl (sub_cons rfl (sub_cons rfl (sub_cons rfl (sub_cons rfl sub_nil))))) ?_ (fun q w4 hJ => ?_)
      · exact ⟨Le.refl _ _ _, Bd, B1, z1, BR, by omega, hz1, fun j hj => by rw [hh1 j hj]; exact hhi j hj, hgb, by rw [← Nat.mul_assoc, Nat.mul_right_comm] at hv1; exact hv1, hgu⟩
      · clear Bd B1 BR
        obtain ⟨LR, Bd, B1, zq, BR, hzql, hql, hqh, hqb0, hqv, hqu⟩ := hJ
        replace LL := LL.trans LR
        replace hM := hM.mono LR
        replace hF := hF.mono LR
        replace hb := hb.mono LR
        refine SL.wp_seq ?_
        refine SL.wp_seq ?_
        refine SL.wp_region ?_
        refine ops_move rfl rfl ?_
        refine ops_not rfl rfl ?_
        refine ops_nil ?_
        refine SL.wp_cond rfl (fun hc1 => ?_) (fun hc1 => ?_)
        · have hu1 : u = 1 := by
            have : ¬ u = 0 := by simpa using hc1
            omega
          have hlt := val_high (n := p + (ys.length + 1)) hql (fun j hj => hqh j (by omega))
          have hqlt : val zs < (4294967296 ^ p * val ys) * (q - 1 + 1) := by
            rw [hu1, Nat.mul_one] at hqv
            rcases Nat.eq_zero_or_pos q with h | h
            · subst h; omega
            · rw [Nat.sub_add_cancel h]; omega
          have hq1 : 1 ≤ q := by
            rcases Nat.eq_zero_or_pos q with h | h
            · subst h; rw [hu1] at hqv; omega
            · exact h
          have hqn : (4294967296 ^ p * val ys) * q = (4294967296 ^ p * val ys) * (q - 1) + (4294967296 ^ p * val ys) := by
            have : q = (q - 1) + 1 := by omega
            conv => lhs; rw [this, Nat.mul_add, Nat.mul_one]
          refine SL.wp_skip ?_
          refine SL.wp_block ?_
          refine SL.wp_seq ?_
          refine SL.wp_region ?_
          refine ops_move rfl rfl ?_
          first | refine ops_subv (b := 1) rfl rfl rfl (by omega) (by omega) ?_ | refine ops_subu (b := 1) rfl rfl rfl (by omega) ?_
          refine ops_assign rfl rfl ?_
          refine ops_nil ?_
          refine SL.wp_seq ?_
          refine SL.wp_region ?_
          refine ops_loadb rfl flat66 rfl B1 rfl ?_
          refine ops_move rfl rfl ?_
          refine ops_callv rfl bod78 rfl rfl ?_
          refine (qmore_c (Fz := Fz) (M := M) (p := p) (hzql.trans hL) Bd BR hb hql (by omega) (by omega) (by omega) hmr nFr hF hM).mono ?_
          rintro v35 w5 ⟨Lw5, Bd2, u2, z2, BR2, hl2, hz2, hu2, hh2, hv2, rfl⟩
          replace LL := LL.trans Lw5
          replace LR := LR.trans Lw5
          replace hM := hM.mono Lw5
          replace hF := hF.mono Lw5
          replace hb := hb.mono Lw5
          replace B1 := B1.le Lw5 nM1
          clear Bd; have Bd := Bd2
          clear BR; have BR := BR2
          refine ops_nil ?_
          refine SL.wp_cond_d rfl (fun hc2 => ?_) (fun hc2 => ?_)
          · obtain rfl : u2 = 1 := by omega
            rw [hu1, hqn] at hqv
            have hqe : val z2 + (4294967296 ^ p * val ys) * (q - 1) = val zs := by omega
            obtain ⟨hq, hz⟩ := div_found hqe hqlt
            obtain ⟨zq, rfl⟩ : ∃ zq, zq = z2 := ⟨_, rfl⟩
            have hzql := hl2.trans hzql; have hql := hz2
            have hqb : (q - 1) % 4294967296 = val rs / (4294967296 ^ (m - s - 1) * val ys) % 4294967296 := by rw [hq, ← hpe, hzv', Nat.mod_mul_right_div_self, Nat.mod_mod]
            have hev : encB (m - s - 1, val rs / (4294967296 ^ (m - s - 1) * val ys) % 4294967296) = [.int .i64 (p : Int), .int .u32 (((q - 1) % 4294967296 : Nat) : Int)] := by rw [← hqb, ← hpe]; rfl
            have hzn : val zq = val rs % (4294967296 ^ (m - (s + 1)) * val ys) := by rw [hz, hzv', Nat.mod_mul_right_mod, hpe, show m - s - 1 = m - (s + 1) by omega]
            refine SL.wp_exit ?_
            refine upd_miss rfl ?_
            refine upd_hit ?_
            refine SL.wp_seq ?_
            refine SL.wp_region ?_
            refine ops_move rfl rfl ?_
            refine ops_move rfl rfl ?_
            refine ops_move rfl rfl ?_
            refine ops_to32 rfl Try.underlying25 Try.underlying43 rfl ?_
            refine ops_yield rfl rfl rfl ?_
            rw [← hev]
            refine (hy _ _ _ _ ((rng_at _ hs2).choose_spec) (hJd _ _ _ hJ1 (LL.drift_to hn1)) (Nat.le_trans hn1 LL.size)).mono ?_
            rintro v40 w6 ⟨hn2, hTk, hyn⟩
            replace BR : Blk w6 br 43 (zq.map lw ++ ex) := (hTk br hmr).trans BR
            refine ops_not rfl rfl ?_
            refine ops_nil ?_
            refine SL.wp_cond rfl (fun hc3 => ?_) (fun hc3 => ?_)
            · refine SL.wp_ret ?_
              refine leave_nil ⟨[], trivial, ?_⟩
              dsimp only [resVal]
              right
              rcases hyn with ⟨e, _⟩ | ⟨_, h⟩
              · subst e; simp at hc3
              · exact h
            · refine SL.wp_skip ?_
              refine SL.wp_region ?_
              refine ops_move rfl rfl ?_
              refine ops_sub rfl rfl rfl (by omega) ?_
              refine ops_assign rfl rfl ?_
              refine ops_nil ?_
              refine ⟨rfl, s + 1, (sub_cons' rfl (by show Value.int .i64 _ = Value.int .i64 _; congr 1; omega) (sub_cons rfl (sub_cons rfl sub_nil))), ?_, ?_⟩
              exact ⟨by
                rw [rng_next]
                rcases hyn with ⟨_, h⟩ | ⟨e, _⟩
                · exact h
                · subst e; simp at hc3, hn2, by omega, zq, BR, by omega, hql, hzn⟩
              omega
          · refine SL.wp_skip ?_
            refine ⟨rfl, q - 1, (sub_cons' rfl (rfl) (sub_cons rfl (sub_cons rfl (sub_cons rfl (sub_cons rfl sub_nil))))), ?_, ?_⟩
            exact ⟨LR, Bd, B1, z2, BR, by omega, hz2, fun j hj => by rw [hh2 j hj]; exact hqh j hj, by omega, by
              obtain rfl : u2 = 0 := by omega
              rw [hu1]; rw [hqn] at hqv; rw [hu1] at hqv; omega, hqlt⟩
            omega
        · have hu0 : u = 0 := by simpa using hc1
          rw [hu0, Nat.mul_zero, Nat.add_zero] at hqv
          obtain ⟨hq, hz⟩ := div_found hqv hqu
          have hqb : q % 4294967296 = val rs / (4294967296 ^ (m - s - 1) * val ys) % 4294967296 := by rw [hq, ← hpe, hzv', Nat.mod_mul_right_div_self, Nat.mod_mod]
          have hev : encB (m - s - 1, val rs / (4294967296 ^ (m - s - 1) * val ys) % 4294967296) = [.int .i64 (p : Int), .int .u32 ((q % 4294967296 : Nat) : Int)] := by rw [← hqb, ← hpe]; rfl
          have hzn : val zq = val rs % (4294967296 ^ (m - (s + 1)) * val ys) := by rw [hz, hzv', Nat.mod_mul_right_mod, hpe, show m - s - 1 = m - (s + 1) by omega]
          refine SL.wp_exit ?_
          refine upd_hit ?_
          refine SL.wp_seq ?_
          refine SL.wp_region ?_
          refine ops_move rfl rfl ?_
          refine ops_move rfl rfl ?_
          refine ops_move rfl rfl ?_
          refine ops_to32 rfl Try.underlying25 Try.underlying43 rfl ?_
          refine ops_yield rfl rfl rfl ?_
          rw [← hev]
          refine (hy _ _ _ _ ((rng_at _ hs2).choose_spec) (hJd _ _ _ hJ1 (LL.drift_to hn1)) (Nat.le_trans hn1 LL.size)).mono ?_
          rintro v40 w7 ⟨hn2, hTk, hyn⟩
          replace BR : Blk w7 br 43 (zq.map lw ++ ex) := (hTk br hmr).trans BR
          refine ops_not rfl rfl ?_
          refine ops_nil ?_
          refine SL.wp_cond rfl (fun hc4 => ?_) (fun hc4 => ?_)
          · refine SL.wp_ret ?_
            refine leave_nil ⟨[], trivial, ?_⟩
            dsimp only [resVal]
            right
            rcases hyn with ⟨e, _⟩ | ⟨_, h⟩
            · subst e; simp at hc4
            · exact h
          · refine SL.wp_skip ?_
            refine SL.wp_region ?_
            refine ops_move rfl rfl ?_
            refine ops_sub rfl rfl rfl (by omega) ?_
            refine ops_assign rfl rfl ?_
            refine ops_nil ?_
            refine ⟨rfl, s + 1, (sub_cons' rfl (by show Value.int .i64 _ = Value.int .i64 _; congr 1; omega) (sub_cons rfl (sub_cons rfl sub_nil))), ?_, ?_⟩
            exact ⟨by
              rw [rng_next]
              rcases hyn with ⟨_, h⟩ | ⟨e, _⟩
              · exact h
              · subst e; simp at hc4, hn2, by omega, zq, BR, by omega, hql, hzn⟩
            omega
    · refine SL.wp_exit ?_
      refine upd_hit ?_
      refine leave_nil ⟨[], trivial, ?_⟩
      dsimp only [resVal]
      left
      obtain rfl : s = m := by omega
      exact ⟨hJ1, zs, BR, hzl, hzlt, by rw [hzv, Nat.sub_self, Nat.pow_zero, Nat.one_mul]⟩


theorem qlimbs_c {M T : Nat → Prop} {w : World} {bd br cap m L : Nat} {vb : Value} {rs ys : List Nat} {ex : List Value} (hL : rs.length = L) (Bd : Blk w bd 68 [.slice (some ⟨br, 0, none⟩) L cap, vb]) (BR : Blk w br 43 (rs.map lw ++ ex)) (hb : IsNat M w vb ys) (hr : ∀ x ∈ rs, x < 4294967296)
    (hy0 : 0 < ys.length) (ht : 0 < ys.getD (ys.length - 1) 0) (hrm : rs.length = m + ys.length) (hQ : val rs < 4294967296 ^ m * val ys) (hrl : rs.length ≤ 1099511627776) (hcap : cap = rs.length + ex.length)
    (nd : ¬ M bd) (hmr : T br) (hall : ∀ k, T k → k = br) (hMs : ∀ k, T k → M k) (hM : OkM M w) :
    CallsV Try.prog 71 [.pointer (some ⟨bd, 0, none⟩)] w fun r w' => Below w.heap.size w w' ∧ ∃ cp, r = .func (.func 75) #[] cp ∧ IterC Try.prog 75 cp.toList M T w' ((List.range m).map (fun j => (m - j - 1, val rs / (4294967296 ^ (m - j - 1) * val ys) % 4294967296))) encB (fun w => ∃ zs : List Nat, Blk w br 43 (zs.map lw ++ ex) ∧ zs.length = rs.length ∧ (∀ z ∈ zs, z < 4294967296) ∧ val zs = val rs % val ys) := by
  obtain ⟨Fz, hFz⟩ : ∃ Fz : Nat → Prop, Fz = (· < w.heap.size) := ⟨_, rfl⟩
  have hF : FOk Fz w := by subst hFz; exact fun _ h => h
  have LL := Le.refl Fz M w; have hM0 := hM
  refine calls_intro Try.func71 rfl Try.ntmps71 rfl ?_
  refine SL.wp_seq ?_
  refine SL.wp_region ?_
  refine ops_box rfl rfl (fun w1 b1 N1 => ?_)
  have hBw1 := N1.below
  have nF1 := hF.new N1; have nM1 := hM.new N1
  have Lw1 := Le.of_new (Fz := Fz) (M := M) N1
  have ltd_1 := Bd.lt; replace Bd := Bd.below hBw1; have ne1_d : b1 ≠ bd := by have := N1.at_; omega
  have ltr_1 := BR.lt; replace BR := BR.below hBw1; have ne1_r : b1 ≠ br := by have := N1.at_; omega
  replace LL := LL.trans Lw1
  replace hM := hM.mono Lw1
  replace hF := hF.mono Lw1
  replace hb := hb.mono Lw1
  have B1 := N1.blk
  refine ops_assign rfl rfl ?_
  refine ops_nil ?_
  refine SL.wp_seq ?_
  refine SL.wp_region ?_
  refine ops_makeFunc rfl rfl ?_
  refine ops_assign rfl rfl ?_
  refine ops_nil ?_
  refine SL.wp_ret ?_
  refine leave_nil ⟨[_], ⟨rfl, trivial⟩, ?_⟩
  dsimp only [resVal]
  subst hFz
  exact ⟨LL.below (Nat.le_refl _), _, rfl, qlimbs1_c B1 hL Bd BR (hb.less fun k c => ins_there c) hr hy0 ht hrm hQ hrl hcap (fun c => nM1 c) nd hmr hall hMs⟩


theorem lead_c {M : Nat → Prop} {w : World} {n : Nat} (h : n < 4294967296) (hM : OkM M w) :
    CallsV Try.prog 70 [.int .u32 (n : Int)] w fun r w' => Below w.heap.size w w' ∧ r = .int .i64 (32 - (bitsN n : Int)) := by
  obtain ⟨Fz, hFz⟩ : ∃ Fz : Nat → Prop, Fz = (· < w.heap.size) := ⟨_, rfl⟩
  have hF : FOk Fz w := by subst hFz; exact fun _ h => h
  have hbw := bitsN_word h
  have LL := Le.refl Fz M w; have hM0 := hM
  refine calls_intro Try.func70 rfl Try.ntmps70 rfl ?_
  refine SL.wp_seq ?_
  refine SL.wp_region ?_
  refine ops_assign rfl rfl ?_
  refine ops_nil ?_
  refine SL.wp_seq ?_
  refine SL.wp_region ?_
  refine ops_move rfl rfl ?_
  refine ops_callv rfl bod61 rfl rfl ?_
  refine (len32_c (M := M) (by omega) hM).mono ?_
  rintro v4 w1 ⟨hB4, rfl⟩
  have Lw1 := Le.of_below (Fz := Fz) (M := M) hB4
  replace LL := LL.trans Lw1
  replace hM := hM.mono Lw1
  replace hF := hF.mono Lw1
  refine ops_sub rfl rfl rfl (by omega) ?_
  refine ops_assign rfl rfl ?_
  refine ops_nil ?_
  refine SL.wp_ret ?_
  refine leave_nil ⟨[_], ⟨rfl, trivial⟩, ?_⟩
  dsimp only [resVal]
  subst hFz
  exact ⟨LL.below (Nat.le_refl _), rfl⟩

end Go.Proofs.Ytffakiheophioaa
