import Derived.Test.YtffakiheophioaaW2
import Derived.Test.YtffakiheophioaaSLn
set_option linter.unusedVariables false
set_option linter.unusedSimpArgs false
set_option maxRecDepth 100000
namespace Go.Proofs.Ytffakiheophioaa
open Go.SL Go.RowKit Go.Proofs

theorem two_c {M : Nat → Prop} {w : World} {v u : Value} {xs ys : List Nat} (h1 : IsNat M w v xs) (h2 : IsNat M w u ys) (hl1 : xs.length ≤ 1000000000) (hl2 : ys.length ≤ 1000000000) (hM : OkM M w) :
    CallsV Try.prog 60 [v, u] w fun r w' => Below w.heap.size w w' ∧ Fresh 43 w w' r (limbs (val xs + val ys)) := by
  obtain ⟨Fz, hFz⟩ : ∃ Fz : Nat → Prop, Fz = (· < w.heap.size) := ⟨_, rfl⟩
  have hF : FOk Fz w := by subst hFz; exact fun _ h => h
  have LL := Le.refl Fz M w; have hM0 := hM
  refine calls_intro Try.func60 rfl Try.ntmps60 rfl ?_
  refine SL.wp_seq ?_
  refine SL.wp_region ?_
  refine ops_assign rfl rfl ?_
  refine ops_nil ?_
  refine SL.wp_seq ?_
  refine SL.wp_region ?_
  refine ops_assign rfl rfl ?_
  refine ops_nil ?_
  refine SL.wp_seq ?_
  refine SL.wp_region ?_
  have Ow := own_nil (w := w) (e := 43)
  have Of : ∀ k, (Value.slice none 0 0).ownBlock = some k → ¬ Fz k := nil_own
  have Om : ∀ k, (Value.slice none 0 0).ownBlock = some k → ¬ M k := nil_own
  have Ln := Le.mo_nil (Fz := Fz) (M := M) (w := w)
  replace LL := LL.trans Ln
  replace hM := hM.mono Ln
  replace hF := hF.mono Ln
  replace h1 := h1.mono Ln
  replace h2 := h2.mono Ln
  clear Ln
  refine ops_assign rfl rfl ?_
  refine ops_nil ?_
  refine SL.wp_seq ?_
  refine SL.wp_seq ?_
  refine SL.wp_region ?_
  refine ops_assign rfl rfl ?_
  refine ops_nil ?_
  refine SL.wp_block ?_
  refine SL.wp_loopc (σ := Nat × Value × Nat) [(0, _), (1, _)] (fun s => [(5, s.2.1), (6, .int .u64 ((s.2.2 : Nat) : Int)), (7, .int .i64 ((s.1 : Nat) : Int))]) (fun s w1 => Le Fz (Mo (.slice none 0 0) M) w (Mo s.2.1 M) w1 ∧ s.1 ≤ max xs.length ys.length ∧ (∀ k, s.2.1.ownBlock = some k → ¬ Fz k) ∧ (∀ k, s.2.1.ownBlock = some k → ¬ M k) ∧ ∃ zs, w1.ownsRow 0 43 1 s.2.1 zs.length (zs.map lw) ∧ zs.length = s.1 ∧
        val zs + 4294967296 ^ zs.length * s.2.2 = val (((pairsOf xs ys).take s.1).map (·.1)) + val (((pairsOf xs ys).take s.1).map (·.2)) ∧ s.2.2 ≤ 1 ∧ (∀ z ∈ zs, z < 4294967296)) (fun s => max xs.length ys.length - s.1) ((0, .slice none 0 0, 0)) (sub_cons rfl (sub_cons rfl (sub_cons rfl (sub_cons rfl (sub_cons rfl sub_nil))))) ?_ (fun s w1 hJ => ?_)
  · dsimp only
    exact ⟨Le.refl _ _ _, by omega, Of, Om, [], by simpa using Ow, rfl, by simp [val], by omega, by simp⟩
  · obtain ⟨k, q, c⟩ := s
    dsimp only at hJ ⊢
    obtain ⟨LR, hk, Of, Om, zs, Ow, hzl, hzv, hc, hzlt⟩ := hJ
    replace LL := LL.trans LR
    replace hM := hM.mono LR
    replace hF := hF.mono LR
    replace h1 := h1.mono LR
    replace h2 := h2.mono LR
    have hbx := h1.lim k; have hby := h2.lim k
    refine SL.wp_seq ?_
    refine SL.wp_seq ?_
    refine SL.wp_region ?_
    refine ops_move rfl rfl ?_
    refine ops_move rfl rfl ?_
    first | refine ops_len rfl Try.underlying23 rfl ?_ | refine ops_lens rfl Try.underlying23 rfl (IsNat.slc (by assumption)) ?_ | refine ops_lenn rfl Try.underlying23 rfl (by assumption) ?_ | refine ops_leno rfl Try.underlying23 rfl (by assumption) ?_
    refine ops_move rfl rfl ?_
    first | refine ops_len rfl Try.underlying23 rfl ?_ | refine ops_lens rfl Try.underlying23 rfl (IsNat.slc (by assumption)) ?_ | refine ops_lenn rfl Try.underlying23 rfl (by assumption) ?_ | refine ops_leno rfl Try.underlying23 rfl (by assumption) ?_
    refine ops_max rfl rfl rfl ?_
    refine ops_lt rfl rfl rfl ?_
    refine ops_nil ?_
    refine SL.wp_cond_d rfl (fun hc0 => ?_) (fun hc0 => ?_)
    · refine SL.wp_skip ?_
      refine SL.wp_seq ?_
      refine SL.wp_block ?_
      refine SL.wp_seq ?_
      refine SL.wp_region ?_
      refine ops_move rfl rfl ?_
      refine ops_move rfl rfl ?_
      refine ops_callv rfl bod57 rfl rfl ?_
      refine (rlimb_c (M := (Mo q M)) (by assumption) (k) (by omega) hM).mono ?_
      rintro v20 w2 ⟨hB20, rfl, hlt20⟩
      have Lw2 := Le.of_below (Fz := Fz) (M := (Mo q M)) hB20
      replace LL := LL.trans Lw2
      replace LR := LR.trans Lw2
      replace hM := hM.mono Lw2
      replace hF := hF.mono Lw2
      replace h1 := h1.mono Lw2
      replace h2 := h2.mono Lw2
      replace Ow := own_below Ow hB20
      refine ops_move rfl rfl ?_
      refine ops_move rfl rfl ?_
      refine ops_callv rfl bod57 rfl rfl ?_
      refine (rlimb_c (M := (Mo q M)) (by assumption) (k) (by omega) hM).mono ?_
      rintro v23 w3 ⟨hB23, rfl, hlt23⟩
      have Lw3 := Le.of_below (Fz := Fz) (M := (Mo q M)) hB23
      replace LL := LL.trans Lw3
      replace LR := LR.trans Lw3
      replace hM := hM.mono Lw3
      replace hF := hF.mono Lw3
      replace h1 := h1.mono Lw3
      replace h2 := h2.mono Lw3
      replace Ow := own_below Ow hB23
      first | refine ops_addv rfl rfl rfl (by omega) ?_ | refine ops_addu rfl rfl rfl ?_
      refine ops_move rfl rfl ?_
      first | refine ops_addv rfl rfl rfl (by omega) ?_ | refine ops_addu rfl rfl rfl ?_
      refine ops_assign rfl rfl ?_
      refine ops_nil ?_
      refine SL.wp_seq ?_
      refine SL.wp_region ?_
      refine ops_move rfl rfl ?_
      refine ops_move rfl rfl ?_
      refine ops_to32 rfl Try.underlying25 Try.underlying43 rfl ?_
      refine ops_buildSlice rfl Try.underlying23 sz43 rfl rfl rfl (by simp [Value.oneCell', lw]) rfl (fun w4 b30 N30 => ?_)
      have hBw4 := N30.below
      have nM30 := hM.new N30; have B30 := N30.blk
      have Lw4 := Le.of_below (Fz := Fz) (M := (Mo q M)) hBw4
      replace LL := LL.trans Lw4
      replace LR := LR.trans Lw4
      replace hM := hM.mono Lw4
      replace hF := hF.mono Lw4
      replace h1 := h1.mono Lw4
      replace h2 := h2.mono Lw4
      replace Ow := own_below Ow hBw4
      refine ops_append rfl Try.underlying23 sz43 rfl rfl rfl Ow (B30.slc nM30 rfl (fun _ _ h => h) (by omega) (Nat.le_refl _)) (by simp [Value.oneCell']) (by omega) (by omega) (fun v31 w5 A31 G31 S31 => ?_)
      have Lw5 := Le.of_grown (Fz := Fz) (M := M) G31 S31 A31 Of
      have Omo31 := Om
      replace Of := own_step_f (w' := w5) Of hF S31; replace Om := own_step_m (w' := w5) Om (fun k hk => hM k (.inr hk)) S31
      replace LL := LL.trans Lw5
      replace LR := LR.trans Lw5
      replace hM := hM.mono Lw5
      replace hF := hF.mono Lw5
      replace h1 := h1.mono Lw5
      replace h2 := h2.mono Lw5
      clear Ow; have Ow := A31
      refine ops_assign rfl rfl ?_
      refine ops_nil ?_
      refine SL.wp_region ?_
      refine ops_move rfl rfl ?_
      refine ops_shru rfl rfl rfl (by simp only [IntKind.bits]; omega) ?_
      refine ops_assign rfl rfl ?_
      refine ops_nil ?_
      refine SL.wp_region ?_
      refine ops_move rfl rfl ?_
      refine ops_add rfl rfl rfl (by omega) ?_
      refine ops_assign rfl rfl ?_
      refine ops_nil ?_
      refine ⟨rfl, (k + 1, v31, (xs.getD k 0 + ys.getD k 0 + c) / 4294967296), (sub_cons' rfl (rfl) (sub_cons' rfl (rfl) (sub_cons' rfl (by rw [Int.natCast_add]; rfl) (sub_cons rfl (sub_cons rfl sub_nil))))), ?_, ?_⟩
      dsimp only
      have hp := pairs_take (xs := xs) (ys := ys) (s := k) (by omega)
      have e : xs.getD k 0 + ys.getD k 0 + c = c + (xs.getD k 0 + ys.getD k 0) := by omega
      exact ⟨LR, by omega, Of, Om, zs ++ [(xs.getD k 0 + ys.getD k 0 + c) % 4294967296], by simpa [lw] using Ow, by simp [hzl], by rw [hp.1, e]; exact add_step (by simp [hzl, pairs_length]; omega) hzv, by omega, fun z hz => by
        rcases List.mem_append.1 hz with hz | hz
        · exact hzlt z hz
        · simp at hz; omega⟩
      dsimp only
      omega
    · refine SL.wp_exit ?_
      refine upd_hit ?_
      refine SL.wp_seq ?_
      refine SL.wp_region ?_
      refine ops_move rfl rfl ?_
      refine ops_move rfl rfl ?_
      refine ops_to32 rfl Try.underlying25 Try.underlying43 rfl ?_
      refine ops_buildSlice rfl Try.underlying23 sz43 rfl rfl rfl (by simp [Value.oneCell', lw]) rfl (fun w6 b37 N37 => ?_)
      have hBw6 := N37.below
      have nM37 := hM.new N37; have B37 := N37.blk
      have Lw6 := Le.of_below (Fz := Fz) (M := (Mo q M)) hBw6
      replace LL := LL.trans Lw6
      replace LR := LR.trans Lw6
      replace hM := hM.mono Lw6
      replace hF := hF.mono Lw6
      replace h1 := h1.mono Lw6
      replace h2 := h2.mono Lw6
      replace Ow := own_below Ow hBw6
      refine ops_append rfl Try.underlying23 sz43 rfl rfl rfl Ow (B37.slc nM37 rfl (fun _ _ h => h) (by omega) (Nat.le_refl _)) (by simp [Value.oneCell']) (by omega) (by omega) (fun v38 w7 A38 G38 S38 => ?_)
      have Lw7 := Le.of_grown (Fz := Fz) (M := M) G38 S38 A38 Of
      have Omo38 := Om
      replace Of := own_step_f (w' := w7) Of hF S38; replace Om := own_step_m (w' := w7) Om (fun k hk => hM k (.inr hk)) S38
      replace LL := LL.trans Lw7
      replace LR := LR.trans Lw7
      replace hM := hM.mono Lw7
      replace hF := hF.mono Lw7
      replace h1 := h1.mono Lw7
      replace h2 := h2.mono Lw7
      clear Ow; have Ow := A38
      refine ops_callv rfl bod26 rfl rfl ?_
      refine (rtrim_c (M := M) (xs := zs ++ [c % 4294967296]) ⟨by simpa [lw] using own_slc Ow (fun k hk c => Om k hk c) (by omega), fun z hz => by rcases List.mem_append.1 hz with hz | hz <;> first | exact hzlt z hz | (simp at hz; omega)⟩ (by simp; omega) (fun k hk => hM k (.inr hk))).mono ?_
      rintro v39 w8 ⟨hB39, hf39⟩
      have hS39 := LL.size
      have Lw8 := Le.of_below (Fz := Fz) (M := (Mo v38 M)) hB39
      replace LL := LL.trans Lw8
      replace LR := LR.trans Lw8
      replace hM := hM.mono Lw8
      replace hF := hF.mono Lw8
      replace h1 := h1.mono Lw8
      replace h2 := h2.mono Lw8
      replace Ow := own_below Ow hB39
      replace hf39 := hf39.less hS39
      refine ops_assign rfl rfl ?_
      refine ops_nil ?_
      refine SL.wp_ret ?_
      refine leave_nil ⟨[_], ⟨rfl, trivial⟩, ?_⟩
      dsimp only [resVal]
      subst hFz
      obtain rfl : k = max xs.length ys.length := by omega
      rw [pairs_all (Nat.le_refl _), val_pairs_fst, val_pairs_snd] at hzv
      rw [val_snoc, show c % 4294967296 = c by omega, hzv] at hf39
      exact ⟨LL.below (Nat.le_refl _), hf39⟩


theorem radd_c {M : Nat → Prop} {w : World} {v : Value} {xss : List (List Nat)} (h : IsNats M w v xss) (hl : ∀ xs ∈ xss, xs.length ≤ 1000000) (hn : xss.length ≤ 1000000) (hM : OkM M w) :
    CallsV Try.prog 30 [v] w fun r w' => Below w.heap.size w w' ∧ Fresh 43 w w' r (limbs ((xss.map val).sum)) := by
  obtain ⟨Fz, hFz⟩ : ∃ Fz : Nat → Prop, Fz = (· < w.heap.size) := ⟨_, rfl⟩
  have hF : FOk Fz w := by subst hFz; exact fun _ h => h
  have LL := Le.refl Fz M w; have hM0 := hM
  refine calls_intro Try.func30 rfl Try.ntmps30 rfl ?_
  refine SL.wp_seq ?_
  refine SL.wp_region ?_
  refine ops_assign rfl rfl ?_
  refine ops_nil ?_
  refine SL.wp_seq ?_
  refine SL.wp_region ?_
  refine ops_assign rfl rfl ?_
  refine ops_nil ?_
  refine SL.wp_seq ?_
  refine SL.wp_seq ?_
  refine SL.wp_region ?_
  refine ops_assign rfl rfl ?_
  refine ops_nil ?_
  refine SL.wp_block ?_
  refine SL.wp_loopc (σ := Nat × Value) [(0, _)] (fun s => [(3, s.2), (4, .int .i64 ((s.1 : Nat) : Int))]) (fun s w1 => Le Fz M w M w1 ∧ s.1 ≤ xss.length ∧ ∃ ys, IsNat M w1 s.2 ys ∧ val ys = ((xss.map val).take s.1).sum ∧ ys.length ≤ 1000000 + s.1) (fun s => xss.length - s.1) ((0, .slice none 0 0)) (sub_cons rfl (sub_cons rfl (sub_cons rfl sub_nil))) ?_ (fun s w1 hJ => ?_)
  · exact ⟨Le.refl _ _ _, by omega, [], isNat_nil, by simp [val], by simp⟩
  · obtain ⟨k, u⟩ := s
    dsimp only at hJ ⊢
    obtain ⟨LR, hk, ys, hy, hyv, hyl⟩ := hJ
    have hlk : k < xss.length → (xss.getD k []).length ≤ 1000000 := fun hk => hl _ (by simp [List.getElem?_eq_getElem hk])
    generalize hxs : xss.getD k [] = xs at hlk
    replace LL := LL.trans LR
    replace hM := hM.mono LR
    replace hF := hF.mono LR
    replace h := h.mono LR
    refine SL.wp_seq ?_
    refine SL.wp_seq ?_
    refine SL.wp_region ?_
    refine ops_move rfl rfl ?_
    refine ops_move rfl rfl ?_
    first | refine ops_len rfl Try.underlying24 rfl ?_ | refine ops_lens rfl Try.underlying24 rfl (IsNat.slc (by assumption)) ?_ | refine ops_lenn rfl Try.underlying24 rfl (by assumption) ?_ | refine ops_leno rfl Try.underlying24 rfl (by assumption) ?_
    refine ops_lt rfl rfl rfl ?_
    refine ops_nil ?_
    refine SL.wp_cond_d rfl (fun hc0 => ?_) (fun hc0 => ?_)
    · refine SL.wp_skip ?_
      refine SL.wp_seq ?_
      refine SL.wp_block ?_
      refine SL.wp_region ?_
      refine ops_move rfl rfl ?_
      refine ops_move rfl rfl ?_
      refine ops_move rfl rfl ?_
      refine ops_idxs (k) rfl Try.underlying24 sz23 rfl rfl (by assumption) (by omega) (by omega) (fun b14 o14 u14 hc14 hu14 => ?_)
      rw [hxs] at hu14
      refine ops_load rfl flat23 rfl hc14 ?_
      refine ops_callv rfl bod60 rfl rfl ?_
      refine (two_c (M := M) (by assumption) (by assumption) (by omega) (by omega) hM).mono ?_
      rintro v16 w2 ⟨hB16, hf16⟩
      have hM16 := hM; have hS16 := LL.size
      have Lw2 := Le.of_below (Fz := Fz) (M := M) hB16
      replace LL := LL.trans Lw2
      replace LR := LR.trans Lw2
      replace hM := hM.mono Lw2
      replace hF := hF.mono Lw2
      replace h := h.mono Lw2
      replace hy := hy.mono Lw2
      replace hu14 := hu14.mono Lw2
      have hn16 := hf16.nat hM16; replace hf16 := hf16.less hS16
      refine ops_assign rfl rfl ?_
      refine ops_nil ?_
      refine SL.wp_region ?_
      refine ops_move rfl rfl ?_
      refine ops_add rfl rfl rfl (by omega) ?_
      refine ops_assign rfl rfl ?_
      refine ops_nil ?_
      refine ⟨rfl, (k + 1, v16), (sub_cons' rfl (rfl) (sub_cons' rfl (by rw [Int.natCast_add]; rfl) (sub_cons rfl sub_nil))), ?_, ?_⟩
      have hll : (limbs (val ys + val xs)).length ≤ 1000000 + (k + 1) := by
        refine limbs_length_le ?_
        have h1 := val_lt ys hy.lt
        have h2 := val_lt xs hu14.lt
        have h3 : 4294967296 ^ ys.length ≤ 4294967296 ^ (1000000 + k) := Nat.pow_le_pow_right (by omega) (by omega)
        have h4 : 4294967296 ^ xs.length ≤ 4294967296 ^ (1000000 + k) := Nat.pow_le_pow_right (by omega) (by omega)
        rw [← Nat.add_assoc, Nat.pow_succ]
        generalize 4294967296 ^ (1000000 + k) = B at *
        omega
      exact ⟨LR, by omega, _, hn16, by rw [val_limbs, hyv, take_succ_sum (k := k) (by omega) hxs], hll⟩
      dsimp only
      omega
    · refine SL.wp_exit ?_
      refine upd_hit ?_
      refine SL.wp_seq ?_
      refine SL.wp_region ?_
      refine ops_move rfl rfl ?_
      refine ops_callv rfl bod26 rfl rfl ?_
      refine (rtrim_c (M := M) (by assumption) (by omega) hM).mono ?_
      rintro v18 w3 ⟨hB18, hf18⟩
      have hM18 := hM; have hS18 := LL.size
      have Lw3 := Le.of_below (Fz := Fz) (M := M) hB18
      replace LL := LL.trans Lw3
      replace LR := LR.trans Lw3
      replace hM := hM.mono Lw3
      replace hF := hF.mono Lw3
      replace h := h.mono Lw3
      replace hy := hy.mono Lw3
      have hn18 := hf18.nat hM18; replace hf18 := hf18.less hS18
      refine ops_assign rfl rfl ?_
      refine ops_nil ?_
      refine SL.wp_ret ?_
      refine leave_nil ⟨[_], ⟨rfl, trivial⟩, ?_⟩
      dsimp only [resVal]
      subst hFz
      obtain rfl : k = xss.length := by omega
      rw [List.take_of_length_le (by simp)] at hyv
      rw [hyv] at hf18
      exact ⟨LL.below (Nat.le_refl _), hf18⟩


theorem rsub_c {M : Nat → Prop} {w : World} {v u : Value} {xs ys : List Nat} (h1 : IsNat M w v xs) (h2 : IsNat M w u ys) (hl1 : xs.length ≤ 1000000000) (hl2 : ys.length ≤ 1000000000) (hM : OkM M w) :
    CallsV Try.prog 21 [v, u] w fun r w' => Below w.heap.size w w' ∧ ((val xs < val ys ∧ r = .tuple #[.slice none 0 0, .int .i64 10]) ∨ (val ys ≤ val xs ∧ ∃ q, r = .tuple #[q, .int .i64 0] ∧ Fresh 43 w w' q (limbs (val xs - val ys)))) := by
  obtain ⟨Fz, hFz⟩ : ∃ Fz : Nat → Prop, Fz = (· < w.heap.size) := ⟨_, rfl⟩
  have hF : FOk Fz w := by subst hFz; exact fun _ h => h
  have LL := Le.refl Fz M w; have hM0 := hM
  refine calls_intro Try.func21 rfl Try.ntmps21 rfl ?_
  refine SL.wp_seq ?_
  refine SL.wp_region ?_
  refine ops_assign rfl rfl ?_
  refine ops_assign rfl rfl ?_
  refine ops_nil ?_
  refine SL.wp_seq ?_
  refine SL.wp_seq ?_
  refine SL.wp_region ?_
  refine ops_move rfl rfl ?_
  refine ops_move rfl rfl ?_
  refine ops_callv rfl bod24 rfl rfl ?_
  refine (rcmp_c (M := M) (by assumption) (by assumption) (by omega) (by omega) hM).mono ?_
  rintro v12 w1 ⟨hB12, rfl⟩
  have Lw1 := Le.of_below (Fz := Fz) (M := M) hB12
  replace LL := LL.trans Lw1
  replace hM := hM.mono Lw1
  replace hF := hF.mono Lw1
  replace h1 := h1.mono Lw1
  replace h2 := h2.mono Lw1
  refine ops_lt rfl rfl rfl ?_
  refine ops_nil ?_
  refine SL.wp_cond_d rfl (fun hc0 => ?_) (fun hc0 => ?_)
  · refine SL.wp_seq ?_
    refine SL.wp_region ?_
    refine ops_assign rfl rfl ?_
    refine ops_assign rfl rfl ?_
    refine ops_nil ?_
    refine SL.wp_ret ?_
    refine leave_nil ⟨[_, _], ⟨rfl, rfl, trivial⟩, ?_⟩
    dsimp only [resVal]
    subst hFz
    exact ⟨LL.below (Nat.le_refl _), .inl ⟨cmpN_neg.1 hc0, rfl⟩⟩
  · refine SL.wp_skip ?_
    refine SL.wp_seq ?_
    refine SL.wp_region ?_
    refine ops_assign rfl rfl ?_
    refine ops_nil ?_
    refine SL.wp_seq ?_
    refine SL.wp_region ?_
    have Ow := own_nil (w := w1) (e := 43)
    have Of : ∀ k, (Value.slice none 0 0).ownBlock = some k → ¬ Fz k := nil_own
    have Om : ∀ k, (Value.slice none 0 0).ownBlock = some k → ¬ M k := nil_own
    have Ln := Le.mo_nil (Fz := Fz) (M := M) (w := w1)
    replace LL := LL.trans Ln
    replace hM := hM.mono Ln
    replace hF := hF.mono Ln
    replace h1 := h1.mono Ln
    replace h2 := h2.mono Ln
    clear Ln
    refine ops_assign rfl rfl ?_
    refine ops_nil ?_
    refine SL.wp_seq ?_
    refine SL.wp_seq ?_
    refine SL.wp_region ?_
    refine ops_assign rfl rfl ?_
    refine ops_nil ?_
    refine SL.wp_block ?_
    refine SL.wp_loopc (σ := Nat × Value × Nat) [(0, _), (1, _)] (fun s => [(6, s.2.1), (7, .int .u64 ((s.2.2 : Nat) : Int)), (8, .int .i64 ((s.1 : Nat) : Int))]) (fun s w2 => Le Fz (Mo (.slice none 0 0) M) w1 (Mo s.2.1 M) w2 ∧ s.1 ≤ xs.length ∧ (∀ k, s.2.1.ownBlock = some k → ¬ Fz k) ∧ (∀ k, s.2.1.ownBlock = some k → ¬ M k) ∧ ∃ zs, w2.ownsRow 0 43 1 s.2.1 zs.length (zs.map lw) ∧ zs.length = s.1 ∧
          val zs + val (ys.take s.1) + 4294967296 ^ zs.length * s.2.2 = val (xs.take s.1) + 4294967296 ^ zs.length * (2 * s.2.2) ∧ s.2.2 ≤ 1 ∧ (∀ z ∈ zs, z < 4294967296)) (fun s => xs.length - s.1) ((0, .slice none 0 0, 0)) (sub_cons rfl (sub_cons rfl (sub_cons rfl (sub_cons rfl (sub_cons rfl sub_nil))))) ?_ (fun s w2 hJ => ?_)
    · dsimp only
      exact ⟨Le.refl _ _ _, by omega, Of, Om, [], by simpa using Ow, rfl, by simp [val], by omega, by simp⟩
    · obtain ⟨k, q, c⟩ := s
      dsimp only at hJ ⊢
      obtain ⟨LR, hk, Of, Om, zs, Ow, hzl, hzv, hc, hzlt⟩ := hJ
      replace LL := LL.trans LR
      replace hM := hM.mono LR
      replace hF := hF.mono LR
      replace h1 := h1.mono LR
      replace h2 := h2.mono LR
      have hbx := h1.lim k; have hby := h2.lim k
      refine SL.wp_seq ?_
      refine SL.wp_seq ?_
      refine SL.wp_region ?_
      refine ops_move rfl rfl ?_
      refine ops_move rfl rfl ?_
      first | refine ops_len rfl Try.underlying23 rfl ?_ | refine ops_lens rfl Try.underlying23 rfl (IsNat.slc (by assumption)) ?_ | refine ops_lenn rfl Try.underlying23 rfl (by assumption) ?_ | refine ops_leno rfl Try.underlying23 rfl (by assumption) ?_
      refine ops_lt rfl rfl rfl ?_
      refine ops_nil ?_
      refine SL.wp_cond_d rfl (fun hc1 => ?_) (fun hc1 => ?_)
      · refine SL.wp_skip ?_
        refine SL.wp_seq ?_
        refine SL.wp_block ?_
        refine SL.wp_seq ?_
        refine SL.wp_region ?_
        refine ops_move rfl rfl ?_
        refine ops_move rfl rfl ?_
        refine ops_callv rfl bod57 rfl rfl ?_
        refine (rlimb_c (M := (Mo q M)) (by assumption) (k) (by omega) hM).mono ?_
        rintro v22 w3 ⟨hB22, rfl, hlt22⟩
        have Lw3 := Le.of_below (Fz := Fz) (M := (Mo q M)) hB22
        replace LL := LL.trans Lw3
        replace LR := LR.trans Lw3
        replace hM := hM.mono Lw3
        replace hF := hF.mono Lw3
        replace h1 := h1.mono Lw3
        replace h2 := h2.mono Lw3
        replace Ow := own_below Ow hB22
        first | refine ops_addv (b := 4294967296) rfl rfl rfl (by omega) ?_ | refine ops_addu (b := 4294967296) rfl rfl rfl ?_
        refine ops_move rfl rfl ?_
        refine ops_move rfl rfl ?_
        refine ops_callv rfl bod57 rfl rfl ?_
        refine (rlimb_c (M := (Mo q M)) (by assumption) (k) (by omega) hM).mono ?_
        rintro v26 w4 ⟨hB26, rfl, hlt26⟩
        have Lw4 := Le.of_below (Fz := Fz) (M := (Mo q M)) hB26
        replace LL := LL.trans Lw4
        replace LR := LR.trans Lw4
        replace hM := hM.mono Lw4
        replace hF := hF.mono Lw4
        replace h1 := h1.mono Lw4
        replace h2 := h2.mono Lw4
        replace Ow := own_below Ow hB26
        first | refine ops_subv rfl rfl rfl (by omega) (by omega) ?_ | refine ops_subu rfl rfl rfl (by omega) ?_
        refine ops_move rfl rfl ?_
        first | refine ops_subv rfl rfl rfl (by omega) (by omega) ?_ | refine ops_subu rfl rfl rfl (by omega) ?_
        refine ops_assign rfl rfl ?_
        refine ops_nil ?_
        refine SL.wp_seq ?_
        refine SL.wp_region ?_
        refine ops_move rfl rfl ?_
        refine ops_move rfl rfl ?_
        refine ops_to32 rfl Try.underlying25 Try.underlying43 rfl ?_
        refine ops_buildSlice rfl Try.underlying23 sz43 rfl rfl rfl (by simp [Value.oneCell', lw]) rfl (fun w5 b33 N33 => ?_)
        have hBw5 := N33.below
        have nM33 := hM.new N33; have B33 := N33.blk
        have Lw5 := Le.of_below (Fz := Fz) (M := (Mo q M)) hBw5
        replace LL := LL.trans Lw5
        replace LR := LR.trans Lw5
        replace hM := hM.mono Lw5
        replace hF := hF.mono Lw5
        replace h1 := h1.mono Lw5
        replace h2 := h2.mono Lw5
        replace Ow := own_below Ow hBw5
        refine ops_append rfl Try.underlying23 sz43 rfl rfl rfl Ow (B33.slc nM33 rfl (fun _ _ h => h) (by omega) (Nat.le_refl _)) (by simp [Value.oneCell']) (by omega) (by omega) (fun v34 w6 A34 G34 S34 => ?_)
        have Lw6 := Le.of_grown (Fz := Fz) (M := M) G34 S34 A34 Of
        have Omo34 := Om
        replace Of := own_step_f (w' := w6) Of hF S34; replace Om := own_step_m (w' := w6) Om (fun k hk => hM k (.inr hk)) S34
        replace LL := LL.trans Lw6
        replace LR := LR.trans Lw6
        replace hM := hM.mono Lw6
        replace hF := hF.mono Lw6
        replace h1 := h1.mono Lw6
        replace h2 := h2.mono Lw6
        clear Ow; have Ow := A34
        refine ops_assign rfl rfl ?_
        refine ops_nil ?_
        refine SL.wp_region ?_
        refine ops_move rfl rfl ?_
        refine ops_shru rfl rfl rfl (by simp only [IntKind.bits]; omega) ?_
        have hq : (xs.getD k 0 + 4294967296 - ys.getD k 0 - c) / 4294967296 ≤ 1 := by omega
        refine ops_lit (d := 36) (u := .int .u64 (((xs.getD k 0 + 4294967296 - ys.getD k 0 - c) / 4294967296 : Nat) : Int)) rfl rfl ?_
        first | refine ops_subv (a := 1) rfl rfl rfl (by omega) (by omega) ?_ | refine ops_subu (a := 1) rfl rfl rfl (by omega) ?_
        refine ops_assign rfl rfl ?_
        refine ops_nil ?_
        refine SL.wp_region ?_
        refine ops_move rfl rfl ?_
        refine ops_add rfl rfl rfl (by omega) ?_
        refine ops_assign rfl rfl ?_
        refine ops_nil ?_
        refine ⟨rfl, (k + 1, v34, 1 - (xs.getD k 0 + 4294967296 - ys.getD k 0 - c) / 4294967296), (sub_cons' rfl (rfl) (sub_cons' rfl (rfl) (sub_cons' rfl (by rw [Int.natCast_add]; rfl) (sub_cons rfl (sub_cons rfl sub_nil))))), ?_, ?_⟩
        dsimp only
        exact ⟨LR, by omega, Of, Om, zs ++ [(xs.getD k 0 + 4294967296 - ys.getD k 0 - c) % 4294967296], by simpa [lw] using Ow, by simp [hzl], rsub_step hzl hzv (by omega) (by omega), by omega, fun z hz => by
          rcases List.mem_append.1 hz with hz | hz
          · exact hzlt z hz
          · simp at hz; omega⟩
        dsimp only
        omega
      · refine SL.wp_exit ?_
        refine upd_hit ?_
        refine SL.wp_seq ?_
        refine SL.wp_region ?_
        refine ops_move rfl rfl ?_
        refine ops_callv rfl bod26 rfl rfl ?_
        refine (rtrim_c (M := M) (xs := zs) ⟨own_slc Ow (fun k hk c => Om k hk c) (by omega), hzlt⟩ (by omega) (fun k hk => hM k (.inr hk))).mono ?_
        rintro v39 w7 ⟨hB39, hf39⟩
        have hS39 := LL.size
        have Lw7 := Le.of_below (Fz := Fz) (M := (Mo q M)) hB39
        replace LL := LL.trans Lw7
        replace LR := LR.trans Lw7
        replace hM := hM.mono Lw7
        replace hF := hF.mono Lw7
        replace h1 := h1.mono Lw7
        replace h2 := h2.mono Lw7
        replace Ow := own_below Ow hB39
        replace hf39 := hf39.less hS39
        refine ops_assign rfl rfl ?_
        refine ops_assign rfl rfl ?_
        refine ops_nil ?_
        refine SL.wp_ret ?_
        refine leave_nil ⟨[_, _], ⟨rfl, rfl, trivial⟩, ?_⟩
        dsimp only [resVal]
        subst hFz
        obtain rfl : k = xs.length := by omega
        have hle : val ys ≤ val xs := Nat.le_of_not_lt fun c => hc0 (cmpN_neg.2 c)
        have hty : val (ys.take xs.length) = val ys := val_take_le h1.lt hle
        rw [List.take_length, hty] at hzv
        rw [sub_end hzlt hzv hc hle] at hf39
        exact ⟨LL.below (Nat.le_refl _), .inr ⟨hle, _, rfl, hf39⟩⟩

end Go.Proofs.Ytffakiheophioaa
