import Derived.Test.YtffakiheophioaaW12
import Derived.Test.YtffakiheophioaaSLp
import Derived.Test.YtffakiheophioaaSLo
import Derived.Test.YtffakiheophioaaSLn
set_option linter.unusedVariables false
set_option linter.unusedSimpArgs false
set_option maxRecDepth 100000
namespace Go.Proofs.Ytffakiheophioaa
open Go.SL Go.RowKit Go.Proofs
theorem rcount_q {M : Nat → Prop} {w : World} {k m : Int} {q : Nat} (hq : cntN k m = q) (hm : 0 ≤ m) (hM : OkM M w) :
    CallsV Try.prog 68 [.int .i64 k, .int .i64 m] w fun r w' => Below w.heap.size w w' ∧ r = .int .i64 ((q : Nat) : Int) := by subst hq; exact rcount_c hm hM
theorem count_q {M : Nat → Prop} {w : World} {k m : Int} {q : Nat} (hq : cntN k m = q) (hm : 0 ≤ m) (hM : OkM M w) :
    CallsV Try.prog 66 [.int .i64 k, .int .i64 m] w fun r w' => Below w.heap.size w w' ∧ r = .int .i64 ((q : Nat) : Int) := by subst hq; exact count_c hm hM

theorem rup_c {M : Nat → Prop} {w : World} {v : Value} {xs : List Nat} {j : Int} (h : IsNat M w v xs) (hl : xs.length ≤ 100000000) (hM : OkM M w) :
    CallsV Try.prog 48 [v, .int .i64 j] w fun r w' => Below w.heap.size w w' ∧ Fresh 43 w w' r (limbs (val xs * 2 ^ cntN j 65536)) := by
  obtain ⟨Fz, hFz⟩ : ∃ Fz : Nat → Prop, Fz = (· < w.heap.size) := ⟨_, rfl⟩
  have hF : FOk Fz w := by subst hFz; exact fun _ h => h
  have hqq := (cntN_is (k := j) (m := 65536) (by omega)).2.2
  generalize hq : cntN j 65536 = q at hqq ⊢
  have LL := Le.refl Fz M w; have hM0 := hM
  refine calls_intro Try.func48 rfl Try.ntmps48 rfl ?_
  refine SL.wp_seq ?_
  refine SL.wp_region ?_
  refine ops_assign rfl rfl ?_
  refine ops_nil ?_
  refine SL.wp_seq ?_
  refine SL.wp_region ?_
  refine ops_move rfl rfl ?_
  refine ops_callv rfl bod68 rfl rfl ?_
  refine (rcount_q (M := M) hq (by omega) hM).mono ?_
  rintro v10 w1 ⟨hB10, rfl⟩
  have Lw1 := Le.of_below (Fz := Fz) (M := M) hB10
  replace LL := LL.trans Lw1
  replace hM := hM.mono Lw1
  replace hF := hF.mono Lw1
  replace h := h.mono Lw1
  refine ops_assign rfl rfl ?_
  refine ops_nil ?_
  refine SL.wp_seq ?_
  refine SL.wp_region ?_
  refine ops_move rfl rfl ?_
  refine ops_quo rfl rfl rfl (by omega) ?_
  refine ops_make (q / 32) (q / 32) rfl Try.underlying23 sz43 rfl rfl rfl (by omega) (by omega) (by omega) (by omega) (by omega) (fun w2 b13 N13 => ?_)
  have nF13 := hF.new N13; have nM13 := hM.new N13; have hBw2 := N13.below
  have Lw2 := Le.of_new_mo (Fz := Fz) (M := M) (v := Value.slice (some ⟨b13, 0, none⟩) (q / 32) (q / 32)) N13 rfl
  replace LL := LL.trans Lw2
  replace hM := hM.mono Lw2
  replace hF := hF.mono Lw2
  replace h := h.mono Lw2
  have Of : ∀ k, (Value.slice (some ⟨b13, 0, none⟩) (q / 32) (q / 32)).ownBlock = some k → ¬ Fz k := slice_own nF13
  have Om : ∀ k, (Value.slice (some ⟨b13, 0, none⟩) (q / 32) (q / 32)).ownBlock = some k → ¬ M k := slice_own nM13
  have Ow := own_blk (n := q / 32) (c := q / 32) N13.blk (by simp) (by omega) (by omega)
  have Ow : World.ownsRow w2 0 43 1 (Value.slice (some ⟨b13, 0, none⟩) (q / 32) (q / 32)) (List.replicate (q / 32) 0).length ((List.replicate (q / 32) 0).map lw) := by simpa [lw] using Ow
  refine ops_assign rfl rfl ?_
  refine ops_nil ?_
  refine SL.wp_seq ?_
  refine SL.wp_region ?_
  refine ops_assign rfl rfl ?_
  refine ops_nil ?_
  refine SL.wp_seq ?_
  refine SL.wp_seq ?_
  refine SL.wp_region ?_
  refine ops_assign rfl rfl ?_
  refine ops_nil ?_
  refine SL.wp_block ?_
  refine SL.wp_loopc (σ := Nat × Value × Nat) [(0, _), (1, _)] (fun s => [(5, s.2.1), (6, .int .u32 ((s.2.2 : Nat) : Int)), (7, .int .i64 ((s.1 : Nat) : Int))]) (fun s w3 => Le Fz (Mo (Value.slice (some ⟨b13, 0, none⟩) (q / 32) (q / 32)) M) w2 (Mo s.2.1 M) w3 ∧ s.1 ≤ xs.length ∧ s.2.2 < 2 ^ (q % 32) ∧ (∀ k, s.2.1.ownBlock = some k → ¬ Fz k) ∧ (∀ k, s.2.1.ownBlock = some k → ¬ M k) ∧ ∃ zs : List Nat, w3.ownsRow 0 43 1 s.2.1 zs.length (zs.map lw) ∧ zs.length = q / 32 + s.1 ∧ (∀ z ∈ zs, z < 4294967296) ∧ val zs + 4294967296 ^ (q / 32 + s.1) * s.2.2 = 4294967296 ^ (q / 32) * (val (xs.take s.1) * 2 ^ (q % 32))) (fun s => xs.length - s.1) ((0, _, 0)) (sub_cons rfl (sub_cons rfl (sub_cons rfl (sub_cons rfl (sub_cons rfl sub_nil))))) ?_ (fun s w3 hJ => ?_)
  · dsimp only
    exact ⟨Le.refl _ _ _, by omega, two_pow_pos _, Of, Om, _, Ow, by simp, by intro z hz; have := (List.mem_replicate.1 hz).2; omega, by simp [val_zeros, val]⟩
  · clear Ow Of Om
    obtain ⟨i, u, l⟩ := s
    dsimp only at hJ ⊢
    obtain ⟨LR, hi, hlt, Of, Om, zs, Ow, hzl, hzlt, hzv⟩ := hJ
    have hbx := h.lim i
    have hsl := shl_lt hbx (show q % 32 < 32 by omega)
    have htl := two_pow_le (r := q % 32) (by omega)
    replace LL := LL.trans LR
    replace hM := hM.mono LR
    replace hF := hF.mono LR
    replace h := h.mono LR
    refine SL.wp_seq ?_
    refine SL.wp_seq ?_
    refine SL.wp_region ?_
    refine ops_move rfl rfl ?_
    refine ops_move rfl rfl ?_
    first | refine ops_len rfl Try.underlying23 rfl ?_ | refine ops_lens rfl Try.underlying23 rfl (IsNat.slc (by assumption)) ?_ | refine ops_lenn rfl Try.underlying23 rfl (by assumption) ?_ | refine ops_leno rfl Try.underlying23 rfl (by assumption) ?_
    refine ops_lt rfl rfl rfl ?_
    refine ops_nil ?_
    refine SL.wp_cond_d rfl (fun hc0 => ?_) (fun hc0 => ?_)
    · refine SL.wp_skip ?_
      refine SL.wp_seq ?_
      refine SL.wp_block ?_
      refine SL.wp_seq ?_
      refine SL.wp_region ?_
      refine ops_move rfl rfl ?_
      refine ops_move rfl rfl ?_
      refine ops_idxn (i) rfl Try.underlying23 sz43 rfl rfl (by assumption) (by omega) (by omega) (fun b22 o22 hc22 hb22 => ?_)
      refine ops_load rfl flat43 rfl hc22 ?_
      refine ops_to64 rfl Try.underlying43 Try.underlying25 rfl (by omega) ?_
      refine ops_move rfl rfl ?_
      refine ops_rem rfl rfl rfl (by omega) ?_
      refine ops_to64 (a := q % 32) rfl Try.underlying3 Try.underlying57 rfl (by omega) ?_
      refine ops_shlu (m := 18446744073709551616) rfl rfl rfl (by simp only [IntKind.bits]; omega) rfl (.inl rfl) ?_
      refine ops_assign rfl rfl ?_
      refine ops_nil ?_
      refine SL.wp_seq ?_
      refine SL.wp_region ?_
      refine ops_move rfl rfl ?_
      refine ops_move rfl rfl ?_
      refine ops_to32 rfl Try.underlying25 Try.underlying43 rfl ?_
      refine ops_move rfl rfl ?_
      refine ops_oru (a := xs.getD i 0 * 2 ^ (q % 32) % 18446744073709551616 % 4294967296) (b := l) rfl rfl rfl (by simp only [IntKind.bits]; omega) (by simp only [IntKind.bits]; omega) (.inr rfl) ?_
      rw [Nat.mod_eq_of_lt (a := xs.getD i 0 * 2 ^ (q % 32)) (b := 18446744073709551616) hsl]
      refine ops_buildSlice rfl Try.underlying23 sz43 rfl rfl rfl (by simp [Value.oneCell', lw]) rfl (fun w4 b34 N34 => ?_)
      have hBw4 := N34.below
      have nM34 := hM.new N34; have B34 := N34.blk
      have Lw4 := Le.of_below (Fz := Fz) (M := (Mo u M)) hBw4
      replace LL := LL.trans Lw4
      replace LR := LR.trans Lw4
      replace hM := hM.mono Lw4
      replace hF := hF.mono Lw4
      replace h := h.mono Lw4
      replace Ow := own_below Ow hBw4
      refine ops_append rfl Try.underlying23 sz43 rfl rfl rfl Ow (B34.slc nM34 rfl (fun _ _ h => h) (by omega) (Nat.le_refl _)) (by simp [Value.oneCell']) (by omega) (by omega) (fun v35 w5 A35 G35 S35 => ?_)
      have Lw5 := Le.of_grown (Fz := Fz) (M := M) G35 S35 A35 Of
      have Omo35 := Om
      replace Of := own_step_f (w' := w5) Of hF S35; replace Om := own_step_m (w' := w5) Om (fun k hk => hM k (.inr hk)) S35
      replace LL := LL.trans Lw5
      replace LR := LR.trans Lw5
      replace hM := hM.mono Lw5
      replace hF := hF.mono Lw5
      replace h := h.mono Lw5
      clear Ow; have Ow := A35
      refine ops_assign rfl rfl ?_
      refine ops_nil ?_
      refine SL.wp_region ?_
      refine ops_move rfl rfl ?_
      refine ops_shru rfl rfl rfl (by simp only [IntKind.bits]; omega) ?_
      refine ops_to32 rfl Try.underlying25 Try.underlying43 rfl ?_
      refine ops_assign rfl rfl ?_
      refine ops_nil ?_
      refine SL.wp_region ?_
      refine ops_move rfl rfl ?_
      refine ops_add rfl rfl rfl (by omega) ?_
      refine ops_assign rfl rfl ?_
      refine ops_nil ?_
      refine ⟨rfl, (i + 1, v35, xs.getD i 0 * 2 ^ (q % 32) / 4294967296), (sub_cons' rfl (rfl) (sub_cons' rfl (by show Value.int _ (((xs.getD i 0 * 2 ^ (q % 32) % 18446744073709551616 / 4294967296 % 4294967296 : Nat)) : Int) = Value.int _ (((xs.getD i 0 * 2 ^ (q % 32) / 4294967296 : Nat)) : Int); rw [Nat.mod_eq_of_lt hsl, Nat.mod_eq_of_lt (a := _ / 4294967296) (by have := up_carry (r := q % 32) hbx; omega)]) (sub_cons' rfl (by rw [Int.natCast_add]; rfl) (sub_cons rfl (sub_cons rfl sub_nil))))), ?_, ?_⟩
      dsimp only
      have hor := up_or (x := xs.getD i 0) (by omega) hlt
      exact ⟨LR, by omega, up_carry hbx, Of, Om, zs ++ [xs.getD i 0 * 2 ^ (q % 32) % 4294967296 ||| l], by simpa [lw] using Ow, by simp [hzl]; omega, fun z hz => by
        rcases List.mem_append.1 hz with hz | hz
        · exact hzlt z hz
        · rw [List.mem_singleton] at hz; rw [hz, hor.1]; exact hor.2, by rw [← Nat.add_assoc, up_step hzl (by omega) hlt hzv, up_row]⟩
      dsimp only
      omega
    · refine SL.wp_exit ?_
      refine upd_hit ?_
      refine SL.wp_seq ?_
      refine SL.wp_region ?_
      refine ops_move rfl rfl ?_
      refine ops_move rfl rfl ?_
      refine ops_buildSlice rfl Try.underlying23 sz43 rfl rfl rfl (by simp [Value.oneCell', lw]) rfl (fun w6 b41 N41 => ?_)
      have hBw6 := N41.below
      have nM41 := hM.new N41; have B41 := N41.blk
      have Lw6 := Le.of_below (Fz := Fz) (M := (Mo u M)) hBw6
      replace LL := LL.trans Lw6
      replace LR := LR.trans Lw6
      replace hM := hM.mono Lw6
      replace hF := hF.mono Lw6
      replace h := h.mono Lw6
      replace Ow := own_below Ow hBw6
      refine ops_append rfl Try.underlying23 sz43 rfl rfl rfl Ow (B41.slc nM41 rfl (fun _ _ h => h) (by omega) (Nat.le_refl _)) (by simp [Value.oneCell']) (by omega) (by omega) (fun v42 w7 A42 G42 S42 => ?_)
      have Lw7 := Le.of_grown (Fz := Fz) (M := M) G42 S42 A42 Of
      have Omo42 := Om
      replace Of := own_step_f (w' := w7) Of hF S42; replace Om := own_step_m (w' := w7) Om (fun k hk => hM k (.inr hk)) S42
      replace LL := LL.trans Lw7
      replace LR := LR.trans Lw7
      replace hM := hM.mono Lw7
      replace hF := hF.mono Lw7
      replace h := h.mono Lw7
      clear Ow; have Ow := A42
      refine ops_callv rfl bod26 rfl rfl ?_
      refine (rtrim_c (M := M) (xs := zs ++ [l]) ⟨by simpa [lw] using own_slc Ow (fun k hk c => Om k hk c) (by omega), fun z hz => by rcases List.mem_append.1 hz with hz | hz <;> first | exact hzlt z hz | (simp at hz; omega)⟩ (by simp; omega) (fun k hk => hM k (.inr hk))).mono ?_
      rintro v43 w8 ⟨hB43, hf43⟩
      have hS43 := LL.size
      have Lw8 := Le.of_below (Fz := Fz) (M := (Mo v42 M)) hB43
      replace LL := LL.trans Lw8
      replace LR := LR.trans Lw8
      replace hM := hM.mono Lw8
      replace hF := hF.mono Lw8
      replace h := h.mono Lw8
      replace Ow := own_below Ow hB43
      replace hf43 := hf43.less hS43
      refine ops_assign rfl rfl ?_
      refine ops_nil ?_
      refine SL.wp_ret ?_
      refine leave_nil ⟨[_], ⟨rfl, trivial⟩, ?_⟩
      dsimp only [resVal]
      subst hFz
      obtain rfl : i = xs.length := by omega
      rw [List.take_length, up_end] at hzv
      rw [val_snoc, hzl, hzv] at hf43
      exact ⟨LL.below (Nat.le_refl _), hf43⟩


theorem mul32_c {M : Nat → Prop} {w : World} {x s : Nat} (hx : x < 4294967296) (hs : s < 32) (hM : OkM M w) :
    CallsV Try.prog 67 [.int .u32 (x : Int), .int .u32 ((1 * 2 ^ s % 4294967296 : Nat) : Int)] w fun r w' => Below w.heap.size w w' ∧ r = .tuple #[.int .u32 ((x * 2 ^ s / 4294967296 : Nat) : Int), .int .u32 ((x * 2 ^ s % 4294967296 : Nat) : Int)] := by
  obtain ⟨Fz, hFz⟩ : ∃ Fz : Nat → Prop, Fz = (· < w.heap.size) := ⟨_, rfl⟩
  have hF : FOk Fz w := by subst hFz; exact fun _ h => h
  have hsl := shl_lt hx hs
  have e1 : 1 * 2 ^ s % 4294967296 = 2 ^ s := by
    have h1 := Nat.pow_lt_pow_right (a := 2) (by omega) hs
    rw [Nat.one_mul]; exact Nat.mod_eq_of_lt h1
  rw [e1]
  have htl := two_pow_le (r := s) (by omega)
  have LL := Le.refl Fz M w; have hM0 := hM
  refine calls_intro Try.func67 rfl Try.ntmps67 rfl ?_
  refine SL.wp_seq ?_
  refine SL.wp_region ?_
  refine ops_assign rfl rfl ?_
  refine ops_assign rfl rfl ?_
  refine ops_nil ?_
  refine SL.wp_seq ?_
  refine SL.wp_region ?_
  refine ops_move rfl rfl ?_
  refine ops_to64 (a := x) rfl Try.underlying43 Try.underlying25 rfl (by omega) ?_
  refine ops_move rfl rfl ?_
  refine ops_to64 (a := 2 ^ s) rfl Try.underlying43 Try.underlying25 rfl (by omega) ?_
  refine ops_mulv (a := x) (b := 2 ^ s) rfl rfl rfl hsl ?_
  refine ops_assign rfl rfl ?_
  refine ops_nil ?_
  refine SL.wp_seq ?_
  refine SL.wp_region ?_
  refine ops_move rfl rfl ?_
  refine ops_shru rfl rfl rfl (by simp only [IntKind.bits]; omega) ?_
  refine ops_to32 rfl Try.underlying25 Try.underlying43 rfl ?_
  refine ops_move rfl rfl ?_
  refine ops_to32 rfl Try.underlying25 Try.underlying43 rfl ?_
  refine ops_assign rfl rfl ?_
  refine ops_assign rfl rfl ?_
  refine ops_nil ?_
  refine SL.wp_ret ?_
  refine leave_nil ⟨[_, _], ⟨rfl, rfl, trivial⟩, ?_⟩
  dsimp only [resVal]
  subst hFz
  refine ⟨LL.below (Nat.le_refl _), ?_⟩
  have h2 : x * 2 ^ s / 4294967296 < 4294967296 := by omega
  show Value.tuple #[.int .u32 ((x * 2 ^ s / 4294967296 % 4294967296 : Nat) : Int), _] = _
  rw [Nat.mod_eq_of_lt h2]


theorem up_c {M : Nat → Prop} {w : World} {v : Value} {xs : List Nat} {j : Int} (h : IsNat M w v xs) (hl : xs.length ≤ 100000000) (hM : OkM M w) :
    CallsV Try.prog 37 [v, .int .i64 j] w fun r w' => Below w.heap.size w w' ∧ Fresh 43 w w' r (limbs (val xs * 2 ^ cntN j 65536)) := by
  obtain ⟨Fz, hFz⟩ : ∃ Fz : Nat → Prop, Fz = (· < w.heap.size) := ⟨_, rfl⟩
  have hF : FOk Fz w := by subst hFz; exact fun _ h => h
  have hqq := (cntN_is (k := j) (m := 65536) (by omega)).2.2
  generalize hq : cntN j 65536 = q at hqq ⊢
  have LL := Le.refl Fz M w; have hM0 := hM
  refine calls_intro Try.func37 rfl Try.ntmps37 rfl ?_
  refine SL.wp_seq ?_
  refine SL.wp_region ?_
  refine ops_assign rfl rfl ?_
  refine ops_nil ?_
  refine SL.wp_seq ?_
  refine SL.wp_region ?_
  refine ops_move rfl rfl ?_
  refine ops_callv rfl bod66 rfl rfl ?_
  refine (count_q (M := M) hq (by omega) hM).mono ?_
  rintro v12 w1 ⟨hB12, rfl⟩
  have Lw1 := Le.of_below (Fz := Fz) (M := M) hB12
  replace LL := LL.trans Lw1
  replace hM := hM.mono Lw1
  replace hF := hF.mono Lw1
  replace h := h.mono Lw1
  refine ops_assign rfl rfl ?_
  refine ops_nil ?_
  refine SL.wp_seq ?_
  refine SL.wp_region ?_
  refine ops_move rfl rfl ?_
  refine ops_quo rfl rfl rfl (by omega) ?_
  refine ops_move rfl rfl ?_
  refine ops_quo rfl rfl rfl (by omega) ?_
  refine ops_move rfl rfl ?_
  first | refine ops_len rfl Try.underlying23 rfl ?_ | refine ops_lens rfl Try.underlying23 rfl (IsNat.slc (by assumption)) ?_ | refine ops_lenn rfl Try.underlying23 rfl (by assumption) ?_ | refine ops_leno rfl Try.underlying23 rfl (by assumption) ?_
  refine ops_add rfl rfl rfl (by omega) ?_
  refine ops_add rfl rfl rfl (by omega) ?_
  refine ops_make (q / 32) (q / 32 + xs.length + 1) rfl Try.underlying23 sz43 rfl rfl rfl (by omega) (by omega) (by omega) (by omega) (by omega) (fun w2 b21 N21 => ?_)
  have nF21 := hF.new N21; have nM21 := hM.new N21; have hBw2 := N21.below
  have Lw2 := Le.of_new_mo (Fz := Fz) (M := M) (v := Value.slice (some ⟨b21, 0, none⟩) (q / 32) (q / 32 + xs.length + 1)) N21 rfl
  replace LL := LL.trans Lw2
  replace hM := hM.mono Lw2
  replace hF := hF.mono Lw2
  replace h := h.mono Lw2
  have Of : ∀ k, (Value.slice (some ⟨b21, 0, none⟩) (q / 32) (q / 32 + xs.length + 1)).ownBlock = some k → ¬ Fz k := slice_own nF21
  have Om : ∀ k, (Value.slice (some ⟨b21, 0, none⟩) (q / 32) (q / 32 + xs.length + 1)).ownBlock = some k → ¬ M k := slice_own nM21
  have Ow := own_blk (n := q / 32) (c := q / 32 + xs.length + 1) N21.blk (by simp) (by omega) (by omega)
  have Ow : World.ownsRow w2 0 43 1 (Value.slice (some ⟨b21, 0, none⟩) (q / 32) (q / 32 + xs.length + 1)) (List.replicate (q / 32) 0).length ((List.replicate (q / 32) 0).map lw) := by rw [List.take_replicate, Nat.min_eq_left (by omega)] at Ow; simpa [lw] using Ow
  refine ops_assign rfl rfl ?_
  refine ops_nil ?_
  refine SL.wp_seq ?_
  refine SL.wp_region ?_
  refine ops_assign rfl rfl ?_
  refine ops_nil ?_
  refine SL.wp_seq ?_
  refine SL.wp_seq ?_
  refine SL.wp_region ?_
  refine ops_move rfl rfl ?_
  first | refine ops_len rfl Try.underlying23 rfl ?_ | refine ops_lens rfl Try.underlying23 rfl (IsNat.slc (by assumption)) ?_ | refine ops_lenn rfl Try.underlying23 rfl (by assumption) ?_ | refine ops_leno rfl Try.underlying23 rfl (by assumption) ?_
  refine ops_move rfl rfl ?_
  refine ops_nil ?_
  refine SL.wp_block ?_
  refine SL.wp_loopc (σ := Nat × Value × Nat) [(1, _), (22, _), (23, _)] (fun s => [(5, s.2.1), (6, .int .u32 ((s.2.2 : Nat) : Int)), (24, .int .i64 ((s.1 : Nat) : Int))]) (fun s w3 => Le Fz (Mo (Value.slice (some ⟨b21, 0, none⟩) (q / 32) (q / 32 + xs.length + 1)) M) w2 (Mo s.2.1 M) w3 ∧ s.1 ≤ xs.length ∧ s.2.2 < 2 ^ (q % 32) ∧ (∀ k, s.2.1.ownBlock = some k → ¬ Fz k) ∧ (∀ k, s.2.1.ownBlock = some k → ¬ M k) ∧ ∃ zs : List Nat, w3.ownsRow 0 43 1 s.2.1 zs.length (zs.map lw) ∧ zs.length = q / 32 + s.1 ∧ (∀ z ∈ zs, z < 4294967296) ∧ val zs + 4294967296 ^ (q / 32 + s.1) * s.2.2 = 4294967296 ^ (q / 32) * (val (xs.take s.1) * 2 ^ (q % 32))) (fun s => xs.length - s.1) ((0, _, 0)) (sub_cons rfl (sub_cons rfl (sub_cons rfl (sub_cons rfl (sub_cons rfl (sub_cons rfl sub_nil)))))) ?_ (fun s w3 hJ => ?_)
  · dsimp only
    exact ⟨Le.refl _ _ _, by omega, two_pow_pos _, Of, Om, _, Ow, by simp, by intro z hz; have := (List.mem_replicate.1 hz).2; omega, by simp [val_zeros, val]⟩
  · clear Ow Of Om
    obtain ⟨i, u, l⟩ := s
    dsimp only at hJ ⊢
    obtain ⟨LR, hi, hlt, Of, Om, zs, Ow, hzl, hzlt, hzv⟩ := hJ
    have hbx := h.lim i
    have hsl := shl_lt hbx (show q % 32 < 32 by omega)
    have htl := two_pow_le (r := q % 32) (by omega)
    replace LL := LL.trans LR
    replace hM := hM.mono LR
    replace hF := hF.mono LR
    replace h := h.mono LR
    refine SL.wp_seq ?_
    refine SL.wp_region ?_
    refine ops_lt rfl rfl rfl ?_
    refine ops_nil ?_
    refine SL.wp_seq ?_
    refine SL.wp_cond_d rfl (fun hc0 => ?_) (fun hc0 => ?_)
    · refine SL.wp_skip ?_
      refine SL.wp_seq ?_
      refine SL.wp_block ?_
      refine SL.wp_seq ?_
      refine SL.wp_region ?_
      refine ops_idxn (i) rfl Try.underlying23 sz43 rfl rfl (by assumption) (by omega) (by omega) (fun b26 o26 hc26 hb26 => ?_)
      refine ops_load rfl flat43 rfl hc26 ?_
      refine ops_assign rfl rfl ?_
      refine ops_nil ?_
      refine SL.wp_seq ?_
      refine SL.wp_region ?_
      refine ops_move rfl rfl ?_
      refine ops_move rfl rfl ?_
      refine ops_rem rfl rfl rfl (by omega) ?_
      refine ops_shlu (a := 1) (m := 4294967296) rfl rfl rfl (by simp only [IntKind.bits]; omega) rfl (.inr rfl) ?_
      refine ops_callv rfl bod67 rfl rfl ?_
      refine (mul32_c (M := (Mo u M)) (s := q % 32) hbx (by omega) hM).mono ?_
      rintro v33 w4 ⟨hB33, rfl⟩
      have Lw4 := Le.of_below (Fz := Fz) (M := (Mo u M)) hB33
      replace LL := LL.trans Lw4
      replace LR := LR.trans Lw4
      replace hM := hM.mono Lw4
      replace hF := hF.mono Lw4
      replace h := h.mono Lw4
      replace Ow := own_below Ow hB33
      refine ops_move rfl rfl ?_
      refine ops_extract rfl rfl rfl ?_
      refine ops_extract rfl rfl rfl ?_
      refine ops_assign rfl rfl ?_
      refine ops_assign rfl rfl ?_
      refine ops_nil ?_
      refine SL.wp_region ?_
      refine ops_move rfl rfl ?_
      refine ops_move rfl rfl ?_
      refine ops_move rfl rfl ?_
      refine ops_oru (a := xs.getD i 0 * 2 ^ (q % 32) % 4294967296) (b := l) rfl rfl rfl (by simp only [IntKind.bits]; omega) (by simp only [IntKind.bits]; omega) (.inr rfl) ?_
      refine ops_buildSlice rfl Try.underlying23 sz43 rfl rfl rfl (by simp [Value.oneCell', lw]) rfl (fun w5 b40 N40 => ?_)
      have hBw5 := N40.below
      have nM40 := hM.new N40; have B40 := N40.blk
      have Lw5 := Le.of_below (Fz := Fz) (M := (Mo u M)) hBw5
      replace LL := LL.trans Lw5
      replace LR := LR.trans Lw5
      replace hM := hM.mono Lw5
      replace hF := hF.mono Lw5
      replace h := h.mono Lw5
      replace Ow := own_below Ow hBw5
      refine ops_append rfl Try.underlying23 sz43 rfl rfl rfl Ow (B40.slc nM40 rfl (fun _ _ h => h) (by omega) (Nat.le_refl _)) (by simp [Value.oneCell']) (by omega) (by omega) (fun v41 w6 A41 G41 S41 => ?_)
      have Lw6 := Le.of_grown (Fz := Fz) (M := M) G41 S41 A41 Of
      have Omo41 := Om
      replace Of := own_step_f (w' := w6) Of hF S41; replace Om := own_step_m (w' := w6) Om (fun k hk => hM k (.inr hk)) S41
      replace LL := LL.trans Lw6
      replace LR := LR.trans Lw6
      replace hM := hM.mono Lw6
      replace hF := hF.mono Lw6
      replace h := h.mono Lw6
      clear Ow; have Ow := A41
      refine ops_move rfl rfl ?_
      refine ops_assign rfl rfl ?_
      refine ops_assign rfl rfl ?_
      refine ops_nil ?_
      refine SL.wp_region ?_
      refine ops_add rfl rfl rfl (by omega) ?_
      refine ops_move rfl rfl ?_
      refine ops_nil ?_
      refine ⟨rfl, (i + 1, v41, xs.getD i 0 * 2 ^ (q % 32) / 4294967296), (sub_cons' rfl (rfl) (sub_cons' rfl (rfl) (sub_cons' rfl (by rw [Int.natCast_add]; rfl) (sub_cons rfl (sub_cons rfl (sub_cons rfl sub_nil)))))), ?_, ?_⟩
      dsimp only
      have hor := up_or (x := xs.getD i 0) (by omega) hlt
      exact ⟨LR, by omega, up_carry hbx, Of, Om, zs ++ [xs.getD i 0 * 2 ^ (q % 32) % 4294967296 ||| l], by simpa [lw] using Ow, by simp [hzl]; omega, fun z hz => by
        rcases List.mem_append.1 hz with hz | hz
        · exact hzlt z hz
        · rw [List.mem_singleton] at hz; rw [hz, hor.1]; exact hor.2, by rw [← Nat.add_assoc, up_step hzl (by omega) hlt hzv, up_row]⟩
      dsimp only
      omega
    · refine SL.wp_exit ?_
      refine upd_hit ?_
      refine SL.wp_seq ?_
      refine SL.wp_region ?_
      refine ops_move rfl rfl ?_
      refine ops_move rfl rfl ?_
      refine ops_buildSlice rfl Try.underlying23 sz43 rfl rfl rfl (by simp [Value.oneCell', lw]) rfl (fun w7 b46 N46 => ?_)
      have hBw7 := N46.below
      have nM46 := hM.new N46; have B46 := N46.blk
      have Lw7 := Le.of_below (Fz := Fz) (M := (Mo u M)) hBw7
      replace LL := LL.trans Lw7
      replace LR := LR.trans Lw7
      replace hM := hM.mono Lw7
      replace hF := hF.mono Lw7
      replace h := h.mono Lw7
      replace Ow := own_below Ow hBw7
      refine ops_append rfl Try.underlying23 sz43 rfl rfl rfl Ow (B46.slc nM46 rfl (fun _ _ h => h) (by omega) (Nat.le_refl _)) (by simp [Value.oneCell']) (by omega) (by omega) (fun v47 w8 A47 G47 S47 => ?_)
      have Lw8 := Le.of_grown (Fz := Fz) (M := M) G47 S47 A47 Of
      have Omo47 := Om
      replace Of := own_step_f (w' := w8) Of hF S47; replace Om := own_step_m (w' := w8) Om (fun k hk => hM k (.inr hk)) S47
      replace LL := LL.trans Lw8
      replace LR := LR.trans Lw8
      replace hM := hM.mono Lw8
      replace hF := hF.mono Lw8
      replace h := h.mono Lw8
      clear Ow; have Ow := A47
      refine ops_callv rfl bod25 rfl rfl ?_
      refine (trim_c (M := M) (xs := zs ++ [l]) ⟨by simpa [lw] using own_slc Ow (fun k hk c => Om k hk c) (by omega), fun z hz => by rcases List.mem_append.1 hz with hz | hz <;> first | exact hzlt z hz | (simp at hz; omega)⟩ (by simp; omega) (fun k hk => hM k (.inr hk))).mono ?_
      rintro v48 w9 ⟨hB48, hf48⟩
      have hS48 := LL.size
      have Lw9 := Le.of_below (Fz := Fz) (M := (Mo v47 M)) hB48
      replace LL := LL.trans Lw9
      replace LR := LR.trans Lw9
      replace hM := hM.mono Lw9
      replace hF := hF.mono Lw9
      replace h := h.mono Lw9
      replace Ow := own_below Ow hB48
      replace hf48 := hf48.less hS48
      refine ops_assign rfl rfl ?_
      refine ops_nil ?_
      refine SL.wp_ret ?_
      refine leave_nil ⟨[_], ⟨rfl, trivial⟩, ?_⟩
      dsimp only [resVal]
      subst hFz
      obtain rfl : i = xs.length := by omega
      rw [List.take_length, up_end] at hzv
      rw [val_snoc, hzl, hzv] at hf48
      exact ⟨LL.below (Nat.le_refl _), hf48⟩


theorem rdown_c {M : Nat → Prop} {w : World} {v : Value} {xs : List Nat} {j : Int} (h : IsNat M w v xs) (hl : xs.length ≤ 100000000) (hM : OkM M w) :
    CallsV Try.prog 49 [v, .int .i64 j] w fun r w' => Below w.heap.size w w' ∧ Fresh 43 w w' r (limbs (val xs / 2 ^ cntN j 65536)) := by
  obtain ⟨Fz, hFz⟩ : ∃ Fz : Nat → Prop, Fz = (· < w.heap.size) := ⟨_, rfl⟩
  have hF : FOk Fz w := by subst hFz; exact fun _ h => h
  have hqq := (cntN_is (k := j) (m := 65536) (by omega)).2.2
  generalize hq : cntN j 65536 = q at hqq ⊢
  have LL := Le.refl Fz M w; have hM0 := hM
  refine calls_intro Try.func49 rfl Try.ntmps49 rfl ?_
  refine SL.wp_seq ?_
  refine SL.wp_region ?_
  refine ops_assign rfl rfl ?_
  refine ops_nil ?_
  refine SL.wp_seq ?_
  refine SL.wp_region ?_
  refine ops_move rfl rfl ?_
  refine ops_callv rfl bod68 rfl rfl ?_
  refine (rcount_q (M := M) hq (by omega) hM).mono ?_
  rintro v9 w1 ⟨hB9, rfl⟩
  have Lw1 := Le.of_below (Fz := Fz) (M := M) hB9
  replace LL := LL.trans Lw1
  replace hM := hM.mono Lw1
  replace hF := hF.mono Lw1
  replace h := h.mono Lw1
  refine ops_assign rfl rfl ?_
  refine ops_nil ?_
  refine SL.wp_seq ?_
  refine SL.wp_region ?_
  have Ow := own_nil (w := w1) (e := 43)
  have Of : ∀ k, (Value.slice none 0 0).ownBlock = some k → ¬ Fz k := nil_own
  have Om : ∀ k, (Value.slice none 0 0).ownBlock = some k → ¬ M k := nil_own
  have Ln := Le.mo_nil (Fz := Fz) (M := M) (w := w1)
  replace LL := LL.trans Ln
  replace hM := hM.mono Ln
  replace hF := hF.mono Ln
  replace h := h.mono Ln
  clear Ln
  refine ops_assign rfl rfl ?_
  refine ops_nil ?_
  refine SL.wp_seq ?_
  refine SL.wp_seq ?_
  refine SL.wp_region ?_
  refine ops_move rfl rfl ?_
  refine ops_quo rfl rfl rfl (by omega) ?_
  refine ops_assign rfl rfl ?_
  refine ops_nil ?_
  refine SL.wp_block ?_
  refine SL.wp_loopc (σ := Nat × Value) [(0, _), (1, _)] (fun s => [(5, s.2), (6, .int .i64 ((q / 32 + s.1 : Nat) : Int))]) (fun s w2 => Le Fz (Mo (.slice none 0 0) M) w1 (Mo s.2 M) w2 ∧ s.1 ≤ xs.length ∧ (∀ k, s.2.ownBlock = some k → ¬ Fz k) ∧ (∀ k, s.2.ownBlock = some k → ¬ M k) ∧ ∃ zs : List Nat, w2.ownsRow 0 43 1 s.2 zs.length (zs.map lw) ∧ zs.length = s.1 ∧ (∀ z ∈ zs, z < 4294967296) ∧ val zs + 4294967296 ^ s.1 * (val (xs.drop (q / 32 + s.1)) / 2 ^ (q % 32)) = val (xs.drop (q / 32)) / 2 ^ (q % 32)) (fun s => xs.length - (q / 32 + s.1)) ((0, .slice none 0 0)) (sub_cons rfl (sub_cons' rfl (by congr 1) (sub_cons rfl (sub_cons rfl sub_nil)))) ?_ (fun s w2 hJ => ?_)
  · dsimp only
    exact ⟨Le.refl _ _ _, by omega, Of, Om, [], by simpa using Ow, rfl, by simp, by simp [val]⟩
  · clear Ow Of Om
    obtain ⟨k, u⟩ := s
    dsimp only at hJ ⊢
    obtain ⟨LR, hk, Of, Om, zs, Ow, hzl, hzlt, hzv⟩ := hJ
    have hbx := h.lim (q / 32 + k); have hby := h.lim (q / 32 + k + 1)
    replace LL := LL.trans LR
    replace hM := hM.mono LR
    replace hF := hF.mono LR
    replace h := h.mono LR
    refine SL.wp_seq ?_
    refine SL.wp_seq ?_
    refine SL.wp_region ?_
    refine ops_move rfl rfl ?_
    refine ops_move rfl rfl ?_
    first | refine ops_len rfl Try.underlying23 rfl ?_ | refine ops_lens rfl Try.underlying23 rfl (IsNat.slc (by assumption)) ?_ | refine ops_lenn rfl Try.underlying23 rfl (by assumption) ?_ | refine ops_leno rfl Try.underlying23 rfl (by assumption) ?_
    refine ops_lt rfl rfl rfl ?_
    refine ops_nil ?_
    refine SL.wp_cond_d rfl (fun hc0 => ?_) (fun hc0 => ?_)
    · refine SL.wp_skip ?_
      refine SL.wp_seq ?_
      refine SL.wp_block ?_
      refine SL.wp_seq ?_
      refine SL.wp_region ?_
      refine ops_move rfl rfl ?_
      refine ops_move rfl rfl ?_
      refine ops_idxn (q / 32 + k) rfl Try.underlying23 sz43 rfl rfl (by assumption) (by omega) (by omega) (fun b20 o20 hc20 hb20 => ?_)
      refine ops_load rfl flat43 rfl hc20 ?_
      refine ops_to64 rfl Try.underlying43 Try.underlying25 rfl (by omega) ?_
      refine ops_assign rfl rfl ?_
      refine ops_nil ?_
      refine SL.wp_seq ?_
      refine SL.wp_seq ?_
      refine SL.wp_region ?_
      refine ops_move rfl rfl ?_
      refine ops_add rfl rfl rfl (by omega) ?_
      refine ops_move rfl rfl ?_
      first | refine ops_len rfl Try.underlying23 rfl ?_ | refine ops_lens rfl Try.underlying23 rfl (IsNat.slc (by assumption)) ?_ | refine ops_lenn rfl Try.underlying23 rfl (by assumption) ?_ | refine ops_leno rfl Try.underlying23 rfl (by assumption) ?_
      refine ops_lt rfl rfl rfl ?_
      refine ops_nil ?_
      refine SL.wp_cond_d rfl (fun hc1 => ?_) (fun hc1 => ?_)
      · refine SL.wp_region ?_
        refine ops_move rfl rfl ?_
        refine ops_move rfl rfl ?_
        refine ops_move rfl rfl ?_
        refine ops_add rfl rfl rfl (by omega) ?_
        refine ops_idxn (q / 32 + k + 1) rfl Try.underlying23 sz43 rfl rfl (by assumption) (by omega) (by omega) (fun b32 o32 hc32 hb32 => ?_)
        refine ops_load rfl flat43 rfl hc32 ?_
        refine ops_to64 rfl Try.underlying43 Try.underlying25 rfl (by omega) ?_
        refine ops_shlu (m := 18446744073709551616) rfl rfl rfl (by simp only [IntKind.bits]; omega) rfl (.inl rfl) ?_
        refine ops_oru (a := xs.getD (q / 32 + k) 0) (b := xs.getD (q / 32 + k + 1) 0 * 4294967296 % 18446744073709551616) rfl rfl rfl (by simp only [IntKind.bits]; omega) (by simp only [IntKind.bits]; omega) (.inl rfl) ?_
        refine ops_assign rfl rfl ?_
        refine ops_nil ?_
        refine SL.wp_region ?_
        refine ops_move rfl rfl ?_
        refine ops_move rfl rfl ?_
        refine ops_move rfl rfl ?_
        refine ops_rem rfl rfl rfl (by omega) ?_
        refine ops_to64 (a := q % 32) rfl Try.underlying3 Try.underlying57 rfl (by omega) ?_
        refine ops_shru rfl rfl rfl (by simp only [IntKind.bits]; omega) ?_
        refine ops_to32 rfl Try.underlying25 Try.underlying43 rfl ?_
        refine ops_buildSlice rfl Try.underlying23 sz43 rfl rfl rfl (by simp [Value.oneCell', lw]) rfl (fun w3 b44 N44 => ?_)
        have hBw3 := N44.below
        have nM44 := hM.new N44; have B44 := N44.blk
        have Lw3 := Le.of_below (Fz := Fz) (M := (Mo u M)) hBw3
        replace LL := LL.trans Lw3
        replace LR := LR.trans Lw3
        replace hM := hM.mono Lw3
        replace hF := hF.mono Lw3
        replace h := h.mono Lw3
        replace Ow := own_below Ow hBw3
        refine ops_append rfl Try.underlying23 sz43 rfl rfl rfl Ow (B44.slc nM44 rfl (fun _ _ h => h) (by omega) (Nat.le_refl _)) (by simp [Value.oneCell']) (by omega) (by omega) (fun v45 w4 A45 G45 S45 => ?_)
        have Lw4 := Le.of_grown (Fz := Fz) (M := M) G45 S45 A45 Of
        have Omo45 := Om
        replace Of := own_step_f (w' := w4) Of hF S45; replace Om := own_step_m (w' := w4) Om (fun k hk => hM k (.inr hk)) S45
        replace LL := LL.trans Lw4
        replace LR := LR.trans Lw4
        replace hM := hM.mono Lw4
        replace hF := hF.mono Lw4
        replace h := h.mono Lw4
        clear Ow; have Ow := A45
        refine ops_assign rfl rfl ?_
        refine ops_nil ?_
        refine SL.wp_region ?_
        refine ops_move rfl rfl ?_
        refine ops_add rfl rfl rfl (by omega) ?_
        refine ops_assign rfl rfl ?_
        refine ops_nil ?_
        refine ⟨rfl, (k + 1, v45), (sub_cons' rfl (rfl) (sub_cons' rfl (by congr 1) (sub_cons rfl (sub_cons rfl sub_nil)))), ?_, ?_⟩
        dsimp only
        have hd1 := drop_val (xs := xs) (s := q / 32 + k) (by omega)
        have hd2 := drop_val (xs := xs) (s := q / 32 + k + 1) (by omega)
        have he : (xs.getD (q / 32 + k) 0 ||| xs.getD (q / 32 + k + 1) 0 * 4294967296 % 18446744073709551616) / 2 ^ (q % 32) % 4294967296 = val (xs.drop (q / 32 + k)) / 2 ^ (q % 32) % 4294967296 := by
          rw [or_up hbx hby, hd1, hd2, down_limb (by omega)]
        have hst := down_step hzl he hzv
        rw [hd1, down_next hbx] at hst
        exact ⟨LR, by omega, Of, Om, _, by rw [List.length_append, List.map_append]; exact Ow, by simp [hzl], fun z hz => by
          rcases List.mem_append.1 hz with hz | hz
          · exact hzlt z hz
          · rw [List.mem_singleton] at hz; rw [hz]; omega, hst⟩
        dsimp only
        omega
      · refine SL.wp_skip ?_
        refine SL.wp_region ?_
        refine ops_move rfl rfl ?_
        refine ops_move rfl rfl ?_
        refine ops_move rfl rfl ?_
        refine ops_rem rfl rfl rfl (by omega) ?_
        refine ops_to64 (a := q % 32) rfl Try.underlying3 Try.underlying57 rfl (by omega) ?_
        refine ops_shru rfl rfl rfl (by simp only [IntKind.bits]; omega) ?_
        refine ops_to32 rfl Try.underlying25 Try.underlying43 rfl ?_
        refine ops_buildSlice rfl Try.underlying23 sz43 rfl rfl rfl (by simp [Value.oneCell', lw]) rfl (fun w5 b44 N44 => ?_)
        have hBw5 := N44.below
        have nM44 := hM.new N44; have B44 := N44.blk
        have Lw5 := Le.of_below (Fz := Fz) (M := (Mo u M)) hBw5
        replace LL := LL.trans Lw5
        replace LR := LR.trans Lw5
        replace hM := hM.mono Lw5
        replace hF := hF.mono Lw5
        replace h := h.mono Lw5
        replace Ow := own_below Ow hBw5
        refine ops_append rfl Try.underlying23 sz43 rfl rfl rfl Ow (B44.slc nM44 rfl (fun _ _ h => h) (by omega) (Nat.le_refl _)) (by simp [Value.oneCell']) (by omega) (by omega) (fun v45 w6 A45 G45 S45 => ?_)
        have Lw6 := Le.of_grown (Fz := Fz) (M := M) G45 S45 A45 Of
        have Omo45 := Om
        replace Of := own_step_f (w' := w6) Of hF S45; replace Om := own_step_m (w' := w6) Om (fun k hk => hM k (.inr hk)) S45
        replace LL := LL.trans Lw6
        replace LR := LR.trans Lw6
        replace hM := hM.mono Lw6
        replace hF := hF.mono Lw6
        replace h := h.mono Lw6
        clear Ow; have Ow := A45
        refine ops_assign rfl rfl ?_
        refine ops_nil ?_
        refine SL.wp_region ?_
        refine ops_move rfl rfl ?_
        refine ops_add rfl rfl rfl (by omega) ?_
        refine ops_assign rfl rfl ?_
        refine ops_nil ?_
        refine ⟨rfl, (k + 1, v45), (sub_cons' rfl (rfl) (sub_cons' rfl (by congr 1) (sub_cons rfl (sub_cons rfl sub_nil)))), ?_, ?_⟩
        dsimp only
        have hd1 := drop_val (xs := xs) (s := q / 32 + k) (by omega)
        have hd2 : val (xs.drop (q / 32 + k + 1)) = 0 := by rw [List.drop_of_length_le (by omega)]; rfl
        have he : xs.getD (q / 32 + k) 0 / 2 ^ (q % 32) % 4294967296 = val (xs.drop (q / 32 + k)) / 2 ^ (q % 32) % 4294967296 := by
          rw [hd1, hd2]; simp
        have hst := down_step hzl he hzv
        rw [hd1, down_next hbx] at hst
        exact ⟨LR, by omega, Of, Om, _, by rw [List.length_append, List.map_append]; exact Ow, by simp [hzl], fun z hz => by
          rcases List.mem_append.1 hz with hz | hz
          · exact hzlt z hz
          · rw [List.mem_singleton] at hz; rw [hz]; omega, hst⟩
        dsimp only
        omega
    · refine SL.wp_exit ?_
      refine upd_hit ?_
      refine SL.wp_seq ?_
      refine SL.wp_region ?_
      refine ops_move rfl rfl ?_
      refine ops_callv rfl bod26 rfl rfl ?_
      refine (rtrim_c (M := M) (xs := zs) ⟨own_slc Ow (fun k hk c => Om k hk c) (by omega), hzlt⟩ (by omega) (fun k hk => hM k (.inr hk))).mono ?_
      rintro v47 w7 ⟨hB47, hf47⟩
      have hS47 := LL.size
      have Lw7 := Le.of_below (Fz := Fz) (M := (Mo u M)) hB47
      replace LL := LL.trans Lw7
      replace LR := LR.trans Lw7
      replace hM := hM.mono Lw7
      replace hF := hF.mono Lw7
      replace h := h.mono Lw7
      replace Ow := own_below Ow hB47
      replace hf47 := hf47.less hS47
      refine ops_assign rfl rfl ?_
      refine ops_nil ?_
      refine SL.wp_ret ?_
      refine leave_nil ⟨[_], ⟨rfl, trivial⟩, ?_⟩
      dsimp only [resVal]
      subst hFz
      have hd0 : val (xs.drop (q / 32 + k)) = 0 := by rw [List.drop_of_length_le (by omega)]; rfl
      rw [hd0, Nat.zero_div, Nat.mul_zero, Nat.add_zero, down_end h.lt] at hzv
      rw [hzv] at hf47
      exact ⟨LL.below (Nat.le_refl _), hf47⟩


theorem down_c {M : Nat → Prop} {w : World} {v : Value} {xs : List Nat} {j : Int} (h : IsNat M w v xs) (hl : xs.length ≤ 100000000) (hM : OkM M w) :
    CallsV Try.prog 41 [v, .int .i64 j] w fun r w' => Below w.heap.size w w' ∧ Fresh 43 w w' r (limbs (val xs / 2 ^ cntN j 65536)) := by
  obtain ⟨Fz, hFz⟩ : ∃ Fz : Nat → Prop, Fz = (· < w.heap.size) := ⟨_, rfl⟩
  have hF : FOk Fz w := by subst hFz; exact fun _ h => h
  have hqq := (cntN_is (k := j) (m := 65536) (by omega)).2.2
  generalize hq : cntN j 65536 = q at hqq ⊢
  have LL := Le.refl Fz M w; have hM0 := hM
  refine calls_intro Try.func41 rfl Try.ntmps41 rfl ?_
  refine SL.wp_seq ?_
  refine SL.wp_region ?_
  refine ops_assign rfl rfl ?_
  refine ops_nil ?_
  refine SL.wp_scope ?_
  refine SL.wp_seq ?_
  refine SL.wp_region ?_
  refine ops_move rfl rfl ?_
  refine ops_callv rfl bod66 rfl rfl ?_
  refine (count_q (M := M) hq (by omega) hM).mono ?_
  rintro v8 w1 ⟨hB8, rfl⟩
  have Lw1 := Le.of_below (Fz := Fz) (M := M) hB8
  replace LL := LL.trans Lw1
  replace hM := hM.mono Lw1
  replace hF := hF.mono Lw1
  replace h := h.mono Lw1
  refine ops_assign rfl rfl ?_
  refine ops_nil ?_
  refine SL.wp_seq ?_
  refine SL.wp_seq ?_
  refine SL.wp_region ?_
  refine ops_move rfl rfl ?_
  refine ops_quo rfl rfl rfl (by omega) ?_
  refine ops_move rfl rfl ?_
  first | refine ops_len rfl Try.underlying23 rfl ?_ | refine ops_lens rfl Try.underlying23 rfl (IsNat.slc (by assumption)) ?_ | refine ops_lenn rfl Try.underlying23 rfl (by assumption) ?_ | refine ops_leno rfl Try.underlying23 rfl (by assumption) ?_
  refine ops_ge rfl rfl rfl ?_
  refine ops_nil ?_
  refine SL.wp_cond_d rfl (fun hc0 => ?_) (fun hc0 => ?_)
  · refine SL.wp_seq ?_
    refine SL.wp_region ?_
    refine ops_assign rfl rfl ?_
    refine ops_nil ?_
    refine SL.wp_ret ?_
    refine leave_nil ⟨[_], ⟨rfl, trivial⟩, ?_⟩
    dsimp only [resVal]
    subst hFz
    have h0 : val xs / 2 ^ q = 0 := by
      have h1 := val_lt_pow h.lt (show xs.length ≤ q / 32 by omega)
      have h2 : 2 ^ (32 * (q / 32)) ≤ 2 ^ q := Nat.pow_le_pow_right (by omega) (by omega)
      rw [base_pow] at h1
      exact Nat.div_eq_of_lt (by omega)
    rw [h0, limbs_zero]
    exact ⟨LL.below (Nat.le_refl _), fresh_of own_nil nil_own (by simp) (by simp)⟩
  · have hsl1 : q / 32 < xs.length := by omega
    refine SL.wp_skip ?_
    refine SL.wp_seq ?_
    refine SL.wp_region ?_
    refine ops_move rfl rfl ?_
    refine ops_move rfl rfl ?_
    refine ops_quo rfl rfl rfl (by omega) ?_
    refine ops_slices (M := M) (q / 32) xs.length rfl Try.underlying23 sz43 rfl h.slc ⟨_, rfl⟩ rfl trivial (by omega) (Nat.le_refl _) (fun v17 hv17 => ?_)
    have hn17 : IsNat M w1 v17 (xs.drop (q / 32)) := ⟨by rw [List.length_drop]; simpa [List.map_drop, List.take_of_length_le] using hv17, fun x hx => h.lt x (List.mem_of_mem_drop hx)⟩
    have hdl : (xs.drop (q / 32)).length = xs.length - q / 32 := List.length_drop
    refine ops_callv rfl bod59 rfl rfl ?_
    refine (clone_c (M := M) hn17 (by omega) hM).mono ?_
    rintro v18 w2 ⟨hB18, hf18⟩
    have F18 : ∀ k, v18.ownBlock = some k → ¬ Fz k := fun k hk c => absurd (hF k c) (Nat.not_lt.2 (hf18.new k hk))
    have X18 : ∀ k, v18.ownBlock = some k → ¬ M k := fun k hk c => absurd (hM k c) (Nat.not_lt.2 (hf18.new k hk))
    have Lw2 := Le.of_fresh (Fz := Fz) (M := M) hB18 hf18
    replace LL := LL.trans Lw2
    replace hM := hM.mono Lw2
    replace hF := hF.mono Lw2
    replace h := h.mono Lw2
    have O18 := hf18.own; have T18 := hf18.lt; have Z18 := hf18.len
    have Ow := O18; have Of := F18; have Om := X18; clear O18
    refine ops_assign rfl rfl ?_
    refine ops_nil ?_
    refine SL.wp_seq ?_
    refine SL.wp_label ?_
    refine SL.wp_seq ?_
    refine SL.wp_seq ?_
    refine SL.wp_region ?_
    refine ops_move rfl rfl ?_
    first | refine ops_len rfl Try.underlying23 rfl ?_ | refine ops_lens rfl Try.underlying23 rfl (IsNat.slc (by assumption)) ?_ | refine ops_lenn rfl Try.underlying23 rfl (by assumption) ?_ | refine ops_leno rfl Try.underlying23 rfl (by assumption) ?_
    refine ops_move rfl rfl ?_
    refine ops_nil ?_
    refine SL.wp_block ?_
    refine SL.wp_loopc (σ := Nat) [(1, _), (5, _), (20, _)] (fun i => [(21, .int .i64 ((i : Nat) : Int))]) (fun i w3 => Le Fz (Mo v18 M) w2 (Mo v18 M) w3 ∧ i ≤ (xs.drop (q / 32)).length ∧ ∃ zs : List Nat, w3.ownsRow 0 43 1 v18 zs.length (zs.map lw) ∧ zs.length = (xs.drop (q / 32)).length ∧ (∀ z ∈ zs, z < 4294967296) ∧ zs.drop i = xs.drop (q / 32 + i) ∧ val (zs.take i) + 4294967296 ^ i * (val (xs.drop (q / 32 + i)) / 2 ^ (q % 32)) = val (xs.drop (q / 32)) / 2 ^ (q % 32)) (fun i => (xs.drop (q / 32)).length - i) (0) (sub_cons rfl (sub_cons rfl (sub_cons rfl (sub_cons rfl sub_nil)))) ?_ (fun i w3 hJ => ?_)
    · exact ⟨Le.refl _ _ _, by omega, _, Ow, rfl, T18, by simp, by simp [val]⟩
    · clear Ow
      obtain ⟨LR, hi, zs, Ow, hzl, hzlt, hzd, hzv⟩ := hJ
      replace LL := LL.trans LR
      replace hM := hM.mono LR
      replace hF := hF.mono LR
      replace h := h.mono LR
      refine SL.wp_seq ?_
      refine SL.wp_region ?_
      refine ops_lt rfl rfl rfl ?_
      refine ops_nil ?_
      refine SL.wp_seq ?_
      refine SL.wp_cond_d rfl (fun hc1 => ?_) (fun hc1 => ?_)
      · have hil : i < zs.length := by omega
        have e0 : zs.getD i 0 = xs.getD (q / 32 + i) 0 := drop_getD hzd 0
        have e1 : zs.getD (i + 1) 0 = xs.getD (q / 32 + i + 1) 0 := drop_getD hzd 1
        have hbx := h.lim (q / 32 + i); have hby := h.lim (q / 32 + i + 1)
        have hd1 := drop_val (xs := xs) (s := q / 32 + i) (by omega)
        have hms := mod_self_of (q % 32) hbx
        have hle := Nat.div_le_self (xs.getD (q / 32 + i) 0) (2 ^ (q % 32))
        refine SL.wp_skip ?_
        refine SL.wp_seq ?_
        refine SL.wp_block ?_
        refine SL.wp_seq ?_
        refine SL.wp_region ?_
        refine ops_move rfl rfl ?_
        refine ops_assign rfl rfl ?_
        refine ops_nil ?_
        refine SL.wp_seq ?_
        refine SL.wp_region ?_
        refine ops_move rfl rfl ?_
        refine ops_move rfl rfl ?_
        refine ops_idxo (i) rfl Try.underlying23 sz43 rfl rfl Ow (by omega) (by omega) (fun b26 cur26 cap26 B26 => ?_)
        have hc26 : w3.cell? ⟨b26, i, none⟩ = some (lw (zs.getD (i) 0)) := by rw [B26.blk.cell]; exact B26.get (map_lw_get (by omega))
        refine ops_load rfl flat43 rfl hc26 ?_
        refine ops_move rfl rfl ?_
        refine ops_rem rfl rfl rfl (by omega) ?_
        refine ops_shru rfl rfl rfl (by simp only [IntKind.bits]; omega) ?_
        refine ops_idxo (i) rfl Try.underlying23 sz43 rfl rfl Ow (by omega) (by omega) (fun b31 cur31 cap31 B31 => ?_)
        have hc31 : w3.cell? ⟨b31, i, none⟩ = some (lw (zs.getD (i) 0)) := by rw [B31.blk.cell]; exact B31.get (map_lw_get (by omega))
        refine ops_store rfl rfl sz43 B31.blk rfl (by have := B31.len; have := B31.le; omega) (by simp [Value.cells, Value.oneCell']) (fun w4 Cw4 BN => ?_)
        have Lw4 := Le.of_chg (Fz := Fz) (M := (Mo v18 M)) Cw4 (.inl B31.own) (Of b31 B31.own)
        replace LL := LL.trans Lw4
        replace LR := LR.trans Lw4
        replace hM := hM.mono Lw4
        replace hF := hF.mono Lw4
        replace h := h.mono Lw4
        have Ow2 := B31.set (by omega) BN
        replace Ow2 : World.ownsRow w4 0 43 1 v18 (zs.set (i) (zs.getD i 0 / 2 ^ (q % 32))).length ((zs.set (i) (zs.getD i 0 / 2 ^ (q % 32))).map lw) := by rw [List.length_set, List.map_set]; exact Ow2
        clear Ow; have Ow := Ow2; clear Ow2 BN
        obtain ⟨zs1, hz1⟩ : ∃ z, z = zs.set i (zs.getD i 0 / 2 ^ (q % 32)) := ⟨_, rfl⟩
        rw [← hz1] at Ow
        have hzl1 : zs1.length = zs.length := by rw [hz1]; simp
        have e2 : zs1.getD i 0 = xs.getD (q / 32 + i) 0 / 2 ^ (q % 32) := by rw [hz1, ← e0]; simp [List.getD_eq_getElem?_getD, hil]
        have e3 : zs1.getD (i + 1) 0 = xs.getD (q / 32 + i + 1) 0 := by rw [hz1, val_set_ne (by omega), e1]
        refine ops_nil ?_
        refine SL.wp_seq ?_
        refine SL.wp_seq ?_
        refine SL.wp_region ?_
        refine ops_move rfl rfl ?_
        refine ops_add rfl rfl rfl (by omega) ?_
        refine ops_move rfl rfl ?_
        first | refine ops_len rfl Try.underlying23 rfl ?_ | refine ops_lens rfl Try.underlying23 rfl (IsNat.slc (by assumption)) ?_ | refine ops_lenn rfl Try.underlying23 rfl (by assumption) ?_ | refine ops_leno rfl Try.underlying23 rfl (by assumption) ?_
        refine ops_ge rfl rfl rfl ?_
        refine ops_move rfl rfl ?_
        refine ops_dcase (d := 37) rfl (fun hg9_5 => ?_) (fun hg9_5 => ?_)
        · refine ops_guard_f rfl rfl rfl rfl ?_
          refine ops_guard_f rfl rfl rfl rfl ?_
          refine ops_guard_f rfl rfl rfl rfl ?_
          refine ops_pick rfl rfl rfl ?_
          refine ops_nil ?_
          refine SL.wp_cond_t rfl ?_
          refine SL.wp_exit ?_
          refine upd_hit ?_
          refine SL.wp_region ?_
          refine ops_add rfl rfl rfl (by omega) ?_
          refine ops_move rfl rfl ?_
          refine ops_nil ?_
          refine ⟨rfl, i + 1, (sub_cons' rfl (by rw [Int.natCast_add]; rfl) (sub_cons rfl (sub_cons rfl (sub_cons rfl sub_nil)))), ?_, ?_⟩
          have hev : zs.getD i 0 / 2 ^ (q % 32) = val (xs.drop (q / 32 + i)) / 2 ^ (q % 32) % 4294967296 := by rw [e0, hd1, show val (xs.drop (q / 32 + i + 1)) = 0 by rw [List.drop_of_length_le (by omega)]; rfl]; simpa using hms.symm
          have hin := down_in (r := q % 32) (e := zs.getD i 0 / 2 ^ (q % 32)) hil (by omega) h.lt hzd hzv hev
          exact ⟨LR, by omega, zs.set i (zs.getD i 0 / 2 ^ (q % 32)), by rw [← hz1]; exact Ow, by simp [hzl], set_lt hzlt (by rw [hev]; exact Nat.mod_lt _ (by omega)), hin.1, hin.2⟩
          omega
        · refine ops_guard_t rfl rfl ?_
          refine ops_move rfl rfl ?_
          refine ops_guard_t rfl rfl ?_
          refine ops_rem rfl rfl rfl (by omega) ?_
          refine ops_guard_t rfl rfl ?_
          refine ops_eq rfl rfl rfl ?_
          refine ops_pick rfl rfl rfl ?_
          refine ops_nil ?_
          refine SL.wp_cond_d rfl (fun hc2 => ?_) (fun hc2 => ?_)
          · refine SL.wp_exit ?_
            refine upd_hit ?_
            refine SL.wp_region ?_
            refine ops_add rfl rfl rfl (by omega) ?_
            refine ops_move rfl rfl ?_
            refine ops_nil ?_
            refine ⟨rfl, i + 1, (sub_cons' rfl (by rw [Int.natCast_add]; rfl) (sub_cons rfl (sub_cons rfl (sub_cons rfl sub_nil)))), ?_, ?_⟩
            have hev : zs.getD i 0 / 2 ^ (q % 32) = val (xs.drop (q / 32 + i)) / 2 ^ (q % 32) % 4294967296 := by rw [e0, hd1, show q % 32 = 0 by omega, Nat.pow_zero, Nat.div_one, Nat.div_one]; omega
            have hin := down_in (r := q % 32) (e := zs.getD i 0 / 2 ^ (q % 32)) hil (by omega) h.lt hzd hzv hev
            exact ⟨LR, by omega, zs.set i (zs.getD i 0 / 2 ^ (q % 32)), by rw [← hz1]; exact Ow, by simp [hzl], set_lt hzlt (by rw [hev]; exact Nat.mod_lt _ (by omega)), hin.1, hin.2⟩
            omega
          · refine SL.wp_skip ?_
            refine SL.wp_draw (R := Rb) (R' := Rb) (st := none) mixed 13 [1, 5, 6, 20, 21, 22, 23, 24, 25, 26, 27, 28, 29, 30, 31, 32, 33, 34, 35, 36, 37, 38, 39, 40, 41, 42, 43, 44, 45, 46, 47, 48, 49, 50, 51, 52, 53, 54] (by decide +kernel) rb_trans rb_self (rb_drew _) (fun _ _ _ h => by cases h) ?_
            apply drs_ex
            · intro wq hR hst
              refine obl_e rfl rfl ?_
              refine obl_done ?_
              have Lq := Le.of_below (Fz := Fz) (M := (Mo v18 M)) hR
              replace LL := LL.trans Lq
              replace LR := LR.trans Lq
              replace hM := hM.mono Lq
              replace hF := hF.mono Lq
              replace h := h.mono Lq
              replace Ow := own_below Ow hR
              refine ops_move rfl rfl ?_
              exact ops_nil ⟨rfl, rb_refl _, _, rfl, rfl⟩
            apply drs_ex
            · intro wq hR hst
              refine obl_e rfl rfl ?_
              refine obl_done ?_
              have Lq := Le.of_below (Fz := Fz) (M := (Mo v18 M)) hR
              replace LL := LL.trans Lq
              replace LR := LR.trans Lq
              replace hM := hM.mono Lq
              replace hF := hF.mono Lq
              replace h := h.mono Lq
              replace Ow := own_below Ow hR
              refine ops_move rfl rfl ?_
              exact ops_nil ⟨rfl, rb_refl _, _, rfl, rfl⟩
            apply drs_ptr
            · intro wq hR hst
              refine obl_x rfl ?_
              refine obl_x rfl ?_
              refine obl_done ?_
              have Lq := Le.of_below (Fz := Fz) (M := (Mo v18 M)) hR
              replace LL := LL.trans Lq
              replace LR := LR.trans Lq
              replace hM := hM.mono Lq
              replace hF := hF.mono Lq
              replace h := h.mono Lq
              replace Ow := own_below Ow hR
              refine ops_idxo (i) rfl Try.underlying23 sz43 rfl rfl Ow (by omega) (by omega) (fun b44 cur44 cap44 B44 => ?_)
              have hc44 : wq.cell? ⟨b44, i, none⟩ = some (lw (zs1.getD (i) 0)) := by rw [B44.blk.cell]; exact B44.get (map_lw_get (by omega))
              exact ops_nil ⟨rfl, rb_refl _, _, rfl, ⟨_, _, rfl, hc44⟩⟩
            apply drs_ex
            · intro wq hR hst
              refine obl_g rfl (fun v44 hp44 => ?_)
              obtain ⟨b44, o44, rfl, hc44⟩ := hp44
              refine obl_done ?_
              have Lq := Le.of_below (Fz := Fz) (M := (Mo v18 M)) hR
              replace LL := LL.trans Lq
              replace LR := LR.trans Lq
              replace hM := hM.mono Lq
              replace hF := hF.mono Lq
              replace h := h.mono Lq
              replace Ow := own_below Ow hR
              refine ops_load rfl flat43 rfl hc44 ?_
              exact ops_nil ⟨rfl, rb_refl _, _, rfl, rfl⟩
            apply drs_ex
            · intro wq hR hst
              refine obl_e rfl rfl ?_
              refine obl_done ?_
              have Lq := Le.of_below (Fz := Fz) (M := (Mo v18 M)) hR
              replace LL := LL.trans Lq
              replace LR := LR.trans Lq
              replace hM := hM.mono Lq
              replace hF := hF.mono Lq
              replace h := h.mono Lq
              replace Ow := own_below Ow hR
              refine ops_move rfl rfl ?_
              exact ops_nil ⟨rfl, rb_refl _, _, rfl, rfl⟩
            apply drs_ex
            · intro wq hR hst
              refine obl_e rfl rfl ?_
              refine obl_done ?_
              have Lq := Le.of_below (Fz := Fz) (M := (Mo v18 M)) hR
              replace LL := LL.trans Lq
              replace LR := LR.trans Lq
              replace hM := hM.mono Lq
              replace hF := hF.mono Lq
              replace h := h.mono Lq
              replace Ow := own_below Ow hR
              refine ops_move rfl rfl ?_
              exact ops_nil ⟨rfl, rb_refl _, _, rfl, rfl⟩
            apply drs_ex
            · intro wq hR hst
              refine obl_x rfl ?_
              refine obl_done ?_
              have Lq := Le.of_below (Fz := Fz) (M := (Mo v18 M)) hR
              replace LL := LL.trans Lq
              replace LR := LR.trans Lq
              replace hM := hM.mono Lq
              replace hF := hF.mono Lq
              replace h := h.mono Lq
              replace Ow := own_below Ow hR
              refine ops_add rfl rfl rfl (by omega) ?_
              exact ops_nil ⟨rfl, rb_refl _, _, rfl, rfl⟩
            apply drs_ptr
            · intro wq hR hst
              refine obl_x rfl ?_
              refine obl_x rfl ?_
              refine obl_done ?_
              have Lq := Le.of_below (Fz := Fz) (M := (Mo v18 M)) hR
              replace LL := LL.trans Lq
              replace LR := LR.trans Lq
              replace hM := hM.mono Lq
              replace hF := hF.mono Lq
              replace h := h.mono Lq
              replace Ow := own_below Ow hR
              refine ops_idxo (i + 1) rfl Try.underlying23 sz43 rfl rfl Ow (by omega) (by omega) (fun b49 cur49 cap49 B49 => ?_)
              have hc49 : wq.cell? ⟨b49, i + 1, none⟩ = some (lw (zs1.getD (i + 1) 0)) := by rw [B49.blk.cell]; exact B49.get (map_lw_get (by omega))
              exact ops_nil ⟨rfl, rb_refl _, _, rfl, ⟨_, _, rfl, hc49⟩⟩
            apply drs_ex
            · intro wq hR hst
              refine obl_g rfl (fun v49 hp49 => ?_)
              obtain ⟨b49, o49, rfl, hc49⟩ := hp49
              refine obl_done ?_
              have Lq := Le.of_below (Fz := Fz) (M := (Mo v18 M)) hR
              replace LL := LL.trans Lq
              replace LR := LR.trans Lq
              replace hM := hM.mono Lq
              replace hF := hF.mono Lq
              replace h := h.mono Lq
              replace Ow := own_below Ow hR
              refine ops_load rfl flat43 rfl hc49 ?_
              exact ops_nil ⟨rfl, rb_refl _, _, rfl, rfl⟩
            apply drs_ex
            · intro wq hR hst
              refine obl_e rfl rfl ?_
              refine obl_done ?_
              have Lq := Le.of_below (Fz := Fz) (M := (Mo v18 M)) hR
              replace LL := LL.trans Lq
              replace LR := LR.trans Lq
              replace hM := hM.mono Lq
              replace hF := hF.mono Lq
              replace h := h.mono Lq
              replace Ow := own_below Ow hR
              refine ops_move rfl rfl ?_
              exact ops_nil ⟨rfl, rb_refl _, _, rfl, rfl⟩
            apply drs_ex
            · intro wq hR hst
              refine obl_x rfl ?_
              refine obl_done ?_
              have Lq := Le.of_below (Fz := Fz) (M := (Mo v18 M)) hR
              replace LL := LL.trans Lq
              replace LR := LR.trans Lq
              replace hM := hM.mono Lq
              replace hF := hF.mono Lq
              replace h := h.mono Lq
              replace Ow := own_below Ow hR
              refine ops_rem rfl rfl rfl (by omega) ?_
              exact ops_nil ⟨rfl, rb_refl _, _, rfl, rfl⟩
            apply drs_ex
            · intro wq hR hst
              refine obl_x rfl ?_
              refine obl_done ?_
              have Lq := Le.of_below (Fz := Fz) (M := (Mo v18 M)) hR
              replace LL := LL.trans Lq
              replace LR := LR.trans Lq
              replace hM := hM.mono Lq
              replace hF := hF.mono Lq
              replace h := h.mono Lq
              replace Ow := own_below Ow hR
              refine ops_sub rfl rfl rfl (by omega) ?_
              exact ops_nil ⟨rfl, rb_refl _, _, rfl, rfl⟩
            apply drs_ex
            · intro wq hR hst
              refine obl_x rfl ?_
              refine obl_x rfl ?_
              refine obl_done ?_
              have Lq := Le.of_below (Fz := Fz) (M := (Mo v18 M)) hR
              replace LL := LL.trans Lq
              replace LR := LR.trans Lq
              replace hM := hM.mono Lq
              replace hF := hF.mono Lq
              replace h := h.mono Lq
              replace Ow := own_below Ow hR
              refine ops_shlu (a := zs1.getD (i + 1) 0) (m := 4294967296) rfl rfl rfl (by simp only [IntKind.bits]; omega) rfl (.inr rfl) ?_
              rw [show Int.toNat (32 - (q : Int) % 32) = 32 - q % 32 by omega]
              exact ops_nil ⟨rfl, rb_refl _, _, rfl, rfl⟩
            refine drs_nil (fun wq10 hR10 hpost10 => ?_)
            refine obl_e rfl rfl ?_
            refine obl_e rfl rfl ?_
            refine obl_e rfl rfl ?_
            refine obl_e rfl rfl ?_
            refine obl_e rfl rfl ?_
            refine obl_e rfl rfl ?_
            refine obl_e rfl rfl ?_
            refine obl_e rfl rfl ?_
            refine obl_e rfl rfl ?_
            refine obl_e rfl rfl ?_
            refine obl_e rfl rfl ?_
            refine obl_e rfl rfl ?_
            refine obl_e rfl rfl ?_
            refine obl_e rfl rfl ?_
            refine obl_e rfl rfl ?_
            refine obl_e rfl rfl ?_
            refine obl_e rfl rfl ?_
            refine obl_e rfl rfl ?_
            refine obl_e rfl rfl ?_
            refine obl_e rfl rfl ?_
            refine obl_e rfl rfl ?_
            refine obl_e rfl rfl ?_
            refine obl_e rfl rfl ?_
            refine obl_e rfl rfl ?_
            refine obl_e rfl rfl ?_
            refine obl_x rfl ?_
            refine obl_x rfl ?_
            refine obl_g rfl (fun v44 hp44 => ?_)
            obtain ⟨b44, o44, rfl, hc44⟩ := hp44
            refine obl_x rfl ?_
            refine obl_x rfl ?_
            refine obl_x rfl ?_
            refine obl_x rfl ?_
            refine obl_g rfl (fun v49 hp49 => ?_)
            obtain ⟨b49, o49, rfl, hc49⟩ := hp49
            refine obl_x rfl ?_
            refine obl_x rfl ?_
            refine obl_x rfl ?_
            refine obl_x rfl ?_
            refine obl_x rfl ?_
            refine obl_done ?_
            simp only [List.drop_succ_cons, List.drop_zero, List.drop_nil, List.toList_toArray]
            have Lwq10 := Le.of_below (Fz := Fz) (M := (Mo v18 M)) hR10
            replace LL := LL.trans Lwq10
            replace LR := LR.trans Lwq10
            replace hM := hM.mono Lwq10
            replace hF := hF.mono Lwq10
            replace h := h.mono Lwq10
            replace Ow := own_below Ow hR10
            refine ops_oru (a := zs1.getD i 0) (b := zs1.getD (i + 1) 0 * 2 ^ (32 - q % 32) % 4294967296) rfl rfl rfl (by simp only [IntKind.bits]; omega) (by simp only [IntKind.bits]; omega) (.inr rfl) ?_
            refine ops_idxo (i) rfl Try.underlying23 sz43 rfl rfl Ow (by omega) (by omega) (fun b56 cur56 cap56 B56 => ?_)
            have hc56 : wq10.cell? ⟨b56, i, none⟩ = some (lw (zs1.getD (i) 0)) := by rw [B56.blk.cell]; exact B56.get (map_lw_get (by omega))
            refine ops_store rfl rfl sz43 B56.blk rfl (by have := B56.len; have := B56.le; omega) (by simp [Value.cells, Value.oneCell']) (fun w5 Cw5 BN => ?_)
            have Lw5 := Le.of_chg (Fz := Fz) (M := (Mo v18 M)) Cw5 (.inl B56.own) (Of b56 B56.own)
            replace LL := LL.trans Lw5
            replace LR := LR.trans Lw5
            replace hM := hM.mono Lw5
            replace hF := hF.mono Lw5
            replace h := h.mono Lw5
            have Ow2 := B56.set (by omega) BN
            replace Ow2 : World.ownsRow w5 0 43 1 v18 (zs1.set (i) (zs1.getD i 0 ||| zs1.getD (i + 1) 0 * 2 ^ (32 - q % 32) % 4294967296)).length ((zs1.set (i) (zs1.getD i 0 ||| zs1.getD (i + 1) 0 * 2 ^ (32 - q % 32) % 4294967296)).map lw) := by rw [List.length_set, List.map_set]; exact Ow2
            clear Ow; have Ow := Ow2; clear Ow2 BN
            refine ops_nil ?_
            refine SL.wp_region ?_
            refine ops_add rfl rfl rfl (by omega) ?_
            refine ops_move rfl rfl ?_
            refine ops_nil ?_
            refine ⟨rfl, i + 1, (sub_cons' rfl (by rw [Int.natCast_add]; rfl) (sub_cons rfl (sub_cons rfl (sub_cons rfl sub_nil)))), ?_, ?_⟩
            have hd2 := drop_val (xs := xs) (s := q / 32 + i + 1) (by omega)
            have hev : (zs1.getD i 0 ||| zs1.getD (i + 1) 0 * 2 ^ (32 - q % 32) % 4294967296) = val (xs.drop (q / 32 + i)) / 2 ^ (q % 32) % 4294967296 := by rw [e2, e3, hd1, hd2, down_limb (by omega), down_or hbx (by omega) (by omega)]
            have hin := down_in (r := q % 32) (e := (zs1.getD i 0 ||| zs1.getD (i + 1) 0 * 2 ^ (32 - q % 32) % 4294967296)) hil (by omega) h.lt hzd hzv hev
            exact ⟨LR, by omega, zs.set i ((zs1.getD i 0 ||| zs1.getD (i + 1) 0 * 2 ^ (32 - q % 32) % 4294967296)), by rw [hz1, List.set_set] at Ow; rw [hz1]; exact Ow, by simp [hzl], set_lt hzlt (by rw [hev]; exact Nat.mod_lt _ (by omega)), hin.1, hin.2⟩
            omega
      · refine SL.wp_exit ?_
        refine upd_hit ?_
        refine SL.wp_seq ?_
        refine SL.wp_region ?_
        refine ops_move rfl rfl ?_
        refine ops_callv rfl bod25 rfl rfl ?_
        refine (trim_c (M := M) (xs := zs) ⟨own_slc Ow (fun k hk c => Om k hk c) (by omega), hzlt⟩ (by omega) (fun k hk => hM k (.inr hk))).mono ?_
        rintro v59 w6 ⟨hB59, hf59⟩
        have hS59 := LL.size
        have Lw6 := Le.of_below (Fz := Fz) (M := (Mo v18 M)) hB59
        replace LL := LL.trans Lw6
        replace LR := LR.trans Lw6
        replace hM := hM.mono Lw6
        replace hF := hF.mono Lw6
        replace h := h.mono Lw6
        replace Ow := own_below Ow hB59
        replace hf59 := hf59.less hS59
        refine ops_assign rfl rfl ?_
        refine ops_nil ?_
        refine SL.wp_ret ?_
        refine leave_nil ⟨[_], ⟨rfl, trivial⟩, ?_⟩
        dsimp only [resVal]
        subst hFz
        have hd0 : val (xs.drop (q / 32 + i)) = 0 := by rw [List.drop_of_length_le (by omega)]; rfl
        rw [hd0, Nat.zero_div, Nat.mul_zero, Nat.add_zero, down_end h.lt, List.take_of_length_le (by omega)] at hzv
        rw [hzv] at hf59
        exact ⟨LL.below (Nat.le_refl _), hf59⟩

end Go.Proofs.Ytffakiheophioaa
