import Derived.Test.YtffakiheophioaaW15
import Derived.Test.YtffakiheophioaaSLp
import Derived.Test.YtffakiheophioaaSLo
import Derived.Test.YtffakiheophioaaSLn
set_option linter.unusedVariables false
set_option linter.unusedSimpArgs false
set_option maxRecDepth 100000
namespace Go.Proofs.Ytffakiheophioaa
open Go.SL Go.RowKit Go.Proofs

theorem mul1_all : ∀ (K : Nat), K ≤ 1000000 → Mul1P K := by
  intro K
  induction K using Nat.strongRecOn with
  | ind K ih =>
    intro hK M w b v u xs ys B2 n2 h1 h2 hl hM
    exact mul1_step hK (fun k hk => ih k hk (by omega)) B2 n2 h1 h2 hl hM
theorem mul_c {M : Nat → Prop} {w : World} {v u : Value} {xs ys : List Nat} (h1 : IsNat M w v xs) (h2 : IsNat M w u ys) (hl1 : xs.length ≤ 1000000) (hl2 : ys.length ≤ 1000000) (hM : OkM M w) :
    CallsV Try.prog 36 [v, u] w fun r w' => Below w.heap.size w w' ∧ Fresh 43 w w' r (limbs (val xs * val ys)) := by
  obtain ⟨Fz, hFz⟩ : ∃ Fz : Nat → Prop, Fz = (· < w.heap.size) := ⟨_, rfl⟩
  have hF : FOk Fz w := by subst hFz; exact fun _ h => h
  have hx := limbs_val_length_le xs h1.lt; have hy := limbs_val_length_le ys h2.lt
  have LL := Le.refl Fz M w; have hM0 := hM
  refine calls_intro Try.func36 rfl Try.ntmps36 rfl ?_
  refine SL.wp_seq ?_
  refine SL.wp_region ?_
  refine ops_assign rfl rfl ?_
  refine ops_nil ?_
  refine SL.wp_seq ?_
  refine SL.wp_region ?_
  refine ops_alloc rfl sz45 (fun w1 b5 N5 => ?_)
  have hBw1 := N5.below
  have nF5 := hF.new N5; have nM5 := hM.new N5
  have Lw1 := Le.of_new (Fz := Fz) (M := M) N5
  replace LL := LL.trans Lw1
  replace hM := hM.mono Lw1
  replace hF := hF.mono Lw1
  replace h1 := h1.mono Lw1
  replace h2 := h2.mono Lw1
  have B5 := N5.blk
  refine ops_nil ?_
  refine SL.wp_seq ?_
  refine SL.wp_region ?_
  refine ops_makeFunc rfl rfl ?_
  refine ops_store1 rfl rfl sz45 B5 (by first | rfl | exact own_one (by assumption) | exact nat_one (by assumption)) (fun w2 Cw2 Bw2 => ?_)
  have Lw2 := Le.of_chg (Fz := Fz) (M := (Ins b5 M)) Cw2 ins_here nF5
  replace LL := LL.trans Lw2
  replace hM := hM.mono Lw2
  replace hF := hF.mono Lw2
  replace h1 := h1.mono Lw2
  replace h2 := h2.mono Lw2
  clear B5; have B5 := Bw2; clear Bw2
  refine ops_nil ?_
  refine SL.wp_seq ?_
  refine SL.wp_draw (R := Rb) (R' := Rb) (st := none) mixed 5 [4, 7, 9, 11] (by decide +kernel) rb_trans rb_self (rb_drew _) (fun _ _ _ h => by cases h) ?_
  apply drs_ex
  · intro wq hR hst
    refine obl_e rfl rfl ?_
    refine obl_done ?_
    have Lq := Le.of_below (Fz := Fz) (M := (Ins b5 M)) hR
    replace LL := LL.trans Lq
    replace hM := hM.mono Lq
    replace hF := hF.mono Lq
    replace h1 := h1.mono Lq
    replace h2 := h2.mono Lq
    replace B5 := B5.below hR
    refine ops_loadb rfl flat45 rfl B5 rfl ?_
    exact ops_nil ⟨rfl, rb_refl _, _, rfl, rfl⟩
  apply drs_ex
  · intro wq hR hst
    refine obl_e rfl rfl ?_
    refine obl_done ?_
    have Lq := Le.of_below (Fz := Fz) (M := (Ins b5 M)) hR
    replace LL := LL.trans Lq
    replace hM := hM.mono Lq
    replace hF := hF.mono Lq
    replace h1 := h1.mono Lq
    replace h2 := h2.mono Lq
    replace B5 := B5.below hR
    refine ops_move rfl rfl ?_
    exact ops_nil ⟨rfl, rb_refl _, _, rfl, rfl⟩
  refine drs_val (fun v w => IsNat (Ins b5 M) w v (limbs (val xs))) nat_mono (fun wq hR hst => ?_) ?_
  · refine obl_x rfl ?_
    refine obl_done ?_
    have Lq := Le.of_below (Fz := Fz) (M := (Ins b5 M)) hR
    replace LL := LL.trans Lq
    replace hM := hM.mono Lq
    replace hF := hF.mono Lq
    replace h1 := h1.mono Lq
    replace h2 := h2.mono Lq
    replace B5 := B5.below hR
    refine ops_callv rfl bod25 rfl rfl ?_
    refine (trim_c (M := (Ins b5 M)) (by assumption) (by omega) hM).mono ?_
    rintro v9 w3 ⟨hB9, hf9⟩
    have hM9 := hM; have hS9 := LL.size
    have Lw3 := Le.of_below (Fz := Fz) (M := (Ins b5 M)) hB9
    replace LL := LL.trans Lw3
    replace hM := hM.mono Lw3
    replace hF := hF.mono Lw3
    replace h1 := h1.mono Lw3
    replace h2 := h2.mono Lw3
    replace B5 := B5.below hB9
    have hn9 := hf9.nat hM9; replace hf9 := hf9.less hS9
    exact ops_nil ⟨rfl, hB9, _, rfl, by assumption⟩
  apply drs_ex
  · intro wq hR hst
    refine obl_e rfl rfl ?_
    refine obl_done ?_
    have Lq := Le.of_below (Fz := Fz) (M := (Ins b5 M)) hR
    replace LL := LL.trans Lq
    replace hM := hM.mono Lq
    replace hF := hF.mono Lq
    replace h1 := h1.mono Lq
    replace h2 := h2.mono Lq
    replace B5 := B5.below hR
    refine ops_move rfl rfl ?_
    exact ops_nil ⟨rfl, rb_refl _, _, rfl, rfl⟩
  refine drs_val (fun v w => IsNat (Ins b5 M) w v (limbs (val ys))) nat_mono (fun wq hR hst => ?_) ?_
  · refine obl_x rfl ?_
    refine obl_done ?_
    have Lq := Le.of_below (Fz := Fz) (M := (Ins b5 M)) hR
    replace LL := LL.trans Lq
    replace hM := hM.mono Lq
    replace hF := hF.mono Lq
    replace h1 := h1.mono Lq
    replace h2 := h2.mono Lq
    replace B5 := B5.below hR
    refine ops_callv rfl bod25 rfl rfl ?_
    refine (trim_c (M := (Ins b5 M)) (by assumption) (by omega) hM).mono ?_
    rintro v11 w4 ⟨hB11, hf11⟩
    have hM11 := hM; have hS11 := LL.size
    have Lw4 := Le.of_below (Fz := Fz) (M := (Ins b5 M)) hB11
    replace LL := LL.trans Lw4
    replace hM := hM.mono Lw4
    replace hF := hF.mono Lw4
    replace h1 := h1.mono Lw4
    replace h2 := h2.mono Lw4
    replace B5 := B5.below hB11
    have hn11 := hf11.nat hM11; replace hf11 := hf11.less hS11
    exact ops_nil ⟨rfl, hB11, _, rfl, by assumption⟩
  refine drs_nil (fun wq3 hR3 hpost3 => ?_)
  refine obl_e rfl rfl ?_
  refine obl_x rfl ?_
  refine obl_g rfl (fun v9 hn9 => ?_)
  refine obl_g rfl (fun v11 hn11 => ?_)
  refine obl_done ?_
  simp only [List.drop_succ_cons, List.drop_zero, List.drop_nil, List.toList_toArray]
  have Lwq3 := Le.of_below (Fz := Fz) (M := (Ins b5 M)) hR3
  replace LL := LL.trans Lwq3
  replace hM := hM.mono Lwq3
  replace hF := hF.mono Lwq3
  replace h1 := h1.mono Lwq3
  replace h2 := h2.mono Lwq3
  replace B5 := B5.below hR3
  refine ops_callv rfl bod62 rfl rfl ?_
  refine (mul1_all 1000000 (Nat.le_refl _) M _ b5 _ _ (limbs (val xs)) (limbs (val ys)) B5 (fun c => nM5 c) (hn9.less fun k c => ins_there c) (hn11.less fun k c => ins_there c) (by omega) (fun k hk => hM k (ins_there hk))).mono ?_
  rintro v12 w5 ⟨hB12, hf12⟩
  have hM12 := hM; have hS12 := LL.size
  have Lw5 := Le.of_below (Fz := Fz) (M := (Ins b5 M)) hB12
  replace LL := LL.trans Lw5
  replace hM := hM.mono Lw5
  replace hF := hF.mono Lw5
  replace h1 := h1.mono Lw5
  replace h2 := h2.mono Lw5
  replace hn9 := hn9.mono Lw5
  replace hn11 := hn11.mono Lw5
  replace B5 := B5.below hB12
  have hn12 := hf12.nat hM12; replace hf12 := hf12.less hS12
  refine ops_assign rfl rfl ?_
  refine ops_nil ?_
  refine SL.wp_ret ?_
  refine leave_nil ⟨[_], ⟨rfl, trivial⟩, ?_⟩
  dsimp only [resVal]
  subst hFz
  simp only [val_limbs] at hf12
  exact ⟨LL.below (Nat.le_refl _), hf12⟩


theorem by_c {M : Nat → Prop} {w : World} {v : Value} {xs : List Nat} {n : Nat} (h : IsNat M w v xs) (hn : n < 4294967296) (hl : xs.length ≤ 100000000) (hM : OkM M w) :
    CallsV Try.prog 42 [v, .int .u32 (n : Int)] w fun r w' => Below w.heap.size w w' ∧ Fresh 43 w w' r (limbs (val xs * n)) := by
  obtain ⟨Fz, hFz⟩ : ∃ Fz : Nat → Prop, Fz = (· < w.heap.size) := ⟨_, rfl⟩
  have hF : FOk Fz w := by subst hFz; exact fun _ h => h
  have LL := Le.refl Fz M w; have hM0 := hM
  refine calls_intro Try.func42 rfl Try.ntmps42 rfl ?_
  refine SL.wp_seq ?_
  refine SL.wp_region ?_
  refine ops_assign rfl rfl ?_
  refine ops_nil ?_
  refine SL.wp_seq ?_
  refine SL.wp_region ?_
  refine ops_move rfl rfl ?_
  refine ops_move rfl rfl ?_
  refine ops_buildSlice rfl Try.underlying23 sz43 rfl rfl rfl (by simp [Value.oneCell']) rfl (fun w1 b7 N7 => ?_)
  have hBw1 := N7.below
  have nM7 := hM.new N7; have B7 := N7.blk
  have Lw1 := Le.of_below (Fz := Fz) (M := M) hBw1
  replace LL := LL.trans Lw1
  replace hM := hM.mono Lw1
  replace hF := hF.mono Lw1
  replace h := h.mono Lw1
  have hn7 : IsNat M w1 (.slice (some ⟨b7, 0, none⟩) 1 1) [n] := blk_nat (xs := [n]) B7 nM7 rfl (by simp) (by simpa using hn)
  refine ops_callv rfl bod63 rfl rfl ?_
  refine (plain_c (M := M) h hn7 (by omega) (by simp) hM).mono ?_
  rintro v8 w2 ⟨hB8, hf8⟩
  have hM8 := hM; have hS8 := LL.size
  have Lw2 := Le.of_below (Fz := Fz) (M := M) hB8
  replace LL := LL.trans Lw2
  replace hM := hM.mono Lw2
  replace hF := hF.mono Lw2
  replace h := h.mono Lw2
  replace hn7 := hn7.mono Lw2
  have hn8 := hf8.nat hM8; replace hf8 := hf8.less hS8
  refine ops_assign rfl rfl ?_
  refine ops_nil ?_
  refine SL.wp_ret ?_
  refine leave_nil ⟨[_], ⟨rfl, trivial⟩, ?_⟩
  dsimp only [resVal]
  subst hFz
  rw [show val [n] = n by simp [val]] at hf8
  exact ⟨LL.below (Nat.le_refl _), hf8⟩


theorem all_c {M : Nat → Prop} {w : World} {v : Value} {xss : List (List Nat)} (h : IsNats M w v xss) {L : Nat} (hL : L ≤ 1000) (hl : ∀ xs ∈ xss, xs.length ≤ L) (hn : xss.length ≤ 900) (hM : OkM M w) :
    CallsV Try.prog 39 [v] w fun r w' => Below w.heap.size w w' ∧ IsNat M w' r (limbs (prodN (xss.map val))) := by
  obtain ⟨Fz, hFz⟩ : ∃ Fz : Nat → Prop, Fz = (· < w.heap.size) := ⟨_, rfl⟩
  have hF : FOk Fz w := by subst hFz; exact fun _ h => h
  have LL := Le.refl Fz M w; have hM0 := hM
  refine calls_intro Try.func39 rfl Try.ntmps39 rfl ?_
  refine SL.wp_seq ?_
  refine SL.wp_region ?_
  refine ops_assign rfl rfl ?_
  refine ops_nil ?_
  refine SL.wp_seq ?_
  refine SL.wp_region ?_
  refine ops_buildSlice rfl Try.underlying23 sz43 rfl rfl rfl (by simp [Value.oneCell', lw]) rfl (fun w1 b6 N6 => ?_)
  have hBw1 := N6.below
  have nM6 := hM.new N6; have B6 := N6.blk
  have Lw1 := Le.of_below (Fz := Fz) (M := M) hBw1
  replace LL := LL.trans Lw1
  replace hM := hM.mono Lw1
  replace hF := hF.mono Lw1
  replace h := h.mono Lw1
  have hn6 : IsNat M w1 (.slice (some ⟨b6, 0, none⟩) 1 1) [1] := blk_nat (xs := [1]) B6 nM6 rfl (by simp) (by simp)
  refine ops_assign rfl rfl ?_
  refine ops_nil ?_
  refine SL.wp_seq ?_
  refine SL.wp_seq ?_
  refine SL.wp_region ?_
  refine ops_move rfl rfl ?_
  first | refine ops_len rfl Try.underlying24 rfl ?_ | refine ops_lens rfl Try.underlying24 rfl (IsNat.slc (by assumption)) ?_ | refine ops_lenn rfl Try.underlying24 rfl (by assumption) ?_ | refine ops_leno rfl Try.underlying24 rfl (by assumption) ?_
  refine ops_move rfl rfl ?_
  refine ops_nil ?_
  refine SL.wp_block ?_
  refine SL.wp_loopc (σ := Nat × Value) [(7, _), (8, _)] (fun s => [(3, s.2), (9, .int .i64 ((s.1 : Nat) : Int))]) (fun s w2 => Le Fz M w1 M w2 ∧ s.1 ≤ xss.length ∧ IsNat M w2 s.2 (limbs (prodN ((xss.map val).take s.1))) ∧ (limbs (prodN ((xss.map val).take s.1))).length ≤ 1 + L * s.1) (fun s => xss.length - s.1) ((0, _)) (sub_cons rfl (sub_cons rfl (sub_cons rfl (sub_cons rfl sub_nil)))) ?_ (fun s w2 hJ => ?_)
  · dsimp only
    exact ⟨Le.refl _ _ _, by omega, by simpa [prodN, one_limbs] using hn6, by simp [prodN, one_limbs]⟩
  · obtain ⟨k, u⟩ := s
    dsimp only at hJ ⊢
    obtain ⟨LR, hk, hy, hyl⟩ := hJ
    have hLk : L * k ≤ 1000 * k := Nat.mul_le_mul_right _ hL
    have hLs : L * (k + 1) = L * k + L := Nat.mul_succ _ _
    have hq6 : (xss.getD k []).length ≤ L := by
      rcases Nat.lt_or_ge k xss.length with h | h
      · exact hl _ (by simp [List.getElem?_eq_getElem h])
      · simp [List.getElem?_eq_none h]
    have hyl2 : (limbs (prodN ((xss.map val).take k))).length ≤ 1 + L * k := hyl
    replace LL := LL.trans LR
    replace hM := hM.mono LR
    replace hF := hF.mono LR
    replace h := h.mono LR
    replace hn6 := hn6.mono LR
    refine SL.wp_seq ?_
    refine SL.wp_region ?_
    refine ops_lt rfl rfl rfl ?_
    refine ops_nil ?_
    refine SL.wp_seq ?_
    refine SL.wp_cond_d rfl (fun hc0 => ?_) (fun hc0 => ?_)
    · refine SL.wp_skip ?_
      refine SL.wp_seq ?_
      refine SL.wp_block ?_
      refine SL.wp_seq ?_
      refine SL.wp_region ?_
      refine ops_idxs (k) rfl Try.underlying24 sz23 rfl rfl (by assumption) (by omega) (by omega) (fun b11 o11 u11 hc11 hu11 => ?_)
      refine ops_load rfl flat23 rfl hc11 ?_
      refine ops_assign rfl rfl ?_
      refine ops_nil ?_
      refine SL.wp_region ?_
      refine ops_move rfl rfl ?_
      refine ops_move rfl rfl ?_
      refine ops_callv rfl bod36 rfl rfl ?_
      refine (mul_c (M := M) (by assumption) (by assumption) (by omega) (by omega) hM).mono ?_
      rintro v15 w3 ⟨hB15, hf15⟩
      have hM15 := hM; have hS15 := LL.size
      have Lw3 := Le.of_below (Fz := Fz) (M := M) hB15
      replace LL := LL.trans Lw3
      replace LR := LR.trans Lw3
      replace hM := hM.mono Lw3
      replace hF := hF.mono Lw3
      replace h := h.mono Lw3
      replace hn6 := hn6.mono Lw3
      replace hy := hy.mono Lw3
      replace hu11 := hu11.mono Lw3
      have hn15 := hf15.nat hM15; replace hf15 := hf15.less hS15
      refine ops_assign rfl rfl ?_
      refine ops_nil ?_
      refine SL.wp_region ?_
      refine ops_add rfl rfl rfl (by omega) ?_
      refine ops_move rfl rfl ?_
      refine ops_nil ?_
      refine ⟨rfl, (k + 1, v15), (sub_cons' rfl (rfl) (sub_cons' rfl (by rw [Int.natCast_add]; rfl) (sub_cons rfl (sub_cons rfl sub_nil)))), ?_, ?_⟩
      dsimp only
      have hlm : (limbs (val (limbs (prodN ((xss.map val).take k))) * val (xss.getD k []))).length ≤ (1 + L * k) + L := mul_len (val_lt_pow (limbs_lt _) hyl) (val_lt_pow hu11.lt hq6)
      rw [val_limbs, ← prodN_take (by omega)] at hlm hn15
      exact ⟨LR, by omega, hn15, by omega⟩
      dsimp only
      omega
    · refine SL.wp_exit ?_
      refine upd_hit ?_
      refine SL.wp_seq ?_
      refine SL.wp_region ?_
      refine ops_move rfl rfl ?_
      refine ops_assign rfl rfl ?_
      refine ops_nil ?_
      refine SL.wp_ret ?_
      refine leave_nil ⟨[_], ⟨rfl, trivial⟩, ?_⟩
      dsimp only [resVal]
      subst hFz
      obtain rfl : k = xss.length := by omega
      rw [List.take_of_length_le (by simp)] at hy
      exact ⟨LL.below (Nat.le_refl _), hy⟩


theorem len32_c {M : Nat → Prop} {w : World} {x : Nat} (hx : x < 4294967296) (hM : OkM M w) :
    CallsV Try.prog 61 [.int .u32 (x : Int)] w fun r w' => Below w.heap.size w w' ∧ r = .int .i64 ((bitsN x : Nat) : Int) := by
  obtain ⟨Fz, hFz⟩ : ∃ Fz : Nat → Prop, Fz = (· < w.heap.size) := ⟨_, rfl⟩
  have hF : FOk Fz w := by subst hFz; exact fun _ h => h
  have LL := Le.refl Fz M w; have hM0 := hM
  refine calls_intro Try.func61 rfl Try.ntmps61 rfl ?_
  refine SL.wp_seq ?_
  refine SL.wp_region ?_
  refine ops_assign rfl rfl ?_
  refine ops_nil ?_
  refine SL.wp_seq ?_
  refine SL.wp_seq ?_
  refine SL.wp_region ?_
  refine ops_move rfl rfl ?_
  refine ops_ge rfl rfl rfl ?_
  refine ops_nil ?_
  refine SL.wp_cond_d rfl (fun hc0 => ?_) (fun hc0 => ?_)
  · refine SL.wp_seq ?_
    refine SL.wp_region ?_
    refine ops_move rfl rfl ?_
    refine ops_shru rfl rfl rfl (by simp only [IntKind.bits]; omega) ?_
    rw [show (2 ^ Int.toNat 16 : Nat) = 65536 from rfl]
    refine ops_assign rfl rfl ?_
    refine ops_nil ?_
    refine SL.wp_region ?_
    refine ops_assign rfl rfl ?_
    refine ops_nil ?_
    refine SL.wp_seq ?_
    refine SL.wp_seq ?_
    refine SL.wp_region ?_
    refine ops_move rfl rfl ?_
    refine ops_ge rfl rfl rfl ?_
    refine ops_nil ?_
    refine SL.wp_cond_d rfl (fun hc1 => ?_) (fun hc1 => ?_)
    · refine SL.wp_seq ?_
      refine SL.wp_region ?_
      refine ops_move rfl rfl ?_
      refine ops_shru rfl rfl rfl (by simp only [IntKind.bits]; omega) ?_
      rw [show (2 ^ Int.toNat 8 : Nat) = 256 from rfl]
      refine ops_assign rfl rfl ?_
      refine ops_nil ?_
      refine SL.wp_region ?_
      refine ops_move rfl rfl ?_
      refine ops_add rfl rfl rfl (by omega) ?_
      refine ops_assign rfl rfl ?_
      refine ops_nil ?_
      refine SL.wp_seq ?_
      refine SL.wp_region ?_
      refine ops_move rfl rfl ?_
      refine ops_move rfl rfl ?_
      refine ops_to8 rfl Try.underlying43 Try.underlying5 rfl (by omega) ?_
      refine ops_len8 rfl Try.underlying9 rfl (by decide +kernel) rfl (by omega) (fun hbw => ?_)
      refine ops_toi rfl Try.underlying5 Try.underlying3 rfl (by omega) ?_
      refine ops_add rfl rfl rfl (by omega) ?_
      refine ops_assign rfl rfl ?_
      refine ops_nil ?_
      refine SL.wp_ret ?_
      refine leave_nil ⟨[_], ⟨rfl, trivial⟩, ?_⟩
      dsimp only [resVal]
      subst hFz
      have e1 := bitsN_div (x := x) (k := 16) (by omega)
      rw [show (2 : Nat) ^ 16 = 65536 from rfl] at e1
      have e2 := bitsN_div (x := x / 65536) (k := 8) (by omega)
      rw [show (2 : Nat) ^ 8 = 256 from rfl] at e2
      exact ⟨LL.below (Nat.le_refl _), by congr 1; omega⟩
    · refine SL.wp_skip ?_
      refine SL.wp_seq ?_
      refine SL.wp_region ?_
      refine ops_move rfl rfl ?_
      refine ops_move rfl rfl ?_
      refine ops_to8 rfl Try.underlying43 Try.underlying5 rfl (by omega) ?_
      refine ops_len8 rfl Try.underlying9 rfl (by decide +kernel) rfl (by omega) (fun hbw => ?_)
      refine ops_toi rfl Try.underlying5 Try.underlying3 rfl (by omega) ?_
      refine ops_add rfl rfl rfl (by omega) ?_
      refine ops_assign rfl rfl ?_
      refine ops_nil ?_
      refine SL.wp_ret ?_
      refine leave_nil ⟨[_], ⟨rfl, trivial⟩, ?_⟩
      dsimp only [resVal]
      subst hFz
      have e1 := bitsN_div (x := x) (k := 16) (by omega)
      rw [show (2 : Nat) ^ 16 = 65536 from rfl] at e1
      exact ⟨LL.below (Nat.le_refl _), by congr 1; omega⟩
  · refine SL.wp_skip ?_
    refine SL.wp_seq ?_
    refine SL.wp_seq ?_
    refine SL.wp_region ?_
    refine ops_move rfl rfl ?_
    refine ops_ge rfl rfl rfl ?_
    refine ops_nil ?_
    refine SL.wp_cond_d rfl (fun hc2 => ?_) (fun hc2 => ?_)
    · refine SL.wp_seq ?_
      refine SL.wp_region ?_
      refine ops_move rfl rfl ?_
      refine ops_shru rfl rfl rfl (by simp only [IntKind.bits]; omega) ?_
      rw [show (2 ^ Int.toNat 8 : Nat) = 256 from rfl]
      refine ops_assign rfl rfl ?_
      refine ops_nil ?_
      refine SL.wp_region ?_
      refine ops_move rfl rfl ?_
      refine ops_add rfl rfl rfl (by omega) ?_
      refine ops_assign rfl rfl ?_
      refine ops_nil ?_
      refine SL.wp_seq ?_
      refine SL.wp_region ?_
      refine ops_move rfl rfl ?_
      refine ops_move rfl rfl ?_
      refine ops_to8 rfl Try.underlying43 Try.underlying5 rfl (by omega) ?_
      refine ops_len8 rfl Try.underlying9 rfl (by decide +kernel) rfl (by omega) (fun hbw => ?_)
      refine ops_toi rfl Try.underlying5 Try.underlying3 rfl (by omega) ?_
      refine ops_add rfl rfl rfl (by omega) ?_
      refine ops_assign rfl rfl ?_
      refine ops_nil ?_
      refine SL.wp_ret ?_
      refine leave_nil ⟨[_], ⟨rfl, trivial⟩, ?_⟩
      dsimp only [resVal]
      subst hFz
      have e2 := bitsN_div (x := x) (k := 8) (by omega)
      rw [show (2 : Nat) ^ 8 = 256 from rfl] at e2
      exact ⟨LL.below (Nat.le_refl _), by congr 1; omega⟩
    · refine SL.wp_skip ?_
      refine SL.wp_seq ?_
      refine SL.wp_region ?_
      refine ops_move rfl rfl ?_
      refine ops_move rfl rfl ?_
      refine ops_to8 rfl Try.underlying43 Try.underlying5 rfl (by omega) ?_
      refine ops_len8 rfl Try.underlying9 rfl (by decide +kernel) rfl (by omega) (fun hbw => ?_)
      refine ops_toi rfl Try.underlying5 Try.underlying3 rfl (by omega) ?_
      refine ops_add rfl rfl rfl (by omega) ?_
      refine ops_assign rfl rfl ?_
      refine ops_nil ?_
      refine SL.wp_ret ?_
      refine leave_nil ⟨[_], ⟨rfl, trivial⟩, ?_⟩
      dsimp only [resVal]
      subst hFz
      exact ⟨LL.below (Nat.le_refl _), by congr 1; omega⟩


theorem bits_c {M : Nat → Prop} {w : World} {v : Value} {xs : List Nat} (h : IsNat M w v xs) (hl : xs.length ≤ 100000000) (hM : OkM M w) :
    CallsV Try.prog 35 [v] w fun r w' => Below w.heap.size w w' ∧ r = .int .i64 ((bitsN (val xs) : Nat) : Int) := by
  obtain ⟨Fz, hFz⟩ : ∃ Fz : Nat → Prop, Fz = (· < w.heap.size) := ⟨_, rfl⟩
  have hF : FOk Fz w := by subst hFz; exact fun _ h => h
  have hln := limbs_val_length_le xs h.lt
  have LL := Le.refl Fz M w; have hM0 := hM
  refine calls_intro Try.func35 rfl Try.ntmps35 rfl ?_
  refine SL.wp_seq ?_
  refine SL.wp_region ?_
  refine ops_assign rfl rfl ?_
  refine ops_nil ?_
  refine SL.wp_seq ?_
  refine SL.wp_region ?_
  refine ops_move rfl rfl ?_
  refine ops_callv rfl bod25 rfl rfl ?_
  refine (trim_c (M := M) (by assumption) (by omega) hM).mono ?_
  rintro v4 w1 ⟨hB4, hf4⟩
  have hM4 := hM; have hS4 := LL.size
  have Lw1 := Le.of_below (Fz := Fz) (M := M) hB4
  replace LL := LL.trans Lw1
  replace hM := hM.mono Lw1
  replace hF := hF.mono Lw1
  replace h := h.mono Lw1
  have hn4 := hf4.nat hM4; replace hf4 := hf4.less hS4
  refine ops_assign rfl rfl ?_
  refine ops_nil ?_
  refine SL.wp_seq ?_
  refine SL.wp_seq ?_
  refine SL.wp_region ?_
  refine ops_move rfl rfl ?_
  first | refine ops_len rfl Try.underlying23 rfl ?_ | refine ops_lens rfl Try.underlying23 rfl (IsNat.slc (by assumption)) ?_ | refine ops_lenn rfl Try.underlying23 rfl (by assumption) ?_ | refine ops_leno rfl Try.underlying23 rfl (by assumption) ?_
  refine ops_eq rfl rfl rfl ?_
  refine ops_nil ?_
  refine SL.wp_cond_d rfl (fun hc0 => ?_) (fun hc0 => ?_)
  · refine SL.wp_seq ?_
    refine SL.wp_region ?_
    refine ops_assign rfl rfl ?_
    refine ops_nil ?_
    refine SL.wp_ret ?_
    refine leave_nil ⟨[_], ⟨rfl, trivial⟩, ?_⟩
    dsimp only [resVal]
    subst hFz
    have e : limbs (val xs) = [] := List.length_eq_zero_iff.1 (by omega)
    rw [limbs_eq_nil] at e
    exact ⟨LL.below (Nat.le_refl _), by rw [e]; rfl⟩
  · have hne : limbs (val xs) ≠ [] := fun e => by rw [e] at hc0; simp at hc0
    have htop := getD_lt (limbs_lt (val xs)) ((limbs (val xs)).length - 1)
    have hw := bitsN_word htop
    have hb := bits_limbs hne
    refine SL.wp_skip ?_
    refine SL.wp_seq ?_
    refine SL.wp_region ?_
    refine ops_move rfl rfl ?_
    first | refine ops_len rfl Try.underlying23 rfl ?_ | refine ops_lens rfl Try.underlying23 rfl (IsNat.slc (by assumption)) ?_ | refine ops_lenn rfl Try.underlying23 rfl (by assumption) ?_ | refine ops_leno rfl Try.underlying23 rfl (by assumption) ?_
    refine ops_sub rfl rfl rfl (by omega) ?_
    refine ops_mul rfl rfl rfl (by omega) ?_
    refine ops_move rfl rfl ?_
    refine ops_move rfl rfl ?_
    first | refine ops_len rfl Try.underlying23 rfl ?_ | refine ops_lens rfl Try.underlying23 rfl (IsNat.slc (by assumption)) ?_ | refine ops_lenn rfl Try.underlying23 rfl (by assumption) ?_ | refine ops_leno rfl Try.underlying23 rfl (by assumption) ?_
    refine ops_sub rfl rfl rfl (by omega) ?_
    refine ops_idxn ((limbs (val xs)).length - 1) rfl Try.underlying23 sz43 rfl rfl (by assumption) (by omega) (by omega) (fun b16 o16 hc16 hb16 => ?_)
    refine ops_load rfl flat43 rfl hc16 ?_
    refine ops_callv rfl bod61 rfl rfl ?_
    refine (len32_c (M := M) (by omega) hM).mono ?_
    rintro v18 w2 ⟨hB18, rfl⟩
    have Lw2 := Le.of_below (Fz := Fz) (M := M) hB18
    replace LL := LL.trans Lw2
    replace hM := hM.mono Lw2
    replace hF := hF.mono Lw2
    replace h := h.mono Lw2
    replace hn4 := hn4.mono Lw2
    refine ops_add rfl rfl rfl (by omega) ?_
    refine ops_assign rfl rfl ?_
    refine ops_nil ?_
    refine SL.wp_ret ?_
    refine leave_nil ⟨[_], ⟨rfl, trivial⟩, ?_⟩
    dsimp only [resVal]
    subst hFz
    exact ⟨LL.below (Nat.le_refl _), by congr 1; omega⟩

end Go.Proofs.Ytffakiheophioaa
