import Derived.Test.YtffakiheophioaaW7
import Derived.Test.YtffakiheophioaaSLo
import Derived.Test.YtffakiheophioaaSLn
set_option linter.unusedVariables false
set_option linter.unusedSimpArgs false
set_option maxRecDepth 100000
namespace Go.Proofs.Ytffakiheophioaa
open Go.SL Go.RowKit Go.Proofs

theorem natSums_c {M : Nat → Prop} {w : World} {v1 v2 v3 : Value} {xs ys : List Nat} {xss : List (List Nat)} (h1 : IsNat M w v1 xs) (h2 : IsNat M w v2 ys) (h3 : IsNats M w v3 xss) (hM : OkM M w) :
    CallsV Try.prog 4 [v1, v2, v3] w fun r w' => Below w.heap.size w w' ∧ r = .bool true := by
  obtain ⟨Fz, hFz⟩ : ∃ Fz : Nat → Prop, Fz = (· < w.heap.size) := ⟨_, rfl⟩
  have hF : FOk Fz w := by subst hFz; exact fun _ h => h
  have LL := Le.refl Fz M w; have hM0 := hM
  refine calls_intro Try.func4 rfl Try.ntmps4 rfl ?_
  refine SL.wp_seq ?_
  refine SL.wp_region ?_
  refine ops_assign rfl rfl ?_
  refine ops_nil ?_
  refine SL.wp_seq ?_
  refine SL.wp_seq ?_
  refine SL.wp_region ?_
  refine ops_move rfl rfl ?_
  refine ops_move rfl rfl ?_
  refine ops_buildSlice rfl Try.underlying24 sz23 rfl rfl rfl (one2 (by first | rfl | exact nat_one (by assumption) | exact own_one (by assumption)) (by first | rfl | exact nat_one (by assumption) | exact own_one (by assumption))) rfl (fun w1 b16 N16 => ?_)
  have hBw1 := N16.below
  have nM16 := hM.new N16; have B16 := N16.blk
  have Lw1 := Le.of_below (Fz := Fz) (M := M) hBw1
  replace LL := LL.trans Lw1
  replace hM := hM.mono Lw1
  replace hF := hF.mono Lw1
  replace h1 := h1.mono Lw1
  replace h2 := h2.mono Lw1
  replace h3 := h3.mono Lw1
  have hn16 := nats2 B16 nM16 h1 h2
  refine ops_callv rfl bod16 rfl rfl ?_
  refine (great_d (M := M) (by assumption) hM).mono ?_
  rintro v17 w2 ⟨hB17, rfl⟩
  have Lw2 := Le.of_below (Fz := Fz) (M := M) hB17
  replace LL := LL.trans Lw2
  replace hM := hM.mono Lw2
  replace hF := hF.mono Lw2
  replace h1 := h1.mono Lw2
  replace h2 := h2.mono Lw2
  replace h3 := h3.mono Lw2
  replace hn16 := hn16.mono Lw2
  refine ops_move rfl rfl ?_
  refine ops_dcase (d := 18) rfl (fun hg1_4 => ?_) (fun hg1_4 => ?_)
  · refine ops_guard_f rfl rfl rfl rfl ?_
    refine ops_guard_f rfl rfl rfl rfl ?_
    refine ops_pick rfl rfl rfl ?_
    refine ops_nil ?_
    refine SL.wp_cond_t rfl ?_
    refine SL.wp_seq ?_
    refine SL.wp_region ?_
    refine ops_callv rfl bod17 rfl rfl ?_
    refine (wakes1_c (M := M) hM).mono ?_
    rintro v22 w3 ⟨hB22, rfl⟩
    have Lw3 := Le.of_below (Fz := Fz) (M := M) hB22
    replace LL := LL.trans Lw3
    replace hM := hM.mono Lw3
    replace hF := hF.mono Lw3
    replace h1 := h1.mono Lw3
    replace h2 := h2.mono Lw3
    replace h3 := h3.mono Lw3
    replace hn16 := hn16.mono Lw3
    refine ops_assign rfl rfl ?_
    refine ops_nil ?_
    refine SL.wp_ret ?_
    refine leave_nil ⟨[_], ⟨rfl, trivial⟩, ?_⟩
    dsimp only [resVal]
    subst hFz
    exact ⟨LL.below (Nat.le_refl _), by first | rfl | simp⟩
  · refine ops_guard_t rfl rfl ?_
    refine ops_move rfl rfl ?_
    refine ops_guard_t rfl rfl ?_
    refine ops_callv rfl bod16 rfl rfl ?_
    refine (great_d (M := M) (by assumption) hM).mono ?_
    rintro v20 w4 ⟨hB20, rfl⟩
    have Lw4 := Le.of_below (Fz := Fz) (M := M) hB20
    replace LL := LL.trans Lw4
    replace hM := hM.mono Lw4
    replace hF := hF.mono Lw4
    replace h1 := h1.mono Lw4
    replace h2 := h2.mono Lw4
    replace h3 := h3.mono Lw4
    replace hn16 := hn16.mono Lw4
    refine ops_pick rfl rfl rfl ?_
    refine ops_nil ?_
    refine SL.wp_cond_d rfl (fun hc0 => ?_) (fun hc0 => ?_)
    · refine SL.wp_seq ?_
      refine SL.wp_region ?_
      refine ops_callv rfl bod17 rfl rfl ?_
      refine (wakes1_c (M := M) hM).mono ?_
      rintro v22 w5 ⟨hB22, rfl⟩
      have Lw5 := Le.of_below (Fz := Fz) (M := M) hB22
      replace LL := LL.trans Lw5
      replace hM := hM.mono Lw5
      replace hF := hF.mono Lw5
      replace h1 := h1.mono Lw5
      replace h2 := h2.mono Lw5
      replace h3 := h3.mono Lw5
      replace hn16 := hn16.mono Lw5
      refine ops_assign rfl rfl ?_
      refine ops_nil ?_
      refine SL.wp_ret ?_
      refine leave_nil ⟨[_], ⟨rfl, trivial⟩, ?_⟩
      dsimp only [resVal]
      subst hFz
      exact ⟨LL.below (Nat.le_refl _), by first | rfl | simp⟩
    · have hg := not_great2 (xs := xs) (ys := ys) (by simpa using hg1_4)
      have hgl := not_great (xss := xss) (by simpa using hc0)
      have hq1 : ∀ zs ∈ xss, zs.length ≤ 1000000000 := fun zs hz => by have := hgl.2 zs hz; omega
      have hq2 : ∀ zs ∈ xss, zs.length ≤ 1000000 := fun zs hz => by have := hgl.2 zs hz; omega
      have hq3 := hgl.1; have hq4 := hg.1; have hq5 := hg.2
      have hq6 : ∀ k, (xss.getD k []).length ≤ 600 := fun k => by
        rcases Nat.lt_or_ge k xss.length with h | h
        · exact hgl.2 _ (by simp [List.getElem?_eq_getElem h])
        · simp [List.getElem?_eq_none h]
      have hq7 : ∀ zs ∈ xs :: xss, zs.length ≤ 1000000000 := fun zs hz => by
        rcases List.mem_cons.1 hz with rfl | hz
        · omega
        · exact hq1 zs hz
      refine SL.wp_skip ?_
      refine SL.wp_seq ?_
      refine SL.wp_region ?_
      refine ops_move rfl rfl ?_
      refine ops_move rfl rfl ?_
      refine ops_buildSlice rfl Try.underlying24 sz23 rfl rfl rfl (one2 (by first | rfl | exact nat_one (by assumption) | exact own_one (by assumption)) (by first | rfl | exact nat_one (by assumption) | exact own_one (by assumption))) rfl (fun w6 b25 N25 => ?_)
      have hBw6 := N25.below
      have nM25 := hM.new N25; have B25 := N25.blk
      have Lw6 := Le.of_below (Fz := Fz) (M := M) hBw6
      replace LL := LL.trans Lw6
      replace hM := hM.mono Lw6
      replace hF := hF.mono Lw6
      replace h1 := h1.mono Lw6
      replace h2 := h2.mono Lw6
      replace h3 := h3.mono Lw6
      replace hn16 := hn16.mono Lw6
      have hn25 := nats2 B25 nM25 h1 h2
      refine ops_callv rfl bod29 rfl rfl ?_
      refine (add2_c (M := M) (by assumption) (IsNat.lt (by assumption)) (IsNat.lt (by assumption)) (by omega) (by omega) hM).mono ?_
      rintro v26 w7 ⟨hB26, hf26, hl26⟩
      have hM26 := hM; have hS26 := LL.size
      have Lw7 := Le.of_below (Fz := Fz) (M := M) hB26
      replace LL := LL.trans Lw7
      replace hM := hM.mono Lw7
      replace hF := hF.mono Lw7
      replace h1 := h1.mono Lw7
      replace h2 := h2.mono Lw7
      replace h3 := h3.mono Lw7
      replace hn16 := hn16.mono Lw7
      replace hn25 := hn25.mono Lw7
      have hn26 := hf26.nat hM26; replace hf26 := hf26.less hS26
      refine ops_assign rfl rfl ?_
      refine ops_nil ?_
      refine SL.wp_seq ?_
      refine SL.wp_region ?_
      refine ops_move rfl rfl ?_
      refine ops_move rfl rfl ?_
      refine ops_callv rfl bod20 rfl rfl ?_
      refine (sub_d (M := M) (by assumption) (by assumption) (by omega) (by omega) hM).mono ?_
      rintro v30 w8 ⟨hB30, q30, rfl, hf30⟩
      have hM30 := hM; have hS30 := LL.size
      have Lw8 := Le.of_below (Fz := Fz) (M := M) hB30
      replace LL := LL.trans Lw8
      replace hM := hM.mono Lw8
      replace hF := hF.mono Lw8
      replace h1 := h1.mono Lw8
      replace h2 := h2.mono Lw8
      replace h3 := h3.mono Lw8
      replace hn16 := hn16.mono Lw8
      replace hn25 := hn25.mono Lw8
      replace hn26 := hn26.mono Lw8
      have hn30 := hf30.nat hM30; replace hf30 := hf30.less hS30
      refine ops_move rfl rfl ?_
      refine ops_extract rfl rfl rfl ?_
      refine ops_extract rfl rfl rfl ?_
      refine ops_assign rfl rfl ?_
      refine ops_assign rfl rfl ?_
      refine ops_nil ?_
      refine SL.wp_seq ?_
      refine SL.wp_seq ?_
      refine SL.wp_region ?_
      refine ops_move rfl rfl ?_
      refine ops_move rfl rfl ?_
      refine ops_move rfl rfl ?_
      refine ops_buildSlice rfl Try.underlying24 sz23 rfl rfl rfl (one2 (by first | rfl | exact nat_one (by assumption) | exact own_one (by assumption)) (by first | rfl | exact nat_one (by assumption) | exact own_one (by assumption))) rfl (fun w9 b36 N36 => ?_)
      have hBw9 := N36.below
      have nM36 := hM.new N36; have B36 := N36.blk
      have Lw9 := Le.of_below (Fz := Fz) (M := M) hBw9
      replace LL := LL.trans Lw9
      replace hM := hM.mono Lw9
      replace hF := hF.mono Lw9
      replace h1 := h1.mono Lw9
      replace h2 := h2.mono Lw9
      replace h3 := h3.mono Lw9
      replace hn16 := hn16.mono Lw9
      replace hn25 := hn25.mono Lw9
      replace hn26 := hn26.mono Lw9
      replace hn30 := hn30.mono Lw9
      have hn36 := nats2 B36 nM36 h2 h1
      refine ops_callv rfl bod29 rfl rfl ?_
      refine (add2_c (M := M) (by assumption) (IsNat.lt (by assumption)) (IsNat.lt (by assumption)) (by omega) (by omega) hM).mono ?_
      rintro v37 w10 ⟨hB37, hf37, hl37⟩
      have hM37 := hM; have hS37 := LL.size
      have Lw10 := Le.of_below (Fz := Fz) (M := M) hB37
      replace LL := LL.trans Lw10
      replace hM := hM.mono Lw10
      replace hF := hF.mono Lw10
      replace h1 := h1.mono Lw10
      replace h2 := h2.mono Lw10
      replace h3 := h3.mono Lw10
      replace hn16 := hn16.mono Lw10
      replace hn25 := hn25.mono Lw10
      replace hn26 := hn26.mono Lw10
      replace hn30 := hn30.mono Lw10
      replace hn36 := hn36.mono Lw10
      have hn37 := hf37.nat hM37; replace hf37 := hf37.less hS37
      refine ops_callv rfl bod22 rfl rfl ?_
      refine (same1_c (M := M) (by assumption) (by assumption) hM).mono ?_
      rintro v38 w11 ⟨hB38, rfl⟩
      have Lw11 := Le.of_below (Fz := Fz) (M := M) hB38
      replace LL := LL.trans Lw11
      replace hM := hM.mono Lw11
      replace hF := hF.mono Lw11
      replace h1 := h1.mono Lw11
      replace h2 := h2.mono Lw11
      replace h3 := h3.mono Lw11
      replace hn16 := hn16.mono Lw11
      replace hn25 := hn25.mono Lw11
      replace hn26 := hn26.mono Lw11
      replace hn30 := hn30.mono Lw11
      replace hn36 := hn36.mono Lw11
      replace hn37 := hn37.mono Lw11
      refine ops_not rfl rfl ?_
      refine ops_move rfl rfl ?_
      refine ops_bf (d := 40) rfl (by simp [Nat.add_comm]) ?_
      refine ops_guard_t rfl rfl ?_
      refine ops_move rfl rfl ?_
      refine ops_guard_t rfl rfl ?_
      refine ops_ne rfl rfl rfl ?_
      refine ops_pick rfl rfl rfl ?_
      refine ops_move rfl rfl ?_
      refine ops_bf (d := 44) rfl (by simp [val_limbs]) ?_
      refine ops_guard_t rfl rfl ?_
      refine ops_move rfl rfl ?_
      refine ops_guard_t rfl rfl ?_
      refine ops_move rfl rfl ?_
      refine ops_guard_t rfl rfl ?_
      refine ops_callv rfl bod25 rfl rfl ?_
      refine (trim_c (M := M) (by assumption) (by omega) hM).mono ?_
      rintro v47 w12 ⟨hB47, hf47⟩
      have hM47 := hM; have hS47 := LL.size
      have Lw12 := Le.of_below (Fz := Fz) (M := M) hB47
      replace LL := LL.trans Lw12
      replace hM := hM.mono Lw12
      replace hF := hF.mono Lw12
      replace h1 := h1.mono Lw12
      replace h2 := h2.mono Lw12
      replace h3 := h3.mono Lw12
      replace hn16 := hn16.mono Lw12
      replace hn25 := hn25.mono Lw12
      replace hn26 := hn26.mono Lw12
      replace hn30 := hn30.mono Lw12
      replace hn36 := hn36.mono Lw12
      replace hn37 := hn37.mono Lw12
      have hn47 := hf47.nat hM47; replace hf47 := hf47.less hS47
      refine ops_guard_t rfl rfl ?_
      refine ops_callv rfl bod22 rfl rfl ?_
      refine (same1_c (M := M) (by assumption) (by assumption) hM).mono ?_
      rintro v48 w13 ⟨hB48, rfl⟩
      have Lw13 := Le.of_below (Fz := Fz) (M := M) hB48
      replace LL := LL.trans Lw13
      replace hM := hM.mono Lw13
      replace hF := hF.mono Lw13
      replace h1 := h1.mono Lw13
      replace h2 := h2.mono Lw13
      replace h3 := h3.mono Lw13
      replace hn16 := hn16.mono Lw13
      replace hn25 := hn25.mono Lw13
      replace hn26 := hn26.mono Lw13
      replace hn30 := hn30.mono Lw13
      replace hn36 := hn36.mono Lw13
      replace hn37 := hn37.mono Lw13
      replace hn47 := hn47.mono Lw13
      refine ops_guard_t rfl rfl ?_
      refine ops_not rfl rfl ?_
      refine ops_bf (d := 49) rfl (by simp [val_limbs]) ?_
      refine ops_pick rfl rfl rfl ?_
      refine ops_nil ?_
      refine SL.wp_cond_f rfl ?_
      refine SL.wp_skip ?_
      refine SL.wp_seq ?_
      refine SL.wp_region ?_
      refine ops_move rfl rfl ?_
      refine ops_callv rfl bod29 rfl rfl ?_
      refine (add_c (M := M) (by assumption) (by assumption) (by first | omega | simp) hM).mono ?_
      rintro v52 w14 ⟨hB52, hf52⟩
      have hM52 := hM; have hS52 := LL.size
      have Lw14 := Le.of_below (Fz := Fz) (M := M) hB52
      replace LL := LL.trans Lw14
      replace hM := hM.mono Lw14
      replace hF := hF.mono Lw14
      replace h1 := h1.mono Lw14
      replace h2 := h2.mono Lw14
      replace h3 := h3.mono Lw14
      replace hn16 := hn16.mono Lw14
      replace hn25 := hn25.mono Lw14
      replace hn26 := hn26.mono Lw14
      replace hn30 := hn30.mono Lw14
      replace hn36 := hn36.mono Lw14
      replace hn37 := hn37.mono Lw14
      replace hn47 := hn47.mono Lw14
      have hn52 := hf52.nat hM52; replace hf52 := hf52.less hS52
      refine ops_buildSlice rfl Try.underlying23 sz43 rfl rfl rfl (by simp [Value.oneCell', lw]) rfl (fun w15 b53 N53 => ?_)
      have hBw15 := N53.below
      have nM53 := hM.new N53; have B53 := N53.blk
      have Lw15 := Le.of_below (Fz := Fz) (M := M) hBw15
      replace LL := LL.trans Lw15
      replace hM := hM.mono Lw15
      replace hF := hF.mono Lw15
      replace h1 := h1.mono Lw15
      replace h2 := h2.mono Lw15
      replace h3 := h3.mono Lw15
      replace hn16 := hn16.mono Lw15
      replace hn25 := hn25.mono Lw15
      replace hn26 := hn26.mono Lw15
      replace hn30 := hn30.mono Lw15
      replace hn36 := hn36.mono Lw15
      replace hn37 := hn37.mono Lw15
      replace hn47 := hn47.mono Lw15
      replace hn52 := hn52.mono Lw15
      have hn53 : IsNat M w15 (.slice (some ⟨b53, 0, none⟩) 0 0) [] := blk_nat (xs := []) B53 nM53 rfl (by simp) (by simp)
      refine ops_buildSlice rfl Try.underlying23 sz43 rfl rfl rfl (by simp [Value.oneCell', lw]) rfl (fun w16 b54 N54 => ?_)
      have hBw16 := N54.below
      have nM54 := hM.new N54; have B54 := N54.blk
      have Lw16 := Le.of_below (Fz := Fz) (M := M) hBw16
      replace LL := LL.trans Lw16
      replace hM := hM.mono Lw16
      replace hF := hF.mono Lw16
      replace h1 := h1.mono Lw16
      replace h2 := h2.mono Lw16
      replace h3 := h3.mono Lw16
      replace hn16 := hn16.mono Lw16
      replace hn25 := hn25.mono Lw16
      replace hn26 := hn26.mono Lw16
      replace hn30 := hn30.mono Lw16
      replace hn36 := hn36.mono Lw16
      replace hn37 := hn37.mono Lw16
      replace hn47 := hn47.mono Lw16
      replace hn52 := hn52.mono Lw16
      replace hn53 := hn53.mono Lw16
      have hn54 : IsNat M w16 (.slice (some ⟨b54, 0, none⟩) 0 0) [] := blk_nat (xs := []) B54 nM54 rfl (by simp) (by simp)
      refine ops_assign rfl rfl ?_
      refine ops_assign rfl rfl ?_
      refine ops_assign rfl rfl ?_
      refine ops_nil ?_
      refine SL.wp_seq ?_
      refine SL.wp_seq ?_
      refine SL.wp_region ?_
      refine ops_assign rfl rfl ?_
      refine ops_nil ?_
      refine SL.wp_block ?_
      refine SL.wp_loopc (σ := Nat × Value × Value) [(0, _), (2, _), (10, _)] (fun s => [(11, s.2.1), (12, s.2.2), (13, .int .i64 ((s.1 : Nat) : Int))]) (fun s w17 => Le Fz M w16 M w17 ∧ s.1 ≤ xss.length ∧ IsNat M w17 s.2.1 (limbs ((xss.map val).drop (xss.length - s.1)).sum) ∧ IsNat M w17 s.2.2 (limbs ((xss.map val).take s.1).sum) ∧
            (limbs ((xss.map val).drop (xss.length - s.1)).sum).length ≤ 1000 + s.1 ∧ (limbs ((xss.map val).take s.1).sum).length ≤ 1000 + s.1) (fun s => xss.length - s.1) ((0, _, _)) (sub_cons rfl (sub_cons rfl (sub_cons rfl (sub_cons rfl (sub_cons rfl (sub_cons rfl sub_nil)))))) ?_ (fun s w17 hJ => ?_)
      · dsimp only
        have e1 : limbs ((xss.map val).drop (xss.length - 0)).sum = [] := by rw [Nat.sub_zero, List.drop_of_length_le (by simp)]; simp [limbs_zero]
        have e2 : limbs ((xss.map val).take 0).sum = [] := by simp [limbs_zero]
        rw [e1, e2]
        exact ⟨Le.refl _ _ _, by omega, hn53, hn54, by simp, by simp⟩
      · obtain ⟨k, u1, u2⟩ := s
        dsimp only at hJ ⊢
        obtain ⟨LR, hk, hy1, hy2, hz1, hz2⟩ := hJ
        have hq8 := hq6 k; have hq9 := hq6 (xss.length - 1 - k)
        replace LL := LL.trans LR
        replace hM := hM.mono LR
        replace hF := hF.mono LR
        replace h1 := h1.mono LR
        replace h2 := h2.mono LR
        replace h3 := h3.mono LR
        replace hn16 := hn16.mono LR
        replace hn25 := hn25.mono LR
        replace hn26 := hn26.mono LR
        replace hn30 := hn30.mono LR
        replace hn36 := hn36.mono LR
        replace hn37 := hn37.mono LR
        replace hn47 := hn47.mono LR
        replace hn52 := hn52.mono LR
        replace hn53 := hn53.mono LR
        replace hn54 := hn54.mono LR
        refine SL.wp_seq ?_
        refine SL.wp_seq ?_
        refine SL.wp_region ?_
        refine ops_move rfl rfl ?_
        refine ops_move rfl rfl ?_
        first | refine ops_len rfl Try.underlying24 rfl ?_ | refine ops_lens rfl Try.underlying24 rfl (IsNat.slc (by assumption)) ?_ | refine ops_lenn rfl Try.underlying24 rfl (by assumption) ?_ | refine ops_leno rfl Try.underlying24 rfl (by assumption) ?_
        refine ops_lt rfl rfl rfl ?_
        refine ops_nil ?_
        refine SL.wp_cond_d rfl (fun hc1 => ?_) (fun hc1 => ?_)
        · refine SL.wp_skip ?_
          refine SL.wp_seq ?_
          refine SL.wp_block ?_
          refine SL.wp_seq ?_
          refine SL.wp_region ?_
          refine ops_move rfl rfl ?_
          refine ops_move rfl rfl ?_
          first | refine ops_len rfl Try.underlying24 rfl ?_ | refine ops_lens rfl Try.underlying24 rfl (IsNat.slc (by assumption)) ?_ | refine ops_lenn rfl Try.underlying24 rfl (by assumption) ?_ | refine ops_leno rfl Try.underlying24 rfl (by assumption) ?_
          refine ops_sub rfl rfl rfl (by omega) ?_
          refine ops_move rfl rfl ?_
          refine ops_sub rfl rfl rfl (by omega) ?_
          refine ops_idxs (xss.length - 1 - k) rfl Try.underlying24 sz23 rfl rfl (by assumption) (by omega) (by omega) (fun b67 o67 u67 hc67 hu67 => ?_)
          refine ops_load rfl flat23 rfl hc67 ?_
          refine ops_move rfl rfl ?_
          refine ops_buildSlice rfl Try.underlying24 sz23 rfl rfl rfl (one2 (by first | rfl | exact nat_one (by assumption) | exact own_one (by assumption)) (by first | rfl | exact nat_one (by assumption) | exact own_one (by assumption))) rfl (fun w18 b70 N70 => ?_)
          have hBw18 := N70.below
          have nM70 := hM.new N70; have B70 := N70.blk
          have Lw18 := Le.of_below (Fz := Fz) (M := M) hBw18
          replace LL := LL.trans Lw18
          replace LR := LR.trans Lw18
          replace hM := hM.mono Lw18
          replace hF := hF.mono Lw18
          replace h1 := h1.mono Lw18
          replace h2 := h2.mono Lw18
          replace h3 := h3.mono Lw18
          replace hn16 := hn16.mono Lw18
          replace hn25 := hn25.mono Lw18
          replace hn26 := hn26.mono Lw18
          replace hn30 := hn30.mono Lw18
          replace hn36 := hn36.mono Lw18
          replace hn37 := hn37.mono Lw18
          replace hn47 := hn47.mono Lw18
          replace hn52 := hn52.mono Lw18
          replace hn53 := hn53.mono Lw18
          replace hn54 := hn54.mono Lw18
          replace hy1 := hy1.mono Lw18
          replace hy2 := hy2.mono Lw18
          replace hu67 := hu67.mono Lw18
          have hn70 := nats2 B70 nM70 (by assumption) (by assumption)
          refine ops_callv rfl bod29 rfl rfl ?_
          refine (add2_c (M := M) (by assumption) (IsNat.lt (by assumption)) (IsNat.lt (by assumption)) (by omega) (by omega) hM).mono ?_
          rintro v71 w19 ⟨hB71, hf71, hl71⟩
          have hM71 := hM; have hS71 := LL.size
          have Lw19 := Le.of_below (Fz := Fz) (M := M) hB71
          replace LL := LL.trans Lw19
          replace LR := LR.trans Lw19
          replace hM := hM.mono Lw19
          replace hF := hF.mono Lw19
          replace h1 := h1.mono Lw19
          replace h2 := h2.mono Lw19
          replace h3 := h3.mono Lw19
          replace hn16 := hn16.mono Lw19
          replace hn25 := hn25.mono Lw19
          replace hn26 := hn26.mono Lw19
          replace hn30 := hn30.mono Lw19
          replace hn36 := hn36.mono Lw19
          replace hn37 := hn37.mono Lw19
          replace hn47 := hn47.mono Lw19
          replace hn52 := hn52.mono Lw19
          replace hn53 := hn53.mono Lw19
          replace hn54 := hn54.mono Lw19
          replace hy1 := hy1.mono Lw19
          replace hy2 := hy2.mono Lw19
          replace hu67 := hu67.mono Lw19
          replace hn70 := hn70.mono Lw19
          have hn71 := hf71.nat hM71; replace hf71 := hf71.less hS71
          refine ops_assign rfl rfl ?_
          refine ops_nil ?_
          refine SL.wp_region ?_
          refine ops_move rfl rfl ?_
          refine ops_move rfl rfl ?_
          refine ops_move rfl rfl ?_
          refine ops_idxs (k) rfl Try.underlying24 sz23 rfl rfl (by assumption) (by omega) (by omega) (fun b75 o75 u75 hc75 hu75 => ?_)
          refine ops_load rfl flat23 rfl hc75 ?_
          refine ops_buildSlice rfl Try.underlying24 sz23 rfl rfl rfl (one2 (by first | rfl | exact nat_one (by assumption) | exact own_one (by assumption)) (by first | rfl | exact nat_one (by assumption) | exact own_one (by assumption))) rfl (fun w20 b77 N77 => ?_)
          have hBw20 := N77.below
          have nM77 := hM.new N77; have B77 := N77.blk
          have Lw20 := Le.of_below (Fz := Fz) (M := M) hBw20
          replace LL := LL.trans Lw20
          replace LR := LR.trans Lw20
          replace hM := hM.mono Lw20
          replace hF := hF.mono Lw20
          replace h1 := h1.mono Lw20
          replace h2 := h2.mono Lw20
          replace h3 := h3.mono Lw20
          replace hn16 := hn16.mono Lw20
          replace hn25 := hn25.mono Lw20
          replace hn26 := hn26.mono Lw20
          replace hn30 := hn30.mono Lw20
          replace hn36 := hn36.mono Lw20
          replace hn37 := hn37.mono Lw20
          replace hn47 := hn47.mono Lw20
          replace hn52 := hn52.mono Lw20
          replace hn53 := hn53.mono Lw20
          replace hn54 := hn54.mono Lw20
          replace hy1 := hy1.mono Lw20
          replace hy2 := hy2.mono Lw20
          replace hu67 := hu67.mono Lw20
          replace hn70 := hn70.mono Lw20
          replace hn71 := hn71.mono Lw20
          replace hu75 := hu75.mono Lw20
          have hn77 := nats2 B77 nM77 (by assumption) (by assumption)
          refine ops_callv rfl bod29 rfl rfl ?_
          refine (add2_c (M := M) (by assumption) (IsNat.lt (by assumption)) (IsNat.lt (by assumption)) (by omega) (by omega) hM).mono ?_
          rintro v78 w21 ⟨hB78, hf78, hl78⟩
          have hM78 := hM; have hS78 := LL.size
          have Lw21 := Le.of_below (Fz := Fz) (M := M) hB78
          replace LL := LL.trans Lw21
          replace LR := LR.trans Lw21
          replace hM := hM.mono Lw21
          replace hF := hF.mono Lw21
          replace h1 := h1.mono Lw21
          replace h2 := h2.mono Lw21
          replace h3 := h3.mono Lw21
          replace hn16 := hn16.mono Lw21
          replace hn25 := hn25.mono Lw21
          replace hn26 := hn26.mono Lw21
          replace hn30 := hn30.mono Lw21
          replace hn36 := hn36.mono Lw21
          replace hn37 := hn37.mono Lw21
          replace hn47 := hn47.mono Lw21
          replace hn52 := hn52.mono Lw21
          replace hn53 := hn53.mono Lw21
          replace hn54 := hn54.mono Lw21
          replace hy1 := hy1.mono Lw21
          replace hy2 := hy2.mono Lw21
          replace hu67 := hu67.mono Lw21
          replace hn70 := hn70.mono Lw21
          replace hn71 := hn71.mono Lw21
          replace hu75 := hu75.mono Lw21
          replace hn77 := hn77.mono Lw21
          have hn78 := hf78.nat hM78; replace hf78 := hf78.less hS78
          refine ops_assign rfl rfl ?_
          refine ops_nil ?_
          refine SL.wp_region ?_
          refine ops_move rfl rfl ?_
          refine ops_add rfl rfl rfl (by omega) ?_
          refine ops_assign rfl rfl ?_
          refine ops_nil ?_
          refine ⟨rfl, (k + 1, v71, v78), (sub_cons' rfl (rfl) (sub_cons' rfl (rfl) (sub_cons' rfl (by rw [Int.natCast_add]; rfl) (sub_cons rfl (sub_cons rfl (sub_cons rfl sub_nil)))))), ?_, ?_⟩
          dsimp only
          have e1 : val (xss.getD (xss.length - 1 - k) []) + val (limbs ((xss.map val).drop (xss.length - k)).sum) = ((xss.map val).drop (xss.length - (k + 1))).sum := by
            rw [val_limbs, show xss.length - (k + 1) = xss.length - 1 - k by omega, drop_sum (k := xss.length - 1 - k) (by omega), show xss.length - 1 - k + 1 = xss.length - k by omega]
          have e2 : val (limbs ((xss.map val).take k).sum) + val (xss.getD k []) = ((xss.map val).take (k + 1)).sum := by rw [val_limbs, take_sum (by omega)]
          rw [e1] at hn71 hl71
          rw [e2] at hn78 hl78
          exact ⟨LR, by omega, hn71, hn78, by omega, by omega⟩
          dsimp only
          omega
        · obtain rfl : k = xss.length := by omega
          rw [Nat.sub_self, List.drop_zero] at hy1 hz1
          rw [List.take_of_length_le (by simp)] at hy2 hz2
          refine SL.wp_exit ?_
          refine upd_hit ?_
          refine SL.wp_seq ?_
          refine SL.wp_region ?_
          refine ops_move rfl rfl ?_
          refine ops_move rfl rfl ?_
          refine ops_callv rfl bod22 rfl rfl ?_
          refine (same1_c (M := M) (by assumption) (by assumption) hM).mono ?_
          rintro v81 w22 ⟨hB81, rfl⟩
          have Lw22 := Le.of_below (Fz := Fz) (M := M) hB81
          replace LL := LL.trans Lw22
          replace LR := LR.trans Lw22
          replace hM := hM.mono Lw22
          replace hF := hF.mono Lw22
          replace h1 := h1.mono Lw22
          replace h2 := h2.mono Lw22
          replace h3 := h3.mono Lw22
          replace hn16 := hn16.mono Lw22
          replace hn25 := hn25.mono Lw22
          replace hn26 := hn26.mono Lw22
          replace hn30 := hn30.mono Lw22
          replace hn36 := hn36.mono Lw22
          replace hn37 := hn37.mono Lw22
          replace hn47 := hn47.mono Lw22
          replace hn52 := hn52.mono Lw22
          replace hn53 := hn53.mono Lw22
          replace hn54 := hn54.mono Lw22
          replace hy1 := hy1.mono Lw22
          replace hy2 := hy2.mono Lw22
          refine ops_move rfl rfl ?_
          refine ops_bt (d := 82) rfl (by simp [val_limbs]) ?_
          refine ops_guard_t rfl rfl ?_
          refine ops_move rfl rfl ?_
          refine ops_guard_t rfl rfl ?_
          refine ops_move rfl rfl ?_
          refine ops_guard_t rfl rfl ?_
          refine ops_callv rfl bod22 rfl rfl ?_
          refine (same1_c (M := M) (by assumption) (by assumption) hM).mono ?_
          rintro v85 w23 ⟨hB85, rfl⟩
          have Lw23 := Le.of_below (Fz := Fz) (M := M) hB85
          replace LL := LL.trans Lw23
          replace LR := LR.trans Lw23
          replace hM := hM.mono Lw23
          replace hF := hF.mono Lw23
          replace h1 := h1.mono Lw23
          replace h2 := h2.mono Lw23
          replace h3 := h3.mono Lw23
          replace hn16 := hn16.mono Lw23
          replace hn25 := hn25.mono Lw23
          replace hn26 := hn26.mono Lw23
          replace hn30 := hn30.mono Lw23
          replace hn36 := hn36.mono Lw23
          replace hn37 := hn37.mono Lw23
          replace hn47 := hn47.mono Lw23
          replace hn52 := hn52.mono Lw23
          replace hn53 := hn53.mono Lw23
          replace hn54 := hn54.mono Lw23
          replace hy1 := hy1.mono Lw23
          replace hy2 := hy2.mono Lw23
          refine ops_pick rfl rfl rfl ?_
          refine ops_move rfl rfl ?_
          refine ops_bt (d := 87) rfl (by simp [val_limbs]) ?_
          refine ops_guard_t rfl rfl ?_
          refine ops_move rfl rfl ?_
          refine ops_guard_t rfl rfl ?_
          refine ops_move rfl rfl ?_
          refine ops_guard_t rfl rfl ?_
          refine ops_callv rfl bod29 rfl rfl ?_
          refine (add_c (M := M) (by assumption) (by assumption) (by first | omega | simp) hM).mono ?_
          rintro v90 w24 ⟨hB90, hf90⟩
          have hM90 := hM; have hS90 := LL.size
          have Lw24 := Le.of_below (Fz := Fz) (M := M) hB90
          replace LL := LL.trans Lw24
          replace LR := LR.trans Lw24
          replace hM := hM.mono Lw24
          replace hF := hF.mono Lw24
          replace h1 := h1.mono Lw24
          replace h2 := h2.mono Lw24
          replace h3 := h3.mono Lw24
          replace hn16 := hn16.mono Lw24
          replace hn25 := hn25.mono Lw24
          replace hn26 := hn26.mono Lw24
          replace hn30 := hn30.mono Lw24
          replace hn36 := hn36.mono Lw24
          replace hn37 := hn37.mono Lw24
          replace hn47 := hn47.mono Lw24
          replace hn52 := hn52.mono Lw24
          replace hn53 := hn53.mono Lw24
          replace hn54 := hn54.mono Lw24
          replace hy1 := hy1.mono Lw24
          replace hy2 := hy2.mono Lw24
          have hn90 := hf90.nat hM90; replace hf90 := hf90.less hS90
          refine ops_guard_t rfl rfl ?_
          refine ops_buildSlice rfl Try.underlying24 sz23 rfl rfl rfl (one2 (by first | rfl | exact nat_one (by assumption) | exact own_one (by assumption)) (by first | rfl | exact nat_one (by assumption) | exact own_one (by assumption))) rfl (fun w25 b91 N91 => ?_)
          have hBw25 := N91.below
          have nM91 := hM.new N91; have B91 := N91.blk
          have Lw25 := Le.of_below (Fz := Fz) (M := M) hBw25
          replace LL := LL.trans Lw25
          replace LR := LR.trans Lw25
          replace hM := hM.mono Lw25
          replace hF := hF.mono Lw25
          replace h1 := h1.mono Lw25
          replace h2 := h2.mono Lw25
          replace h3 := h3.mono Lw25
          replace hn16 := hn16.mono Lw25
          replace hn25 := hn25.mono Lw25
          replace hn26 := hn26.mono Lw25
          replace hn30 := hn30.mono Lw25
          replace hn36 := hn36.mono Lw25
          replace hn37 := hn37.mono Lw25
          replace hn47 := hn47.mono Lw25
          replace hn52 := hn52.mono Lw25
          replace hn53 := hn53.mono Lw25
          replace hn54 := hn54.mono Lw25
          replace hy1 := hy1.mono Lw25
          replace hy2 := hy2.mono Lw25
          replace hn90 := hn90.mono Lw25
          have hn91 := nats2 B91 nM91 (by assumption) (by assumption)
          refine ops_guard_t rfl rfl ?_
          refine ops_callv rfl bod29 rfl rfl ?_
          refine (add2_c (M := M) hn91 h1.lt (limbs_lt _) (by omega) (by omega) hM).mono ?_
          rintro v92 w26 ⟨hB92, hf92, hl92⟩
          have hM92 := hM; have hS92 := LL.size
          have Lw26 := Le.of_below (Fz := Fz) (M := M) hB92
          replace LL := LL.trans Lw26
          replace LR := LR.trans Lw26
          replace hM := hM.mono Lw26
          replace hF := hF.mono Lw26
          replace h1 := h1.mono Lw26
          replace h2 := h2.mono Lw26
          replace h3 := h3.mono Lw26
          replace hn16 := hn16.mono Lw26
          replace hn25 := hn25.mono Lw26
          replace hn26 := hn26.mono Lw26
          replace hn30 := hn30.mono Lw26
          replace hn36 := hn36.mono Lw26
          replace hn37 := hn37.mono Lw26
          replace hn47 := hn47.mono Lw26
          replace hn52 := hn52.mono Lw26
          replace hn53 := hn53.mono Lw26
          replace hn54 := hn54.mono Lw26
          replace hy1 := hy1.mono Lw26
          replace hy2 := hy2.mono Lw26
          replace hn90 := hn90.mono Lw26
          replace hn91 := hn91.mono Lw26
          have hn92 := hf92.nat hM92; replace hf92 := hf92.less hS92
          refine ops_guard_t rfl rfl ?_
          refine ops_move rfl rfl ?_
          refine ops_guard_t rfl rfl ?_
          refine ops_buildSlice rfl Try.underlying24 sz23 rfl rfl rfl (one1 (nat_one h1)) rfl (fun w27 b94 N94 => ?_)
          have nF94 := hF.new N94; have nM94 := hM.new N94; have hBw27 := N94.below
          have Lw27 := Le.of_new_mo (Fz := Fz) (M := M) (v := Value.slice (some ⟨b94, 0, none⟩) 1 1) N94 rfl
          replace LL := LL.trans Lw27
          replace LR := LR.trans Lw27
          replace hM := hM.mono Lw27
          replace hF := hF.mono Lw27
          replace h1 := h1.mono Lw27
          replace h2 := h2.mono Lw27
          replace h3 := h3.mono Lw27
          replace hn16 := hn16.mono Lw27
          replace hn25 := hn25.mono Lw27
          replace hn26 := hn26.mono Lw27
          replace hn30 := hn30.mono Lw27
          replace hn36 := hn36.mono Lw27
          replace hn37 := hn37.mono Lw27
          replace hn47 := hn47.mono Lw27
          replace hn52 := hn52.mono Lw27
          replace hn53 := hn53.mono Lw27
          replace hn54 := hn54.mono Lw27
          replace hy1 := hy1.mono Lw27
          replace hy2 := hy2.mono Lw27
          replace hn90 := hn90.mono Lw27
          replace hn91 := hn91.mono Lw27
          replace hn92 := hn92.mono Lw27
          have Of : ∀ k, (Value.slice (some ⟨b94, 0, none⟩) 1 1).ownBlock = some k → ¬ Fz k := slice_own nF94
          have Om : ∀ k, (Value.slice (some ⟨b94, 0, none⟩) 1 1).ownBlock = some k → ¬ M k := slice_own nM94
          have Ow := own_blk (n := 1) (c := 1) N94.blk rfl (Nat.le_refl _) (by omega)
          refine ops_guard_t rfl rfl ?_
          refine ops_move rfl rfl ?_
          refine ops_guard_t rfl rfl ?_
          obtain ⟨vs, hvs, hel⟩ := h3.ex
          refine ops_append rfl Try.underlying24 sz23 rfl rfl rfl Ow hvs (els_one hvs hel) (by omega) (by omega) (fun v96 w28 A96 G96 S96 => ?_)
          have Lw28 := Le.of_grown (Fz := Fz) (M := M) G96 S96 A96 Of
          have Omo96 := Om
          replace Of := own_step_f (w' := w28) Of hF S96; replace Om := own_step_m (w' := w28) Om (fun k hk => hM k (.inr hk)) S96
          replace LL := LL.trans Lw28
          replace LR := LR.trans Lw28
          replace hM := hM.mono Lw28
          replace hF := hF.mono Lw28
          replace h1 := h1.mono Lw28
          replace h2 := h2.mono Lw28
          replace h3 := h3.mono Lw28
          replace hn16 := hn16.mono Lw28
          replace hn25 := hn25.mono Lw28
          replace hn26 := hn26.mono Lw28
          replace hn30 := hn30.mono Lw28
          replace hn36 := hn36.mono Lw28
          replace hn37 := hn37.mono Lw28
          replace hn47 := hn47.mono Lw28
          replace hn52 := hn52.mono Lw28
          replace hn53 := hn53.mono Lw28
          replace hn54 := hn54.mono Lw28
          replace hy1 := hy1.mono Lw28
          replace hy2 := hy2.mono Lw28
          replace hn90 := hn90.mono Lw28
          replace hn91 := hn91.mono Lw28
          replace hn92 := hn92.mono Lw28
          clear Ow; have Ow := A96
          replace hel := els_mono hel Lw28
          have Ld := Le.less (Fz := Fz) (w := w28) (M := (Mo v96 M)) (M' := M) fun k hk => .inr hk
          replace hel := els_mono hel Ld
          replace LL := LL.trans Ld
          replace LR := LR.trans Ld
          replace hM := hM.mono Ld
          replace hF := hF.mono Ld
          replace h1 := h1.mono Ld
          replace h2 := h2.mono Ld
          replace h3 := h3.mono Ld
          replace hn16 := hn16.mono Ld
          replace hn25 := hn25.mono Ld
          replace hn26 := hn26.mono Ld
          replace hn30 := hn30.mono Ld
          replace hn36 := hn36.mono Ld
          replace hn37 := hn37.mono Ld
          replace hn47 := hn47.mono Ld
          replace hn52 := hn52.mono Ld
          replace hn53 := hn53.mono Ld
          replace hn54 := hn54.mono Ld
          replace hy1 := hy1.mono Ld
          replace hy2 := hy2.mono Ld
          replace hn90 := hn90.mono Ld
          replace hn91 := hn91.mono Ld
          replace hn92 := hn92.mono Ld
          have hn96 : IsNats M w28 v96 (xs :: xss) := own_nats Ow Om (by simp; omega) (by omega) (nats_cons h1 hel)
          refine ops_guard_t rfl rfl ?_
          refine ops_callv rfl bod29 rfl rfl ?_
          refine (add_c (M := M) hn96 hq7 (by simp; omega) hM).mono ?_
          rintro v97 w29 ⟨hB97, hf97⟩
          have hM97 := hM; have hS97 := LL.size
          have Lw29 := Le.of_below (Fz := Fz) (M := M) hB97
          replace LL := LL.trans Lw29
          replace LR := LR.trans Lw29
          replace hM := hM.mono Lw29
          replace hF := hF.mono Lw29
          replace h1 := h1.mono Lw29
          replace h2 := h2.mono Lw29
          replace h3 := h3.mono Lw29
          replace hn16 := hn16.mono Lw29
          replace hn25 := hn25.mono Lw29
          replace hn26 := hn26.mono Lw29
          replace hn30 := hn30.mono Lw29
          replace hn36 := hn36.mono Lw29
          replace hn37 := hn37.mono Lw29
          replace hn47 := hn47.mono Lw29
          replace hn52 := hn52.mono Lw29
          replace hn53 := hn53.mono Lw29
          replace hn54 := hn54.mono Lw29
          replace hy1 := hy1.mono Lw29
          replace hy2 := hy2.mono Lw29
          replace hn90 := hn90.mono Lw29
          replace hn91 := hn91.mono Lw29
          replace hn92 := hn92.mono Lw29
          replace hn96 := hn96.mono Lw29
          have hn97 := hf97.nat hM97; replace hf97 := hf97.less hS97
          refine ops_guard_t rfl rfl ?_
          refine ops_callv rfl bod22 rfl rfl ?_
          refine (same1_c (M := M) (by assumption) (by assumption) hM).mono ?_
          rintro v98 w30 ⟨hB98, rfl⟩
          have Lw30 := Le.of_below (Fz := Fz) (M := M) hB98
          replace LL := LL.trans Lw30
          replace LR := LR.trans Lw30
          replace hM := hM.mono Lw30
          replace hF := hF.mono Lw30
          replace h1 := h1.mono Lw30
          replace h2 := h2.mono Lw30
          replace h3 := h3.mono Lw30
          replace hn16 := hn16.mono Lw30
          replace hn25 := hn25.mono Lw30
          replace hn26 := hn26.mono Lw30
          replace hn30 := hn30.mono Lw30
          replace hn36 := hn36.mono Lw30
          replace hn37 := hn37.mono Lw30
          replace hn47 := hn47.mono Lw30
          replace hn52 := hn52.mono Lw30
          replace hn53 := hn53.mono Lw30
          replace hn54 := hn54.mono Lw30
          replace hy1 := hy1.mono Lw30
          replace hy2 := hy2.mono Lw30
          replace hn90 := hn90.mono Lw30
          replace hn91 := hn91.mono Lw30
          replace hn92 := hn92.mono Lw30
          replace hn96 := hn96.mono Lw30
          replace hn97 := hn97.mono Lw30
          refine ops_pick rfl rfl rfl ?_
          refine ops_move rfl rfl ?_
          refine ops_bt (d := 100) rfl (by simp [val_limbs]) ?_
          refine ops_guard_t rfl rfl ?_
          refine ops_callv rfl bod17 rfl rfl ?_
          refine (wakes1_c (M := M) hM).mono ?_
          rintro v101 w31 ⟨hB101, rfl⟩
          have Lw31 := Le.of_below (Fz := Fz) (M := M) hB101
          replace LL := LL.trans Lw31
          replace LR := LR.trans Lw31
          replace hM := hM.mono Lw31
          replace hF := hF.mono Lw31
          replace h1 := h1.mono Lw31
          replace h2 := h2.mono Lw31
          replace h3 := h3.mono Lw31
          replace hn16 := hn16.mono Lw31
          replace hn25 := hn25.mono Lw31
          replace hn26 := hn26.mono Lw31
          replace hn30 := hn30.mono Lw31
          replace hn36 := hn36.mono Lw31
          replace hn37 := hn37.mono Lw31
          replace hn47 := hn47.mono Lw31
          replace hn52 := hn52.mono Lw31
          replace hn53 := hn53.mono Lw31
          replace hn54 := hn54.mono Lw31
          replace hy1 := hy1.mono Lw31
          replace hy2 := hy2.mono Lw31
          replace hn90 := hn90.mono Lw31
          replace hn91 := hn91.mono Lw31
          replace hn92 := hn92.mono Lw31
          replace hn96 := hn96.mono Lw31
          replace hn97 := hn97.mono Lw31
          refine ops_pick rfl rfl rfl ?_
          refine ops_assign rfl rfl ?_
          refine ops_nil ?_
          refine SL.wp_ret ?_
          refine leave_nil ⟨[_], ⟨rfl, trivial⟩, ?_⟩
          dsimp only [resVal]
          subst hFz
          exact ⟨LL.below (Nat.le_refl _), by first | rfl | simp⟩

end Go.Proofs.Ytffakiheophioaa
