import Derived.Test.YtffakiheophioaaW9
import Derived.Test.YtffakiheophioaaSLo
import Derived.Test.YtffakiheophioaaSLn
set_option linter.unusedVariables false
set_option linter.unusedSimpArgs false
set_option maxRecDepth 100000
namespace Go.Proofs.Ytffakiheophioaa
open Go.SL Go.RowKit Go.Proofs

theorem natOwn_c {M : Nat → Prop} {w : World} {v1 v2 : Value} {xs ys : List Nat} (h1 : IsNat M w v1 xs) (h2 : IsNat M w v2 ys) (hM : OkM M w) :
    CallsV Try.prog 7 [v1, v2] w fun r w' => Below w.heap.size w w' ∧ r = .bool true := by
  obtain ⟨Fz, hFz⟩ : ∃ Fz : Nat → Prop, Fz = (· < w.heap.size) := ⟨_, rfl⟩
  have hF : FOk Fz w := by subst hFz; exact fun _ h => h
  have LL := Le.refl Fz M w; have hM0 := hM
  refine calls_intro Try.func7 rfl Try.ntmps7 rfl ?_
  refine SL.wp_seq ?_
  refine SL.wp_region ?_
  refine ops_assign rfl rfl ?_
  refine ops_nil ?_
  refine SL.wp_seq ?_
  refine SL.wp_seq ?_
  refine SL.wp_region ?_
  refine ops_move rfl rfl ?_
  refine ops_move rfl rfl ?_
  refine ops_buildSlice rfl Try.underlying24 sz23 rfl rfl rfl (one2 (by first | rfl | exact nat_one (by assumption) | exact own_one (by assumption)) (by first | rfl | exact nat_one (by assumption) | exact own_one (by assumption))) rfl (fun w1 b14 N14 => ?_)
  have hBw1 := N14.below
  have nM14 := hM.new N14; have B14 := N14.blk
  have Lw1 := Le.of_below (Fz := Fz) (M := M) hBw1
  replace LL := LL.trans Lw1
  replace hM := hM.mono Lw1
  replace hF := hF.mono Lw1
  replace h1 := h1.mono Lw1
  replace h2 := h2.mono Lw1
  have hn14 := nats2 B14 nM14 h1 h2
  refine ops_callv rfl bod16 rfl rfl ?_
  refine (great_d (M := M) (by assumption) hM).mono ?_
  rintro v15 w2 ⟨hB15, rfl⟩
  have Lw2 := Le.of_below (Fz := Fz) (M := M) hB15
  replace LL := LL.trans Lw2
  replace hM := hM.mono Lw2
  replace hF := hF.mono Lw2
  replace h1 := h1.mono Lw2
  replace h2 := h2.mono Lw2
  replace hn14 := hn14.mono Lw2
  refine ops_nil ?_
  refine SL.wp_cond_d rfl (fun hc0 => ?_) (fun hc0 => ?_)
  · refine SL.wp_seq ?_
    refine SL.wp_region ?_
    refine ops_callv rfl bod17 rfl rfl ?_
    refine (wakes1_c (M := M) hM).mono ?_
    rintro v16 w3 ⟨hB16, rfl⟩
    have Lw3 := Le.of_below (Fz := Fz) (M := M) hB16
    replace LL := LL.trans Lw3
    replace hM := hM.mono Lw3
    replace hF := hF.mono Lw3
    replace h1 := h1.mono Lw3
    replace h2 := h2.mono Lw3
    replace hn14 := hn14.mono Lw3
    refine ops_assign rfl rfl ?_
    refine ops_nil ?_
    refine SL.wp_ret ?_
    refine leave_nil ⟨[_], ⟨rfl, trivial⟩, ?_⟩
    dsimp only [resVal]
    subst hFz
    exact ⟨LL.below (Nat.le_refl _), by first | rfl | simp⟩
  · have hg := not_great2 (xs := xs) (ys := ys) (by simpa using hc0)
    have hq4 := hg.1; have hq5 := hg.2
    refine SL.wp_skip ?_
    refine SL.wp_seq ?_
    refine SL.wp_region ?_
    refine ops_buildSlice rfl Try.underlying23 sz43 rfl rfl rfl (by simp) rfl (fun w4 b17 N17 => ?_)
    have nF17 := hF.new N17; have nM17 := hM.new N17; have hBw4 := N17.below
    have Lw4 := Le.of_new_mo (Fz := Fz) (M := M) (v := Value.slice (some ⟨b17, 0, none⟩) 0 0) N17 rfl
    replace LL := LL.trans Lw4
    replace hM := hM.mono Lw4
    replace hF := hF.mono Lw4
    replace h1 := h1.mono Lw4
    replace h2 := h2.mono Lw4
    replace hn14 := hn14.mono Lw4
    have Of : ∀ k, (Value.slice (some ⟨b17, 0, none⟩) 0 0).ownBlock = some k → ¬ Fz k := slice_own nF17
    have Om : ∀ k, (Value.slice (some ⟨b17, 0, none⟩) 0 0).ownBlock = some k → ¬ M k := slice_own nM17
    have Ow := own_blk (n := 0) (c := 0) N17.blk rfl (Nat.le_refl _) (by omega)
    refine ops_move rfl rfl ?_
    refine ops_append rfl Try.underlying23 sz43 rfl rfl rfl Ow h1.slc (lw_one _) (by omega) (by omega) (fun v19 w5 A19 G19 S19 => ?_)
    have Lw5 := Le.of_grown (Fz := Fz) (M := M) G19 S19 A19 Of
    have Omo19 := Om
    replace Of := own_step_f (w' := w5) Of hF S19; replace Om := own_step_m (w' := w5) Om (fun k hk => hM k (.inr hk)) S19
    replace LL := LL.trans Lw5
    replace hM := hM.mono Lw5
    replace hF := hF.mono Lw5
    replace h1 := h1.mono Lw5
    replace h2 := h2.mono Lw5
    replace hn14 := hn14.mono Lw5
    clear Ow; have Ow := A19
    have Ld := Le.less (Fz := Fz) (w := w5) (M := (Mo v19 M)) (M' := M) fun k hk => .inr hk
    replace LL := LL.trans Ld
    replace hM := hM.mono Ld
    replace hF := hF.mono Ld
    replace h1 := h1.mono Ld
    replace h2 := h2.mono Ld
    replace hn14 := hn14.mono Ld
    clear Ld
    have hn19 : IsNat M w5 v19 xs := ⟨own_slc (n := xs.length) (by simpa using Ow) Om (by omega), h1.lt⟩
    clear Ow Of Om
    refine ops_buildSlice rfl Try.underlying23 sz43 rfl rfl rfl (by simp) rfl (fun w6 b20 N20 => ?_)
    have nF20 := hF.new N20; have nM20 := hM.new N20; have hBw6 := N20.below
    have Lw6 := Le.of_new_mo (Fz := Fz) (M := M) (v := Value.slice (some ⟨b20, 0, none⟩) 0 0) N20 rfl
    replace LL := LL.trans Lw6
    replace hM := hM.mono Lw6
    replace hF := hF.mono Lw6
    replace h1 := h1.mono Lw6
    replace h2 := h2.mono Lw6
    replace hn14 := hn14.mono Lw6
    replace hn19 := hn19.mono Lw6
    have Of : ∀ k, (Value.slice (some ⟨b20, 0, none⟩) 0 0).ownBlock = some k → ¬ Fz k := slice_own nF20
    have Om : ∀ k, (Value.slice (some ⟨b20, 0, none⟩) 0 0).ownBlock = some k → ¬ M k := slice_own nM20
    have Ow := own_blk (n := 0) (c := 0) N20.blk rfl (Nat.le_refl _) (by omega)
    refine ops_move rfl rfl ?_
    refine ops_append rfl Try.underlying23 sz43 rfl rfl rfl Ow h2.slc (lw_one _) (by omega) (by omega) (fun v22 w7 A22 G22 S22 => ?_)
    have Lw7 := Le.of_grown (Fz := Fz) (M := M) G22 S22 A22 Of
    have Omo22 := Om
    replace Of := own_step_f (w' := w7) Of hF S22; replace Om := own_step_m (w' := w7) Om (fun k hk => hM k (.inr hk)) S22
    replace LL := LL.trans Lw7
    replace hM := hM.mono Lw7
    replace hF := hF.mono Lw7
    replace h1 := h1.mono Lw7
    replace h2 := h2.mono Lw7
    replace hn14 := hn14.mono Lw7
    replace hn19 := hn19.mono Lw7
    clear Ow; have Ow := A22
    have Ld := Le.less (Fz := Fz) (w := w7) (M := (Mo v22 M)) (M' := M) fun k hk => .inr hk
    replace LL := LL.trans Ld
    replace hM := hM.mono Ld
    replace hF := hF.mono Ld
    replace h1 := h1.mono Ld
    replace h2 := h2.mono Ld
    replace hn14 := hn14.mono Ld
    replace hn19 := hn19.mono Ld
    clear Ld
    have hn22 : IsNat M w7 v22 ys := ⟨own_slc (n := ys.length) (by simpa using Ow) Om (by omega), h2.lt⟩
    clear Ow Of Om
    refine ops_assign rfl rfl ?_
    refine ops_assign rfl rfl ?_
    refine ops_nil ?_
    refine SL.wp_seq ?_
    refine SL.wp_region ?_
    refine ops_move rfl rfl ?_
    refine ops_move rfl rfl ?_
    refine ops_callv rfl bod20 rfl rfl ?_
    refine (sub_d (M := M) h1 h2 (by omega) (by omega) hM).mono ?_
    rintro v26 w8 ⟨hB26, q26, rfl, hf26⟩
    have hM26 := hM; have hS26 := LL.size
    have F26 : ∀ k, q26.ownBlock = some k → ¬ Fz k := fun k hk c => absurd (hF k c) (Nat.not_lt.2 (hf26.new k hk))
    have X26 : ∀ k, q26.ownBlock = some k → ¬ M k := fun k hk c => absurd (hM k c) (Nat.not_lt.2 (hf26.new k hk))
    have Lw8 := Le.of_fresh (Fz := Fz) (M := M) hB26 hf26
    replace LL := LL.trans Lw8
    replace hM := hM.mono Lw8
    replace hF := hF.mono Lw8
    replace h1 := h1.mono Lw8
    replace h2 := h2.mono Lw8
    replace hn14 := hn14.mono Lw8
    replace hn19 := hn19.mono Lw8
    replace hn22 := hn22.mono Lw8
    have O26 := hf26.own; have T26 := hf26.lt; have Z26 := hf26.len
    refine ops_move rfl rfl ?_
    refine ops_extract rfl rfl rfl ?_
    refine ops_extract rfl rfl rfl ?_
    refine ops_assign rfl rfl ?_
    refine ops_assign rfl rfl ?_
    refine ops_nil ?_
    refine SL.wp_seq ?_
    refine SL.wp_seq ?_
    refine SL.wp_region ?_
    refine ops_move rfl rfl ?_
    refine ops_callv rfl bod25 rfl rfl ?_
    refine (trim_c (M := (Mo q26 M)) h1 (by omega) hM).mono ?_
    rintro v30 w9 ⟨hB30, hf30⟩
    have F30 : ∀ k, v30.ownBlock = some k → ¬ Fz k := fun k hk c => absurd (hF k c) (Nat.not_lt.2 (hf30.new k hk))
    have X30 : ∀ k, v30.ownBlock = some k → ¬ (Mo q26 M) k := fun k hk c => absurd (hM k c) (Nat.not_lt.2 (hf30.new k hk))
    have Lw9 := Le.of_fresh (Fz := Fz) (M := (Mo q26 M)) hB30 hf30
    replace LL := LL.trans Lw9
    replace hM := hM.mono Lw9
    replace hF := hF.mono Lw9
    replace h1 := h1.mono Lw9
    replace h2 := h2.mono Lw9
    replace hn14 := hn14.mono Lw9
    replace hn19 := hn19.mono Lw9
    replace hn22 := hn22.mono Lw9
    replace O26 := own_below O26 hB30
    have O30 := hf30.own; have T30 := hf30.lt; have Z30 := hf30.len
    refine ops_move rfl rfl ?_
    refine ops_buildSlice rfl Try.underlying24 sz23 rfl rfl rfl (one1 (by first | rfl | exact nat_one (by assumption) | exact own_one (by assumption))) rfl (fun w10 b32 N32 => ?_)
    have hBw10 := N32.below
    have nM32 := hM.new N32; have B32 := N32.blk
    have Lw10 := Le.of_below (Fz := Fz) (M := (Mo v30 (Mo q26 M))) hBw10
    replace LL := LL.trans Lw10
    replace hM := hM.mono Lw10
    replace hF := hF.mono Lw10
    replace h1 := h1.mono Lw10
    replace h2 := h2.mono Lw10
    replace hn14 := hn14.mono Lw10
    replace hn19 := hn19.mono Lw10
    replace hn22 := hn22.mono Lw10
    replace O26 := own_below O26 hBw10
    replace O30 := own_below O30 hBw10
    have hn32 := nats1 B32 nM32 h1
    refine ops_callv rfl bod29 rfl rfl ?_
    refine (add_c (M := (Mo v30 (Mo q26 M))) hn32 (by intro q hq; simp at hq; subst hq; omega) (by simp) hM).mono ?_
    rintro v33 w11 ⟨hB33, hf33⟩
    have F33 : ∀ k, v33.ownBlock = some k → ¬ Fz k := fun k hk c => absurd (hF k c) (Nat.not_lt.2 (hf33.new k hk))
    have X33 : ∀ k, v33.ownBlock = some k → ¬ (Mo v30 (Mo q26 M)) k := fun k hk c => absurd (hM k c) (Nat.not_lt.2 (hf33.new k hk))
    have Lw11 := Le.of_fresh (Fz := Fz) (M := (Mo v30 (Mo q26 M))) hB33 hf33
    replace LL := LL.trans Lw11
    replace hM := hM.mono Lw11
    replace hF := hF.mono Lw11
    replace h1 := h1.mono Lw11
    replace h2 := h2.mono Lw11
    replace hn14 := hn14.mono Lw11
    replace hn19 := hn19.mono Lw11
    replace hn22 := hn22.mono Lw11
    replace hn32 := hn32.mono Lw11
    replace O26 := own_below O26 hB33
    replace O30 := own_below O30 hB33
    have O33 := hf33.own; have T33 := hf33.lt; have Z33 := hf33.len
    refine ops_move rfl rfl ?_
    refine ops_move rfl rfl ?_
    refine ops_buildSlice rfl Try.underlying24 sz23 rfl rfl rfl (one2 (by first | rfl | exact nat_one (by assumption) | exact own_one (by assumption)) (by first | rfl | exact nat_one (by assumption) | exact own_one (by assumption))) rfl (fun w12 b36 N36 => ?_)
    have hBw12 := N36.below
    have nM36 := hM.new N36; have B36 := N36.blk
    have Lw12 := Le.of_below (Fz := Fz) (M := (Mo v33 (Mo v30 (Mo q26 M)))) hBw12
    replace LL := LL.trans Lw12
    replace hM := hM.mono Lw12
    replace hF := hF.mono Lw12
    replace h1 := h1.mono Lw12
    replace h2 := h2.mono Lw12
    replace hn14 := hn14.mono Lw12
    replace hn19 := hn19.mono Lw12
    replace hn22 := hn22.mono Lw12
    replace hn32 := hn32.mono Lw12
    replace O26 := own_below O26 hBw12
    replace O30 := own_below O30 hBw12
    replace O33 := own_below O33 hBw12
    have hn36 := nats2 B36 nM36 h1 h2
    refine ops_callv rfl bod29 rfl rfl ?_
    refine (add_c (M := (Mo v33 (Mo v30 (Mo q26 M)))) hn36 (by intro q hq; simp at hq; rcases hq with rfl | rfl <;> omega) (by simp) hM).mono ?_
    rintro v37 w13 ⟨hB37, hf37⟩
    have F37 : ∀ k, v37.ownBlock = some k → ¬ Fz k := fun k hk c => absurd (hF k c) (Nat.not_lt.2 (hf37.new k hk))
    have X37 : ∀ k, v37.ownBlock = some k → ¬ (Mo v33 (Mo v30 (Mo q26 M))) k := fun k hk c => absurd (hM k c) (Nat.not_lt.2 (hf37.new k hk))
    have Lw13 := Le.of_fresh (Fz := Fz) (M := (Mo v33 (Mo v30 (Mo q26 M)))) hB37 hf37
    replace LL := LL.trans Lw13
    replace hM := hM.mono Lw13
    replace hF := hF.mono Lw13
    replace h1 := h1.mono Lw13
    replace h2 := h2.mono Lw13
    replace hn14 := hn14.mono Lw13
    replace hn19 := hn19.mono Lw13
    replace hn22 := hn22.mono Lw13
    replace hn32 := hn32.mono Lw13
    replace hn36 := hn36.mono Lw13
    replace O26 := own_below O26 hB37
    replace O30 := own_below O30 hB37
    replace O33 := own_below O33 hB37
    have O37 := hf37.own; have T37 := hf37.lt; have Z37 := hf37.len
    refine ops_move rfl rfl ?_
    refine ops_buildSlice rfl Try.underlying24 sz23 rfl rfl rfl (one2 (by first | rfl | exact nat_one (by assumption) | exact own_one (by assumption)) (by first | rfl | exact nat_one (by assumption) | exact own_one (by assumption))) rfl (fun w14 b39 N39 => ?_)
    have hBw14 := N39.below
    have nM39 := hM.new N39; have B39 := N39.blk
    have Lw14 := Le.of_below (Fz := Fz) (M := (Mo v37 (Mo v33 (Mo v30 (Mo q26 M))))) hBw14
    replace LL := LL.trans Lw14
    replace hM := hM.mono Lw14
    replace hF := hF.mono Lw14
    replace h1 := h1.mono Lw14
    replace h2 := h2.mono Lw14
    replace hn14 := hn14.mono Lw14
    replace hn19 := hn19.mono Lw14
    replace hn22 := hn22.mono Lw14
    replace hn32 := hn32.mono Lw14
    replace hn36 := hn36.mono Lw14
    replace O26 := own_below O26 hBw14
    replace O30 := own_below O30 hBw14
    replace O33 := own_below O33 hBw14
    replace O37 := own_below O37 hBw14
    have hn39 := nats2 B39 nM39 isNat_nil h1
    refine ops_callv rfl bod29 rfl rfl ?_
    refine (add_c (M := (Mo v37 (Mo v33 (Mo v30 (Mo q26 M))))) hn39 (by intro q hq; simp at hq; rcases hq with rfl | rfl <;> first | omega | simp) (by simp) hM).mono ?_
    rintro v40 w15 ⟨hB40, hf40⟩
    have F40 : ∀ k, v40.ownBlock = some k → ¬ Fz k := fun k hk c => absurd (hF k c) (Nat.not_lt.2 (hf40.new k hk))
    have X40 : ∀ k, v40.ownBlock = some k → ¬ (Mo v37 (Mo v33 (Mo v30 (Mo q26 M)))) k := fun k hk c => absurd (hM k c) (Nat.not_lt.2 (hf40.new k hk))
    have Lw15 := Le.of_fresh (Fz := Fz) (M := (Mo v37 (Mo v33 (Mo v30 (Mo q26 M))))) hB40 hf40
    replace LL := LL.trans Lw15
    replace hM := hM.mono Lw15
    replace hF := hF.mono Lw15
    replace h1 := h1.mono Lw15
    replace h2 := h2.mono Lw15
    replace hn14 := hn14.mono Lw15
    replace hn19 := hn19.mono Lw15
    replace hn22 := hn22.mono Lw15
    replace hn32 := hn32.mono Lw15
    replace hn36 := hn36.mono Lw15
    replace hn39 := hn39.mono Lw15
    replace O26 := own_below O26 hB40
    replace O30 := own_below O30 hB40
    replace O33 := own_below O33 hB40
    replace O37 := own_below O37 hB40
    have O40 := hf40.own; have T40 := hf40.lt; have Z40 := hf40.len
    refine ops_move rfl rfl ?_
    refine ops_buildSlice rfl Try.underlying24 sz23 rfl rfl rfl (one5 (by first | rfl | exact nat_one (by assumption) | exact own_one (by assumption)) (by first | rfl | exact nat_one (by assumption) | exact own_one (by assumption)) (by first | rfl | exact nat_one (by assumption) | exact own_one (by assumption)) (by first | rfl | exact nat_one (by assumption) | exact own_one (by assumption)) (by first | rfl | exact nat_one (by assumption) | exact own_one (by assumption))) rfl (fun w16 b42 N42 => ?_)
    have hBw16 := N42.below
    have nM42 := hM.new N42; have B42 := N42.blk
    have Lw16 := Le.of_below (Fz := Fz) (M := (Mo v40 (Mo v37 (Mo v33 (Mo v30 (Mo q26 M)))))) hBw16
    replace LL := LL.trans Lw16
    replace hM := hM.mono Lw16
    replace hF := hF.mono Lw16
    replace h1 := h1.mono Lw16
    replace h2 := h2.mono Lw16
    replace hn14 := hn14.mono Lw16
    replace hn19 := hn19.mono Lw16
    replace hn22 := hn22.mono Lw16
    replace hn32 := hn32.mono Lw16
    replace hn36 := hn36.mono Lw16
    replace hn39 := hn39.mono Lw16
    replace O26 := own_below O26 hBw16
    replace O30 := own_below O30 hBw16
    replace O33 := own_below O33 hBw16
    replace O37 := own_below O37 hBw16
    replace O40 := own_below O40 hBw16
    obtain ⟨ls, hls⟩ : ∃ ls : List (Value × List Nat), ls = [(v30, limbs (val xs)), (v33, limbs (([xs].map val).sum)), (v37, limbs (([xs, ys].map val).sum)), (v40, limbs (([[], xs].map val).sum)), (q26, limbs (val xs - val ys))] := ⟨_, rfl⟩
    have hOs : Owned w16 43 ls := by
      subst hls
      refine ⟨O30, fun k hk p hp => ?_, O33, fun k hk p hp => ?_, O37, fun k hk p hp => ?_, O40, fun k hk p hp => ?_, O26, fun k hk p hp => by simp at hp, trivial⟩
      · simp at hp
        rcases hp with rfl | rfl | rfl | rfl
        · exact fun h => X33 k h (.inl hk)
        · exact fun h => X37 k h (.inr (.inl hk))
        · exact fun h => X40 k h (.inr (.inr (.inl hk)))
        · exact fun h => X30 k hk (.inl h)
      · simp at hp
        rcases hp with rfl | rfl | rfl
        · exact fun h => X37 k h (.inl hk)
        · exact fun h => X40 k h (.inr (.inl hk))
        · exact fun h => X33 k hk (.inr (.inl h))
      · simp at hp
        rcases hp with rfl | rfl
        · exact fun h => X40 k h (.inl hk)
        · exact fun h => X37 k hk (.inr (.inr (.inl h)))
      · simp at hp
        subst hp
        exact fun h => X40 k hk (.inr (.inr (.inr (.inl h))))
    have hmem : ∀ p ∈ ls, ∀ k, p.1.ownBlock = some k → (Mo v40 (Mo v37 (Mo v33 (Mo v30 (Mo q26 M))))) k ∧ ¬ Fz k := by
      subst hls
      intro p hp k hk
      simp at hp
      rcases hp with rfl | rfl | rfl | rfl | rfl
      · exact ⟨.inr (.inr (.inr (.inl hk))), F30 k hk⟩
      · exact ⟨.inr (.inr (.inl hk)), F33 k hk⟩
      · exact ⟨.inr (.inl hk), F37 k hk⟩
      · exact ⟨.inl hk, F40 k hk⟩
      · exact ⟨.inr (.inr (.inr (.inr (.inl hk)))), F26 k hk⟩
    have hnum : ∀ p ∈ ls, ∃ n, p.2 = limbs n := by
      subst hls
      intro p hp
      simp only [List.mem_cons, List.mem_nil_iff, or_false] at hp
      rcases hp with rfl | rfl | rfl | rfl | rfl <;> exact ⟨_, rfl⟩
    have hbig : ∀ p ∈ ls, p.2.length ≤ 9223372036854775807 := by
      subst hls
      intro p hp
      simp only [List.mem_cons, List.mem_nil_iff, or_false] at hp
      rcases hp with rfl | rfl | rfl | rfl | rfl <;> first | exact Z30 | exact Z33 | exact Z37 | exact Z40 | exact Z26
    have hl5 : ls.length = 5 := by rw [hls]; rfl
    have hsl : Slc (Mo v40 (Mo v37 (Mo v33 (Mo v30 (Mo q26 M))))) w16 1 (.slice (some ⟨b42, 0, none⟩) 5 5) 5 (ls.map (·.1)) := by
      rw [hls]; exact B42.slc nM42 rfl (fun j u hj => hj) (by omega) (Nat.le_refl _)
    clear O30 O33 O37 O40 O26
    first | refine ops_len rfl Try.underlying24 rfl ?_ | refine ops_lens rfl Try.underlying24 rfl (IsNat.slc (by assumption)) ?_ | refine ops_lenn rfl Try.underlying24 rfl (by assumption) ?_ | refine ops_leno rfl Try.underlying24 rfl (by assumption) ?_
    refine ops_move rfl rfl ?_
    refine ops_nil ?_
    refine SL.wp_block ?_
    refine SL.wp_loopc (σ := Nat) [(0, _), (1, _), (5, _), (6, _), (42, _), (43, _)] (fun s => [(44, .int .i64 ((s : Nat) : Int))]) (fun s w17 => Le Fz (Mo v40 (Mo v37 (Mo v33 (Mo v30 (Mo q26 M))))) w16 (Mo v40 (Mo v37 (Mo v33 (Mo v30 (Mo q26 M))))) w17 ∧ s ≤ 5 ∧ Owned w17 43 (ls.drop s)) (fun s => 5 - s) (0) (sub_cons rfl (sub_cons rfl (sub_cons rfl (sub_cons rfl (sub_cons rfl (sub_cons rfl (sub_cons rfl sub_nil))))))) ?_ (fun s w17 hJ => ?_)
    · exact ⟨Le.refl _ _ _, by omega, hOs⟩
    · obtain ⟨LR, hs, hOd⟩ := hJ
      replace LL := LL.trans LR
      replace hM := hM.mono LR
      replace hF := hF.mono LR
      replace h1 := h1.mono LR
      replace h2 := h2.mono LR
      replace hn14 := hn14.mono LR
      replace hn19 := hn19.mono LR
      replace hn22 := hn22.mono LR
      replace hn32 := hn32.mono LR
      replace hn36 := hn36.mono LR
      replace hn39 := hn39.mono LR
      replace hsl := hsl.mono LR
      refine SL.wp_seq ?_
      refine SL.wp_region ?_
      refine ops_lt rfl rfl rfl ?_
      refine ops_nil ?_
      refine SL.wp_seq ?_
      refine SL.wp_cond_d rfl (fun hc1 => ?_) (fun hc1 => ?_)
      · have h5 : s < ls.length := by omega
        obtain ⟨u, zs0, hu⟩ : ∃ u zs0, ls[s]? = some (u, zs0) := ⟨ls[s].1, ls[s].2, by simp [h5]⟩
        have hp : (u, zs0) ∈ ls := List.mem_of_getElem? hu
        have hdrop : ls.drop s = (u, zs0) :: ls.drop (s + 1) := by
          rw [List.drop_eq_getElem_cons h5]
          rw [List.getElem?_eq_getElem h5] at hu
          injection hu with hu
          rw [hu]
        rw [hdrop] at hOd
        obtain ⟨O1, hdis, hOr⟩ := hOd
        obtain ⟨n0, hn0⟩ := hnum _ hp
        have hlt0 : ∀ z ∈ zs0, z < 4294967296 := by
          have e : zs0 = limbs n0 := hn0
          rw [e]; exact limbs_lt _
        have hlast : 0 < zs0.length → zs0.getD (zs0.length - 1) 0 ≠ 0 := fun h => by
          have e : zs0 = limbs n0 := hn0
          rw [e] at h ⊢
          exact limbs_last (by intro e; rw [e] at h; simp at h)
        have hbg := hbig _ hp
        dsimp only at hbg O1 hdis
        refine SL.wp_skip ?_
        refine SL.wp_seq ?_
        refine SL.wp_block ?_
        refine SL.wp_seq ?_
        refine SL.wp_region ?_
        refine ops_idx s rfl Try.underlying24 sz23 rfl rfl hsl rfl (by omega) (fun b46 o46 _ hc46 => ?_)
        refine ops_load rfl flat23 rfl (u := u) (by have := hc46 0 u (by simp [hu]); simpa using this) ?_
        refine ops_assign rfl rfl ?_
        refine ops_nil ?_
        refine SL.wp_seq ?_
        refine SL.wp_seq ?_
        refine SL.wp_region ?_
        refine ops_move rfl rfl ?_
        first | refine ops_len rfl Try.underlying23 rfl ?_ | refine ops_lens rfl Try.underlying23 rfl (IsNat.slc (by assumption)) ?_ | refine ops_lenn rfl Try.underlying23 rfl (by assumption) ?_ | refine ops_leno rfl Try.underlying23 rfl (by assumption) ?_
        refine ops_gt rfl rfl rfl ?_
        refine ops_move rfl rfl ?_
        refine ops_dcase (d := 51) rfl (fun hg8_3 => ?_) (fun hg8_3 => ?_)
        · refine ops_guard_t rfl rfl ?_
          refine ops_move rfl rfl ?_
          refine ops_guard_t rfl rfl ?_
          refine ops_move rfl rfl ?_
          refine ops_guard_t rfl rfl ?_
          first | refine ops_len rfl Try.underlying23 rfl ?_ | refine ops_lens rfl Try.underlying23 rfl (IsNat.slc (by assumption)) ?_ | refine ops_lenn rfl Try.underlying23 rfl (by assumption) ?_ | refine ops_leno rfl Try.underlying23 rfl (by assumption) ?_
          refine ops_guard_t rfl rfl ?_
          refine ops_sub rfl rfl rfl (by omega) ?_
          refine ops_guard_t rfl rfl ?_
          refine ops_idxo (zs0.length - 1) rfl Try.underlying23 sz43 rfl rfl O1 (by omega) (by omega) (fun b56 cur56 cap56 B56 => ?_)
          refine ops_guard_t rfl rfl ?_
          refine ops_loadb rfl flat43 rfl B56.blk (B56.get (map_lw_get (by omega))) ?_
          refine ops_guard_t rfl rfl ?_
          refine ops_eq rfl rfl rfl ?_
          refine ops_bf (d := 58) rfl (decide_eq_false (by have := hlast (by omega); omega)) ?_
          refine ops_pick rfl rfl rfl ?_
          refine ops_nil ?_
          refine SL.wp_cond_f rfl ?_
          refine SL.wp_skip ?_
          refine SL.wp_seq ?_
          refine SL.wp_region ?_
          refine ops_move rfl rfl ?_
          first | refine ops_len rfl Try.underlying23 rfl ?_ | refine ops_lens rfl Try.underlying23 rfl (IsNat.slc (by assumption)) ?_ | refine ops_lenn rfl Try.underlying23 rfl (by assumption) ?_ | refine ops_leno rfl Try.underlying23 rfl (by assumption) ?_
          refine ops_move rfl rfl ?_
          refine ops_nil ?_
          refine SL.wp_block ?_
          refine SL.wp_loopc (σ := Nat) [(0, _), (1, _), (5, _), (6, _), (10, _), (42, _), (43, _), (44, _), (61, _)] (fun j => [(62, .int .i64 ((j : Nat) : Int))]) (fun j w18 => Le Fz (Mo v40 (Mo v37 (Mo v33 (Mo v30 (Mo q26 M))))) w17 (Mo v40 (Mo v37 (Mo v33 (Mo v30 (Mo q26 M))))) w18 ∧ j ≤ zs0.length ∧ (∃ zs : List Nat, zs.length = zs0.length ∧ (∀ z ∈ zs, z < 4294967296) ∧ w18.ownsRow 0 43 1 u zs.length (zs.map lw)) ∧ Owned w18 43 (ls.drop (s + 1))) (fun j => zs0.length - j) (0) (sub_cons rfl (sub_cons rfl (sub_cons rfl (sub_cons rfl (sub_cons rfl (sub_cons rfl (sub_cons rfl (sub_cons rfl (sub_cons rfl (sub_cons rfl sub_nil)))))))))) ?_ (fun j w18 hJ => ?_)
          · exact ⟨Le.refl _ _ _, by omega, ⟨zs0, rfl, hlt0, O1⟩, hOr⟩
          · clear O1 hOr
            obtain ⟨LR2, hj, ⟨zs, hzl, hzt, O1⟩, hOr⟩ := hJ
            have hzb := getD_lt hzt j
            replace LL := LL.trans LR2
            replace LR := LR.trans LR2
            replace hM := hM.mono LR2
            replace hF := hF.mono LR2
            replace h1 := h1.mono LR2
            replace h2 := h2.mono LR2
            replace hn14 := hn14.mono LR2
            replace hn19 := hn19.mono LR2
            replace hn22 := hn22.mono LR2
            replace hn32 := hn32.mono LR2
            replace hn36 := hn36.mono LR2
            replace hn39 := hn39.mono LR2
            replace hsl := hsl.mono LR2
            refine SL.wp_seq ?_
            refine SL.wp_region ?_
            refine ops_lt rfl rfl rfl ?_
            refine ops_nil ?_
            refine SL.wp_seq ?_
            refine SL.wp_cond_d rfl (fun hc2 => ?_) (fun hc2 => ?_)
            · refine SL.wp_skip ?_
              refine SL.wp_seq ?_
              refine SL.wp_block ?_
              refine SL.wp_seq ?_
              refine SL.wp_region ?_
              refine ops_move rfl rfl ?_
              refine ops_assign rfl rfl ?_
              refine ops_nil ?_
              refine SL.wp_region ?_
              refine ops_move rfl rfl ?_
              refine ops_move rfl rfl ?_
              refine ops_move rfl rfl ?_
              refine ops_move rfl rfl ?_
              refine ops_idxo j rfl Try.underlying23 sz43 rfl rfl O1 rfl (by omega) (fun b69 cur69 cap69 B69 => ?_)
              refine ops_loadb rfl flat43 rfl B69.blk (B69.get (map_lw_get (by omega))) ?_
              refine ops_xoru (a := zs.getD j 0) (b := 1) rfl rfl rfl (by simp only [IntKind.bits]; omega) (by decide) (.inr rfl) ?_
              refine ops_idxo j rfl Try.underlying23 sz43 rfl rfl O1 rfl (by omega) (fun b72 cur72 cap72 B72 => ?_)
              refine ops_store rfl rfl sz43 B72.blk rfl (by have := B72.len; have := B72.le; omega) (by simp [Value.cells, Value.oneCell']) (fun w19 Cw19 BN => ?_)
              have Lw19 := Le.of_chg (Fz := Fz) (M := (Mo v40 (Mo v37 (Mo v33 (Mo v30 (Mo q26 M)))))) Cw19 (hmem _ hp b72 B72.own).1 (hmem _ hp b72 B72.own).2
              replace LL := LL.trans Lw19
              replace LR := LR.trans Lw19
              replace LR2 := LR2.trans Lw19
              replace hM := hM.mono Lw19
              replace hF := hF.mono Lw19
              replace h1 := h1.mono Lw19
              replace h2 := h2.mono Lw19
              replace hn14 := hn14.mono Lw19
              replace hn19 := hn19.mono Lw19
              replace hn22 := hn22.mono Lw19
              replace hn32 := hn32.mono Lw19
              replace hn36 := hn36.mono Lw19
              replace hn39 := hn39.mono Lw19
              replace hsl := hsl.mono Lw19
              have O2 := B72.set (by omega) BN
              replace hOr := hOr.chg Cw19 (fun q hq => hdis b72 B72.own q hq)
              clear O1
              refine ops_nil ?_
              refine SL.wp_region ?_
              refine ops_add rfl rfl rfl (by omega) ?_
              refine ops_move rfl rfl ?_
              refine ops_nil ?_
              refine ⟨rfl, j + 1, (sub_cons' rfl (by rw [Int.natCast_add]; rfl) (sub_cons rfl (sub_cons rfl (sub_cons rfl (sub_cons rfl (sub_cons rfl (sub_cons rfl (sub_cons rfl (sub_cons rfl (sub_cons rfl sub_nil)))))))))), ?_, ?_⟩
              exact ⟨LR2, by omega, ⟨zs.set j (zs.getD j 0 ^^^ 1), by simp [hzl], fun z hz => by
                rcases List.mem_or_eq_of_mem_set hz with h | h
                · exact hzt z h
                · subst h; exact Nat.xor_lt_two_pow (n := 32) (by omega) (by decide), by rw [List.length_set, List.map_set]; exact O2⟩, hOr⟩
              omega
            · refine SL.wp_exit ?_
              refine upd_hit ?_
              refine SL.wp_region ?_
              refine ops_add rfl rfl rfl (by omega) ?_
              refine ops_move rfl rfl ?_
              refine ops_nil ?_
              refine ⟨rfl, s + 1, (sub_cons' rfl (by rw [Int.natCast_add]; rfl) (sub_cons rfl (sub_cons rfl (sub_cons rfl (sub_cons rfl (sub_cons rfl (sub_cons rfl sub_nil))))))), ?_, ?_⟩
              exact ⟨LR, by omega, hOr⟩
              omega
        · refine ops_guard_f rfl rfl rfl rfl ?_
          refine ops_guard_f rfl rfl rfl rfl ?_
          refine ops_guard_f rfl rfl rfl rfl ?_
          refine ops_guard_f rfl rfl rfl rfl ?_
          refine ops_guard_f rfl rfl rfl rfl ?_
          refine ops_guard_f rfl rfl rfl rfl ?_
          refine ops_guard_f rfl rfl rfl rfl ?_
          refine ops_pick rfl rfl rfl ?_
          refine ops_nil ?_
          refine SL.wp_cond_f rfl ?_
          refine SL.wp_skip ?_
          refine SL.wp_seq ?_
          refine SL.wp_region ?_
          refine ops_move rfl rfl ?_
          first | refine ops_len rfl Try.underlying23 rfl ?_ | refine ops_lens rfl Try.underlying23 rfl (IsNat.slc (by assumption)) ?_ | refine ops_lenn rfl Try.underlying23 rfl (by assumption) ?_ | refine ops_leno rfl Try.underlying23 rfl (by assumption) ?_
          refine ops_move rfl rfl ?_
          refine ops_nil ?_
          refine SL.wp_block ?_
          refine SL.wp_loopc (σ := Nat) [(0, _), (1, _), (5, _), (6, _), (10, _), (42, _), (43, _), (44, _), (61, _)] (fun j => [(62, .int .i64 ((j : Nat) : Int))]) (fun j w20 => Le Fz (Mo v40 (Mo v37 (Mo v33 (Mo v30 (Mo q26 M))))) w17 (Mo v40 (Mo v37 (Mo v33 (Mo v30 (Mo q26 M))))) w20 ∧ j ≤ zs0.length ∧ (∃ zs : List Nat, zs.length = zs0.length ∧ (∀ z ∈ zs, z < 4294967296) ∧ w20.ownsRow 0 43 1 u zs.length (zs.map lw)) ∧ Owned w20 43 (ls.drop (s + 1))) (fun j => zs0.length - j) (0) (sub_cons rfl (sub_cons rfl (sub_cons rfl (sub_cons rfl (sub_cons rfl (sub_cons rfl (sub_cons rfl (sub_cons rfl (sub_cons rfl (sub_cons rfl sub_nil)))))))))) ?_ (fun j w20 hJ => ?_)
          · exact ⟨Le.refl _ _ _, by omega, ⟨zs0, rfl, hlt0, O1⟩, hOr⟩
          · clear O1 hOr
            obtain ⟨LR2, hj, ⟨zs, hzl, hzt, O1⟩, hOr⟩ := hJ
            have hzb := getD_lt hzt j
            replace LL := LL.trans LR2
            replace LR := LR.trans LR2
            replace hM := hM.mono LR2
            replace hF := hF.mono LR2
            replace h1 := h1.mono LR2
            replace h2 := h2.mono LR2
            replace hn14 := hn14.mono LR2
            replace hn19 := hn19.mono LR2
            replace hn22 := hn22.mono LR2
            replace hn32 := hn32.mono LR2
            replace hn36 := hn36.mono LR2
            replace hn39 := hn39.mono LR2
            replace hsl := hsl.mono LR2
            refine SL.wp_seq ?_
            refine SL.wp_region ?_
            refine ops_lt rfl rfl rfl ?_
            refine ops_nil ?_
            refine SL.wp_seq ?_
            refine SL.wp_cond_d rfl (fun hc3 => ?_) (fun hc3 => ?_)
            · refine SL.wp_skip ?_
              refine SL.wp_seq ?_
              refine SL.wp_block ?_
              refine SL.wp_seq ?_
              refine SL.wp_region ?_
              refine ops_move rfl rfl ?_
              refine ops_assign rfl rfl ?_
              refine ops_nil ?_
              refine SL.wp_region ?_
              refine ops_move rfl rfl ?_
              refine ops_move rfl rfl ?_
              refine ops_move rfl rfl ?_
              refine ops_move rfl rfl ?_
              refine ops_idxo j rfl Try.underlying23 sz43 rfl rfl O1 rfl (by omega) (fun b69 cur69 cap69 B69 => ?_)
              refine ops_loadb rfl flat43 rfl B69.blk (B69.get (map_lw_get (by omega))) ?_
              refine ops_xoru (a := zs.getD j 0) (b := 1) rfl rfl rfl (by simp only [IntKind.bits]; omega) (by decide) (.inr rfl) ?_
              refine ops_idxo j rfl Try.underlying23 sz43 rfl rfl O1 rfl (by omega) (fun b72 cur72 cap72 B72 => ?_)
              refine ops_store rfl rfl sz43 B72.blk rfl (by have := B72.len; have := B72.le; omega) (by simp [Value.cells, Value.oneCell']) (fun w21 Cw21 BN => ?_)
              have Lw21 := Le.of_chg (Fz := Fz) (M := (Mo v40 (Mo v37 (Mo v33 (Mo v30 (Mo q26 M)))))) Cw21 (hmem _ hp b72 B72.own).1 (hmem _ hp b72 B72.own).2
              replace LL := LL.trans Lw21
              replace LR := LR.trans Lw21
              replace LR2 := LR2.trans Lw21
              replace hM := hM.mono Lw21
              replace hF := hF.mono Lw21
              replace h1 := h1.mono Lw21
              replace h2 := h2.mono Lw21
              replace hn14 := hn14.mono Lw21
              replace hn19 := hn19.mono Lw21
              replace hn22 := hn22.mono Lw21
              replace hn32 := hn32.mono Lw21
              replace hn36 := hn36.mono Lw21
              replace hn39 := hn39.mono Lw21
              replace hsl := hsl.mono Lw21
              have O2 := B72.set (by omega) BN
              replace hOr := hOr.chg Cw21 (fun q hq => hdis b72 B72.own q hq)
              clear O1
              refine ops_nil ?_
              refine SL.wp_region ?_
              refine ops_add rfl rfl rfl (by omega) ?_
              refine ops_move rfl rfl ?_
              refine ops_nil ?_
              refine ⟨rfl, j + 1, (sub_cons' rfl (by rw [Int.natCast_add]; rfl) (sub_cons rfl (sub_cons rfl (sub_cons rfl (sub_cons rfl (sub_cons rfl (sub_cons rfl (sub_cons rfl (sub_cons rfl (sub_cons rfl sub_nil)))))))))), ?_, ?_⟩
              exact ⟨LR2, by omega, ⟨zs.set j (zs.getD j 0 ^^^ 1), by simp [hzl], fun z hz => by
                rcases List.mem_or_eq_of_mem_set hz with h | h
                · exact hzt z h
                · subst h; exact Nat.xor_lt_two_pow (n := 32) (by omega) (by decide), by rw [List.length_set, List.map_set]; exact O2⟩, hOr⟩
              omega
            · refine SL.wp_exit ?_
              refine upd_hit ?_
              refine SL.wp_region ?_
              refine ops_add rfl rfl rfl (by omega) ?_
              refine ops_move rfl rfl ?_
              refine ops_nil ?_
              refine ⟨rfl, s + 1, (sub_cons' rfl (by rw [Int.natCast_add]; rfl) (sub_cons rfl (sub_cons rfl (sub_cons rfl (sub_cons rfl (sub_cons rfl (sub_cons rfl sub_nil))))))), ?_, ?_⟩
              exact ⟨LR, by omega, hOr⟩
              omega
      · refine SL.wp_exit ?_
        refine upd_hit ?_
        refine SL.wp_seq ?_
        refine SL.wp_region ?_
        refine ops_move rfl rfl ?_
        refine ops_move rfl rfl ?_
        refine ops_callv rfl bod22 rfl rfl ?_
        refine (same1_c (M := (Mo v40 (Mo v37 (Mo v33 (Mo v30 (Mo q26 M)))))) (by assumption) (by assumption) hM).mono ?_
        rintro v77 w22 ⟨hB77, rfl⟩
        have Lw22 := Le.of_below (Fz := Fz) (M := (Mo v40 (Mo v37 (Mo v33 (Mo v30 (Mo q26 M)))))) hB77
        replace LL := LL.trans Lw22
        replace LR := LR.trans Lw22
        replace hM := hM.mono Lw22
        replace hF := hF.mono Lw22
        replace h1 := h1.mono Lw22
        replace h2 := h2.mono Lw22
        replace hn14 := hn14.mono Lw22
        replace hn19 := hn19.mono Lw22
        replace hn22 := hn22.mono Lw22
        replace hn32 := hn32.mono Lw22
        replace hn36 := hn36.mono Lw22
        replace hn39 := hn39.mono Lw22
        replace hsl := hsl.mono Lw22
        refine ops_move rfl rfl ?_
        refine ops_bt (d := 78) rfl (by first | rfl | simp | omega) ?_
        refine ops_guard_t rfl rfl ?_
        refine ops_move rfl rfl ?_
        refine ops_guard_t rfl rfl ?_
        refine ops_move rfl rfl ?_
        refine ops_guard_t rfl rfl ?_
        refine ops_callv rfl bod22 rfl rfl ?_
        refine (same1_c (M := (Mo v40 (Mo v37 (Mo v33 (Mo v30 (Mo q26 M)))))) (by assumption) (by assumption) hM).mono ?_
        rintro v81 w23 ⟨hB81, rfl⟩
        have Lw23 := Le.of_below (Fz := Fz) (M := (Mo v40 (Mo v37 (Mo v33 (Mo v30 (Mo q26 M)))))) hB81
        replace LL := LL.trans Lw23
        replace LR := LR.trans Lw23
        replace hM := hM.mono Lw23
        replace hF := hF.mono Lw23
        replace h1 := h1.mono Lw23
        replace h2 := h2.mono Lw23
        replace hn14 := hn14.mono Lw23
        replace hn19 := hn19.mono Lw23
        replace hn22 := hn22.mono Lw23
        replace hn32 := hn32.mono Lw23
        replace hn36 := hn36.mono Lw23
        replace hn39 := hn39.mono Lw23
        replace hsl := hsl.mono Lw23
        refine ops_pick rfl rfl rfl ?_
        refine ops_move rfl rfl ?_
        refine ops_bt (d := 83) rfl (by first | rfl | simp | omega) ?_
        refine ops_guard_t rfl rfl ?_
        refine ops_callv rfl bod17 rfl rfl ?_
        refine (wakes1_c (M := (Mo v40 (Mo v37 (Mo v33 (Mo v30 (Mo q26 M)))))) hM).mono ?_
        rintro v84 w24 ⟨hB84, rfl⟩
        have Lw24 := Le.of_below (Fz := Fz) (M := (Mo v40 (Mo v37 (Mo v33 (Mo v30 (Mo q26 M)))))) hB84
        replace LL := LL.trans Lw24
        replace LR := LR.trans Lw24
        replace hM := hM.mono Lw24
        replace hF := hF.mono Lw24
        replace h1 := h1.mono Lw24
        replace h2 := h2.mono Lw24
        replace hn14 := hn14.mono Lw24
        replace hn19 := hn19.mono Lw24
        replace hn22 := hn22.mono Lw24
        replace hn32 := hn32.mono Lw24
        replace hn36 := hn36.mono Lw24
        replace hn39 := hn39.mono Lw24
        replace hsl := hsl.mono Lw24
        refine ops_pick rfl rfl rfl ?_
        refine ops_assign rfl rfl ?_
        refine ops_nil ?_
        refine SL.wp_ret ?_
        refine leave_nil ⟨[_], ⟨rfl, trivial⟩, ?_⟩
        dsimp only [resVal]
        subst hFz
        exact ⟨LL.below (Nat.le_refl _), by first | rfl | simp⟩

end Go.Proofs.Ytffakiheophioaa
