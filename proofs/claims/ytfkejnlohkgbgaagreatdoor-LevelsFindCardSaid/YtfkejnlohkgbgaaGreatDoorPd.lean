/- Lemmas and walks of functions; no statement. -/
import Derived.Test.YtfkejnlohkgbgaaGreatDoorPc
set_option linter.unusedVariables false
set_option linter.unusedSimpArgs false
set_option maxRecDepth 100000
namespace Go.Proofs.YtfkejnlohkgbgaaGreatDoor
open Go.SL Go.RowKit Go.Proofs Tryz
section
variable {M : Nat → Prop} {w : World}
theorem raddp_c {Fz M : Nat → Prop} {w : World} {bn ba : Nat} {p q : Rat} {v u v2 u2 : Value} (hT : Tab M w) (Bn : Blk w bn 167 [.bool (decide (p.num < 0)), v, u]) (hv : IsNat M w v (limbs p.num.natAbs)) (hu : IsNat M w u (limbs p.den)) (hka : KBlk M w ba 167 [.bool (decide (q.num < 0)), v2, u2]) (hvq : IsNat M w v2 (limbs q.num.natAbs)) (huq : IsNat M w u2 (limbs q.den))
    (hl1 : (limbs p.num.natAbs).length ≤ 400000) (hl2 : (limbs p.den).length ≤ 400000) (hl3 : (limbs q.num.natAbs).length ≤ 400000) (hl4 : (limbs q.den).length ≤ 400000) (hmn : M bn) (nFn : ¬ Fz bn) (hF : FOk Fz w) (hM : OkM M w) :
    CallsV prog 214 [.pointer (some ⟨bn, 0, none⟩), .pointer (some ⟨ba, 0, none⟩)] w fun r w' => Le Fz M w M w' ∧ ∃ a d, Blk w' bn 167 [.bool (decide ((p + q).num < 0)), a, d] ∧ IsNat M w' a (limbs (p + q).num.natAbs) ∧ IsNat M w' d (limbs (p + q).den) := by
 have Ba := hka.blk
 have nea_n : ba ≠ bn := fun e => hka.not (e ▸ hmn)
 have hzd : ∀ n, zv false (limbs n) = ((n : Nat) : Int) := fun n => by simp [zv, zT]
 obtain ⟨K, hK⟩ : ∃ K : Nat, K = 400000 := ⟨_, rfl⟩
 rw [← hK] at hl1 hl2 hl3 hl4
 have hz1 : uV [(decide (p.num < 0), limbs p.num.natAbs), (false, limbs q.den)] = p.num * q.den := by unfold uV; simp only [List.foldl_cons, List.foldl_nil, gC, hzd, Int.one_mul]
 have hz2 : uV [(decide (q.num < 0), limbs q.num.natAbs), (false, limbs p.den)] = q.num * p.den := by unfold uV; simp only [List.foldl_cons, List.foldl_nil, gC, hzd, Int.one_mul]
 have hz3 : fC [(decide (p.num * q.den < 0), limbs (p.num * q.den).natAbs), (decide (q.num * p.den < 0), limbs (q.num * p.den).natAbs)] = p.num * q.den + q.num * p.den := by unfold fC; simp only [List.map_cons, List.map_nil, gC, List.sum_cons, List.sum_nil]; omega
 have hle1 : (limbs (p.num * q.den).natAbs).length ≤ 900000 := by have := uA (yU hl1) (yU hl4); rw [Int.natAbs_mul, Int.natAbs_natCast]; omega
 have hle2 : (limbs (q.num * p.den).natAbs).length ≤ 900000 := by have := uA (yU hl3) (yU hl2); rw [Int.natAbs_mul, Int.natAbs_natCast]; omega
 have hle3 : (limbs (p.num * q.den + q.num * p.den).natAbs).length ≤ 10000000 := by
   obtain ⟨J, hJ⟩ : ∃ J : Nat, J = 900000 := ⟨_, rfl⟩
   rw [← hJ] at hle1 hle2
   have := xG (Nat.lt_of_le_of_lt (Int.natAbs_add_le _ _) (aA (yU hle1) (yU hle2)))
   omega
 have hmk : mkRat (p.num * q.den + q.num * p.den) (p.den * q.den) = p + q := by
   conv => rhs; rw [← Rat.mkRat_self p, ← Rat.mkRat_self q]
   rw [Rat.mkRat_add_mkRat _ _ p.den_nz q.den_nz]
 have LL := Le.refl Fz M w
 refine jA func214 rfl ntmps214 rfl ?_
 refine zG ?_
 refine wd mixed 29 [0, 1, 4, 32] (kG (by decide +kernel)) ?_
 apply zL
 ·intro wq hR hst
  refine zQ rfl rfl (zF ?_)
  replace Bn := Bn.below hR
  replace Ba := Ba.below hR
  refine zA rfl rfl ?_
  exact on0 rfl
 apply zL
 ·intro wq hR hst
  refine zQ rfl rfl (zF ?_)
  replace Bn := Bn.below hR
  replace Ba := Ba.below hR
  refine zA rfl rfl ?_
  exact on0 rfl
 apply zL
 ·intro wq hR hst
  refine zK rfl (zF ?_)
  replace Bn := Bn.below hR
  replace Ba := Ba.below hR
  refine zV rfl rfl ?_
  exact on0 rfl
 apply zL
 ·intro wq hR hst
  refine zK rfl (zF ?_)
  replace Bn := Bn.below hR
  replace Ba := Ba.below hR
  refine zJ 0 rfl yu167 rfl rfl yL rfl rfl ?_
  exact on0 rfl
 apply zL
 ·intro wq hR hst
  refine zK rfl (zF ?_)
  replace Bn := Bn.below hR
  replace Ba := Ba.below hR
  refine zJ 0 rfl yu33 rfl rfl yV rfl rfl ?_
  exact on0 rfl
 apply zL
 ·intro wq hR hst
  refine zK rfl (zF ?_)
  replace Bn := Bn.below hR
  replace Ba := Ba.below hR
  refine zP rfl xU yV rfl Bn rfl rfl ?_
  exact on0 rfl
 apply zL
 ·intro wq hR hst
  refine zQ rfl rfl (zF ?_)
  replace Bn := Bn.below hR
  replace Ba := Ba.below hR
  refine zA rfl rfl ?_
  exact on0 rfl
 apply zL
 ·intro wq hR hst
  refine zK rfl (zF ?_)
  replace Bn := Bn.below hR
  replace Ba := Ba.below hR
  refine zV rfl rfl ?_
  exact on0 rfl
 apply zL
 ·intro wq hR hst
  refine zK rfl (zF ?_)
  replace Bn := Bn.below hR
  replace Ba := Ba.below hR
  refine zJ 0 rfl yu167 rfl rfl yL rfl rfl ?_
  exact on0 rfl
 apply zL
 ·intro wq hR hst
  refine zK rfl (zF ?_)
  replace Bn := Bn.below hR
  replace Ba := Ba.below hR
  refine zJ 2 rfl yu33 rfl rfl xS rfl rfl ?_
  exact on0 rfl
 apply zL
 ·intro wq hR hst
  refine zK rfl (zF ?_)
  replace Bn := Bn.below hR
  replace Ba := Ba.below hR
  refine zN rfl yP rfl Ba rfl ?_
  exact on0 rfl
 apply zL
 ·intro wq hR hst
  refine zK rfl (zF ?_)
  obtain ⟨LL, hM, hF, hT, hv, hu, hvq, huq, Bn, Ba⟩ := iR hR LL hM hF hT hv hu hvq huq Bn Ba
  refine zI rfl (bo func147) rfl rfl ?_
  refine (whole_c (by assumption) hM).mono ?_
  rintro v15 w1 ⟨hB15, rfl⟩
  replace Bn := Bn.below hB15
  replace Ba := Ba.below hB15
  exact on1 hB15 rfl rfl
 refine yZ (fun v w => IsInts M w v [(decide (p.num < 0), limbs p.num.natAbs), (false, limbs q.den)]) cJ (fun wq hR hst => ?_) ?_
 ·refine zK rfl (zK rfl (zF ?_))
  obtain ⟨hM, hv, huq, Bn, Ba⟩ := ub5 hR hM hv huq Bn Ba
  refine xN rfl yu174 yV rfl rfl rfl rfl (yB rfl (yB rfl xI)) rfl rfl rfl (fun w2 b16 N16 => ?_)
  have hBw2 := N16.below
  have nM16 := hM.new N16
  have B16 := N16.blk
  obtain ⟨hv, huq, Bn, Ba⟩ := ub4 hBw2 hv huq Bn Ba
  have hn16 : IsInts M w2 (.slice (some ⟨b16, 0, none⟩) 2 2) [(decide (p.num < 0), limbs p.num.natAbs), (false, limbs q.den)] := fR B16 nM16 hv huq
  have hB16 := hBw2
  exact on1 hB16 rfl hn16
 refine dv (fun v w => ∃ c, v = .agg #[.bool (decide (p.num * q.den < 0)), c] ∧ IsNat M w c (limbs (p.num * q.den).natAbs)) (fun wq hR hst => ?_) ?_
 ·refine yY rfl (fun v16 hn16 => ?_)
  refine zF ?_
  obtain ⟨hM, Bn, Ba⟩ := ub3 hR hM Bn Ba
  refine zI rfl (bo func146) rfl rfl ?_
  refine (eD (L := 400000) hn16 (by intro x hx; rcases List.mem_cons.1 hx with rfl | hx; exact jH _; rcases List.mem_cons.1 hx with rfl | hx; exact jH _; cases hx) (by intro x hx; rcases List.mem_cons.1 hx with rfl | hx; dsimp only; omega; rcases List.mem_cons.1 hx with rfl | hx; dsimp only; omega; cases hx) ⟨by simp, by omega⟩ hM).mono ?_
  rintro v17 w3 ⟨hB17, q17, rfl, hn17⟩
  replace Bn := Bn.below hB17
  replace Ba := Ba.below hB17
  rw [hz1]; rw [hz1] at hn17
  exact on1 hB17 rfl ⟨_, rfl, hn17⟩
 apply zL
 ·intro wq hR hst
  refine zQ rfl rfl (zF ?_)
  replace Bn := Bn.below hR
  replace Ba := Ba.below hR
  refine zA rfl rfl ?_
  exact on0 rfl
 apply zL
 ·intro wq hR hst
  refine zK rfl (zF ?_)
  replace Bn := Bn.below hR
  replace Ba := Ba.below hR
  refine zV rfl rfl ?_
  exact on0 rfl
 apply zL
 ·intro wq hR hst
  refine zK rfl (zF ?_)
  replace Bn := Bn.below hR
  replace Ba := Ba.below hR
  refine zJ 0 rfl yu167 rfl rfl yL rfl rfl ?_
  exact on0 rfl
 apply zL
 ·intro wq hR hst
  refine zK rfl (zF ?_)
  replace Bn := Bn.below hR
  replace Ba := Ba.below hR
  refine zJ 0 rfl yu33 rfl rfl yV rfl rfl ?_
  exact on0 rfl
 apply zL
 ·intro wq hR hst
  refine zK rfl (zF ?_)
  replace Bn := Bn.below hR
  replace Ba := Ba.below hR
  refine zP rfl xU yV rfl Ba rfl rfl ?_
  exact on0 rfl
 apply zL
 ·intro wq hR hst
  refine zQ rfl rfl (zF ?_)
  replace Bn := Bn.below hR
  replace Ba := Ba.below hR
  refine zA rfl rfl ?_
  exact on0 rfl
 apply zL
 ·intro wq hR hst
  refine zK rfl (zF ?_)
  replace Bn := Bn.below hR
  replace Ba := Ba.below hR
  refine zV rfl rfl ?_
  exact on0 rfl
 apply zL
 ·intro wq hR hst
  refine zK rfl (zF ?_)
  replace Bn := Bn.below hR
  replace Ba := Ba.below hR
  refine zJ 0 rfl yu167 rfl rfl yL rfl rfl ?_
  exact on0 rfl
 apply zL
 ·intro wq hR hst
  refine zK rfl (zF ?_)
  replace Bn := Bn.below hR
  replace Ba := Ba.below hR
  refine zJ 2 rfl yu33 rfl rfl xS rfl rfl ?_
  exact on0 rfl
 apply zL
 ·intro wq hR hst
  refine zK rfl (zF ?_)
  replace Bn := Bn.below hR
  replace Ba := Ba.below hR
  refine zN rfl yP rfl Bn rfl ?_
  exact on0 rfl
 apply zL
 ·intro wq hR hst
  refine zK rfl (zF ?_)
  obtain ⟨LL, hM, hF, hT, hv, hu, hvq, huq, Bn, Ba⟩ := iR hR LL hM hF hT hv hu hvq huq Bn Ba
  refine zI rfl (bo func147) rfl rfl ?_
  refine (whole_c (by assumption) hM).mono ?_
  rintro v28 w4 ⟨hB28, rfl⟩
  replace Bn := Bn.below hB28
  replace Ba := Ba.below hB28
  exact on1 hB28 rfl rfl
 refine yZ (fun v w => IsInts M w v [(decide (q.num < 0), limbs q.num.natAbs), (false, limbs p.den)]) cJ (fun wq hR hst => ?_) ?_
 ·refine zK rfl (zK rfl (zF ?_))
  obtain ⟨hM, hu, hvq, Bn, Ba⟩ := ub5 hR hM hu hvq Bn Ba
  refine xN rfl yu174 yV rfl rfl rfl rfl (yB rfl (yB rfl xI)) rfl rfl rfl (fun w5 b29 N29 => ?_)
  have hBw5 := N29.below
  have nM29 := hM.new N29
  have B29 := N29.blk
  obtain ⟨hu, hvq, Bn, Ba⟩ := ub4 hBw5 hu hvq Bn Ba
  have hn29 : IsInts M w5 (.slice (some ⟨b29, 0, none⟩) 2 2) [(decide (q.num < 0), limbs q.num.natAbs), (false, limbs p.den)] := fR B29 nM29 hvq hu
  have hB29 := hBw5
  exact on1 hB29 rfl hn29
 refine dv (fun v w => ∃ c, v = .agg #[.bool (decide (q.num * p.den < 0)), c] ∧ IsNat M w c (limbs (q.num * p.den).natAbs)) (fun wq hR hst => ?_) ?_
 ·refine yY rfl (fun v29 hn29 => ?_)
  refine zF ?_
  obtain ⟨hM, Bn, Ba⟩ := ub3 hR hM Bn Ba
  refine zI rfl (bo func146) rfl rfl ?_
  refine (eD (L := 400000) hn29 (by intro x hx; rcases List.mem_cons.1 hx with rfl | hx; exact jH _; rcases List.mem_cons.1 hx with rfl | hx; exact jH _; cases hx) (by intro x hx; rcases List.mem_cons.1 hx with rfl | hx; dsimp only; omega; rcases List.mem_cons.1 hx with rfl | hx; dsimp only; omega; cases hx) ⟨by simp, by omega⟩ hM).mono ?_
  rintro v30 w6 ⟨hB30, q30, rfl, hn30⟩
  replace Bn := Bn.below hB30
  replace Ba := Ba.below hB30
  rw [hz2]; rw [hz2] at hn30
  exact on1 hB30 rfl ⟨_, rfl, hn30⟩
 refine yZ (fun v w => IsInts M w v [(decide (p.num * q.den < 0), limbs (p.num * q.den).natAbs), (decide (q.num * p.den < 0), limbs (q.num * p.den).natAbs)]) cJ (fun wq hR hst => ?_) ?_
 ·refine yY rfl (fun v17 hn17 => ?_)
  refine yY rfl (fun v30 hn30 => ?_)
  refine zF ?_
  obtain ⟨hM, Bn, Ba⟩ := ub3 hR hM Bn Ba
  obtain ⟨q17, rfl, hn17x⟩ := hn17
  obtain ⟨q30, rfl, hn30x⟩ := hn30
  refine xN rfl yu174 yV rfl rfl rfl rfl (yB rfl (yB rfl xI)) rfl rfl rfl (fun w7 b31 N31 => ?_)
  have hBw7 := N31.below
  have nM31 := hM.new N31
  have B31 := N31.blk
  obtain ⟨hn17x, hn30x, Bn, Ba⟩ := ub4 hBw7 hn17x hn30x Bn Ba
  have hn31 : IsInts M w7 (.slice (some ⟨b31, 0, none⟩) 2 2) [(decide (p.num * q.den < 0), limbs (p.num * q.den).natAbs), (decide (q.num * p.den < 0), limbs (q.num * p.den).natAbs)] := fR B31 nM31 hn17x hn30x
  have hB31 := hBw7
  exact on1 hB31 rfl hn31
 refine dv (fun v w => ∃ c, v = .agg #[.bool (decide (p.num * q.den + q.num * p.den < 0)), c] ∧ IsNat M w c (limbs (p.num * q.den + q.num * p.den).natAbs)) (fun wq hR hst => ?_) ?_
 ·refine yY rfl (fun v31 hn31 => ?_)
  refine zF ?_
  obtain ⟨hM, Bn, Ba⟩ := ub3 hR hM Bn Ba
  refine zI rfl (bo func193) rfl rfl ?_
  refine (iadds_c (L := 900000) hn31 (by intro x hx; rcases List.mem_cons.1 hx with rfl | hx; exact jH _; rcases List.mem_cons.1 hx with rfl | hx; exact jH _; cases hx) (by intro x hx; rcases List.mem_cons.1 hx with rfl | hx; exact hle1; rcases List.mem_cons.1 hx with rfl | hx; exact hle2; cases hx) (by simp) hM).mono ?_
  rintro v32 w8 ⟨hB32, q32, rfl, hn32⟩
  replace Bn := Bn.below hB32
  replace Ba := Ba.below hB32
  rw [hz3]; rw [hz3] at hn32
  exact on1 hB32 rfl ⟨_, rfl, hn32⟩
 refine xQ (fun wq0 hR0 hpost0 => ?_)
 refine zQ rfl rfl (zQ rfl rfl (zK rfl (yY rfl (fun v32 hn32 => ?_))))
 refine zF ?_
 simp only [jW, jV, jU, jT]
 obtain ⟨LL, hM, hF, hT, hv, hu, hvq, huq, Bn, Ba⟩ := iR hR0 LL hM hF hT hv hu hvq huq Bn Ba
 obtain ⟨q32, rfl, hn32x⟩ := hn32
 refine zV rfl rfl (zJ 0 rfl yu167 rfl rfl yL rfl rfl (zJ 0 rfl yu33 rfl rfl yV rfl rfl (yC rfl rfl yV Bn rfl rfl (yK (yK jI)) rfl (fun w9 Cw9 Bn => ?_))))
 obtain ⟨LL, hM, hF, hT, hv, hu, hvq, huq, hn32x⟩ := up9 (lc LL Cw9 hmn nFn) LL hM hF hT hv hu hvq huq hn32x
 replace Ba := Ba.other Cw9 nea_n
 try simp only [List.set_cons_zero, List.set_cons_succ, List.take_succ_cons, List.take_zero, List.drop_succ_cons, List.drop_zero, List.drop_nil, List.cons_append, List.nil_append, List.append_nil] at Bn
 refine zD (zG ?_)
 refine wd mixed 12 [0, 36, 47] (by decide +kernel) ?_
 apply zL
 ·intro wq hR hst
  refine zQ rfl rfl (zF ?_)
  obtain ⟨hn32x, Bn, Ba⟩ := ub3 hR hn32x Bn Ba
  refine zA rfl rfl ?_
  exact on0 rfl
 apply zL
 ·intro wq hR hst
  refine zQ rfl rfl (zF ?_)
  obtain ⟨hn32x, Bn, Ba⟩ := ub3 hR hn32x Bn Ba
  refine zA rfl rfl ?_
  exact on0 rfl
 apply zL
 ·intro wq hR hst
  refine zK rfl (zF ?_)
  obtain ⟨hn32x, Bn, Ba⟩ := ub3 hR hn32x Bn Ba
  refine zV rfl rfl ?_
  exact on0 rfl
 apply zL
 ·intro wq hR hst
  refine zK rfl (zF ?_)
  obtain ⟨hn32x, Bn, Ba⟩ := ub3 hR hn32x Bn Ba
  refine zJ 0 rfl yu167 rfl rfl yL rfl rfl ?_
  exact on0 rfl
 apply zL
 ·intro wq hR hst
  refine zK rfl (zF ?_)
  obtain ⟨hn32x, Bn, Ba⟩ := ub3 hR hn32x Bn Ba
  refine zJ 2 rfl yu33 rfl rfl xS rfl rfl ?_
  exact on0 rfl
 apply zL
 ·intro wq hR hst
  refine zK rfl (zF ?_)
  obtain ⟨hn32x, Bn, Ba⟩ := ub3 hR hn32x Bn Ba
  refine zN rfl yP rfl Bn rfl ?_
  exact on0 rfl
 apply zL
 ·intro wq hR hst
  refine zQ rfl rfl (zF ?_)
  obtain ⟨hn32x, Bn, Ba⟩ := ub3 hR hn32x Bn Ba
  refine zA rfl rfl ?_
  exact on0 rfl
 apply zL
 ·intro wq hR hst
  refine zK rfl (zF ?_)
  obtain ⟨hn32x, Bn, Ba⟩ := ub3 hR hn32x Bn Ba
  refine zV rfl rfl ?_
  exact on0 rfl
 apply zL
 ·intro wq hR hst
  refine zK rfl (zF ?_)
  obtain ⟨hn32x, Bn, Ba⟩ := ub3 hR hn32x Bn Ba
  refine zJ 0 rfl yu167 rfl rfl yL rfl rfl ?_
  exact on0 rfl
 apply zL
 ·intro wq hR hst
  refine zK rfl (zF ?_)
  obtain ⟨hn32x, Bn, Ba⟩ := ub3 hR hn32x Bn Ba
  refine zJ 2 rfl yu33 rfl rfl xS rfl rfl ?_
  exact on0 rfl
 apply zL
 ·intro wq hR hst
  refine zK rfl (zF ?_)
  obtain ⟨hn32x, Bn, Ba⟩ := ub3 hR hn32x Bn Ba
  refine zN rfl yP rfl Ba rfl ?_
  exact on0 rfl
 refine yZ (fun v w => IsNat M w v (limbs (p.den * q.den))) jG (fun wq hR hst => ?_) ?_
 ·refine zK rfl (zK rfl (zF ?_))
  obtain ⟨LL, hM, hu, huq, hn32x, Bn, Ba⟩ := ub7 hR LL hM hu huq hn32x Bn Ba
  refine zI rfl (bo func159) rfl rfl ?_
  refine (mul_c hu huq (by omega) (by omega) hM).mono ?_
  rintro v47 w10 ⟨hB47, hf47⟩
  have hM47 := hM
  have hS47 := LL.size
  obtain ⟨hn32x, Bn, Ba⟩ := ub3 hB47 hn32x Bn Ba
  rw [zT, zT] at hf47
  have hn47 := hf47.nat hM47
  exact on1 hB47 rfl hn47
 refine xQ (fun wq1 hR1 hpost1 => ?_)
 refine zQ rfl rfl (zK rfl (yY rfl (fun v47 hn47 => ?_)))
 refine zF ?_
 simp only [jW, jV, jU, jT]
 obtain ⟨LL, hM, hF, hT, hv, hu, hvq, huq, hn32x, Bn, Ba⟩ := lL hR1 LL hM hF hT hv hu hvq huq hn32x Bn Ba
 refine zV rfl rfl (zJ 0 rfl yu167 rfl rfl yL rfl rfl (zJ 2 rfl yu33 rfl rfl xS rfl rfl (jB (i := 2) rfl rfl xS Bn (by first | rfl | exact yO (by assumption) | assumption | exact yM (by assumption)) (by simp) (fun w11 Cw11 Bn => ?_))))
 obtain ⟨LL, hM, hT, hn32x, hn47⟩ := up5 (lc LL Cw11 hmn nFn) LL hM hT hn32x hn47
 replace Ba := Ba.other Cw11 nea_n
 refine zD (zB (zA rfl rfl (zI rfl (bo func191) rfl rfl ?_)))
 refine (rnorm_c (Fz := NB _ bn) (M := M) hT Bn hn32x hn47 hle3 (by have := uA (yU hl2) (yU hl4); omega) hmn kY cH hM).mono ?_
 rintro v52 w12 ⟨rfl, Lqw12, a52, d52, Bn2, hn52, hm52⟩
 have Lw12 := Lqw12.refz nFn
 obtain ⟨LL, hn32x⟩ := up2 Lw12 LL hn32x
 clear Bn; have Bn := Bn2
 replace Ba := Ba.nb Lqw12 nea_n
 rw [gC, zT, hmk] at Bn hn52 hm52
 refine zD ?_
 refine xC ⟨[], trivial, ?_⟩
 dsimp only [xJ]
 exact ⟨LL, _, _, Bn, hn52, hm52⟩
abbrev RRt := Bool × List Nat × List Nat
def rq (x : RRt) : Rat := mkRat (zv x.1 x.2.1) (val x.2.2)
def RLR (M : Nat → Prop) : RRt → List Value → World → Prop := fun x vs w => ∃ p, vs = [p] ∧ lT M (rq x) p w
def cQ (l : List RRt) : Rat := l.foldl (fun z x => z + rq x) 0
def aF (l : List RRt) : Rat := l.foldl (fun z x => z * rq x) 1
theorem rsum_snoc (l : List RRt) (x : RRt) : cQ (l ++ [x]) = cQ l + rq x := by simp [cQ]
theorem rprod_snoc (l : List RRt) (x : RRt) : aF (l ++ [x]) = aF l * rq x := by simp [aF]
def jZ (q : Rat) (A : Nat) : Prop := (limbs q.num.natAbs).length ≤ A ∧ (limbs q.den).length ≤ A
theorem rlen_mk {z : Int} {d A : Nat} (h1 : z.natAbs < 4294967296 ^ A) (h2 : d < 4294967296 ^ A) (hd : d ≠ 0) : jZ (mkRat z d) A := by
  have h := eC (z := z) hd
  unfold jZ
  rw [h.2.1, h.2.2]
  exact ⟨xG (Nat.lt_of_le_of_lt (Nat.div_le_self _ _) h1), xG (Nat.lt_of_le_of_lt (Nat.div_le_self _ _) h2)⟩
theorem jC {q : Rat} {A B : Nat} (h : jZ q A) (hAB : A ≤ B) : jZ q B := ⟨Nat.le_trans h.1 hAB, Nat.le_trans h.2 hAB⟩
theorem qU {p q : Rat} {A B : Nat} (h1 : jZ p A) (h2 : jZ q B) : jZ (p + q) (A + B + 1) := by
  have e : p + q = mkRat (p.num * q.den + q.num * p.den) (p.den * q.den) := by
    conv => lhs; rw [← Rat.mkRat_self p, ← Rat.mkRat_self q]
    rw [Rat.mkRat_add_mkRat _ _ p.den_nz q.den_nz]
  rw [e]
  have a1 := yU h1.1
  have a2 := yU h1.2
  have a3 := yU h2.1
  have a4 := yU h2.2
  refine rlen_mk ?_ ?_ (Nat.mul_ne_zero p.den_nz q.den_nz)
  · refine Nat.lt_of_le_of_lt (Int.natAbs_add_le _ _) (aA ?_ ?_)
    · rw [Int.natAbs_mul, Int.natAbs_natCast]; exact gK a1 a4
    · rw [Int.natAbs_mul, Int.natAbs_natCast, Nat.add_comm]; exact gK a3 a2
  · exact Nat.lt_of_lt_of_le (gK a2 a4) (Nat.pow_le_pow_right (by omega) (by omega))
theorem bE {p q : Rat} {A B : Nat} (h1 : jZ p A) (h2 : jZ q B) : jZ (p * q) (A + B) := by
  have e : p * q = mkRat (p.num * q.num) (p.den * q.den) := by
    conv => lhs; rw [← Rat.mkRat_self p, ← Rat.mkRat_self q]
    rw [Rat.mkRat_mul_mkRat]
  rw [e]
  have a1 := yU h1.1
  have a2 := yU h1.2
  have a3 := yU h2.1
  have a4 := yU h2.2
  refine rlen_mk ?_ (gK a2 a4) (Nat.mul_ne_zero p.den_nz q.den_nz)
  rw [Int.natAbs_mul]; exact gK a1 a3
theorem rlen_neg {p : Rat} {A : Nat} (h : jZ p A) : jZ (-p) A := by unfold jZ; rw [Rat.neg_num, Rat.neg_den, Int.natAbs_neg]; exact h
theorem dY {x : RRt} {L : Nat} (h1 : ∀ y ∈ x.2.1, y < 4294967296) (h2 : ∀ y ∈ x.2.2, y < 4294967296) (h3 : x.2.1.length ≤ L) (h4 : x.2.2.length ≤ L) : jZ (rq x) (L + 1) := by
  have := bT (s := x.1) h1 h2
  exact ⟨by unfold rq; omega, by unfold rq; omega⟩
theorem rlen_zero : jZ 0 1 := ⟨by simp [xE], by simp [gO]⟩
theorem rlen_one : jZ 1 1 := ⟨by simp [gO], by simp [gO]⟩
theorem rall1_c {M : Nat → Prop} {w0 : World} {b1 : Nat} {v : Value} {l0 : List RRt} (hT : Tab M w0) (B1 : Blk w0 b1 22 [v]) (n1 : ¬ M b1) (h1 : IsRats M w0 v l0) (hl1 : ∀ x ∈ l0, x.2.1.length ≤ 1000000 ∧ x.2.2.length ≤ 1000000) (hM : OkM M w0) :
    IterR prog 269 [.pointer (some ⟨b1, 0, none⟩)] M NoT w0 l0 (RLR M) (fun _ => True) := by
 intro n l w J X hn0 hn hdr hJ hkeep hJd hXd hy
 have B1' := B1
 have h1' := h1
 have hM' := hM
 have hT' := hT
 have hlen := h1.len
 replace B1 := (hkeep _ _ hJ).blk B1 n1
 replace h1 := (hkeep _ _ hJ).rats h1
 replace hM := (hkeep _ _ hJ).okM hM
 replace hT := (hkeep _ _ hJ).tab hT
 refine ci M func269 ntmps269 fun Fz hFz hF LL => ?_
 refine zG (zB (zN rfl flat22 rfl B1 rfl (cD rfl yu22 rfl h1.row (zA rfl rfl (zD (zZ ?_))))))
 refine xR (σ := Nat) [(0, _), (5, _), (6, _)] (fun s => [(7, .int .i64 ((s : Nat) : Int))]) (fun s w1 => J (l0.take s) w1 ∧ n ≤ w1.heap.size ∧ s ≤ l0.length) (fun s => l0.length - s) (0) (zH rfl (zH rfl (zH rfl (zH rfl yE)))) ?_ (fun s w1 hJ => ?_)
 · exact ⟨hJ, hn, by omega⟩
 ·obtain ⟨hJ1, hn1, hs⟩ := hJ
  have hk := hkeep _ _ hJ1
  replace B1 := hk.blk B1' n1
  replace h1 := hk.rats h1'
  replace hM := hk.okM hM'
  replace hT := hk.tab hT'
  clear hF LL
  obtain ⟨Fz, hFz⟩ : ∃ Fz : Nat → Prop, Fz = (· < w1.heap.size) := ⟨_, rfl⟩
  have hF : FOk Fz w1 := by subst hFz; exact fun _ h => h
  have LL := Le.refl Fz M w1
  refine zG (zB (jE rfl rfl rfl (zD (zG ?_))))
  refine zU rfl (fun hc0 => ?_) (fun hc0 => ?_)
  ·have hs2 : s < l0.length := by omega
   have hsl := hl1 (l0.getD s (false, ([] : List Nat), ([] : List Nat))) (by rw [List.getD_eq_getElem?_getD, List.getElem?_eq_getElem hs2]; exact List.getElem_mem _)
   refine yG (zG (zZ (zG (zB ?_))))
   refine bF (dflt := (false, ([] : List Nat), ([] : List Nat))) s rfl yu22 yL rfl rfl h1.row rfl (by omega) (fun b9 o9 us9 hul9 hu9 hc9 => ?_)
   obtain ⟨u9, x9, rfl, hn9, hm9⟩ := hu9
   refine gU rfl yQ yL rfl hc9 rfl (yH rfl yL (fun w2 b4 N4 => ?_))
   obtain ⟨_, nF4, nM4, Lw2, B4⟩ := nza hF hM N4
   have lt1_4 := B1.lt
   have ne1_4 := N4.ne lt1_4
   obtain ⟨LL, hM, hT, hn9, hm9⟩ := up5 Lw2 LL hM hT hn9 hm9
   refine yC rfl rfl yL B4 rfl rfl (yK (yK (yK jI))) rfl (fun w3 Cw3 B4 => ?_)
   obtain ⟨LL, hM, hT, hn9, hm9⟩ := up5 (lc LL Cw3 zO nF4) LL hM hT hn9 hm9
   refine zD (zG (zB (zA rfl rfl (zP rfl yQ yL rfl B4 rfl rfl (zI rfl (bo func140) rfl rfl ?_)))))
   refine (cU hT hn9 hm9 (by omega) (by omega) hM).mono ?_
   rintro v13 w4 ⟨hB13, b13, a13, d13, rfl, hz13, B13, hn13, hm13⟩
   have hk13 : KBlk (Ins b4 M) w4 b13 167 _ := ⟨B13, fun c => by have := hM _ c; omega⟩
   replace LL := ub1 hB13 LL
   refine kF rfl rfl rfl ?_
   refine (hy _ _ _ _ _ ((gP (false, ([] : List Nat), ([] : List Nat)) hs2).2) (hJd _ _ _ hJ1 (LL.drift_all hFz hn1)) ⟨_, rfl, b13, a13, d13, rfl, hk13.less fun k c => zM c, hn13.less fun k c => zM c, hm13.less fun k c => zM c⟩ (Nat.le_trans hn1 LL.size)).mono ?_
   rintro v14 w5 ⟨hn2, _, hyn⟩
   refine qZ rfl rfl (zD ?_)
   refine qC rfl (fun hc1 => ?_) (fun hc1 => ?_)
   ·refine zR ?_
    refine xC ⟨[], trivial, ?_⟩
    dsimp only [xJ]
    right
    rcases hyn with ⟨e, _⟩ | ⟨_, h⟩
    · subst e; simp at hc1
    · exact h
   ·refine yG (zB (yW rfl rfl rfl (by omega) (zA rfl rfl (zD ?_))))
    refine ⟨rfl, s + 1, (zS rfl (rfl) (zH rfl (zH rfl (zH rfl yE)))), ?_, ?_⟩
    exact ⟨by
      rw [(gP (false, ([] : List Nat), ([] : List Nat)) hs2).1]
      rcases hyn with ⟨_, h⟩ | ⟨e, _⟩
      · exact h
      · subst e; simp at hc1, hn2, by omega⟩
    omega
  ·refine xK (xM ?_)
   refine xC ⟨[], trivial, ?_⟩
   dsimp only [xJ]
   left
   obtain rfl : s = l0.length := by omega
   rw [List.take_length] at hJ1
   exact ⟨hJ1, trivial⟩
theorem rall_c {v : Value} {l0 : List RRt} (hT : Tab M w) (h1 : IsRats M w v l0) (hl1 : ∀ x ∈ l0, x.2.1.length ≤ 1000000 ∧ x.2.2.length ≤ 1000000) (hM : OkM M w) :
    CallsV prog 211 [v] w fun r w' => Bel w.heap.size w w' ∧ ∃ cap, r = .func (.func 269) #[] cap ∧ IterR prog 269 cap.toList M NoT w' l0 (RLR M) (fun _ => True) := by
 have hvc : v.cells = [v].toArray := by obtain ⟨_, ⟨_, _, ad, cap, rfl, _⟩, _⟩ := h1.row; rfl
 refine ci M func211 ntmps211 fun Fz hFz hF LL => ?_
 refine zG (zB (yN rfl rfl (fun w1 b1 N1 => ?_)))
 obtain ⟨_, nF1, nM1, Lw1, B1⟩ := nz hF hM N1
 obtain ⟨LL, hM, h1, hT⟩ := up4 Lw1 LL hM h1 hT
 rw [hvc] at B1
 refine zC rfl rfl (zD (zG (zB (jP rfl rfl (zC rfl rfl (zD (zR ?_)))))))
 refine lv1 ⟨rfl, trivial⟩ ?_
 subst hFz
 refine ⟨LL.b, _, rfl, ?_⟩
 exact rall1_c (hT.less fun k c => zM c) B1 (fun c => nM1 c) (h1.less fun k c => zM c) hl1 (fun k c => hM k (zM c))
theorem radds_c {v : Value} {l0 : List RRt} {L : Nat} (hT : Tab M w) (h1 : IsRats M w v l0) (hlt : ∀ x ∈ l0, (∀ y ∈ x.2.1, y < 4294967296) ∧ ∀ y ∈ x.2.2, y < 4294967296) (hl1 : ∀ x ∈ l0, x.2.1.length ≤ L ∧ x.2.2.length ≤ L) (hL : (L + 2) * l0.length + 1 ≤ 400000 ∧ L ≤ 1000000) (hM : OkM M w) :
    CallsV prog 163 [v] w fun r w' => Bel w.heap.size w w' ∧ ∃ a d, r = .agg #[.bool (decide ((cQ l0).num < 0)), a, d] ∧ IsNat M w' a (limbs (cQ l0).num.natAbs) ∧ IsNat M w' d (limbs (cQ l0).den) := by
 have hL6 : L ≤ 1000000 := hL.2
 have Mk : Marks M w.heap.size [] w := qY
 refine ci M func163 ntmps163 fun Fz hFz hF LL => ?_
 refine zG (zB (yH rfl yL (fun w1 b2 N2 => ?_)))
 obtain ⟨_, nF2, nM2, Lw1, B2⟩ := nza hF hM N2
 obtain ⟨LL, hM, hF, h1, hT, Mk⟩ := up6 Lw1 LL hM hF h1 hT Mk
 refine zD (zG (zB (zI rfl (bo func77) rfl rfl ?_)))
 refine (rofn_c (n := 0) (by omega) hM).mono ?_
 rintro v5 w2 ⟨hB5, q5, d5, rfl, hn5, hm5⟩
 obtain ⟨LL, hM, hF, h1, hT, Mk, B2⟩ := ub7 hB5 LL hM hF h1 hT Mk B2
 refine xO rfl plc167 rfl rfl (yB (rfl) xI) rfl (yN rfl rfl (fun w3 b7 N7 => ?_))
 obtain ⟨hBw3, nF7, nM7, Lw3, B7⟩ := nza hF hM N7
 obtain ⟨B2, ne2_7⟩ := bn B2 N7
 obtain ⟨LL, hM, hF, h1, hT, Mk, hn5, hm5⟩ := up8 Lw3 LL hM hF h1 hT Mk hn5 hm5
 refine yH rfl sz159 (fun w4 b3 N3 => ?_)
 obtain ⟨hBw4, nF3, nM3, Lw4, B3⟩ := nz hF hM N3
 obtain ⟨B2, ne2_3⟩ := bn B2 N3
 have lt7_3 := B7.lt
 replace B7 := B7.below hBw4
 have ne3_7 : b3 ≠ b7 := by have := N3.at_; omega
 obtain ⟨LL, hM, h1, hT, Mk, hn5, hm5⟩ := up7 Lw4 LL hM h1 hT Mk hn5 hm5
 refine xW rfl rfl sz159 B3 (by first | rfl | exact yO (by assumption) | assumption | exact yM (by assumption)) (fun w5 Cw5 B3 => ?_)
 obtain ⟨LL, hM, h1, hT, Mk, hn5, hm5⟩ := up7 (lc LL Cw5 zO nF3) LL hM h1 hT Mk hn5 hm5
 replace B2 := B2.other Cw5 ne2_3
 replace B7 := B7.other Cw5 ne3_7.symm
 refine zD (zG (zG (zB (zA rfl rfl (zI rfl (bo func211) rfl rfl ?_)))))
 refine (rall_c hT h1 (fun x hx => ⟨Nat.le_trans (hl1 x hx).1 hL6, Nat.le_trans (hl1 x hx).2 hL6⟩) hM).mono ?_
 rintro v9 w6 ⟨hB9, cap9, rfl, hit9⟩
 obtain ⟨LL, hM, h1, hT, Mk, hn5, hm5, B2, B7, B3⟩ := iR hB9 LL hM h1 hT Mk hn5 hm5 B2 B7 B3
 refine zD (zZ ?_)
 have hm5x : IsNat (Ins b3 (Ins b7 (Ins b2 M))) w6 d5 (limbs (cQ []).den) := by rw [show (cQ []).den = 1 from rfl, gO]; exact hm5
 have hMS0 := hM
 have hszLL := LL.size
 have Mold0 := Mk.old (Nat.le_refl _)
 refine bX (M := (Ins b3 (Ins b7 (Ins b2 M)))) (T := NoT) (l0) ((RLR (Ins b3 (Ins b7 (Ins b2 M))))) rfl (bo func269) (hit9) noT (trivial) (fun _ _ _ ⟨_, h, _⟩ => by rw [h]; rfl) rfl [(3, _)] (zH rfl yE) (fun pre w7 => Le Fz (Ins b3 (Ins b7 (Ins b2 M))) w6 (Ins b3 (Ins b7 (Ins b2 M))) w7 ∧ Blk w7 b2 33 [.bool false, .slice none 0 0, .slice none 0 0] ∧ Blk w7 b3 159 [.pointer (some ⟨b7, 0, none⟩)] ∧ ∃ a d, Blk w7 b7 167 [.bool (decide ((cQ pre).num < 0)), a, d] ∧ IsNat (Ins b3 (Ins b7 (Ins b2 M))) w7 a (limbs (cQ pre).num.natAbs) ∧ IsNat (Ins b3 (Ins b7 (Ins b2 M))) w7 d (limbs (cQ pre).den) ∧ jZ (cQ pre) ((L + 2) * pre.length + 1)) (fun _ _ => False) (fun _ => False) (⟨Le.refl _ _ _, B2, B3, _, _, B7, hn5, hm5x, by exact rlen_zero⟩) (fun pre w h => h.1.keep) (fun pre w1 w2 hJ hd => (by obtain ⟨h1, h2, h3, a, d, h4, h5, h6, h7⟩ := hJ; exact ⟨h1.drift0 hd (Nat.le_refl _), h2.drift hd (fun c => c), h3.drift hd (fun c => c), a, d, h4.drift hd (fun c => c), h5.drift hd noT, h6.drift hd noT, h7⟩)) (fun _ _ _ h _ => h) (fun _ _ h _ => h) (fun _ _ _ _ => trivial) ?_ ?_ (fun _ _ h _ => h.elim) (fun _ h _ => h.elim)
 ·intro pre x vs post l b w7 ρ δ hx hJ hv hnl hnb hl hb hbc
  obtain ⟨LS0, B2, B3, a0, d0, B7, ha0, hd0, hlq⟩ := hJ
  obtain ⟨hM, hT, Mk⟩ := up3 LS0 hM hT Mk
  have RL : Rec (Ins b3 (Ins b7 (Ins b2 M))) w7 l (.loop ρ) := ⟨hl, (jN hMS0 hnl)⟩
  have RB : Rec (Ins b3 (Ins b7 (Ins b2 M))) w7 b δ := ⟨hb, (jN hMS0 hnb)⟩
  have hs1 : w7.heap.size ≤ w7.heap.size := Nat.le_refl _
  obtain ⟨_, rfl, ba, aa, da, rfl, hka, haa, hda⟩ := hv
  have hxm : x ∈ l0 := by rw [hx]; simp
  have hxl := dY (hlt x hxm).1 (hlt x hxm).2 (hl1 x hxm).1 (hl1 x hxm).2
  have hpl : pre.length < l0.length := by rw [hx]; simp
  have hbd := Nat.mul_le_mul_left (L + 2) hpl
  rw [Nat.succ_eq_add_one, Nat.mul_add, Nat.mul_one] at hbd
  have hq1 := hlq.1
  have hq2 := hlq.2
  have hx1 := hxl.1
  have hx2 := hxl.2
  refine zB (zC rfl rfl (zD ?_))
  refine ⟨RL.at_, RB.at_, rfl, fun w8 ρ' δ' hdr hl' hb' hbc' => ?_⟩
  replace LS0 := LS0.drift0 hdr (Nat.le_refl _)
  replace hM := hM.drift hdr
  replace hs1 := Nat.le_trans hs1 hdr.size
  replace hT := hT.drift hdr noT
  replace ha0 := ha0.drift hdr noT
  replace hd0 := hd0.drift hdr noT
  replace hka := hka.drift hdr noT
  replace haa := haa.drift hdr noT
  replace hda := hda.drift hdr noT
  replace RL : Rec (Ins b3 (Ins b7 (Ins b2 M))) w8 l (.loop ρ') := ⟨hl', RL.not⟩
  replace RB : Rec (Ins b3 (Ins b7 (Ins b2 M))) w8 b δ' := ⟨hb', RB.not⟩
  replace B2 := B2.drift hdr (fun c => c)
  replace B3 := B3.drift hdr (fun c => c)
  replace B7 := B7.drift hdr (fun c => c)
  refine zZ (zB (zN rfl flat159 rfl B3 rfl (zA rfl rfl (zI rfl (bo func214) rfl rfl ?_))))
  refine (raddp_c (Fz := NB _ b7) (M := (Ins b3 (Ins b7 (Ins b2 M)))) (p := cQ pre) (q := rq x) hT B7 ha0 hd0 hka haa hda (by omega) (by omega) (by omega) (by omega) (.inr zO) kY cH hM).mono ?_
  rintro v13 w9 ⟨Lqw9, a13, d13, B7b, hn13, hm13⟩
  have Lw9 := Lqw9.refz nF7
  obtain ⟨LS0, RL, RB⟩ := up3 Lw9 LS0 RL RB
  replace hs1 := Nat.le_trans hs1 Lw9.size
  replace B2 := B2.nb Lqw9 ne2_7
  replace B3 := B3.nb Lqw9 ne3_7
  clear B7; have B7 := B7b
  refine zD ?_
  refine ⟨RL.at_, RB.at_, hs1, fun _ c => c.elim, ?_⟩
  rw [← rsum_snoc] at B7 hn13 hm13
  refine ⟨LS0, B2, B3, _, _, B7, hn13, hm13, ?_⟩
  rw [List.length_append, List.length_singleton, rsum_snoc, Nat.mul_add, Nat.mul_one]
  exact jC (qU hlq hxl) (by omega)
 ·intro w10 hJ hZ hDd
  obtain ⟨LS0, B2, B3, a0, d0, B7, ha0, hd0, hlq⟩ := hJ
  obtain ⟨LL, Mk⟩ := up2 LS0 LL Mk
  have hdd := hDd _ rfl rfl
  have RD : Rec (Ins b3 (Ins b7 (Ins b2 M))) w10 w6.heap.size (.deferred (some [])) := ⟨hdd, (jN hMS0 (Nat.le_refl _))⟩
  replace Mk := Mk.cons hszLL RD Mold0
  refine zG (zB (zN rfl flat159 rfl B3 rfl (zV rfl rfl (zJ 0 rfl yu167 rfl rfl yL rfl rfl (zP rfl yQ yL rfl B7 rfl rfl (yC rfl rfl yL B2 rfl rfl (yK (yK (yK jI))) rfl (fun w11 Cw11 B2 => ?_)))))))
  obtain ⟨LL, LS0, Mk, ha0, hd0⟩ := up5 (lc LL Cw11 (.inr (.inr zO)) nF2) LL LS0 Mk ha0 hd0
  refine zD (zR ?_)
  refine jO Mk (fun wz hz => ⟨[_], ⟨⟨_, rfl, yT yQ yL (B2.drift hz (fun c => c)) rfl rfl⟩, trivial⟩, ?_⟩)
  dsimp only [xJ]
  subst hFz
  exact ⟨SL.Bel.drift (LL.b) hz (Nat.le_refl _), _, _, rfl, (ha0.less fun k c => zM (zM (zM c))).drift hz noT, (hd0.less fun k c => zM (zM (zM c))).drift hz noT⟩
theorem rmuls_c {v : Value} {l0 : List RRt} {L : Nat} (hT : Tab M w) (h1 : IsRats M w v l0) (hlt : ∀ x ∈ l0, (∀ y ∈ x.2.1, y < 4294967296) ∧ ∀ y ∈ x.2.2, y < 4294967296) (hl1 : ∀ x ∈ l0, x.2.1.length ≤ L ∧ x.2.2.length ≤ L) (hL : (L + 2) * l0.length + 1 ≤ 400000 ∧ L ≤ 1000000) (hM : OkM M w) :
    CallsV prog 160 [v] w fun r w' => Bel w.heap.size w w' ∧ ∃ a d, r = .agg #[.bool (decide ((aF l0).num < 0)), a, d] ∧ IsNat M w' a (limbs (aF l0).num.natAbs) ∧ IsNat M w' d (limbs (aF l0).den) := by
 have hL6 : L ≤ 1000000 := hL.2
 have Mk : Marks M w.heap.size [] w := qY
 refine ci M func160 ntmps160 fun Fz hFz hF LL => ?_
 refine zG (zB (yH rfl yL (fun w1 b2 N2 => ?_)))
 obtain ⟨_, nF2, nM2, Lw1, B2⟩ := nza hF hM N2
 obtain ⟨LL, hM, hF, h1, hT, Mk⟩ := up6 Lw1 LL hM hF h1 hT Mk
 refine zD (zG (zB (zI rfl (bo func77) rfl rfl ?_)))
 refine (rofn_c (n := 1) (by omega) hM).mono ?_
 rintro v5 w2 ⟨hB5, q5, d5, rfl, hn5, hm5⟩
 obtain ⟨LL, hM, hF, h1, hT, Mk, B2⟩ := ub7 hB5 LL hM hF h1 hT Mk B2
 refine xO rfl plc167 rfl rfl (yB (rfl) xI) rfl (yN rfl rfl (fun w3 b7 N7 => ?_))
 obtain ⟨hBw3, nF7, nM7, Lw3, B7⟩ := nza hF hM N7
 obtain ⟨B2, ne2_7⟩ := bn B2 N7
 obtain ⟨LL, hM, hF, h1, hT, Mk, hn5, hm5⟩ := up8 Lw3 LL hM hF h1 hT Mk hn5 hm5
 refine yH rfl sz159 (fun w4 b3 N3 => ?_)
 obtain ⟨hBw4, nF3, nM3, Lw4, B3⟩ := nz hF hM N3
 obtain ⟨B2, ne2_3⟩ := bn B2 N3
 have lt7_3 := B7.lt
 replace B7 := B7.below hBw4
 have ne3_7 : b3 ≠ b7 := by have := N3.at_; omega
 obtain ⟨LL, hM, h1, hT, Mk, hn5, hm5⟩ := up7 Lw4 LL hM h1 hT Mk hn5 hm5
 refine xW rfl rfl sz159 B3 (by first | rfl | exact yO (by assumption) | assumption | exact yM (by assumption)) (fun w5 Cw5 B3 => ?_)
 obtain ⟨LL, hM, h1, hT, Mk, hn5, hm5⟩ := up7 (lc LL Cw5 zO nF3) LL hM h1 hT Mk hn5 hm5
 replace B2 := B2.other Cw5 ne2_3
 replace B7 := B7.other Cw5 ne3_7.symm
 refine zD (zG (zG (zB (zA rfl rfl (zI rfl (bo func211) rfl rfl ?_)))))
 refine (rall_c hT h1 (fun x hx => ⟨Nat.le_trans (hl1 x hx).1 hL6, Nat.le_trans (hl1 x hx).2 hL6⟩) hM).mono ?_
 rintro v9 w6 ⟨hB9, cap9, rfl, hit9⟩
 obtain ⟨LL, hM, h1, hT, Mk, hn5, hm5, B2, B7, B3⟩ := iR hB9 LL hM h1 hT Mk hn5 hm5 B2 B7 B3
 refine zD (zZ ?_)
 have hm5x : IsNat (Ins b3 (Ins b7 (Ins b2 M))) w6 d5 (limbs (aF []).den) := by rw [show (aF []).den = 1 from rfl, gO]; exact hm5
 have hMS0 := hM
 have hszLL := LL.size
 have Mold0 := Mk.old (Nat.le_refl _)
 refine bX (M := (Ins b3 (Ins b7 (Ins b2 M)))) (T := NoT) (l0) ((RLR (Ins b3 (Ins b7 (Ins b2 M))))) rfl (bo func269) (hit9) noT (trivial) (fun _ _ _ ⟨_, h, _⟩ => by rw [h]; rfl) rfl [(3, _)] (zH rfl yE) (fun pre w7 => Le Fz (Ins b3 (Ins b7 (Ins b2 M))) w6 (Ins b3 (Ins b7 (Ins b2 M))) w7 ∧ Blk w7 b2 33 [.bool false, .slice none 0 0, .slice none 0 0] ∧ Blk w7 b3 159 [.pointer (some ⟨b7, 0, none⟩)] ∧ ∃ a d, Blk w7 b7 167 [.bool (decide ((aF pre).num < 0)), a, d] ∧ IsNat (Ins b3 (Ins b7 (Ins b2 M))) w7 a (limbs (aF pre).num.natAbs) ∧ IsNat (Ins b3 (Ins b7 (Ins b2 M))) w7 d (limbs (aF pre).den) ∧ jZ (aF pre) ((L + 2) * pre.length + 1)) (fun _ _ => False) (fun _ => False) (⟨Le.refl _ _ _, B2, B3, _, _, B7, hn5, hm5x, by exact rlen_one⟩) (fun pre w h => h.1.keep) (fun pre w1 w2 hJ hd => (by obtain ⟨h1, h2, h3, a, d, h4, h5, h6, h7⟩ := hJ; exact ⟨h1.drift0 hd (Nat.le_refl _), h2.drift hd (fun c => c), h3.drift hd (fun c => c), a, d, h4.drift hd (fun c => c), h5.drift hd noT, h6.drift hd noT, h7⟩)) (fun _ _ _ h _ => h) (fun _ _ h _ => h) (fun _ _ _ _ => trivial) ?_ ?_ (fun _ _ h _ => h.elim) (fun _ h _ => h.elim)
 ·intro pre x vs post l b w7 ρ δ hx hJ hv hnl hnb hl hb hbc
  obtain ⟨LS0, B2, B3, a0, d0, B7, ha0, hd0, hlq⟩ := hJ
  obtain ⟨hM, hT, Mk⟩ := up3 LS0 hM hT Mk
  have RL : Rec (Ins b3 (Ins b7 (Ins b2 M))) w7 l (.loop ρ) := ⟨hl, (jN hMS0 hnl)⟩
  have RB : Rec (Ins b3 (Ins b7 (Ins b2 M))) w7 b δ := ⟨hb, (jN hMS0 hnb)⟩
  have hs1 : w7.heap.size ≤ w7.heap.size := Nat.le_refl _
  obtain ⟨_, rfl, ba, aa, da, rfl, hka, haa, hda⟩ := hv
  have hxm : x ∈ l0 := by rw [hx]; simp
  have hxl := dY (hlt x hxm).1 (hlt x hxm).2 (hl1 x hxm).1 (hl1 x hxm).2
  have hpl : pre.length < l0.length := by rw [hx]; simp
  have hbd := Nat.mul_le_mul_left (L + 2) hpl
  rw [Nat.succ_eq_add_one, Nat.mul_add, Nat.mul_one] at hbd
  have hq1 := hlq.1
  have hq2 := hlq.2
  have hx1 := hxl.1
  have hx2 := hxl.2
  refine zB (zC rfl rfl (zD ?_))
  refine ⟨RL.at_, RB.at_, rfl, fun w8 ρ' δ' hdr hl' hb' hbc' => ?_⟩
  replace LS0 := LS0.drift0 hdr (Nat.le_refl _)
  replace hM := hM.drift hdr
  replace hs1 := Nat.le_trans hs1 hdr.size
  replace hT := hT.drift hdr noT
  replace ha0 := ha0.drift hdr noT
  replace hd0 := hd0.drift hdr noT
  replace hka := hka.drift hdr noT
  replace haa := haa.drift hdr noT
  replace hda := hda.drift hdr noT
  replace RL : Rec (Ins b3 (Ins b7 (Ins b2 M))) w8 l (.loop ρ') := ⟨hl', RL.not⟩
  replace RB : Rec (Ins b3 (Ins b7 (Ins b2 M))) w8 b δ' := ⟨hb', RB.not⟩
  replace B2 := B2.drift hdr (fun c => c)
  replace B3 := B3.drift hdr (fun c => c)
  replace B7 := B7.drift hdr (fun c => c)
  refine zZ (zB (zN rfl flat159 rfl B3 rfl (zA rfl rfl (zI rfl (bo func212) rfl rfl ?_))))
  refine (rmulp_c (Fz := NB _ b7) (M := (Ins b3 (Ins b7 (Ins b2 M)))) (p := aF pre) (q := rq x) hT B7 ha0 hd0 hka haa hda (by omega) (by omega) (by omega) (by omega) (.inr zO) kY cH hM).mono ?_
  rintro v13 w9 ⟨Lqw9, a13, d13, B7b, hn13, hm13⟩
  have Lw9 := Lqw9.refz nF7
  obtain ⟨LS0, RL, RB⟩ := up3 Lw9 LS0 RL RB
  replace hs1 := Nat.le_trans hs1 Lw9.size
  replace B2 := B2.nb Lqw9 ne2_7
  replace B3 := B3.nb Lqw9 ne3_7
  clear B7; have B7 := B7b
  refine zD ?_
  refine ⟨RL.at_, RB.at_, hs1, fun _ c => c.elim, ?_⟩
  rw [← rprod_snoc] at B7 hn13 hm13
  refine ⟨LS0, B2, B3, _, _, B7, hn13, hm13, ?_⟩
  rw [List.length_append, List.length_singleton, rprod_snoc, Nat.mul_add, Nat.mul_one]
  exact jC (bE hlq hxl) (by omega)
 ·intro w10 hJ hZ hDd
  obtain ⟨LS0, B2, B3, a0, d0, B7, ha0, hd0, hlq⟩ := hJ
  obtain ⟨LL, Mk⟩ := up2 LS0 LL Mk
  have hdd := hDd _ rfl rfl
  have RD : Rec (Ins b3 (Ins b7 (Ins b2 M))) w10 w6.heap.size (.deferred (some [])) := ⟨hdd, (jN hMS0 (Nat.le_refl _))⟩
  replace Mk := Mk.cons hszLL RD Mold0
  refine zG (zB (zN rfl flat159 rfl B3 rfl (zV rfl rfl (zJ 0 rfl yu167 rfl rfl yL rfl rfl (zP rfl yQ yL rfl B7 rfl rfl (yC rfl rfl yL B2 rfl rfl (yK (yK (yK jI))) rfl (fun w11 Cw11 B2 => ?_)))))))
  obtain ⟨LL, LS0, Mk, ha0, hd0⟩ := up5 (lc LL Cw11 (.inr (.inr zO)) nF2) LL LS0 Mk ha0 hd0
  refine zD (zR ?_)
  refine jO Mk (fun wz hz => ⟨[_], ⟨⟨_, rfl, yT yQ yL (B2.drift hz (fun c => c)) rfl rfl⟩, trivial⟩, ?_⟩)
  dsimp only [xJ]
  subst hFz
  exact ⟨SL.Bel.drift (LL.b) hz (Nat.le_refl _), _, _, rfl, (ha0.less fun k c => zM (zM (zM c))).drift hz noT, (hd0.less fun k c => zM (zM (zM c))).drift hz noT⟩
theorem rq_told (q : Rat) : rq (decide (q.num < 0), limbs q.num.natAbs, limbs q.den) = q := by unfold rq; dsimp only; rw [gC, zT, Rat.mkRat_self]
theorem rats2 {b : Nat} {t : TypeId} {s1 s2 : Bool} {v1 d1 v2 d2 : Value} {xs ds ys es : List Nat} (B : Blk w b t [.bool s1, v1, d1, .bool s2, v2, d2]) (hm : ¬ M b) (h1 : IsNat M w v1 xs) (k1 : IsNat M w d1 ds) (h2 : IsNat M w v2 ys) (k2 : IsNat M w d2 es) : IsRats M w (.slice (some ⟨b, 0, none⟩) 2 2) [(s1, xs, ds), (s2, ys, es)] :=
  ⟨_, B.slc hm (sz := 3) (n := 2) (ds := [.bool s1, v1, d1, .bool s2, v2, d2]) rfl (fun j u hj => hj) (by omega) (Nat.le_refl _), fun i a ha => by
    match i with
    | 0 => simp at ha; subst ha; exact ⟨_, rfl, fun q u hq => by
        match q with
        | 0 => simpa using hq
        | 1 => simpa using hq
        | 2 => simpa using hq
        | q + 3 => simp at hq, _, _, rfl, h1, k1⟩
    | 1 => simp at ha; subst ha; exact ⟨[.bool s2, v2, d2], rfl, fun q u hq => by
        match q with
        | 0 => simpa using hq
        | 1 => simpa using hq
        | 2 => simpa using hq
        | q + 3 => simp at hq, _, _, rfl, h2, k2⟩
    | i + 2 => simp at ha⟩
theorem rsub_r {s t : Bool} {v u vb ub : Value} {xs ds ys es : List Nat} (hT : Tab M w) (hv : IsNat M w v xs) (hu : IsNat M w u ds) (hvb : IsNat M w vb ys) (hub : IsNat M w ub es) (hl1 : xs.length ≤ 100000) (hl2 : ds.length ≤ 100000) (hl3 : ys.length ≤ 100000) (hl4 : es.length ≤ 100000) (hM : OkM M w) :
    CallsV prog 98 [.agg #[.bool s, v, u], .agg #[.bool t, vb, ub]] w fun r w' => Bel w.heap.size w w' ∧ ∃ a d, r = .agg #[.bool (decide ((mkRat (zv s xs) (val ds) - mkRat (zv t ys) (val es)).num < 0)), a, d] ∧ IsNat M w' a (limbs (mkRat (zv s xs) (val ds) - mkRat (zv t ys) (val es)).num.natAbs) ∧ IsNat M w' d (limbs (mkRat (zv s xs) (val ds) - mkRat (zv t ys) (val es)).den) := by
 have hnl := bT (s := t) hvb.lt hub.lt
 rw [← Int.natAbs_neg, ← Rat.neg_num] at hnl
 have hdl : (limbs (-mkRat (zv t ys) (val es)).den).length ≤ es.length + 1 := by rw [Rat.neg_den]; exact hnl.2
 have hrs : cQ [(s, xs, ds), (decide ((-mkRat (zv t ys) (val es)).num < 0), limbs (-mkRat (zv t ys) (val es)).num.natAbs, limbs (-mkRat (zv t ys) (val es)).den)] = mkRat (zv s xs) (val ds) - mkRat (zv t ys) (val es) := by
   unfold cQ; simp only [List.foldl_cons, List.foldl_nil, rq_told, Rat.zero_add]; rw [Rat.sub_eq_add_neg]; rfl
 refine ci M func98 ntmps98 fun Fz hFz hF LL => ?_
 refine zG (zB (yN rfl rfl (fun w1 b2 N2 => ?_)))
 obtain ⟨_, nF2, nM2, Lw1, B2⟩ := nza hF hM N2
 obtain ⟨LL, hM, hF, hT, hv, hu, hvb, hub⟩ := up8 Lw1 LL hM hF hT hv hu hvb hub
 refine yN rfl rfl (fun w2 b3 N3 => ?_)
 obtain ⟨hBw2, nF3, nM3, Lw2, B3⟩ := nza hF hM N3
 obtain ⟨B2, ne2_3⟩ := bn B2 N3
 obtain ⟨LL, hM, hF, hT, hv, hu, hvb, hub⟩ := up8 Lw2 LL hM hF hT hv hu hvb hub
 refine yH rfl yL (fun w3 b4 N4 => ?_)
 obtain ⟨hBw3, nF4, nM4, Lw3, B4⟩ := nza hF hM N4
 obtain ⟨B2, ne2_4⟩ := bn B2 N4
 obtain ⟨B3, ne3_4⟩ := bn B3 N4
 obtain ⟨LL, hM, hT, hv, hu, hvb, hub⟩ := up7 Lw3 LL hM hT hv hu hvb hub
 refine zD (zG ?_)
 refine wd mixed 3 [4, 5, 7] (by decide +kernel) ?_
 refine zL (fun _ hR _ => zQ rfl rfl (zF (zP rfl yQ yL rfl (B2.below hR) rfl rfl (on0 rfl)))) ?_
 refine zL (fun _ hR _ => zQ rfl rfl (zF (zP rfl yQ yL rfl (B3.below hR) rfl rfl (on0 rfl)))) ?_
 refine dv (fun v w => ∃ a d, v = .agg #[.bool (decide ((-mkRat (zv t ys) (val es)).num < 0)), a, d] ∧ IsNat (Ins b4 (Ins b3 (Ins b2 M))) w a (limbs (-mkRat (zv t ys) (val es)).num.natAbs) ∧ IsNat (Ins b4 (Ins b3 (Ins b2 M))) w d (limbs (-mkRat (zv t ys) (val es)).den)) (fun wq hR hst => ?_) ?_
 ·refine zK rfl (zF ?_)
  obtain ⟨hM, hT, hvb, hub⟩ := ub4 hR hM hT hvb hub
  refine zI rfl (bo func139) rfl rfl ?_
  refine (rneg_c (s := t) hT hvb hub (by omega) (by omega) hM).mono ?_
  rintro v7 w4 ⟨hB7, a7, d7, rfl, hn7, hm7⟩
  exact on1 hB7 rfl ⟨_, _, rfl, hn7, hm7⟩
 refine xQ (fun wq1 hR1 hpost1 => ?_)
 refine zQ rfl rfl (zK rfl (yY rfl (fun v7 hn7 => ?_)))
 refine zF ?_
 simp only [jW, jV, jU, jT]
 obtain ⟨LL, hM, hT, hv, hu, B4⟩ := ub6 hR1 LL hM hT hv hu B4
 obtain ⟨a7, d7, rfl, hn7x, hm7x⟩ := hn7
 refine xN rfl yu22 yL rfl rfl rfl rfl (yB rfl (yB rfl xI)) rfl rfl rfl (fun w5 b8 N8 => ?_)
 have hBw5 := N8.below
 have nM8 := hM.new N8
 have B8 := N8.blk
 obtain ⟨LL, hM, hT, hv, hu, hn7x, hm7x, B4⟩ := ub8 hBw5 LL hM hT hv hu hn7x hm7x B4
 have hn8 : IsRats (Ins b4 (Ins b3 (Ins b2 M))) w5 (.slice (some ⟨b8, 0, none⟩) 2 2) [(s, xs, ds), (decide ((-mkRat (zv t ys) (val es)).num < 0), limbs (-mkRat (zv t ys) (val es)).num.natAbs, limbs (-mkRat (zv t ys) (val es)).den)] := rats2 B8 nM8 hv hu hn7x hm7x
 refine zI rfl (bo func163) rfl rfl ?_
 refine (radds_c (L := 100001) hT hn8 (by intro x hx; rcases List.mem_cons.1 hx with rfl | hx; exact ⟨hv.lt, hu.lt⟩; rcases List.mem_cons.1 hx with rfl | hx; exact ⟨jH _, jH _⟩; cases hx) (by intro x hx; rcases List.mem_cons.1 hx with rfl | hx; exact ⟨Nat.le_succ_of_le hl1, Nat.le_succ_of_le hl2⟩; rcases List.mem_cons.1 hx with rfl | hx; exact ⟨Nat.le_trans hnl.1 (by omega), Nat.le_trans hdl (by omega)⟩; cases hx) (by simp) hM).mono ?_
 rintro v9 w6 ⟨hB9, a9, d9, rfl, hn9, hm9⟩
 obtain ⟨LL, hn7x, hm7x, B4⟩ := ub4 hB9 LL hn7x hm7x B4
 rw [hrs] at hn9 hm9
 refine yC rfl rfl yL B4 rfl rfl (yK (yK (yK jI))) rfl (fun w7 Cw7 B4 => ?_)
 obtain ⟨LL, hn7x, hm7x, hn9, hm9⟩ := up5 (lc LL Cw7 zO nF4) LL hn7x hm7x hn9 hm9
 refine zD (zR ?_)
 refine lv1 ⟨⟨_, rfl, yT yQ yL B4 rfl rfl⟩, trivial⟩ ?_
 rw [hrs]
 subst hFz
 exact ⟨LL.b, _, _, rfl, hn9.less (fun k c => zM (zM (zM c))), hm9.less (fun k c => zM (zM (zM c)))⟩
theorem rcmp_r {s t : Bool} {v u vb ub : Value} {xs ds ys es : List Nat} (hT : Tab M w) (hv : IsNat M w v xs) (hu : IsNat M w u ds) (hvb : IsNat M w vb ys) (hub : IsNat M w ub es) (hl1 : xs.length ≤ 100000) (hl2 : ds.length ≤ 100000) (hl3 : ys.length ≤ 100000) (hl4 : es.length ≤ 100000) (hM : OkM M w) :
    CallsV prog 78 [.agg #[.bool s, v, u], .agg #[.bool t, vb, ub]] w fun r w' => Bel w.heap.size w w' ∧ r = .int .i64 (jY (mkRat (zv s xs) (val ds)) (mkRat (zv t ys) (val es))) := by
 obtain ⟨Fz, hFz, hF, _⟩ := fz0 M w
 obtain ⟨p, hp⟩ : ∃ p, p = mkRat (zv s xs) (val ds) := ⟨_, rfl⟩
 obtain ⟨q, hq⟩ : ∃ q, q = mkRat (zv t ys) (val es) := ⟨_, rfl⟩
 rw [← hp, ← hq]
 have hl5 := bT (s := s) hv.lt hu.lt
 have hl6 := bT (s := t) hvb.lt hub.lt
 rw [← hp] at hl5; rw [← hq] at hl6
 obtain ⟨hl7, hl8⟩ := hl5; obtain ⟨hl9, hl10⟩ := hl6
 have hzd : ∀ n, zv false (limbs n) = ((n : Nat) : Int) := fun n => by simp [zv, zT]
 have hz1 : uV [(decide (p.num < 0), limbs p.num.natAbs), (false, limbs q.den)] = p.num * q.den := by unfold uV; simp only [List.foldl_cons, List.foldl_nil, gC, hzd, Int.one_mul]
 have hz2 : uV [(decide (q.num < 0), limbs q.num.natAbs), (false, limbs p.den)] = q.num * p.den := by unfold uV; simp only [List.foldl_cons, List.foldl_nil, gC, hzd, Int.one_mul]
 have hle1 : (limbs (p.num * q.den).natAbs).length ≤ 900000 := by have := uA (yU hl7) (yU hl10); rw [Int.natAbs_mul, Int.natAbs_natCast]; omega
 have hle2 : (limbs (q.num * p.den).natAbs).length ≤ 900000 := by have := uA (yU hl9) (yU hl8); rw [Int.natAbs_mul, Int.natAbs_natCast]; omega
 have LL := Le.refl Fz M w
 refine jA func78 rfl ntmps78 rfl ?_
 refine zG (zB (yN rfl rfl (fun w1 b2 N2 => ?_)))
 obtain ⟨hBw1, nF2, nM2, Lw1, B2⟩ := nza hF hM N2
 obtain ⟨LL, hM, hF, hT, hv, hu, hvb, hub⟩ := up8 Lw1 LL hM hF hT hv hu hvb hub
 refine yN rfl rfl (fun w2 b3 N3 => ?_)
 obtain ⟨hBw2, nF3, nM3, Lw2, B3⟩ := nza hF hM N3
 obtain ⟨B2, ne2_3⟩ := bn B2 N3
 obtain ⟨LL, hM, hF, hT, hv, hu, hvb, hub⟩ := up8 Lw2 LL hM hF hT hv hu hvb hub
 refine zC rfl rfl (zD (zG ?_))
 refine wd mixed 3 [8, 9] (by decide +kernel) ?_
 apply zL
 ·intro wq hR hst
  refine zQ rfl rfl (zF ?_)
  replace B2 := B2.below hR
  refine zP rfl yQ yL rfl B2 rfl rfl ?_
  exact on0 rfl
 refine yZ (fun v w => lT (Ins b3 (Ins b2 M)) p v w) rptr_mono (fun wq hR hst => ?_) ?_
 ·refine zK rfl (zF ?_)
  obtain ⟨hM, hT, hv, hu⟩ := ub4 hR hM hT hv hu
  refine zI rfl (bo func140) rfl rfl ?_
  refine (cU (s := s) hT hv hu (by omega) (by omega) hM).mono ?_
  rintro v8 w3 ⟨hB8, b8, a8, d8, rfl, hz8, B8, hn8, hm8⟩
  have hk8 : KBlk (Ins b3 (Ins b2 M)) w3 b8 167 _ := ⟨B8, fun c => by have := hM _ c; omega⟩
  rw [← hp] at hk8 hn8 hm8
  exact on1 hB8 rfl ⟨b8, a8, d8, rfl, hk8, hn8, hm8⟩
 apply zL
 ·intro wq hR hst
  refine zQ rfl rfl (zF ?_)
  replace B3 := B3.below hR
  refine zP rfl yQ yL rfl B3 rfl rfl ?_
  exact on0 rfl
 refine xQ (fun wq1 hR1 hpost1 => ?_)
 refine yY rfl (fun v8 hn8 => ?_)
 refine zK rfl (zF ?_)
 simp only [jW, jV, jU, jT]
 obtain ⟨LL, hM, hF, hT, hv, hu, hvb, hub, B2, B3⟩ := iR hR1 LL hM hF hT hv hu hvb hub B2 B3
 obtain ⟨b8, a8, d8, rfl, hk8x, hn8x, hm8x⟩ := hn8
 refine zI rfl (bo func140) rfl rfl ?_
 refine (cU (s := t) hT hvb hub (by omega) (by omega) hM).mono ?_
 rintro v10 w4 ⟨hB10, b10, a10, d10, rfl, hz10, B10, hn10, hm10⟩
 have hk10 : KBlk (Ins b3 (Ins b2 M)) w4 b10 167 _ := ⟨B10, fun c => by have := hM _ c; omega⟩
 obtain ⟨LL, hM, hF, hT, hv, hu, hvb, hub, hk8x, hn8x, hm8x, B2, B3⟩ := ub13 hB10 LL hM hF hT hv hu hvb hub hk8x hn8x hm8x B2 B3
 rw [← hq] at hk10 hn10 hm10
 refine zC rfl rfl (zC rfl rfl (zD (zG ?_)))
 refine wd mixed 24 [23, 28, 34] (kG (by decide +kernel)) ?_
 apply zL
 ·intro wq hR hst
  refine zQ rfl rfl (zF ?_)
  obtain ⟨hk8x, hn8x, hm8x⟩ := ub3 hR hk8x hn8x hm8x
  refine zA rfl rfl ?_
  exact on0 rfl
 apply zL
 ·intro wq hR hst
  refine zK rfl (zF ?_)
  obtain ⟨hk8x, hn8x, hm8x⟩ := ub3 hR hk8x hn8x hm8x
  refine zV rfl rfl ?_
  exact on0 rfl
 apply zL
 ·intro wq hR hst
  refine zK rfl (zF ?_)
  obtain ⟨hk8x, hn8x, hm8x⟩ := ub3 hR hk8x hn8x hm8x
  refine xA 0 rfl yu167 rfl rfl yL rfl rfl ?_
  exact on0 rfl
 apply zL
 ·intro wq hR hst
  refine zK rfl (zF ?_)
  obtain ⟨hk8x, hn8x, hm8x⟩ := ub3 hR hk8x hn8x hm8x
  refine xA 0 rfl yu33 rfl rfl yV rfl rfl ?_
  exact on0 rfl
 apply zL
 ·intro wq hR hst
  refine zK rfl (zF ?_)
  obtain ⟨hk8x, hn8x, hm8x⟩ := ub3 hR hk8x hn8x hm8x
  refine zP rfl xU yV rfl hk8x.blk rfl rfl ?_
  exact on0 rfl
 apply zL
 ·intro wq hR hst
  refine zQ rfl rfl (zF ?_)
  obtain ⟨hk8x, hn8x, hm8x⟩ := ub3 hR hk8x hn8x hm8x
  refine zA rfl rfl ?_
  exact on0 rfl
 apply zL
 ·intro wq hR hst
  refine zK rfl (zF ?_)
  obtain ⟨hk8x, hn8x, hm8x⟩ := ub3 hR hk8x hn8x hm8x
  refine zV rfl rfl ?_
  exact on0 rfl
 apply zL
 ·intro wq hR hst
  refine zK rfl (zF ?_)
  obtain ⟨hk8x, hn8x, hm8x⟩ := ub3 hR hk8x hn8x hm8x
  refine xA 0 rfl yu167 rfl rfl yL rfl rfl ?_
  exact on0 rfl
 apply zL
 ·intro wq hR hst
  refine zK rfl (zF ?_)
  obtain ⟨hk8x, hn8x, hm8x⟩ := ub3 hR hk8x hn8x hm8x
  refine xA 2 rfl yu33 rfl rfl xS rfl rfl ?_
  exact on0 rfl
 apply zL
 ·intro wq hR hst
  refine zK rfl (zF ?_)
  obtain ⟨hk8x, hn8x, hm8x, hk10⟩ := ub4 hR hk8x hn8x hm8x hk10
  refine zN rfl yP rfl hk10.blk rfl ?_
  exact on0 rfl
 apply zL
 ·intro wq hR hst
  refine zK rfl (zF ?_)
  obtain ⟨LL, hM, hF, hT, hv, hu, hvb, hub, hk8x, hn8x, hm8x, hk10, hn10, hm10, B2, B3⟩ := ub16 hR LL hM hF hT hv hu hvb hub hk8x hn8x hm8x hk10 hn10 hm10 B2 B3
  refine zI rfl (bo func147) rfl rfl ?_
  refine (whole_c (by assumption) hM).mono ?_
  rintro v21 w5 ⟨hB21, rfl⟩
  obtain ⟨hk8x, hn8x, hm8x⟩ := ub3 hB21 hk8x hn8x hm8x
  exact on1 hB21 rfl rfl
 refine yZ (fun v w => IsInts (Ins b3 (Ins b2 M)) w v [(decide (p.num < 0), limbs p.num.natAbs), (false, limbs q.den)]) cJ (fun wq hR hst => ?_) ?_
 ·refine zK rfl (zK rfl (zF ?_))
  obtain ⟨hM, hk8x, hn8x, hm8x, hm10⟩ := ub5 hR hM hk8x hn8x hm8x hm10
  refine xN rfl yu174 yV rfl rfl rfl rfl (yB rfl (yB rfl xI)) rfl rfl rfl (fun w6 b22 N22 => ?_)
  have hBw6 := N22.below
  have nM22 := hM.new N22
  have B22 := N22.blk
  obtain ⟨hk8x, hn8x, hm8x, hm10⟩ := ub4 hBw6 hk8x hn8x hm8x hm10
  have hn22 : IsInts (Ins b3 (Ins b2 M)) w6 (.slice (some ⟨b22, 0, none⟩) 2 2) [(decide (p.num < 0), limbs p.num.natAbs), (false, limbs q.den)] := fR B22 nM22 hn8x hm10
  have hB22 := hBw6
  exact on1 hB22 rfl hn22
 refine dv (fun v w => ∃ c, v = .agg #[.bool (decide (p.num * q.den < 0)), c] ∧ IsNat (Ins b3 (Ins b2 M)) w c (limbs (p.num * q.den).natAbs)) (fun wq hR hst => ?_) ?_
 ·refine yY rfl (fun v22 hn22 => ?_)
  refine zF ?_
  obtain ⟨hM, hk8x, hn8x, hm8x⟩ := ub4 hR hM hk8x hn8x hm8x
  refine zI rfl (bo func146) rfl rfl ?_
  refine (eD (L := 400000) hn22 (by intro x hx; rcases List.mem_cons.1 hx with rfl | hx; exact jH _; rcases List.mem_cons.1 hx with rfl | hx; exact jH _; cases hx) (by intro x hx; rcases List.mem_cons.1 hx with rfl | hx; dsimp only; omega; rcases List.mem_cons.1 hx with rfl | hx; dsimp only; omega; cases hx) ⟨by simp, by omega⟩ hM).mono ?_
  rintro v23 w7 ⟨hB23, q23, rfl, hn23⟩
  obtain ⟨hk8x, hn8x, hm8x⟩ := ub3 hB23 hk8x hn8x hm8x
  rw [hz1]; rw [hz1] at hn23
  exact on1 hB23 rfl ⟨_, rfl, hn23⟩
 apply zL
 ·intro wq hR hst
  refine zQ rfl rfl (zF ?_)
  obtain ⟨hk8x, hn8x, hm8x⟩ := ub3 hR hk8x hn8x hm8x
  refine zA rfl rfl ?_
  exact on0 rfl
 apply zL
 ·intro wq hR hst
  refine zK rfl (zF ?_)
  obtain ⟨hk8x, hn8x, hm8x⟩ := ub3 hR hk8x hn8x hm8x
  refine zV rfl rfl ?_
  exact on0 rfl
 apply zL
 ·intro wq hR hst
  refine zK rfl (zF ?_)
  obtain ⟨hk8x, hn8x, hm8x⟩ := ub3 hR hk8x hn8x hm8x
  refine xA 0 rfl yu167 rfl rfl yL rfl rfl ?_
  exact on0 rfl
 apply zL
 ·intro wq hR hst
  refine zK rfl (zF ?_)
  obtain ⟨hk8x, hn8x, hm8x⟩ := ub3 hR hk8x hn8x hm8x
  refine xA 0 rfl yu33 rfl rfl yV rfl rfl ?_
  exact on0 rfl
 apply zL
 ·intro wq hR hst
  refine zK rfl (zF ?_)
  obtain ⟨hk8x, hn8x, hm8x, hk10⟩ := ub4 hR hk8x hn8x hm8x hk10
  refine zP rfl xU yV rfl hk10.blk rfl rfl ?_
  exact on0 rfl
 apply zL
 ·intro wq hR hst
  refine zQ rfl rfl (zF ?_)
  obtain ⟨hk8x, hn8x, hm8x⟩ := ub3 hR hk8x hn8x hm8x
  refine zA rfl rfl ?_
  exact on0 rfl
 apply zL
 ·intro wq hR hst
  refine zK rfl (zF ?_)
  obtain ⟨hk8x, hn8x, hm8x⟩ := ub3 hR hk8x hn8x hm8x
  refine zV rfl rfl ?_
  exact on0 rfl
 apply zL
 ·intro wq hR hst
  refine zK rfl (zF ?_)
  obtain ⟨hk8x, hn8x, hm8x⟩ := ub3 hR hk8x hn8x hm8x
  refine xA 0 rfl yu167 rfl rfl yL rfl rfl ?_
  exact on0 rfl
 apply zL
 ·intro wq hR hst
  refine zK rfl (zF ?_)
  obtain ⟨hk8x, hn8x, hm8x⟩ := ub3 hR hk8x hn8x hm8x
  refine xA 2 rfl yu33 rfl rfl xS rfl rfl ?_
  exact on0 rfl
 apply zL
 ·intro wq hR hst
  refine zK rfl (zF ?_)
  obtain ⟨hk8x, hn8x, hm8x⟩ := ub3 hR hk8x hn8x hm8x
  refine zN rfl yP rfl hk8x.blk rfl ?_
  exact on0 rfl
 apply zL
 ·intro wq hR hst
  refine zK rfl (zF ?_)
  obtain ⟨LL, hM, hF, hT, hv, hu, hvb, hub, hk8x, hn8x, hm8x, hk10, hn10, hm10, B2, B3⟩ := ub16 hR LL hM hF hT hv hu hvb hub hk8x hn8x hm8x hk10 hn10 hm10 B2 B3
  refine zI rfl (bo func147) rfl rfl ?_
  refine (whole_c (by assumption) hM).mono ?_
  rintro v34 w8 ⟨hB34, rfl⟩
  obtain ⟨hk8x, hn8x, hm8x⟩ := ub3 hB34 hk8x hn8x hm8x
  exact on1 hB34 rfl rfl
 refine xQ (fun wq2 hR2 hpost2 => ?_)
 refine yY rfl (fun v23 hn23 => ?_)
 refine zK rfl (zK rfl (zF ?_))
 simp only [jW, jV, jU, jT]
 obtain ⟨LL, hM, hk8x, hn8x, hm8x, hn10⟩ := ub6 hR2 LL hM hk8x hn8x hm8x hn10
 obtain ⟨q23, rfl, hn23x⟩ := hn23
 refine xN rfl yu174 yV rfl rfl rfl rfl (yB rfl (yB rfl xI)) rfl rfl rfl (fun w9 b35 N35 => ?_)
 have hBw9 := N35.below
 have nM35 := hM.new N35
 have B35 := N35.blk
 obtain ⟨LL, hM, hk8x, hn8x, hm8x, hn10, hn23x⟩ := ub7 hBw9 LL hM hk8x hn8x hm8x hn10 hn23x
 have hn35 : IsInts (Ins b3 (Ins b2 M)) w9 (.slice (some ⟨b35, 0, none⟩) 2 2) [(decide (q.num < 0), limbs q.num.natAbs), (false, limbs p.den)] := fR B35 nM35 hn10 hm8x
 refine zI rfl (bo func146) rfl rfl ?_
 refine (eD (L := 400000) hn35 (by intro x hx; rcases List.mem_cons.1 hx with rfl | hx; exact jH _; rcases List.mem_cons.1 hx with rfl | hx; exact jH _; cases hx) (by intro x hx; rcases List.mem_cons.1 hx with rfl | hx; dsimp only; omega; rcases List.mem_cons.1 hx with rfl | hx; dsimp only; omega; cases hx) ⟨by simp, by omega⟩ hM).mono ?_
 rintro v36 w10 ⟨hB36, q36, rfl, hn36⟩
 obtain ⟨LL, hM, hk8x, hn8x, hm8x, hn23x⟩ := ub6 hB36 LL hM hk8x hn8x hm8x hn23x
 rw [hz2]; rw [hz2] at hn36
 refine zI rfl (bo func145) rfl rfl ?_
 refine (icmp_c hn23x hn36 hle1 hle2 hM).mono ?_
 rintro v37 w11 ⟨hB37, rfl⟩
 obtain ⟨LL, hk8x, hn8x, hm8x, hn23x⟩ := ub5 hB37 LL hk8x hn8x hm8x hn23x
 rw [gC, gC, cmpR_eq]
 refine zC rfl rfl (zD (zR ?_))
 refine lv1 ⟨rfl, trivial⟩ ?_
 subst hFz
 exact ⟨LL.b, rfl⟩
theorem rsame_r {s t : Bool} {v u vb ub : Value} {xs ds ys es : List Nat} (hT : Tab M w) (hv : IsNat M w v xs) (hu : IsNat M w u ds) (hvb : IsNat M w vb ys) (hub : IsNat M w ub es) (hl1 : xs.length ≤ 100000) (hl2 : ds.length ≤ 100000) (hl3 : ys.length ≤ 100000) (hl4 : es.length ≤ 100000) (hM : OkM M w) :
    CallsV prog 174 [.agg #[.bool s, v, u], .agg #[.bool t, vb, ub]] w fun r w' => Bel w.heap.size w w' ∧ r = .bool (decide (mkRat (zv s xs) (val ds) = mkRat (zv t ys) (val es))) := by
 refine ci M func174 ntmps174 fun Fz hFz hF LL => ?_
 refine zG (zB (yN rfl rfl (fun w1 b2 N2 => ?_)))
 obtain ⟨_, nF2, nM2, Lw1, B2⟩ := nza hF hM N2
 obtain ⟨LL, hM, hF, hT, hv, hu, hvb, hub⟩ := up8 Lw1 LL hM hF hT hv hu hvb hub
 refine yN rfl rfl (fun w2 b3 N3 => ?_)
 obtain ⟨hBw2, nF3, nM3, Lw2, B3⟩ := nza hF hM N3
 obtain ⟨B2, ne2_3⟩ := bn B2 N3
 obtain ⟨LL, hM, hT, hv, hu, hvb, hub⟩ := up7 Lw2 LL hM hT hv hu hvb hub
 refine zC rfl rfl (zD (zG (zB (zP rfl yQ yL rfl B2 rfl rfl (zP rfl yQ yL rfl B3 rfl rfl (zI rfl (bo func78) rfl rfl ?_))))))
 refine (rcmp_r (s := s) (t := t) hT hv hu hvb hub hl1 hl2 hl3 hl4 hM).mono ?_
 rintro v7 w3 ⟨hB7, rfl⟩
 replace LL := ub1 hB7 LL
 refine gL rfl rfl rfl (zC rfl rfl (zD (zR ?_)))
 refine lv1 ⟨rfl, trivial⟩ ?_
 subst hFz
 refine ⟨LL.b, ?_⟩
 congr 1
 rw [decide_eq_decide]
 unfold jY
 split
 · rename_i h; simp; exact fun c => by rw [c] at h; exact Rat.lt_irrefl h
 · rename_i h
   split
   · rename_i h2; simp; exact fun c => by rw [c] at h2; exact Rat.lt_irrefl h2
   · rename_i h2; simp; exact Rat.le_antisymm (Rat.not_lt.1 h2) (Rat.not_lt.1 h)
structure QC (M : Nat → Prop) (w : World) (n : Nat) (q : Rat) (s : Bool) (a d : Value) : Prop where
  ex : ∃ xs ds, IsNat M w a xs ∧ IsNat M w d ds ∧ xs.length ≤ n ∧ ds.length ≤ n ∧ mkRat (zv s xs) (val ds) = q
structure RC (M : Nat → Prop) (w : World) (n : Nat) (q : Rat) (s : Bool) (a d : Value) : Prop where
  sgn : s = decide (q.num < 0)
  num : IsNat M w a (limbs q.num.natAbs)
  den : IsNat M w d (limbs q.den)
  len : jZ q n
section
variable {Fz M M' T S : Nat → Prop} {w w' : World} {n m k : Nat} {q : Rat} {s : Bool} {a d : Value}
theorem QC.mono (h : QC M w n q s a d) (l : Le Fz M w M' w') : QC M' w' n q s a d := by
  obtain ⟨xs, ds, h1, h2, h3⟩ := h.ex; exact ⟨xs, ds, h1.mono l, h2.mono l, h3⟩
theorem QC.less (h : QC M w n q s a d) (hm : ∀ k, M' k → M k) : QC M' w n q s a d := h.mono (Fz := fun _ => False) (Le.less hm)
theorem QC.up (h : QC M w n q s a d) (hm : n ≤ m) : QC M w m q s a d := by
  obtain ⟨xs, ds, h1, h2, h3, h4, h5⟩ := h.ex; exact ⟨xs, ds, h1, h2, by omega, by omega, h5⟩
theorem QC.rlen (h : QC M w n q s a d) : jZ q (n + 1) := by
  obtain ⟨xs, ds, h1, h2, h3, h4, rfl⟩ := h.ex
  have := bT (s := s) h1.lt h2.lt
  exact ⟨by omega, by omega⟩
theorem QC.sl (h : QC M w n q s a d) : (∃ x i j, a = .slice x i j) ∧ ∃ x i j, d = .slice x i j := by
  obtain ⟨xs, ds, h1, h2, h3⟩ := h.ex
  obtain ⟨_, _, ad, cap, rfl, _⟩ := h1.slc
  obtain ⟨_, _, ad2, cap2, rfl, _⟩ := h2.slc
  exact ⟨⟨_, _, _, rfl⟩, _, _, _, rfl⟩
theorem QC.one (h : QC M w n q s a d) : a.oneCell' = true ∧ d.oneCell' = true ∧ True := by
  obtain ⟨⟨_, _, _, rfl⟩, _, _, _, rfl⟩ := h.sl; exact ⟨rfl, rfl, trivial⟩
theorem RC.mono (h : RC M w n q s a d) (l : Le Fz M w M' w') : RC M' w' n q s a d := ⟨h.sgn, h.num.mono l, h.den.mono l, h.len⟩
theorem RC.drift (h : RC M w n q s a d) (x : Drift T k w w') (ht : ∀ k, T k → M k) : RC M w' n q s a d := ⟨h.sgn, h.num.drift x ht, h.den.drift x ht, h.len⟩
theorem RC.less (h : RC M w n q s a d) (hm : ∀ k, M' k → M k) : RC M' w n q s a d := h.mono (Fz := fun _ => False) (Le.less hm)
theorem RC.up (h : RC M w n q s a d) (hm : n ≤ m) : RC M w m q s a d := ⟨h.sgn, h.num, h.den, jC h.len hm⟩
theorem RC.gen (h : RC M w n q s a d) : QC M w n q s a d := ⟨_, _, h.num, h.den, h.len.1, h.len.2, by rw [h.sgn, gC, zT, Rat.mkRat_self]⟩
theorem RC.one (h : RC M w n q s a d) : a.oneCell' = true ∧ d.oneCell' = true ∧ True := h.gen.one
end
def RV (M : Nat → Prop) (n : Nat) (q : Rat) : VP := fun v w => ∃ s a d, v = .agg #[.bool s, a, d] ∧ RC M w n q s a d
theorem rv_of {n : Nat} {q : Rat} {a d : Value} (h1 : IsNat M w a (limbs q.num.natAbs)) (h2 : IsNat M w d (limbs q.den)) (h3 : jZ q n) : RV M n q (.agg #[.bool (decide (q.num < 0)), a, d]) w := ⟨_, _, _, rfl, rfl, h1, h2, h3⟩
theorem eN {n m : Nat} {p q : Rat} {s t : Bool} {a d b e : Value} (hT : Tab M w) (h1 : QC M w n p s a d) (h2 : QC M w m q t b e) (hn : n ≤ 90000) (hm : m ≤ 90000) (hM : OkM M w) : CallsV prog 78 [.agg #[.bool s, a, d], .agg #[.bool t, b, e]] w fun r w' => Bel w.heap.size w w' ∧ r = .int .i64 (jY p q) := by
  obtain ⟨xs, ds, i1, i2, i3, i4, rfl⟩ := h1.ex
  obtain ⟨ys, es, j1, j2, j3, j4, rfl⟩ := h2.ex
  exact rcmp_r hT i1 i2 j1 j2 (by omega) (by omega) (by omega) (by omega) hM
theorem rsame_q {n m : Nat} {p q : Rat} {s t : Bool} {a d b e : Value} (hT : Tab M w) (h1 : QC M w n p s a d) (h2 : QC M w m q t b e) (hn : n ≤ 90000) (hm : m ≤ 90000) (hM : OkM M w) : CallsV prog 174 [.agg #[.bool s, a, d], .agg #[.bool t, b, e]] w fun r w' => Bel w.heap.size w w' ∧ r = .bool (decide (p = q)) := by
  obtain ⟨xs, ds, i1, i2, i3, i4, rfl⟩ := h1.ex
  obtain ⟨ys, es, j1, j2, j3, j4, rfl⟩ := h2.ex
  exact rsame_r hT i1 i2 j1 j2 (by omega) (by omega) (by omega) (by omega) hM
theorem rnrm_q {n : Nat} {p : Rat} {s : Bool} {a d : Value} (hT : Tab M w) (h1 : QC M w n p s a d) (hn : n ≤ 90000) (hM : OkM M w) : CallsV prog 126 [.agg #[.bool s, a, d]] w fun r w' => Bel w.heap.size w w' ∧ RV M (n + 1) p r w' := by
  have hl := h1.rlen
  obtain ⟨xs, ds, i1, i2, i3, i4, rfl⟩ := h1.ex
  exact (rnrm_c hT i1 i2 (by omega) (by omega) hM).mono fun r w' ⟨hB, x, y, e, k1, k2⟩ => ⟨hB, by subst e; exact rv_of k1 k2 hl⟩
theorem rsub_q {n m : Nat} {p q : Rat} {s t : Bool} {a d b e : Value} (hT : Tab M w) (h1 : QC M w n p s a d) (h2 : QC M w m q t b e) (hn : n ≤ 90000) (hm : m ≤ 90000) (hM : OkM M w) : CallsV prog 98 [.agg #[.bool s, a, d], .agg #[.bool t, b, e]] w fun r w' => Bel w.heap.size w w' ∧ RV M (n + m + 3) (p - q) r w' := by
  have hl : jZ (p - q) (n + m + 3) := by rw [Rat.sub_eq_add_neg]; exact jC (qU h1.rlen (rlen_neg h2.rlen)) (by omega)
  obtain ⟨xs, ds, i1, i2, i3, i4, rfl⟩ := h1.ex
  obtain ⟨ys, es, j1, j2, j3, j4, rfl⟩ := h2.ex
  exact (rsub_r hT i1 i2 j1 j2 (by omega) (by omega) (by omega) (by omega) hM).mono fun r w' ⟨hB, x, y, e, k1, k2⟩ => ⟨hB, by subst e; exact rv_of k1 k2 hl⟩
theorem rofn_q {n : Nat} (hn : n < 9223372036854775808) (hM : OkM M w) : CallsV prog 77 [.int .i64 (n : Int)] w fun r w' => Bel w.heap.size w w' ∧ RV M 2 (n : Rat) r w' := by
  have e0 : ((n : Nat) : Rat).num = (n : Int) := rfl
  have e1 : ((n : Nat) : Rat).den = 1 := rfl
  exact (rofn_c hn hM).mono fun r w' ⟨hB, x, y, e, k1, k2⟩ => ⟨hB, false, x, y, e, by rw [e0]; exact (decide_eq_false (by omega)).symm, by rw [e0]; exact k1, by rw [e1, gO]; exact k2, by
    unfold jZ; rw [e0, e1, gO]; exact ⟨xG (by simp; omega), by simp⟩⟩
theorem mem2 {α : Type} {x y : α} {Q : α → Prop} (h1 : Q x) (h2 : Q y) : ∀ z ∈ [x, y], Q z := by
  intro z hz
  rcases List.mem_cons.1 hz with rfl | hz
  · exact h1
  · rcases List.mem_cons.1 hz with rfl | hz
    · exact h2
    · cases hz
theorem radd2_q {bb : Nat} {ty : TypeId} {n m : Nat} {p q : Rat} {s t : Bool} {a d b e : Value} (hT : Tab M w) (hk : KBlk M w bb ty [.bool s, a, d, .bool t, b, e]) (h1 : QC M w n p s a d) (h2 : QC M w m q t b e) (hn : n ≤ 90000) (hm : m ≤ 90000) (hM : OkM M w) : CallsV prog 163 [.slice (some ⟨bb, 0, none⟩) 2 2] w fun r w' => Bel w.heap.size w w' ∧ RV M (n + m + 3) (p + q) r w' := by
  have hl : jZ (p + q) (n + m + 3) := jC (qU h1.rlen h2.rlen) (by omega)
  obtain ⟨xs, ds, i1, i2, i3, i4, rfl⟩ := h1.ex
  obtain ⟨ys, es, j1, j2, j3, j4, rfl⟩ := h2.ex
  have hs : cQ [(s, xs, ds), (t, ys, es)] = mkRat (zv s xs) (val ds) + mkRat (zv t ys) (val es) := by unfold cQ rq; simp only [List.foldl_cons, List.foldl_nil, Rat.zero_add]
  exact (radds_c (L := 90000) hT (rats2 hk.blk hk.not i1 i2 j1 j2) (mem2 ⟨i1.lt, i2.lt⟩ ⟨j1.lt, j2.lt⟩) (mem2 ⟨by dsimp only; omega, by dsimp only; omega⟩ ⟨by dsimp only; omega, by dsimp only; omega⟩) (by simp) hM).mono fun r w' ⟨hB, x, y, e, k1, k2⟩ => ⟨hB, by
    rw [hs] at e k1 k2; subst e; exact rv_of k1 k2 hl⟩
theorem rmul2_q {bb : Nat} {ty : TypeId} {n m : Nat} {p q : Rat} {s t : Bool} {a d b e : Value} (hT : Tab M w) (hk : KBlk M w bb ty [.bool s, a, d, .bool t, b, e]) (h1 : QC M w n p s a d) (h2 : QC M w m q t b e) (hn : n ≤ 90000) (hm : m ≤ 90000) (hM : OkM M w) : CallsV prog 160 [.slice (some ⟨bb, 0, none⟩) 2 2] w fun r w' => Bel w.heap.size w w' ∧ RV M (n + m + 3) (p * q) r w' := by
  have hl : jZ (p * q) (n + m + 3) := jC (bE h1.rlen h2.rlen) (by omega)
  obtain ⟨xs, ds, i1, i2, i3, i4, rfl⟩ := h1.ex
  obtain ⟨ys, es, j1, j2, j3, j4, rfl⟩ := h2.ex
  have hs : aF [(s, xs, ds), (t, ys, es)] = mkRat (zv s xs) (val ds) * mkRat (zv t ys) (val es) := by unfold aF rq; simp only [List.foldl_cons, List.foldl_nil, Rat.one_mul]
  exact (rmuls_c (L := 90000) hT (rats2 hk.blk hk.not i1 i2 j1 j2) (mem2 ⟨i1.lt, i2.lt⟩ ⟨j1.lt, j2.lt⟩) (mem2 ⟨by dsimp only; omega, by dsimp only; omega⟩ ⟨by dsimp only; omega, by dsimp only; omega⟩) (by simp) hM).mono fun r w' ⟨hB, x, y, e, k1, k2⟩ => ⟨hB, by
    rw [hs] at e k1 k2; subst e; exact rv_of k1 k2 hl⟩
end
end Go.Proofs.YtfkejnlohkgbgaaGreatDoor
namespace Go.Proofs.YtfkejnlohkgbgaaGreatDoor
open Go Go.SL Go.RowKit Tryz
section
variable {Fz M M' : Nat → Prop} {w w' : World}
instance {n : Nat} {q : Rat} {s : Bool} {a d : Value} : Up Fz M M' w w' (QC M w n q s a d) (QC M' w' n q s a d) := ⟨fun l h => h.mono l⟩
instance {n : Nat} {q : Rat} {s : Bool} {a d : Value} : UpB w w' (QC M w n q s a d) (QC M w' n q s a d) := ⟨fun l h => h.mono (lb l)⟩
instance {n : Nat} {q : Rat} {s : Bool} {a d : Value} : Up Fz M M' w w' (RC M w n q s a d) (RC M' w' n q s a d) := ⟨fun l h => h.mono l⟩
instance {n : Nat} {q : Rat} {s : Bool} {a d : Value} : UpB w w' (RC M w n q s a d) (RC M w' n q s a d) := ⟨fun l h => h.mono (lb l)⟩
abbrev vRC (M : Nat → Prop) (n : Nat) (q : Rat) : VP := fun v w => ∃ s a d, v = .agg #[.bool s, a, d] ∧ RC M w n q s a d
theorem vRC_m {M : Nat → Prop} {n : Nat} {q : Rat} : ∀ v (w w' : World), vRC M n q v w → Rb w w' → vRC M n q v w' := fun _ _ _ ⟨s, a, d, hq, h0⟩ r => ⟨s, a, d, hq, h0.mono (Fz := fun _ => False) (Le.of_below r)⟩
abbrev vQC (M : Nat → Prop) (n : Nat) (q : Rat) : VP := fun v w => ∃ s a d, v = .agg #[.bool s, a, d] ∧ QC M w n q s a d
theorem vQC_m {M : Nat → Prop} {n : Nat} {q : Rat} : ∀ v (w w' : World), vQC M n q v w → Rb w w' → vQC M n q v w' := fun _ _ _ ⟨s, a, d, hq, h0⟩ r => ⟨s, a, d, hq, h0.mono (Fz := fun _ => False) (Le.of_below r)⟩
end
end Go.Proofs.YtfkejnlohkgbgaaGreatDoor
namespace Go.Proofs.YtfkejnlohkgbgaaGreatDoor
open Go.SL Go.RowKit Go.Proofs Tryz
section
variable {M : Nat → Prop} {w : World}
theorem quo_eq (p q : Rat) : mkRat (p.num * zv (decide (q.num < 0)) (limbs q.den)) (p.den * q.num.natAbs) = p / q := by
  rw [Rat.mkRat_eq_div]
  have e1 := den_self p
  have e2 := den_self q
  have d1 : (p.den : Rat) ≠ 0 := fun c => p.den_nz (Rat.natCast_inj.1 (show ((p.den : Nat) : Rat) = ((0 : Nat) : Rat) from c))
  have d2 : (q.den : Rat) ≠ 0 := fun c => q.den_nz (Rat.natCast_inj.1 (show ((q.den : Nat) : Rat) = ((0 : Nat) : Rat) from c))
  rw [Rat.intCast_mul, Rat.natCast_mul]
  by_cases h : q.num < 0
  · have f : ((q.num.natAbs : Nat) : Rat) = -(q.num : Rat) := by
      rw [← Rat.intCast_neg, ← Int.natAbs_neg]
      have : (((-q.num).natAbs : Nat) : Int) = -q.num := by omega
      rw [← this]; rfl
    rw [f, decide_eq_true h, zv, if_pos rfl, zT, Rat.intCast_neg]
    have g : (((q.den : Nat) : Int) : Rat) = (q.den : Rat) := rfl
    rw [g]
    have hn : (q.num : Rat) ≠ 0 := by
      intro c
      have : ((q.num : Int) : Rat) = ((0 : Int) : Rat) := c
      have := Rat.intCast_inj.1 this
      omega
    grind
  · have f : ((q.num.natAbs : Nat) : Rat) = (q.num : Rat) := by
      have : ((q.num.natAbs : Nat) : Int) = q.num := by omega
      rw [show ((q.num.natAbs : Nat) : Rat) = (((q.num.natAbs : Nat) : Int) : Rat) from rfl, this]
    rw [f, decide_eq_false h, zv, if_neg (by simp), zT]
    have g : (((q.den : Nat) : Int) : Rat) = (q.den : Rat) := rfl
    rw [g]
    by_cases h0 : q.num = 0
    · have hq : q = 0 := by rw [← Rat.num_eq_zero]; exact h0
      subst hq; simp [Rat.div_def]
    · have hn : (q.num : Rat) ≠ 0 := by
        intro c
        have : ((q.num : Int) : Rat) = ((0 : Int) : Rat) := c
        exact h0 (Rat.intCast_inj.1 this)
      grind
theorem quo_zero (p q : Rat) : (p.den * q.num.natAbs = 0) = (q = 0) := by
  apply propext
  rw [Nat.mul_eq_zero]
  constructor
  · intro h
    rcases h with h | h
    · exact absurd h p.den_nz
    · rw [← Rat.num_eq_zero]; omega
  · intro h; subst h; exact .inr rfl
theorem rlen_quo {p q : Rat} {A B : Nat} (h1 : jZ p A) (h2 : jZ q B) : jZ (p / q) (A + B + 1) := by
  rw [← quo_eq]
  by_cases hq : q = 0
  · subst hq
    have : p.den * (0 : Rat).num.natAbs = 0 := by simp
    rw [this, Rat.mkRat_zero]
    exact jC rlen_zero (by omega)
  · have a1 := yU h1.1; have a2 := yU h1.2; have a3 := yU h2.1; have a4 := yU h2.2
    refine jC (rlen_mk (A := A + B) ?_ (gK a2 a3) (fun c => hq ((quo_zero p q) ▸ c))) (by omega)
    rw [Int.natAbs_mul, uD, zT]; exact gK a1 a4
theorem rquo_r {s t : Bool} {v u vb ub : Value} {xs ds ys es : List Nat} (hT : Tab M w) (hv : IsNat M w v xs) (hu : IsNat M w u ds) (hvb : IsNat M w vb ys) (hub : IsNat M w ub es) (hl1 : xs.length ≤ 100000) (hl2 : ds.length ≤ 100000) (hl3 : ys.length ≤ 100000) (hl4 : es.length ≤ 100000) (hM : OkM M w) :
    CallsV prog 94 [.agg #[.bool s, v, u], .agg #[.bool t, vb, ub]] w fun r w' => Bel w.heap.size w w' ∧ ∃ a d, r = .tuple #[.agg #[.bool (decide (((mkRat (zv s xs) (val ds)) / (mkRat (zv t ys) (val es))).num < 0)), a, d], .int .i64 (if (mkRat (zv t ys) (val es)) = 0 then 30 else 0)] ∧ IsNat M w' a (limbs ((mkRat (zv s xs) (val ds)) / (mkRat (zv t ys) (val es))).num.natAbs) ∧ IsNat M w' d (limbs ((mkRat (zv s xs) (val ds)) / (mkRat (zv t ys) (val es))).den) := by
 obtain ⟨Fz, hFz, hF, _⟩ := fz0 M w
 obtain ⟨p, hp⟩ : ∃ p, p = mkRat (zv s xs) (val ds) := ⟨_, rfl⟩
 obtain ⟨q, hq⟩ : ∃ q, q = mkRat (zv t ys) (val es) := ⟨_, rfl⟩
 rw [← hp, ← hq]
 have hl5 := bT (s := s) hv.lt hu.lt
 have hl6 := bT (s := t) hvb.lt hub.lt
 rw [← hp] at hl5; rw [← hq] at hl6
 obtain ⟨hl7, hl8⟩ := hl5; obtain ⟨hl9, hl10⟩ := hl6
 have hzd : ∀ n, zv false (limbs n) = ((n : Nat) : Int) := fun n => by simp [zv, zT]
 have hzq : uV [(decide (p.num < 0), limbs p.num.natAbs), (decide (q.num < 0), limbs q.den)] = p.num * zv (decide (q.num < 0)) (limbs q.den) := by unfold uV; simp only [List.foldl_cons, List.foldl_nil, gC, Int.one_mul]
 have hquo := quo_eq p q
 have hq0 := quo_zero p q
 have hle1 : (limbs (p.num * zv (decide (q.num < 0)) (limbs q.den)).natAbs).length ≤ 900000 := by have := uA (yU hl7) (yU hl10); rw [Int.natAbs_mul, uD, zT]; omega
 have hle2 : (limbs (p.den * q.num.natAbs)).length ≤ 900000 := by have := uA (yU hl8) (yU hl9); omega
 have LL := Le.refl Fz M w
 refine jA func94 rfl ntmps94 rfl ?_
 refine zG (zB (yN rfl rfl (fun w1 b2 N2 => ?_)))
 obtain ⟨_, nF2, nM2, Lw1, B2⟩ := nza hF hM N2
 obtain ⟨LL, hM, hF, hT, hv, hu, hvb, hub⟩ := up8 Lw1 LL hM hF hT hv hu hvb hub
 refine yN rfl rfl (fun w2 b3 N3 => ?_)
 obtain ⟨hBw2, nF3, nM3, Lw2, B3⟩ := nza hF hM N3
 obtain ⟨B2, ne2_3⟩ := bn B2 N3
 obtain ⟨LL, hM, hF, hT, hv, hu, hvb, hub⟩ := up8 Lw2 LL hM hF hT hv hu hvb hub
 refine yH rfl yL (fun w3 b4 N4 => ?_)
 obtain ⟨hBw3, nF4, nM4, Lw3, B4⟩ := nza hF hM N4
 obtain ⟨B2, ne2_4⟩ := bn B2 N4
 obtain ⟨B3, ne3_4⟩ := bn B3 N4
 obtain ⟨LL, hM, hT, hv, hu, hvb, hub⟩ := up7 Lw3 LL hM hT hv hu hvb hub
 refine zC rfl rfl (zD (zG ?_))
 refine wd mixed 3 [4, 9, 10] (by decide +kernel) ?_
 refine zL (fun _ hR _ => zQ rfl rfl (zF (zP rfl yQ yL rfl (B2.below hR) rfl rfl (on0 rfl)))) ?_
 refine yZ (fun v w => lT (Ins b4 (Ins b3 (Ins b2 M))) p v w) rptr_mono (fun wq hR hst => ?_) ?_
 ·refine zK rfl (zF ?_)
  obtain ⟨hM, hT, hv, hu⟩ := ub4 hR hM hT hv hu
  refine zI rfl (bo func140) rfl rfl ?_
  refine (cU (s := s) hT hv hu (by omega) (by omega) hM).mono ?_
  rintro v9 w4 ⟨hB9, b9, a9, d9, rfl, hz9, B9, hn9, hm9⟩
  have hk9 : KBlk (Ins b4 (Ins b3 (Ins b2 M))) w4 b9 167 _ := ⟨B9, fun c => by have := hM _ c; omega⟩
  rw [← hp] at hk9 hn9 hm9
  exact on1 hB9 rfl ⟨b9, a9, d9, rfl, hk9, hn9, hm9⟩
 refine zL (fun _ hR _ => zQ rfl rfl (zF (zP rfl yQ yL rfl (B3.below hR) rfl rfl (on0 rfl)))) ?_
 refine xQ (fun wq1 hR1 hpost1 => ?_)
 refine zQ rfl rfl (yY rfl (fun v9 hn9 => ?_))
 refine zK rfl (zF ?_)
 simp only [jW, jV, jU, jT]
 obtain ⟨LL, hM, hT, hvb, hub, B4⟩ := ub6 hR1 LL hM hT hvb hub B4
 obtain ⟨b9, a9, d9, rfl, hk9x, hn9x, hm9x⟩ := hn9
 refine zI rfl (bo func140) rfl rfl ?_
 refine (cU (s := t) hT hvb hub (by omega) (by omega) hM).mono ?_
 rintro v11 w5 ⟨hB11, b11, a11, d11, rfl, hz11, B11, hn11, hm11⟩
 have hk11 : KBlk (Ins b4 (Ins b3 (Ins b2 M))) w5 b11 167 _ := ⟨B11, fun c => by have := hM _ c; omega⟩
 obtain ⟨LL, hM, hT, hk9x, hn9x, hm9x, B4⟩ := ub7 hB11 LL hM hT hk9x hn9x hm9x B4
 rw [← hq] at hk11 hn11 hm11
 refine zC rfl rfl (zC rfl rfl (zD (zG ?_)))
 refine wd mixed 34 [4, 44, 45] (kG (by decide +kernel)) ?_
 apply zL
 ·intro wq hR hst
  refine zQ rfl rfl (zF ?_)
  obtain ⟨hk9x, hn9x, hm9x⟩ := ub3 hR hk9x hn9x hm9x
  exact zA rfl rfl (on0 rfl)
 apply zL
 ·intro wq hR hst
  refine zK rfl (zF ?_)
  obtain ⟨hk9x, hn9x, hm9x⟩ := ub3 hR hk9x hn9x hm9x
  exact zV rfl rfl (on0 rfl)
 apply zL
 ·intro wq hR hst
  refine zK rfl (zF ?_)
  obtain ⟨hk9x, hn9x, hm9x⟩ := ub3 hR hk9x hn9x hm9x
  exact xA 0 rfl yu167 rfl rfl yL rfl rfl (on0 rfl)
 apply zL
 ·intro wq hR hst
  refine zK rfl (zF ?_)
  obtain ⟨hk9x, hn9x, hm9x⟩ := ub3 hR hk9x hn9x hm9x
  exact xA 0 rfl yu33 rfl rfl yV rfl rfl (on0 rfl)
 apply zL
 ·intro wq hR hst
  refine zK rfl (zF ?_)
  obtain ⟨hk9x, hn9x, hm9x⟩ := ub3 hR hk9x hn9x hm9x
  exact zP rfl xU yV rfl hk9x.blk rfl rfl (on0 rfl)
 apply zL
 ·intro wq hR hst
  refine zQ rfl rfl (zF ?_)
  obtain ⟨hk9x, hn9x, hm9x⟩ := ub3 hR hk9x hn9x hm9x
  exact zA rfl rfl (on0 rfl)
 apply zL
 ·intro wq hR hst
  refine zK rfl (zF ?_)
  obtain ⟨hk9x, hn9x, hm9x⟩ := ub3 hR hk9x hn9x hm9x
  exact zV rfl rfl (on0 rfl)
 apply zL
 ·intro wq hR hst
  refine zK rfl (zF ?_)
  obtain ⟨hk9x, hn9x, hm9x⟩ := ub3 hR hk9x hn9x hm9x
  exact xA 0 rfl yu167 rfl rfl yL rfl rfl (on0 rfl)
 apply zL
 ·intro wq hR hst
  refine zK rfl (zF ?_)
  obtain ⟨hk9x, hn9x, hm9x⟩ := ub3 hR hk9x hn9x hm9x
  exact xA 0 rfl yu33 rfl rfl yV rfl rfl (on0 rfl)
 apply zL
 ·intro wq hR hst
  refine zK rfl (zF ?_)
  obtain ⟨hk9x, hn9x, hm9x⟩ := ub3 hR hk9x hn9x hm9x
  exact xA 0 rfl yu31 rfl rfl sz4 rfl rfl (on0 rfl)
 apply zL
 ·intro wq hR hst
  refine zK rfl (zF ?_)
  obtain ⟨hk9x, hn9x, hm9x, hk11⟩ := ub4 hR hk9x hn9x hm9x hk11
  exact zN rfl uC rfl hk11.blk rfl (on0 rfl)
 apply zL
 ·intro wq hR hst
  refine zQ rfl rfl (zF ?_)
  obtain ⟨hk9x, hn9x, hm9x⟩ := ub3 hR hk9x hn9x hm9x
  exact zA rfl rfl (on0 rfl)
 apply zL
 ·intro wq hR hst
  refine zK rfl (zF ?_)
  obtain ⟨hk9x, hn9x, hm9x⟩ := ub3 hR hk9x hn9x hm9x
  exact zV rfl rfl (on0 rfl)
 apply zL
 ·intro wq hR hst
  refine zK rfl (zF ?_)
  obtain ⟨hk9x, hn9x, hm9x⟩ := ub3 hR hk9x hn9x hm9x
  exact xA 0 rfl yu167 rfl rfl yL rfl rfl (on0 rfl)
 apply zL
 ·intro wq hR hst
  refine zK rfl (zF ?_)
  obtain ⟨hk9x, hn9x, hm9x⟩ := ub3 hR hk9x hn9x hm9x
  exact xA 2 rfl yu33 rfl rfl xS rfl rfl (on0 rfl)
 apply zL
 ·intro wq hR hst
  refine zK rfl (zF ?_)
  obtain ⟨hk9x, hn9x, hm9x, hk11⟩ := ub4 hR hk9x hn9x hm9x hk11
  exact zN rfl yP rfl hk11.blk rfl (on0 rfl)
 apply zL
 ·intro wq hR hst
  refine zK rfl (zK rfl (zF ?_))
  obtain ⟨hk9x, hn9x, hm9x⟩ := ub3 hR hk9x hn9x hm9x
  exact xO rfl kT rfl rfl (yB (gF rfl) (yB (gF (by first | rfl | exact yM (by assumption) | exact yO (by assumption) | assumption)) xI)) rfl (on0 rfl)
 refine yZ (fun v w => IsInts (Ins b4 (Ins b3 (Ins b2 M))) w v [(decide (p.num < 0), limbs p.num.natAbs), (decide (q.num < 0), limbs q.den)]) cJ (fun wq hR hst => ?_) ?_
 ·refine zK rfl (zK rfl (zF ?_))
  obtain ⟨hM, hk9x, hn9x, hm9x, hm11⟩ := ub5 hR hM hk9x hn9x hm9x hm11
  refine xN rfl yu174 yV rfl rfl rfl rfl (yB rfl (yB rfl xI)) rfl rfl rfl (fun w6 b29 N29 => ?_)
  have hBw6 := N29.below
  have nM29 := hM.new N29
  have B29 := N29.blk
  obtain ⟨hk9x, hn9x, hm9x, hm11⟩ := ub4 hBw6 hk9x hn9x hm9x hm11
  have hn29 : IsInts (Ins b4 (Ins b3 (Ins b2 M))) w6 (.slice (some ⟨b29, 0, none⟩) 2 2) [(decide (p.num < 0), limbs p.num.natAbs), (decide (q.num < 0), limbs q.den)] := fR B29 nM29 hn9x hm11
  have hB29 := hBw6
  exact on1 hB29 rfl hn29
 refine dv (fun v w => ∃ c, v = .agg #[.bool (decide (p.num * zv (decide (q.num < 0)) (limbs q.den) < 0)), c] ∧ IsNat (Ins b4 (Ins b3 (Ins b2 M))) w c (limbs (p.num * zv (decide (q.num < 0)) (limbs q.den)).natAbs)) (fun wq hR hst => ?_) ?_
 ·refine yY rfl (fun v29 hn29 => ?_)
  refine zF ?_
  obtain ⟨hM, hk9x, hn9x, hm9x⟩ := ub4 hR hM hk9x hn9x hm9x
  refine zI rfl (bo func146) rfl rfl ?_
  refine (eD (L := 400000) hn29 (by intro x hx; rcases List.mem_cons.1 hx with rfl | hx; exact jH _; rcases List.mem_cons.1 hx with rfl | hx; exact jH _; cases hx) (by intro x hx; rcases List.mem_cons.1 hx with rfl | hx; dsimp only; omega; rcases List.mem_cons.1 hx with rfl | hx; dsimp only; omega; cases hx) ⟨by simp, by omega⟩ hM).mono ?_
  rintro v30 w7 ⟨hB30, q30, rfl, hn30⟩
  obtain ⟨hk9x, hn9x, hm9x⟩ := ub3 hB30 hk9x hn9x hm9x
  rw [hzq]; rw [hzq] at hn30
  exact on1 hB30 rfl ⟨_, rfl, hn30⟩
 apply zL
 ·intro wq hR hst
  refine zQ rfl rfl (zF ?_)
  obtain ⟨hk9x, hn9x, hm9x⟩ := ub3 hR hk9x hn9x hm9x
  exact zA rfl rfl (on0 rfl)
 apply zL
 ·intro wq hR hst
  refine zK rfl (zF ?_)
  obtain ⟨hk9x, hn9x, hm9x⟩ := ub3 hR hk9x hn9x hm9x
  exact zV rfl rfl (on0 rfl)
 apply zL
 ·intro wq hR hst
  refine zK rfl (zF ?_)
  obtain ⟨hk9x, hn9x, hm9x⟩ := ub3 hR hk9x hn9x hm9x
  exact xA 0 rfl yu167 rfl rfl yL rfl rfl (on0 rfl)
 apply zL
 ·intro wq hR hst
  refine zK rfl (zF ?_)
  obtain ⟨hk9x, hn9x, hm9x⟩ := ub3 hR hk9x hn9x hm9x
  exact xA 2 rfl yu33 rfl rfl xS rfl rfl (on0 rfl)
 apply zL
 ·intro wq hR hst
  refine zK rfl (zF ?_)
  obtain ⟨hk9x, hn9x, hm9x⟩ := ub3 hR hk9x hn9x hm9x
  exact zN rfl yP rfl hk9x.blk rfl (on0 rfl)
 apply zL
 ·intro wq hR hst
  refine zQ rfl rfl (zF ?_)
  obtain ⟨hk9x, hn9x, hm9x⟩ := ub3 hR hk9x hn9x hm9x
  exact zA rfl rfl (on0 rfl)
 apply zL
 ·intro wq hR hst
  refine zK rfl (zF ?_)
  obtain ⟨hk9x, hn9x, hm9x⟩ := ub3 hR hk9x hn9x hm9x
  exact zV rfl rfl (on0 rfl)
 apply zL
 ·intro wq hR hst
  refine zK rfl (zF ?_)
  obtain ⟨hk9x, hn9x, hm9x⟩ := ub3 hR hk9x hn9x hm9x
  exact xA 0 rfl yu167 rfl rfl yL rfl rfl (on0 rfl)
 apply zL
 ·intro wq hR hst
  refine zK rfl (zF ?_)
  obtain ⟨hk9x, hn9x, hm9x⟩ := ub3 hR hk9x hn9x hm9x
  exact xA 0 rfl yu33 rfl rfl yV rfl rfl (on0 rfl)
 apply zL
 ·intro wq hR hst
  refine zK rfl (zF ?_)
  obtain ⟨hk9x, hn9x, hm9x⟩ := ub3 hR hk9x hn9x hm9x
  exact xA 1 rfl yu31 rfl rfl xS rfl rfl (on0 rfl)
 apply zL
 ·intro wq hR hst
  refine zK rfl (zF ?_)
  obtain ⟨hk9x, hn9x, hm9x, hk11⟩ := ub4 hR hk9x hn9x hm9x hk11
  exact zN rfl yP rfl hk11.blk rfl (on0 rfl)
 refine yZ (fun v w => IsNat (Ins b4 (Ins b3 (Ins b2 M))) w v (limbs (p.den * q.num.natAbs))) jG (fun wq hR hst => ?_) ?_
 ·refine zK rfl (zK rfl (zF ?_))
  obtain ⟨LL, hM, hk9x, hn9x, hm9x, hn11⟩ := ub6 hR LL hM hk9x hn9x hm9x hn11
  refine zI rfl (bo func159) rfl rfl ?_
  refine (mul_c hm9x hn11 (by omega) (by omega) hM).mono ?_
  rintro v42 w8 ⟨hB42, hf42⟩
  have hM42 := hM
  have hS42 := LL.size
  obtain ⟨hk9x, hn9x, hm9x⟩ := ub3 hB42 hk9x hn9x hm9x
  rw [zT, zT] at hf42
  have hn42 := hf42.nat hM42
  exact on1 hB42 rfl hn42
 refine dv (fun v w => ∃ a d, v = .tuple #[.agg #[.bool (decide ((p / q).num < 0)), a, d], .int .i64 (if q = 0 then 30 else 0)] ∧ IsNat (Ins b4 (Ins b3 (Ins b2 M))) w a (limbs (p / q).num.natAbs) ∧ IsNat (Ins b4 (Ins b3 (Ins b2 M))) w d (limbs (p / q).den)) (fun wq hR hst => ?_) ?_
 ·refine yY rfl (fun v30 hn30 => ?_)
  refine yY rfl (fun v42 hn42 => ?_)
  refine zF ?_
  obtain ⟨hM, hT, hk9x, hn9x, hm9x⟩ := ub5 hR hM hT hk9x hn9x hm9x
  obtain ⟨q30, rfl, hn30x⟩ := hn30
  refine zI rfl (bo func158) rfl rfl ?_
  refine (rnew_c hT hn30x hn42 (by omega) (by omega) hM).mono ?_
  rintro v43 w9 ⟨hB43, a43, d43, rfl, hn43, hm43⟩
  obtain ⟨hk9x, hn9x, hm9x, hn30x⟩ := ub4 hB43 hk9x hn9x hm9x hn30x
  simp only [gC, zT, hquo, hq0] at hn43 hm43 ⊢
  exact on1 hB43 rfl ⟨_, _, rfl, hn43, hm43⟩
 refine dv (fun v w => ∃ a d, v = .agg #[.bool (decide ((p / q).num < 0)), a, d] ∧ IsNat (Ins b4 (Ins b3 (Ins b2 M))) w a (limbs (p / q).num.natAbs) ∧ IsNat (Ins b4 (Ins b3 (Ins b2 M))) w d (limbs (p / q).den)) (fun wq hR hst => ?_) ?_
 ·refine yY rfl (fun v43 hn43 => ?_)
  refine zF ?_
  obtain ⟨hk9x, hn9x, hm9x⟩ := ub3 hR hk9x hn9x hm9x
  obtain ⟨a, d, rfl, hax, hdx⟩ := hn43
  exact zX rfl rfl rfl (zD ⟨rfl, xD _, _, rfl, ⟨_, _, rfl, hax, hdx⟩⟩)
 refine yZ (Ex (.int .i64 (if q = 0 then 30 else 0))) uZ (fun wq hR hst => ?_) ?_
 ·refine yY rfl (fun v43 hn43 => ?_)
  refine zF ?_
  obtain ⟨hk9x, hn9x, hm9x⟩ := ub3 hR hk9x hn9x hm9x
  obtain ⟨a, d, rfl, hax, hdx⟩ := hn43
  exact zX rfl rfl rfl (on0 rfl)
 refine xQ (fun wq2 hR2 hpost2 => ?_)
 refine zQ rfl rfl (yY rfl (fun v44 hn44 => ?_))
 refine zK rfl (zF ?_)
 simp only [jW, jV, jU, jT]
 obtain ⟨LL, hk9x, hn9x, hm9x, B4⟩ := ub5 hR2 LL hk9x hn9x hm9x B4
 obtain ⟨a44, d44, rfl, hn44x, hm44x⟩ := hn44
 refine yC rfl rfl yL B4 rfl rfl (yK (yK (yK jI))) rfl (fun w10 Cw10 B4 => ?_)
 obtain ⟨LL, hk9x, hn9x, hm9x, hn44x, hm44x⟩ := up6 (lc LL Cw10 zO nF4) LL hk9x hn9x hm9x hn44x hm44x
 refine zC rfl rfl (zD (zR ?_))
 refine xC ⟨[_, _], ⟨⟨_, rfl, yT yQ yL B4 rfl rfl⟩, rfl, trivial⟩, ?_⟩
 dsimp only [xJ]
 subst hFz
 exact ⟨LL.b, _, _, rfl, hn44x.less (fun k c => zM (zM (zM c))), hm44x.less (fun k c => zM (zM (zM c)))⟩
theorem rquo_q {n m : Nat} {p q : Rat} {s t : Bool} {a d b e : Value} (hT : Tab M w) (h1 : QC M w n p s a d) (h2 : QC M w m q t b e) (hn : n ≤ 90000) (hm : m ≤ 90000) (hM : OkM M w) : CallsV prog 94 [.agg #[.bool s, a, d], .agg #[.bool t, b, e]] w fun r w' => Bel w.heap.size w w' ∧ ∃ s2 a2 d2, r = .tuple #[.agg #[.bool s2, a2, d2], .int .i64 (if q = 0 then 30 else 0)] ∧ RC M w' (n + m + 3) (p / q) s2 a2 d2 := by
  have hl : jZ (p / q) (n + m + 3) := jC (rlen_quo h1.rlen h2.rlen) (by omega)
  obtain ⟨xs, ds, i1, i2, i3, i4, rfl⟩ := h1.ex
  obtain ⟨ys, es, j1, j2, j3, j4, rfl⟩ := h2.ex
  exact (rquo_r hT i1 i2 j1 j2 (by omega) (by omega) (by omega) (by omega) hM).mono fun r w' ⟨hB, x, y, e, k1, k2⟩ => ⟨hB, _, _, _, e, rfl, k1, k2, hl⟩
structure ZQ (M : Nat → Prop) (w : World) (n : Nat) (q : Int) (s : Bool) (a : Value) : Prop where
  ex : ∃ xs, IsNat M w a xs ∧ xs.length ≤ n ∧ zv s xs = q
section
variable {Fz M M' T S : Nat → Prop} {w w' w0 : World} {n m k : Nat} {q : Int} {s : Bool} {a : Value}
theorem ZQ.mono (h : ZQ M w n q s a) (l : Le Fz M w M' w') : ZQ M' w' n q s a := by obtain ⟨xs, h1, h2⟩ := h.ex; exact ⟨xs, h1.mono l, h2⟩
theorem ZQ.less (h : ZQ M w n q s a) (hm : ∀ k, M' k → M k) : ZQ M' w n q s a := h.mono (Fz := fun _ => False) (Le.less hm)
theorem ZQ.up (h : ZQ M w n q s a) (hm : n ≤ m) : ZQ M w m q s a := by obtain ⟨xs, h1, h2, h3⟩ := h.ex; exact ⟨xs, h1, by omega, h3⟩
theorem ZQ.one (h : ZQ M w n q s a) : a.oneCell' = true ∧ True := by obtain ⟨xs, h1, _⟩ := h.ex; exact ⟨yM h1, trivial⟩
end
structure ZC (M : Nat → Prop) (w : World) (n : Nat) (q : Int) (s : Bool) (a : Value) : Prop where
  sgn : s = decide (q < 0)
  num : IsNat M w a (limbs (q.natAbs))
  len : (limbs (q.natAbs)).length ≤ n
section
variable {Fz M M' T S : Nat → Prop} {w w' w0 : World} {n m k : Nat} {q : Int} {s : Bool} {a : Value}
theorem ZC.mono (h : ZC M w n q s a) (l : Le Fz M w M' w') : ZC M' w' n q s a := ⟨h.sgn, h.num.mono l, h.len⟩
theorem ZC.less (h : ZC M w n q s a) (hm : ∀ k, M' k → M k) : ZC M' w n q s a := h.mono (Fz := fun _ => False) (Le.less hm)
theorem ZC.up (h : ZC M w n q s a) (hm : n ≤ m) : ZC M w m q s a := ⟨h.sgn, h.num, Nat.le_trans h.len hm⟩
theorem ZC.one (h : ZC M w n q s a) : a.oneCell' = true ∧ True := ⟨yM h.num, trivial⟩
theorem ZC.gen (h : ZC M w n q s a) : ZQ M w n q s a := ⟨_, h.num, h.len, by rw [h.sgn]; exact gC q⟩
end
structure NQ (M : Nat → Prop) (w : World) (n : Nat) (q : Nat) (a : Value) : Prop where
  ex : ∃ xs, IsNat M w a xs ∧ xs.length ≤ n ∧ val xs = q
section
variable {Fz M M' T S : Nat → Prop} {w w' w0 : World} {n m k : Nat} {q : Nat}  {a : Value}
theorem NQ.mono (h : NQ M w n q a) (l : Le Fz M w M' w') : NQ M' w' n q a := by obtain ⟨xs, h1, h2⟩ := h.ex; exact ⟨xs, h1.mono l, h2⟩
theorem NQ.one (h : NQ M w n q a) : a.oneCell' = true ∧ True := by obtain ⟨xs, h1, _⟩ := h.ex; exact ⟨yM h1, trivial⟩
end
structure NC (M : Nat → Prop) (w : World) (n : Nat) (q : Nat) (a : Value) : Prop where
  num : IsNat M w a (limbs (q))
  len : (limbs (q)).length ≤ n
section
variable {Fz M M' T S : Nat → Prop} {w w' w0 : World} {n m k : Nat} {q : Nat}  {a : Value}
theorem NC.mono (h : NC M w n q a) (l : Le Fz M w M' w') : NC M' w' n q a := ⟨h.num.mono l, h.len⟩
theorem NC.one (h : NC M w n q a) : a.oneCell' = true ∧ True := ⟨yM h.num, trivial⟩
theorem NC.gen (h : NC M w n q a) : NQ M w n q a := ⟨_, h.num, h.len, zT q⟩
end
theorem RC.z {n : Nat} {q : Rat} {s : Bool} {a d : Value} (h : RC M w n q s a d) : ZC M w n q.num s a := ⟨h.sgn, h.num, h.len.1⟩
theorem RC.d {n : Nat} {q : Rat} {s : Bool} {a d : Value} (h : RC M w n q s a d) : NC M w n q.den d := ⟨h.den, h.len.2⟩
structure PQ (M : Nat → Prop) (w : World) (n : Nat) (q : P2) (s : Bool) (a : Value) (d : Value) (t : Bool) (b : Value) (e : Value) : Prop where
  x : QC M w n q.1 s a d
  y : QC M w n q.2 t b e
section
variable {Fz M M' T S : Nat → Prop} {w w' w0 : World} {n m k : Nat} {q : P2} {p r : Rat} {s : Bool} {t : Bool} {a d b e : Value}
theorem PQ.mono (h : PQ M w n q s a d t b e) (l : Le Fz M w M' w') : PQ M' w' n q s a d t b e := ⟨h.x.mono l, h.y.mono l⟩
theorem PQ.up (h : PQ M w n q s a d t b e) (hm : n ≤ m) : PQ M w m q s a d t b e := ⟨h.x.up hm, h.y.up hm⟩
theorem PQ.one (h : PQ M w n q s a d t b e) : a.oneCell' = true ∧ d.oneCell' = true ∧ b.oneCell' = true ∧ e.oneCell' = true ∧ True := ⟨h.x.one.1, h.x.one.2.1, h.y.one⟩
theorem PQ.mk2 (h1 : QC M w n p s a d) (h2 : QC M w m r t b e) : PQ M w (max n m) (p, r) s a d t b e := ⟨h1.up (by omega), h2.up (by omega)⟩
end
structure PC (M : Nat → Prop) (w : World) (n : Nat) (q : P2) (s : Bool) (a : Value) (d : Value) (t : Bool) (b : Value) (e : Value) : Prop where
  x : RC M w n q.1 s a d
  y : RC M w n q.2 t b e
section
variable {Fz M M' T S : Nat → Prop} {w w' w0 : World} {n m k : Nat} {q : P2} {p r : Rat} {s : Bool} {t : Bool} {a d b e : Value}
theorem PC.mono (h : PC M w n q s a d t b e) (l : Le Fz M w M' w') : PC M' w' n q s a d t b e := ⟨h.x.mono l, h.y.mono l⟩
theorem PC.drift (h : PC M w n q s a d t b e) (x : Drift T k w w') (ht : ∀ k, T k → M k) : PC M w' n q s a d t b e := ⟨h.x.drift x ht, h.y.drift x ht⟩
theorem PC.less (h : PC M w n q s a d t b e) (hm : ∀ k, M' k → M k) : PC M' w n q s a d t b e := ⟨h.x.less hm, h.y.less hm⟩
theorem PC.up (h : PC M w n q s a d t b e) (hm : n ≤ m) : PC M w m q s a d t b e := ⟨h.x.up hm, h.y.up hm⟩
theorem PC.one (h : PC M w n q s a d t b e) : a.oneCell' = true ∧ d.oneCell' = true ∧ b.oneCell' = true ∧ e.oneCell' = true ∧ True := ⟨h.x.one.1, h.x.one.2.1, h.y.one⟩
theorem PC.mk2 (h1 : RC M w n p s a d) (h2 : RC M w m r t b e) : PC M w (max n m) (p, r) s a d t b e := ⟨h1.up (by omega), h2.up (by omega)⟩
theorem PC.gen (h : PC M w n q s a d t b e) : PQ M w n q s a d t b e := ⟨h.x.gen, h.y.gen⟩
end
end
end Go.Proofs.YtfkejnlohkgbgaaGreatDoor
namespace Go.Proofs.YtfkejnlohkgbgaaGreatDoor
open Go Go.SL Go.RowKit Tryz
section
variable {Fz M M' : Nat → Prop} {w w' : World}
instance {n : Nat} {q : Int} {s : Bool} {a : Value} : Up Fz M M' w w' (ZQ M w n q s a) (ZQ M' w' n q s a) := ⟨fun l h => h.mono l⟩
instance {n : Nat} {q : Int} {s : Bool} {a : Value} : UpB w w' (ZQ M w n q s a) (ZQ M w' n q s a) := ⟨fun l h => h.mono (lb l)⟩
instance {n : Nat} {q : Int} {s : Bool} {a : Value} : Up Fz M M' w w' (ZC M w n q s a) (ZC M' w' n q s a) := ⟨fun l h => h.mono l⟩
instance {n : Nat} {q : Int} {s : Bool} {a : Value} : UpB w w' (ZC M w n q s a) (ZC M w' n q s a) := ⟨fun l h => h.mono (lb l)⟩
instance {n : Nat} {q : Nat} {a : Value} : Up Fz M M' w w' (NQ M w n q a) (NQ M' w' n q a) := ⟨fun l h => h.mono l⟩
instance {n : Nat} {q : Nat} {a : Value} : UpB w w' (NQ M w n q a) (NQ M w' n q a) := ⟨fun l h => h.mono (lb l)⟩
instance {n : Nat} {q : Nat} {a : Value} : Up Fz M M' w w' (NC M w n q a) (NC M' w' n q a) := ⟨fun l h => h.mono l⟩
instance {n : Nat} {q : Nat} {a : Value} : UpB w w' (NC M w n q a) (NC M w' n q a) := ⟨fun l h => h.mono (lb l)⟩
instance {n : Nat} {q : P2} {s t : Bool} {a d b e : Value} : Up Fz M M' w w' (PQ M w n q s a d t b e) (PQ M' w' n q s a d t b e) := ⟨fun l h => h.mono l⟩
instance {n : Nat} {q : P2} {s t : Bool} {a d b e : Value} : UpB w w' (PQ M w n q s a d t b e) (PQ M w' n q s a d t b e) := ⟨fun l h => h.mono (lb l)⟩
instance {n : Nat} {q : P2} {s t : Bool} {a d b e : Value} : Up Fz M M' w w' (PC M w n q s a d t b e) (PC M' w' n q s a d t b e) := ⟨fun l h => h.mono l⟩
instance {n : Nat} {q : P2} {s t : Bool} {a d b e : Value} : UpB w w' (PC M w n q s a d t b e) (PC M w' n q s a d t b e) := ⟨fun l h => h.mono (lb l)⟩
abbrev rPC (M : Nat → Prop) (n : Nat) (q : P2) : VP := fun v w => ∃ b o s a d t x e, v = .pointer (some ⟨b, o, none⟩) ∧ (∀ (i : Nat) (u : Value), [.bool s, a, d, .bool t, x, e][i]? = some u → w.cell? ⟨b, o + i, none⟩ = some u) ∧ PC M w n q s a d t x e
abbrev rPCko (k : Nat) (M : Nat → Prop) (n : Nat) (q : P2) : VP := fun v w => ∃ b o s a d t x e, v = .pointer (some ⟨b, o + k, none⟩) ∧ (∀ (i : Nat) (u : Value), [.bool s, a, d, .bool t, x, e][i]? = some u → w.cell? ⟨b, o + i, none⟩ = some u) ∧ PC M w n q s a d t x e
abbrev rZQ (M : Nat → Prop) (n : Nat) (q : Int) : VP := fun v w => ∃ b o s a, v = .pointer (some ⟨b, o, none⟩) ∧ (∀ (i : Nat) (u : Value), [.bool s, a][i]? = some u → w.cell? ⟨b, o + i, none⟩ = some u) ∧ ZQ M w n q s a
abbrev rZQko (k : Nat) (M : Nat → Prop) (n : Nat) (q : Int) : VP := fun v w => ∃ b o s a, v = .pointer (some ⟨b, o + k, none⟩) ∧ (∀ (i : Nat) (u : Value), [.bool s, a][i]? = some u → w.cell? ⟨b, o + i, none⟩ = some u) ∧ ZQ M w n q s a
abbrev vPC (M : Nat → Prop) (n : Nat) (q : P2) : VP := fun v w => ∃ s a d t b e, v = .agg #[.bool s, a, d, .bool t, b, e] ∧ PC M w n q s a d t b e
theorem vPC_m {M : Nat → Prop} {n : Nat} {q : P2} : ∀ v (w w' : World), vPC M n q v w → Rb w w' → vPC M n q v w' := fun _ _ _ ⟨s, a, d, t, b, e, hq, h0⟩ r => ⟨s, a, d, t, b, e, hq, h0.mono (Fz := fun _ => False) (Le.of_below r)⟩
abbrev vPQ (M : Nat → Prop) (n : Nat) (q : P2) : VP := fun v w => ∃ s a d t b e, v = .agg #[.bool s, a, d, .bool t, b, e] ∧ PQ M w n q s a d t b e
theorem vPQ_m {M : Nat → Prop} {n : Nat} {q : P2} : ∀ v (w w' : World), vPQ M n q v w → Rb w w' → vPQ M n q v w' := fun _ _ _ ⟨s, a, d, t, b, e, hq, h0⟩ r => ⟨s, a, d, t, b, e, hq, h0.mono (Fz := fun _ => False) (Le.of_below r)⟩
abbrev vZC (M : Nat → Prop) (n : Nat) (q : Int) : VP := fun v w => ∃ s a, v = .agg #[.bool s, a] ∧ ZC M w n q s a
theorem vZC_m {M : Nat → Prop} {n : Nat} {q : Int} : ∀ v (w w' : World), vZC M n q v w → Rb w w' → vZC M n q v w' := fun _ _ _ ⟨s, a, hq, h0⟩ r => ⟨s, a, hq, h0.mono (Fz := fun _ => False) (Le.of_below r)⟩
abbrev vZQ (M : Nat → Prop) (n : Nat) (q : Int) : VP := fun v w => ∃ s a, v = .agg #[.bool s, a] ∧ ZQ M w n q s a
theorem vZQ_m {M : Nat → Prop} {n : Nat} {q : Int} : ∀ v (w w' : World), vZQ M n q v w → Rb w w' → vZQ M n q v w' := fun _ _ _ ⟨s, a, hq, h0⟩ r => ⟨s, a, hq, h0.mono (Fz := fun _ => False) (Le.of_below r)⟩
end
end Go.Proofs.YtfkejnlohkgbgaaGreatDoor
namespace Go.SL
open Go.RowKit
variable {G : Type}
section draw
variable {P : Program} {r : Option Nat} {N : Nat} {ops : Array Oper} {D : List Deferred} {E : Env} {x0 : World × G} {R : World × G → World × G → Prop} {R' : Nat → World × G → World × G → Prop} {Pr : Nat → World × G → Prop} {st : Option (Nat × (World × G → Prop) × (World × G → Prop))}
variable {F : List (Nat × VPS G) → Prop} {rest : List Oper} {i : Nat} {Γ : List (Nat × VPS G)}
theorem drsS_nil (h : F Γ) : dU P r N ops D E x0 R R' Pr st F [] i Γ := h
theorem drsS_vals {k : Nat} {pre post : World × G → Prop} {d : Nat} {op : Op} {t : TypeId} {pos : String} {af : Array Edge} {g : Option (Nat × Bool)} (hi : Nat.beq i k = false) (Ψ : VPS G) (hm : ∀ v w w', Ψ v w → R w w' → Ψ v w')
  (ho : ∀ w, R x0 w → lS (some (k, pre, post)) (aL ops.toList) i w → Pr i w → kS Γ E w (fun F => Ops P r N ops (fun D' E' w' => D' = D ∧ ∃ g', R' i w (w', g') ∧ ∃ v, get E' d = some v ∧ Ψ v (w', g')) [⟨some d, op, t, pos, af, g⟩] D F w.1) (xP ops ⟨some d, op, t, pos, af, g⟩) [])
  (h : dU P r N ops D E x0 R R' Pr (some (k, pre, post)) F rest (i + 1) ((d, Ψ) :: Γ)) : dU P r N ops D E x0 R R' Pr (some (k, pre, post)) F (⟨some d, op, t, pos, af, g⟩ :: rest) i Γ :=
 ⟨Ψ, ⟨hm, .inl ⟨fun k' _ _ h => (by cases h; exact Nat.ne_of_beq_eq_false hi), ho⟩⟩, h⟩
theorem drsS_chg {pre post : World × G → Prop} {d : Nat} {op : Op} {t : TypeId} {pos : String} {af : Array Edge} {g : Option (Nat × Bool)} (hs : st = some (i, pre, post)) (Ψ : VPS G) (hm : ∀ v w w', Ψ v w → R w w' → Ψ v w')
  (ho : ∀ w, R x0 w → pre w → kS Γ E w (fun F => Ops P r N ops (fun D' E' w' => D' = D ∧ ∃ g', R' i w (w', g') ∧ post (w', g') ∧ ∃ v, get E' d = some v ∧ Ψ v (w', g')) [⟨some d, op, t, pos, af, g⟩] D F w.1) (xP ops ⟨some d, op, t, pos, af, g⟩) [])
  (h : dU P r N ops D E x0 R R' Pr st F rest (i + 1) ((d, Ψ) :: Γ)) : dU P r N ops D E x0 R R' Pr st F (⟨some d, op, t, pos, af, g⟩ :: rest) i Γ :=
 ⟨Ψ, ⟨hm, .inr ⟨pre, post, hs, ho⟩⟩, h⟩
theorem drsS_eff {op : Op} {t : TypeId} {pos : String} {af : Array Edge} {g : Option (Nat × Bool)} {pre post : World × G → Prop} (hs : st = some (i, pre, post))
  (ho : ∀ w, R x0 w → pre w → kS Γ E w (fun F => Ops P r N ops (fun D' E' w' => D' = D ∧ ∃ g', R' i w (w', g') ∧ post (w', g')) [⟨none, op, t, pos, af, g⟩] D F w.1) (xP ops ⟨none, op, t, pos, af, g⟩) [])
  (h : dU P r N ops D E x0 R R' Pr st F rest (i + 1) Γ) : dU P r N ops D E x0 R R' Pr st F (⟨none, op, t, pos, af, g⟩ :: rest) i Γ :=
 ⟨fun _ _ => True, ⟨pre, post, hs, ho⟩, h⟩
theorem aK {k : Nat} {pre post : World × G → Prop} {u : Value} {d : Nat} {op : Op} {t : TypeId} {pos : String} {af : Array Edge} {g : Option (Nat × Bool)} (hi : Nat.beq i k = false)
  (ho : ∀ w, R x0 w → lS (some (k, pre, post)) (aL ops.toList) i w → Pr i w → kS Γ E w (fun F => Ops P r N ops (fun D' E' w' => D' = D ∧ ∃ g', R' i w (w', g') ∧ ∃ v, get E' d = some v ∧ v = u) [⟨some d, op, t, pos, af, g⟩] D F w.1) (xP ops ⟨some d, op, t, pos, af, g⟩) [])
  (h : dU P r N ops D E x0 R R' Pr (some (k, pre, post)) F rest (i + 1) ((d, ExS u) :: Γ)) : dU P r N ops D E x0 R R' Pr (some (k, pre, post)) F (⟨some d, op, t, pos, af, g⟩ :: rest) i Γ :=
 drsS_vals hi (ExS u) (fun _ _ _ h _ => h) ho h
theorem gW {w : World × G} {body : Env → Prop} {F : Env} (h : body F) : kS Γ E w body [] F := h
theorem cX {w : World × G} {body : Env → Prop} {F : Env} {s k : Nat} {ss : List Nat} {u : Value} (hf : Γ.find? (fun p => Nat.beq p.1 s) = some (k, ExS u)) (h : kS Γ E w body ss ((s, u) :: F)) : kS Γ E w body (s :: ss) F := by
 unfold kS; rw [hf]; rintro v rfl; exact h
theorem oblS_g {w : World × G} {body : Env → Prop} {F : Env} {s k : Nat} {ss : List Nat} {Ψ : VPS G} (hf : Γ.find? (fun p => Nat.beq p.1 s) = some (k, Ψ)) (h : ∀ v, Ψ v w → kS Γ E w body ss ((s, v) :: F)) : kS Γ E w body (s :: ss) F := by
 unfold kS; rw [hf]; exact h
theorem iG {w : World × G} {body : Env → Prop} {F : Env} {s : Nat} {ss : List Nat} {u : Value} (hf : Γ.find? (fun p => Nat.beq p.1 s) = none) (hg : get E s = some u) (h : kS Γ E w body ss ((s, u) :: F)) : kS Γ E w body (s :: ss) F := by
 unfold kS; rw [hf]; simp only; rw [hg]; exact h
end draw
abbrev Gb := Nat → Option Nat
def g0 : Gb := fun _ => none
def iJ (g : Gb) (i b : Nat) : Gb := fun j => if j = i then some b else g j
def Mg (M : Nat → Prop) (g : Gb) : Nat → Prop := fun k => (∃ i, g i = some k) ∨ M k
def GOk (x : World × Gb) : Prop := (∀ i b, x.2 i = some b → b < x.1.heap.size) ∧ ∀ i j b, x.2 i = some b → x.2 j = some b → i = j
structure Rg (ka : Nat) (x y : World × Gb) : Prop where
 os : y.1.os = x.1.os
 tape : Tp x.1 y.1
 output : y.1.output = x.1.output
 size : x.1.heap.size ≤ y.1.heap.size
 keep : ∀ k, k < x.1.heap.size → x.2 ka ≠ some k → y.1.heap[k]? = x.1.heap[k]?
 gst : ∀ i, y.2 i = x.2 i ∨ (x.2 i = none ∧ ∃ b, y.2 i = some b ∧ x.1.heap.size ≤ b ∧ b < y.1.heap.size)
 ok : GOk x → GOk y
def Rh (az : List (Nat × Value × TypeId)) (ka k : Nat) (i : Nat) (x y : World × Gb) : Prop :=
 match az.find? (fun p => Nat.beq p.1 i) with
 | some p => x.2 i = none ∧ ∃ b, y.2 = iJ x.2 i b ∧ New x.1 y.1 b (.cells p.2.1.cells p.2.2)
 | none => if i = k then Rg ka x y ∧ y.2 = x.2 else Bel x.1.heap.size x.1 y.1 ∧ y.2 = x.2
def PrA (i : Nat) (x : World × Gb) : Prop := x.2 i = none
theorem rg_trans {ka : Nat} : ∀ a b c, Rg ka a b → Rg ka b c → Rg ka a c := fun a b c h k =>
 ⟨k.os.trans h.os, k.tape.trans h.tape, k.output.trans h.output, Nat.le_trans h.size k.size, fun i hi hg => by
  have hb : b.2 ka ≠ some i := by
   rcases h.gst ka with e | ⟨_, q, e, h1, _⟩
   ·rw [e]; exact hg
   ·rw [e]; intro c; injection c with c; omega
  exact (k.keep i (Nat.lt_of_lt_of_le hi h.size) hb).trans (h.keep i hi hg), fun i => by
  rcases h.gst i with e | ⟨e0, q, e, h1, h2⟩
  ·rcases k.gst i with f | ⟨f0, q, f, k1, k2⟩
   ·exact .inl (f.trans e)
   ·exact .inr ⟨by rw [← e]; exact f0, q, f, Nat.le_trans h.size k1, k2⟩
  ·rcases k.gst i with f | ⟨f0, q', f, k1, k2⟩
   ·exact .inr ⟨e0, q, f.trans e, h1, Nat.lt_of_lt_of_le h2 k.size⟩
   ·rw [e] at f0; exact absurd f0 (by simp), fun h0 => k.ok (h.ok h0)⟩
theorem rg_below {ka : Nat} {x y : World × Gb} (h : Bel x.1.heap.size x.1 y.1) (e : y.2 = x.2) : Rg ka x y :=
 ⟨h.os, h.tape, h.output, h.size, fun k hk _ => h.block k hk, fun i => .inl (by rw [e]), fun o => by unfold GOk; rw [e]; exact ⟨fun i b hb => Nat.lt_of_lt_of_le (o.1 i b hb) h.size, o.2⟩⟩
theorem rg_new {ka i b : Nat} {x y : World × Gb} {o : Obj} (h0 : x.2 i = none) (e : y.2 = iJ x.2 i b) (n : New x.1 y.1 b o) : Rg ka x y :=
 have h := n.below
 have hb : b < y.1.heap.size := (Array.getElem?_eq_some_iff.1 n.obj).1
 ⟨h.os, h.tape, h.output, h.size, fun k hk _ => h.block k hk, fun j => by
  rw [e]; unfold iJ
  by_cases c : j = i
  ·subst c; exact .inr ⟨h0, b, by simp, by rw [n.at_]; exact Nat.le_refl _, hb⟩
  ·exact .inl (by simp [c]), fun o => by
  unfold GOk; rw [e]; unfold iJ
  refine ⟨fun j q hq => ?_, fun j l q hj hl => ?_⟩
  ·by_cases c : j = i
   ·simp only [c, if_true] at hq; injection hq with hq; rw [← hq]; exact hb
   ·simp only [c, if_false] at hq; exact Nat.lt_of_lt_of_le (o.1 j q hq) h.size
  ·by_cases c : j = i <;> by_cases d : l = i
   ·rw [c, d]
   ·simp only [c, if_true] at hj; simp only [d, if_false] at hl; injection hj with hj; have := o.1 l q hl; have := n.at_; omega
   ·simp only [c, if_false] at hj; simp only [d, if_true] at hl; injection hl with hl; have := o.1 j q hj; have := n.at_; omega
   ·simp only [c, if_false] at hj; simp only [d, if_false] at hl; exact o.2 j l q hj hl⟩
theorem rh_rg {az : List (Nat × Value × TypeId)} {ka k : Nat} : ∀ i x y, Rh az ka k i x y → Rg ka x y := fun i x y h => by
 unfold Rh at h
 split at h
 ·obtain ⟨e0, q, e, n⟩ := h; exact rg_new e0 e n
 ·split at h
  ·exact h.1
  ·exact rg_below h.1 h.2
theorem prA0 {w : World} : ∀ i, PrA i (w, g0) := fun _ => rfl
theorem prA_mono {az : List (Nat × Value × TypeId)} {ka k : Nat} : ∀ i j x y, i ≠ j → PrA i x → Rh az ka k j x y → PrA i y := fun i j x y hij hp h => by
 unfold PrA Rh at *
 split at h
 ·obtain ⟨_, q, e, _⟩ := h; rw [e]; unfold iJ; rw [if_neg hij]; exact hp
 ·split at h
  ·rw [h.2]; exact hp
  ·rw [h.2]; exact hp
theorem rg_drew {ka : Nat} (w : World) : Rg ka (w, g0) ({ w with drawn := w.drawn + 1 }, g0) := ⟨rfl, ⟨rfl, by first | exact Nat.le_refl _ | exact Nat.le_succ _⟩, rfl, Nat.le_refl _, fun _ _ _ => rfl, fun _ => .inl rfl, fun _ => ⟨fun _ _ h => (by cases h), fun _ _ _ h => (by cases h)⟩⟩
theorem Rg.le {ka : Nat} {M : Nat → Prop} {x y : World × Gb} (h : Rg ka x y) : Le (fun _ => False) (Mg M x.2) x.1 (Mg M y.2) y.1 :=
 ⟨h.os, h.tape, h.output, h.size, fun _ _ c => c.elim, fun k hk hm => h.keep k hk (fun e => hm (.inl ⟨ka, e⟩)), fun k hk => by
  rcases hk with ⟨i, hk⟩ | hk
  ·rcases h.gst i with e | ⟨e0, q, e, h1, _⟩
   ·rw [e] at hk; exact .inl (.inl ⟨i, hk⟩)
   ·rw [e] at hk; injection hk with hk; subst hk; exact .inr h1
  ·exact .inl (.inr hk), fun ho k hk => by
  rcases hk with ⟨i, hk⟩ | hk
  ·rcases h.gst i with e | ⟨e0, q, e, h1, h2⟩
   ·rw [e] at hk; exact Nat.lt_of_lt_of_le (ho k (.inl ⟨i, hk⟩)) h.size
   ·rw [e] at hk; injection hk with hk; subst hk; exact h2
  ·exact Nat.lt_of_lt_of_le (ho k (.inr hk)) h.size⟩
theorem Rg.le0 {ka : Nat} {Fz M : Nat → Prop} {w : World} {y : World × Gb} (h : Rg ka (w, g0) y) : Le Fz M w (Mg M y.2) y.1 := by
 have l := h.le (M := M)
 refine ⟨l.os, l.tape, l.output, l.size, fun k hk _ => h.keep k hk (by simp [g0]), fun k hk _ => h.keep k hk (by simp [g0]), fun k hk => (l.chg k hk).imp (fun c => ?_) id, fun ho => l.ok fun k hk => ho k ?_⟩
 ·rcases c with ⟨i, c⟩ | c
  ·cases c
  ·exact c
 ·rcases hk with ⟨i, c⟩ | c
  ·cases c
  ·exact c
theorem Rg.ge {ka i b : Nat} {w : World} {y : World × Gb} (h : Rg ka (w, g0) y) (hb : y.2 i = some b) : w.heap.size ≤ b := by
 rcases h.gst i with e | ⟨_, q, e, h1, _⟩
 ·rw [e] at hb; cases hb
 ·rw [e] at hb; injection hb with hb; subst hb; exact h1
theorem Blk.rg {ka : Nat} {w : World} {y : World × Gb} {b : Nat} {t : TypeId} {cs : List Value} (h : Blk w b t cs) (r : Rg ka (w, g0) y) : Blk y.1 b t cs := (r.keep b h.lt (by simp [g0])).trans h
theorem rh_of {az : List (Nat × Value × TypeId)} {ka k i : Nat} {w w' : World} {g : Gb} (ha : az.find? (fun p => Nat.beq p.1 i) = none) (hk : Nat.beq i k = false) (h : Bel w.heap.size w w') : Rh az ka k i (w, g) (w', g) := by
 unfold Rh; rw [ha]; show (if i = k then _ else _); rw [if_neg (Nat.ne_of_beq_eq_false hk)]; exact ⟨h, rfl⟩
theorem rh_new {az : List (Nat × Value × TypeId)} {ka k i j : Nat} {z : Value} {t : TypeId} {w w' : World} {g : Gb} {b : Nat} (ha : az.find? (fun p => Nat.beq p.1 i) = some (j, z, t)) (h0 : PrA i (w, g)) (h : New w w' b (.cells z.cells t)) : Rh az ka k i (w, g) (w', iJ g i b) := by
 unfold Rh; rw [ha]; exact ⟨h0, b, rfl, h⟩
def Pb (i : Nat) : VPS Gb := fun v x => ∃ b, v = .pointer (some ⟨b, 0, none⟩) ∧ x.2 i = some b
theorem pb_mono {ka i : Nat} : ∀ v x y, Pb i v x → Rg ka x y → Pb i v y := fun v x y ⟨b, h1, h2⟩ r => ⟨b, h1, by
 rcases r.gst i with e | ⟨e0, _⟩
 ·rw [e]; exact h2
 ·rw [h2] at e0; cases e0⟩
theorem pb_new {g : Gb} {i b : Nat} {w : World} : Pb i (.pointer (some ⟨b, 0, none⟩)) (w, iJ g i b) := ⟨b, rfl, by simp [iJ]⟩
def PreB (ka : Nat) (z : Value) (t : TypeId) : World × Gb → Prop := fun x => ∀ b, x.2 ka = some b → Blk x.1 b t z.cells.toList
def PostB (ka : Nat) (Q : Nat → World × Gb → Prop) : World × Gb → Prop := fun x => ∃ b, x.2 ka = some b ∧ Q b x
theorem preB0 {ka : Nat} {z : Value} {t : TypeId} {w : World} : PreB ka z t (w, g0) := fun _ h => by cases h
theorem preB_mono {az : List (Nat × Value × TypeId)} {ka k j : Nat} {z : Value} {t : TypeId} (ha : az.find? (fun p => Nat.beq p.1 ka) = some (j, z, t)) : ∀ i x y, i ≠ k → PreB ka z t x → Rh az ka k i x y → PreB ka z t y := fun i x y hik h r b hb => by
 unfold Rh at r
 split at r
 ·rename_i p hp
  obtain ⟨e0, q, e, n⟩ := r
  by_cases c : ka = i
  ·subst c
   rw [ha] at hp; obtain rfl := Option.some.inj hp
   rw [e] at hb; simp only [iJ, if_true] at hb; injection hb with hb; subst hb; exact n.blk
  ·rw [e] at hb; simp only [iJ, if_neg c] at hb
   exact (h b hb).below n.below
 ·rw [if_neg hik] at r
  exact (h b (by rw [← r.2]; exact hb)).below r.1
theorem postB_mono {az : List (Nat × Value × TypeId)} {ka k : Nat} {Q : Nat → World × Gb → Prop} (hQ : ∀ b x y, x.2 ka = some b → Q b x → Bel x.1.heap.size x.1 y.1 → Rg ka x y → Q b y) : ∀ i x y, i ≠ k → PostB ka Q x → Rh az ka k i x y → PostB ka Q y := fun i x y hik ⟨b, h1, h2⟩ r0 => by
 have rg := rh_rg i x y r0
 have r := r0
 have hb : y.2 ka = some b := by
  rcases rg.gst ka with e | ⟨e0, _⟩
  ·rw [e]; exact h1
  ·rw [h1] at e0; cases e0
 unfold Rh at r
 split at r
 ·obtain ⟨e0, q, e, n⟩ := r
  exact ⟨b, hb, hQ _ _ _ h1 h2 n.below rg⟩
 ·rw [if_neg hik] at r
  exact ⟨b, hb, hQ _ _ _ h1 h2 r.1 rg⟩
theorem rh_chg {az : List (Nat × Value × TypeId)} {ka k : Nat} {w w' : World} {g : Gb} {b : Nat} (ha : az.find? (fun p => Nat.beq p.1 k) = none) (hb : g ka = some b) (h : Chg w w' b) : Rh az ka k k (w, g) (w', g) := by
 unfold Rh; rw [ha]; show (if k = k then _ else _); rw [if_pos rfl]
 refine ⟨⟨h.os, h.tape, h.output, by show w.heap.size ≤ w'.heap.size; rw [h.size]; exact Nat.le_refl _, fun k hk hne => h.other k (fun e => hne (by rw [e]; exact hb)), fun _ => .inl rfl, fun o => ?_⟩, rfl⟩
 unfold GOk at *; show (∀ i b, g i = some b → b < w'.heap.size) ∧ _
 rw [h.size]; exact o
theorem Mg.ins {M : Nat → Prop} {g : Gb} {i b : Nat} (h : g i = some b) : ∀ k, Ins b (Mg M g) k → Mg M g k := fun k hk => by
 rcases hk with rfl | hk
 ·exact .inl ⟨i, h⟩
 ·exact hk
theorem Mg.base {M : Nat → Prop} {g : Gb} : ∀ k, M k → Mg M g k := fun k hk => .inr hk
theorem ins_sub {M M' : Nat → Prop} {b : Nat} (hb : M' b) (h : ∀ k, M k → M' k) : ∀ k, Ins b M k → M' k := fun k hk => by
 rcases hk with rfl | hk
 ·exact hb
 ·exact h k hk
end Go.SL
namespace Go.SL
open Go.RowKit
section flds
variable {P : Program} {r : Option Nat} {N : Nat} {all : Array Oper} {K : Pd} {D : List Deferred} {E : Env} {w : World} {rest : List Oper}
theorem ops_fielda {d : Nat} {x : Operand} {s t' : TypeId} {pos : String} {af : Array Edge} {f : Nat} {fields : Array Field} {fd : Field} {us vs : List Value} {sz bytes : Nat} {z : Value} (hd : Nat.blt d N = true)
  (hs : P.underlying s = some (.struct fields)) (hf : fields[f]? = some fd) (hz : Sz P fd.type sz bytes z) (ha : fB P fd.type) (hx : ev E x = some (.agg us.toArray)) (hl : Nat.ble (fd.offset + sz) us.length = true) (hv : (us.drop fd.offset).take sz = vs)
  (h : Ops P r N all K rest D ((d, .agg vs.toArray) :: E) w) : Ops P r N all K (⟨some d, .field s x f, t', pos, af, none⟩ :: rest) D E w := by
 have hl' : fd.offset + sz ≤ us.length := by simpa [Nat.ble_eq] using hl
 refine ops_fields hd hs hf hz hx hv (by rw [← hv]; simp; omega) ?_ h
 have e1 := ha w
 subst hv
 simp [Instr.field, run_underlying hs, hf, part, Result.andThen, asAgg, qT hz, e1, hl']
 all_goals (try omega)
theorem ops_fieldc {d : Nat} {x : Operand} {s t' : TypeId} {pos : String} {af : Array Edge} {f : Nat} {fields : Array Field} {fd : Field} {us : List Value} {v : Value} {bytes : Nat} {z : Value} (hd : Nat.blt d N = true)
  (hs : P.underlying s = some (.struct fields)) (hf : fields[f]? = some fd) (hz : Sz P fd.type 1 bytes z) (ha : bN P fd.type) (hx : ev E x = some (.agg us.toArray)) (hv : us[fd.offset]? = some v)
  (h : Ops P r N all K rest D ((d, v) :: E) w) : Ops P r N all K (⟨some d, .field s x f, t', pos, af, none⟩ :: rest) D E w := by
 have hlt := (List.getElem?_eq_some_iff.1 hv).1
 refine ops_fields hd hs hf hz hx rfl (by simp; omega) ?_ h
 have e1 := ha w
 simp [Instr.field, run_underlying hs, hf, part, Result.andThen, asAgg, qT hz, e1, hv]
 all_goals (try omega)
end flds
theorem cell_later {w wx : World} {b o : Nat} {v : Value} (hb : Bel w.heap.size w wx) (h : w.cell? ⟨b, o, none⟩ = some v) : wx.cell? ⟨b, o, none⟩ = some v :=
 (World.cell?_of_block (w := w) (a := ⟨b, o, none⟩) (hb.block b (cell_lt h))).trans h
theorem Rg.lz {ka : Nat} {M : Nat → Prop} {w : World} {y : World × Gb} (h : Rg ka (w, g0) y) (hM : OkM M w) : Le (fun _ => False) M w (Mg M y.2) y.1 := h.le0
theorem Rg.lq {ka : Nat} {Fz M0 M : Nat → Prop} {w0 w : World} {y : World × Gb} (h : Rg ka (w, g0) y) (L : Le Fz M0 w0 M w) : Le Fz M w (Mg M y.2) y.1 := h.le0
end Go.SL
namespace Go.Proofs.YtfkejnlohkgbgaaGreatDoor
open Go.SL Go.RowKit Go.Proofs Tryz
section
variable {M : Nat → Prop} {w : World}
structure Elems {α : Type} (R : kC α) (sz : Nat) (M : Nat → Prop) (w : World) (cs : List Value) (l : List α) : Prop where
  len : cs.length = l.length * sz
  at_ : ∀ (i : Nat) (a : α), l[i]? = some a → ∃ us : List Value, us.length = sz ∧ (∀ (q : Nat) (u : Value), us[q]? = some u → cs[i * sz + q]? = some u) ∧ R M w a us
theorem Elems.nil {α : Type} {R : kC α} {sz : Nat} : Elems R sz M w [] ([] : List α) := ⟨by simp, fun i a h => by simp at h⟩
theorem Elems.snoc {α : Type} {R : kC α} {sz : Nat} {cs us : List Value} {l : List α} {a : α} (h : Elems R sz M w cs l) (hu : us.length = sz) (hr : R M w a us) : Elems R sz M w (cs ++ us) (l ++ [a]) :=
  ⟨by simp [h.len, hu, Nat.add_mul], fun i b hb => by
    rcases Nat.lt_or_ge i l.length with hi | hi
    · rw [List.getElem?_append_left hi] at hb
      obtain ⟨vs, h1, h2, h3⟩ := h.at_ i b hb
      refine ⟨vs, h1, fun q u hq => ?_, h3⟩
      have := h2 q u hq
      rw [List.getElem?_append_left (List.getElem?_eq_some_iff.1 this).1]; exact this
    · rw [List.getElem?_append_right hi] at hb
      have h0 : i - l.length = 0 := by
        have := (List.getElem?_eq_some_iff.1 hb).1; simp at this; omega
      obtain rfl : i = l.length := by omega
      simp at hb; subst hb
      refine ⟨us, hu, fun q u hq => ?_, hr⟩
      rw [List.getElem?_append_right (by rw [h.len]; omega), h.len, Nat.add_sub_cancel_left]; exact hq⟩
theorem Elems.mono {α : Type} {R : kC α} {sz : Nat} {M M' : Nat → Prop} {w w' : World} {cs : List Value} {l : List α} (h : Elems R sz M w cs l) (hR : ∀ a us, R M w a us → R M' w' a us) : Elems R sz M' w' cs l :=
  ⟨h.len, fun i a ha => let ⟨us, h1, h2, h3⟩ := h.at_ i a ha; ⟨us, h1, h2, hR a us h3⟩⟩
theorem row_blk {α : Type} {R : kC α} {sz : Nat} {b : Nat} {t : TypeId} {cs : List Value} {l : List α} {c : Nat} (h : KBlk M w b t cs) (hc : l.length ≤ c) (hl : l.length ≤ 9223372036854775807) (he : Elems R sz M w cs l) : RowOf R sz M w (.slice (some ⟨b, 0, none⟩) l.length c) l :=
  ⟨cs, h.blk.slc h.not he.len (fun j u hj => hj) hl hc, he.at_⟩
def RQ (n : Nat) : kC Rat := fun M w p us => ∃ s a d, us = [.bool s, a, d] ∧ QC M w n p s a d
def RQc (n : Nat) : kC Rat := fun M w p us => ∃ s a d, us = [.bool s, a, d] ∧ RC M w n p s a d
def RP (n : Nat) : kC P2 := fun M w p us => ∃ s a d t b e, us = [.bool s, a, d, .bool t, b, e] ∧ PQ M w n p s a d t b e
def RPc (n : Nat) : kC P2 := fun M w p us => ∃ s a d t b e, us = [.bool s, a, d, .bool t, b, e] ∧ PC M w n p s a d t b e
structure PL (M : Nat → Prop) (w : World) (n : Nat) (q : List P2) (v : Value) : Prop where
  row : RowOf (RP n) 6 M w v q
structure PLc (M : Nat → Prop) (w : World) (n : Nat) (q : List P2) (v : Value) : Prop where
  row : RowOf (RPc n) 6 M w v q
section
variable {Fz M M' T S : Nat → Prop} {w w' w0 : World} {n m k : Nat} {q : List P2} {v : Value}
theorem PLc.mono (h : PLc M w n q v) (l : Le Fz M w M' w') : PLc M' w' n q v := ⟨h.row.mono l (fun _ _ ⟨a, b, c, d, e, f, e0, h0⟩ => ⟨a, b, c, d, e, f, e0, h0.mono l⟩)⟩
theorem PLc.less (h : PLc M w n q v) (hm : ∀ k, M' k → M k) : PLc M' w n q v := h.mono (Fz := fun _ => False) (Le.less hm)
end
structure QL (M : Nat → Prop) (w : World) (n : Nat) (q : List Rat) (v : Value) : Prop where
  row : RowOf (RQ n) 3 M w v q
section
variable {Fz M M' T S : Nat → Prop} {w w' w0 : World} {n m k : Nat} {q : List Rat} {v : Value}
theorem QL.mono (h : QL M w n q v) (l : Le Fz M w M' w') : QL M' w' n q v := ⟨h.row.mono l (fun _ _ ⟨a, b, c, e0, h0⟩ => ⟨a, b, c, e0, h0.mono l⟩)⟩
theorem QL.one (h : QL M w n q v) : v.oneCell' = true ∧ True := by obtain ⟨_, ⟨_, _, ad, cap, rfl, _⟩, _⟩ := h.row; exact ⟨rfl, trivial⟩
end
def RZ (n : Nat) : kC Int := fun M w p us => ∃ s a, us = [.bool s, a] ∧ ZQ M w n p s a
structure ZL (M : Nat → Prop) (w : World) (n : Nat) (q : List Int) (v : Value) : Prop where
  row : RowOf (RZ n) 2 M w v q
section
variable {Fz M M' T S : Nat → Prop} {w w' w0 : World} {n m k : Nat} {q : List Int} {v : Value}
theorem ZL.mono (h : ZL M w n q v) (l : Le Fz M w M' w') : ZL M' w' n q v := ⟨h.row.mono l (fun _ _ ⟨a, b, e0, h0⟩ => ⟨a, b, e0, h0.mono l⟩)⟩
theorem ZL.one (h : ZL M w n q v) : v.oneCell' = true ∧ True := by obtain ⟨_, ⟨_, _, ad, cap, rfl, _⟩, _⟩ := h.row; exact ⟨rfl, trivial⟩
end
theorem zl2 {bb : Nat} {ty : TypeId} {n m : Nat} {p q : Int} {s t : Bool} {a b : Value} (hk : KBlk M w bb ty [.bool s, a, .bool t, b]) (h1 : ZQ M w n p s a) (h2 : ZQ M w m q t b) : ZL M w (max n m) [p, q] (.slice (some ⟨bb, 0, none⟩) 2 2) :=
  ⟨row_blk (l := [p, q]) hk (by simp) (by simp) ((Elems.nil.snoc (us := [.bool s, a]) rfl ⟨_, _, rfl, h1.up (by omega)⟩).snoc (us := [.bool t, b]) rfl ⟨_, _, rfl, h2.up (by omega)⟩)⟩
theorem elems_mono {Fz M M' : Nat → Prop} {w w' : World} {n : Nat} {cs : List Value} {l : List P2} (h : Elems (RPc n) 6 M w cs l) (k : Le Fz M w M' w') : Elems (RPc n) 6 M' w' cs l := Elems.mono h fun _ _ ⟨a, b, c, d, e, f, e0, h0⟩ => ⟨a, b, c, d, e, f, e0, h0.mono k⟩
structure EP (M : Nat → Prop) (w : World) (n : Nat) (cs : List Value) (l : List P2) : Prop where
  e : Elems (RPc n) 6 M w cs l
theorem EP.mono {Fz M M' : Nat → Prop} {w w' : World} {n : Nat} {cs : List Value} {l : List P2} (h : EP M w n cs l) (k : Le Fz M w M' w') : EP M' w' n cs l := ⟨elems_mono h.e k⟩
theorem EP.drift {M T : Nat → Prop} {w w' : World} {n k : Nat} {cs : List Value} {l : List P2} (h : EP M w n cs l) (x : Drift T k w w') (ht : ∀ k, T k → M k) : EP M w' n cs l := ⟨Elems.mono h.e fun _ _ ⟨a, b, c, d, e, f, e0, h0⟩ => ⟨a, b, c, d, e, f, e0, h0.drift x ht⟩⟩
theorem EP.snoc {n : Nat} {cs : List Value} {l : List P2} {p : P2} {s t : Bool} {a d b e : Value} (h : EP M w n cs l) (hp : PC M w n p s a d t b e) : EP M w n (cs ++ [.bool s, a, d, .bool t, b, e]) (l ++ [p]) := ⟨h.e.snoc rfl ⟨_, _, _, _, _, _, rfl, hp⟩⟩
theorem ones6 {s t : Bool} {a d b e : Value} (h1 : a.oneCell' = true) (h2 : d.oneCell' = true) (h3 : b.oneCell' = true) (h4 : e.oneCell' = true) : ∀ u ∈ [Value.bool s, a, d, .bool t, b, e], u.oneCell' = true := yK (bM h1 (bM h2 (yK (bM h3 (bM h4 jI)))))
end
end Go.Proofs.YtfkejnlohkgbgaaGreatDoor
namespace Go.Proofs.YtfkejnlohkgbgaaGreatDoor
open Go Go.SL Go.RowKit Tryz
section
variable {Fz M M' : Nat → Prop} {w w' : World}
instance {n : Nat} {q : List P2} {v : Value} : Up Fz M M' w w' (PLc M w n q v) (PLc M' w' n q v) := ⟨fun l h => h.mono l⟩
instance {n : Nat} {q : List P2} {v : Value} : UpB w w' (PLc M w n q v) (PLc M w' n q v) := ⟨fun l h => h.mono (lb l)⟩
instance {n : Nat} {q : List Rat} {v : Value} : Up Fz M M' w w' (QL M w n q v) (QL M' w' n q v) := ⟨fun l h => h.mono l⟩
instance {n : Nat} {q : List Rat} {v : Value} : UpB w w' (QL M w n q v) (QL M w' n q v) := ⟨fun l h => h.mono (lb l)⟩
instance {n : Nat} {q : List Int} {v : Value} : Up Fz M M' w w' (ZL M w n q v) (ZL M' w' n q v) := ⟨fun l h => h.mono l⟩
instance {n : Nat} {q : List Int} {v : Value} : UpB w w' (ZL M w n q v) (ZL M w' n q v) := ⟨fun l h => h.mono (lb l)⟩
end
end Go.Proofs.YtfkejnlohkgbgaaGreatDoor
namespace Go.Proofs.YtfkejnlohkgbgaaGreatDoor
open Go.SL Go.RowKit Go.Proofs Tryz
section
variable {M : Nat → Prop} {w : World}
end
end Go.Proofs.YtfkejnlohkgbgaaGreatDoor
namespace Go.SL
open Go.RowKit
def Ro (a b : World × Option Nat) : Prop := Bel a.1.heap.size a.1 b.1 ∧ (a.2 = none ∨ b.2 = a.2)
def Rp (ka i : Nat) (a b : World × Option Nat) : Prop := Bel a.1.heap.size a.1 b.1 ∧ (a.2 = none ∧ i = ka ∨ b.2 = a.2)
def PreO : World × Option Nat → Prop := fun x => x.2 = none
def PostO : World × Option Nat → Prop := fun x => ∃ z, x.2 = some z ∧ z ≤ x.1.heap.size
theorem ro_trans : ∀ a b c, Ro a b → Ro b c → Ro a c := fun a b c h k => ⟨rb_trans _ _ _ h.1 k.1, by
 rcases h.2 with e | e
 ·exact .inl e
 ·rcases k.2 with f | f
  ·exact .inl (e ▸ f)
  ·exact .inr (f.trans e)⟩
theorem rp_ro {ka : Nat} : ∀ i a b, Rp ka i a b → Ro a b := fun i a b h => ⟨h.1, h.2.imp And.left id⟩
theorem ro_drew (w : World) : Ro (w, none) ({ w with drawn := w.drawn + 1 }, none) := ⟨rb_drew w, .inl rfl⟩
theorem preO_mono {ka : Nat} : ∀ i a b, i ≠ ka → PreO a → Rp ka i a b → PreO b := fun i a b hi h r => by
 rcases r.2 with e | e
 ·exact absurd e.2 hi
 ·exact e.trans h
theorem postO_mono {ka : Nat} : ∀ i a b, i ≠ ka → PostO a → Rp ka i a b → PostO b := fun i a b hi ⟨z, h, hz⟩ r => by
 rcases r.2 with e | e
 ·exact absurd e.2 hi
 ·exact ⟨z, e.trans h, Nat.le_trans hz r.1.size⟩
theorem dJ {ka i : Nat} {w w' : World} {g : Option Nat} (h : Bel w.heap.size w w') : Rp ka i (w, g) (w', g) := ⟨h, .inr rfl⟩
theorem rp_ka {ka : Nat} {w w' : World} {g : Option Nat} (h0 : PreO (w, g)) (h : Bel w.heap.size w w') : Rp ka ka (w, g) (w', some w'.heap.size) := ⟨h, .inl ⟨h0, rfl⟩⟩
theorem ro_some {a b : World × Option Nat} {z : Nat} (h : a.2 = some z) (r : Ro a b) : b.2 = some z := by
 rcases r.2 with e | e
 ·rw [e] at h; cases h
 ·exact e.trans h
theorem Le.own_any {Fz M M2 : Nat → Prop} {w w' : World} (h : Bel w.heap.size w w') (hs : ∀ k, M2 k → M k ∨ (w.heap.size ≤ k ∧ k < w'.heap.size)) : Le Fz M w M2 w' :=
 ⟨h.os, h.tape, h.output, h.size, fun k hk _ => h.block k hk, fun k hk _ => h.block k hk, fun k c => (hs k c).imp id And.left, fun ho k c => (hs k c).elim (fun c => Nat.lt_of_lt_of_le (ho k c) h.size) And.right⟩
theorem own_lt {sz : Nat} {e : TypeId} {v : Value} {m : Nat} {xs : List Value} {w : World} (h : w.ownsRow 0 e sz v m xs) : ∀ k, v.ownBlock = some k → k < w.heap.size := fun k hk => by
 obtain ⟨_, ⟨rfl, _⟩ | ⟨g, cap, cur, rfl, _, hb, _⟩⟩ := h
 ·cases hk
 ·obtain rfl : g = k := Option.some.inj hk
  exact (Array.getElem?_eq_some_iff.1 hb).1
end Go.SL
namespace Go.Proofs.YtfkejnlohkgbgaaGreatDoor
open Go.SL Go.RowKit Go.Proofs Tryz
section
variable {M : Nat → Prop} {w : World}
theorem ZQ.neg {n : Nat} {z : Int} {s : Bool} {a : Value} (h : ZQ M w n z s a) : ZQ M w n (-z) (!s) a := by
  obtain ⟨xs, h1, h2, h3⟩ := h.ex
  exact ⟨xs, h1, h2, by rw [← h3]; cases s <;> simp [zv]⟩
theorem zc_zero {n : Nat} : ZC M w n 0 false (.slice none 0 0) := ⟨by simp, by simpa [xE] using (kZ (M := M) (w := w)), by simp [xE]⟩
theorem ZC.sign {n : Nat} {z : Int} {s : Bool} {a : Value} (h : ZC M w n z s a) : (((limbs z.natAbs).length : Int) = 0 → z = 0) ∧ (s = true → z < 0) ∧ (s = false → 0 ≤ z) := by
  refine ⟨fun c => ?_, fun c => ?_, fun c => ?_⟩
  · have := xF.1 (show (limbs z.natAbs).length = 0 by omega); omega
  · have := h.sgn; rw [c] at this; exact of_decide_eq_true this.symm
  · have := h.sgn; rw [c] at this; have := of_decide_eq_false this.symm; omega
theorem sum_take {l : List Int} {s : Nat} (h : s < l.length) : (l.take (s + 1)).sum = (l.take s).sum + l.getD s 0 := by
  rw [(gP (0 : Int) h).1, List.sum_append]; simp
def uU (l : List Int) : Int := l.foldl (· * ·) 1
theorem prod_take {l : List Int} {s : Nat} (h : s < l.length) : uU (l.take (s + 1)) = uU (l.take s) * l.getD s 0 := by
  rw [(gP (0 : Int) h).1, uU, List.foldl_append]; rfl
theorem qW {z : Int} {n0 : Nat} {xs0 : Bool} {xa0 : Value} (h0 : ZQ M w n0 z xs0 xa0) (hl0 : n0 ≤ 1000000) (hM : OkM M w) :
    CallsV prog 155 [.agg #[.bool xs0, xa0]] w fun r w' => Bel w.heap.size w w' ∧ ∃ xsr xar, r = .agg #[.bool xsr, xar] ∧ ZC M w' (n0) (z) xsr xar := by
 obtain ⟨oxa0, _⟩ := h0.one
 obtain ⟨xs, hx, hxl, hz⟩ := h0.ex
 refine ci M func155 ntmps155 fun Fz hFz hF LL => ?_
 refine zG (zB (yN rfl rfl (fun w1 b1 N1 => ?_)))
 obtain ⟨_, nF1, nM1, Lw1, B1⟩ := nza hF hM N1
 obtain ⟨LL, hM, hF, hx⟩ := up4 Lw1 LL hM hF hx
 refine yH rfl yV (fun w2 b2 N2 => ?_)
 obtain ⟨hBw2, nF2, nM2, Lw2, B2⟩ := nza hF hM N2
 obtain ⟨B1, ne1_2⟩ := bn B1 N2
 obtain ⟨LL, hM, hx⟩ := up3 Lw2 LL hM hx
 refine zD (zG (zB (zJ 1 rfl yu31 rfl rfl xS rfl rfl (zN rfl yP rfl B1 rfl (zI rfl (bo func86) rfl rfl ?_)))))
 refine (qA hx (by omega) hM).mono ?_
 rintro v6 w3 ⟨hB6, hf6⟩
 have hM6 := hM
 have hS6 := LL.size
 obtain ⟨LL, hx, B1, B2⟩ := ub4 hB6 LL hx B1 B2
 have hn6 := hf6.nat hM6
 refine zC rfl rfl (zD (zG (zB (zJ 0 rfl yu31 rfl rfl sz4 rfl rfl (zN rfl uC rfl B1 rfl (zA rfl rfl (ops_bcase (d := 9) rfl (fun hg2_2 => ?_) (fun hg2_2 => ?_))))))))
 ·refine yA rfl rfl (zA rfl rfl (yA rfl rfl ?_))
  refine xB rfl yu29 rfl ?_
  refine yA rfl rfl (kO rfl rfl rfl (xY rfl rfl rfl (zA rfl rfl (xO rfl kT rfl rfl (yB (gF rfl) (yB (gF (by first | rfl | exact yM (by assumption) | exact yO (by assumption) | assumption)) xI)) rfl (yC rfl rfl yV B2 rfl rfl (yK (yK jI)) rfl (fun w4 Cw4 B2 => ?_))))))
  obtain ⟨LL, hx, hn6⟩ := up3 (lc LL Cw4 zO nF2) LL hx hn6
  refine zD (zR ?_)
  refine lv1 ⟨⟨_, rfl, yT xU yV B2 rfl rfl⟩, trivial⟩ ?_
  have hle := yD xs hx.lt
  subst hz; subst hFz
  refine ⟨LL.b, _, _, rfl, ?_, by rw [uD]; exact hn6.less fun k c => zM (zM c), by rw [uD]; omega⟩
  rw [zv_neg, hg2_2]; rfl
 ·refine zY rfl rfl rfl rfl (zY rfl rfl rfl rfl (zY rfl rfl rfl rfl (xY rfl rfl rfl (zA rfl rfl (xO rfl kT rfl rfl (yB (gF rfl) (yB (gF (by first | rfl | exact yM (by assumption) | exact yO (by assumption) | assumption)) xI)) rfl (yC rfl rfl yV B2 rfl rfl (yK (yK jI)) rfl (fun w5 Cw5 B2 => ?_)))))))
  obtain ⟨LL, hx, hn6⟩ := up3 (lc LL Cw5 zO nF2) LL hx hn6
  refine zD (zR ?_)
  refine lv1 ⟨⟨_, rfl, yT xU yV B2 rfl rfl⟩, trivial⟩ ?_
  have hle := yD xs hx.lt
  subst hz; subst hFz
  refine ⟨LL.b, _, _, rfl, ?_, by rw [uD]; exact hn6.less fun k c => zM (zM c), by rw [uD]; omega⟩
  rw [zv_neg, hg2_2]; rfl
theorem i5of_c {k : Nat} (hk : k < 9223372036854775808) (hM : OkM M w) :
    CallsV prog 79 [.int .i64 ((k : Nat) : Int)] w fun r w' => Bel w.heap.size w w' ∧ ∃ xsr xar, r = .agg #[.bool xsr, xar] ∧ ZC M w' (2) (((k : Nat) : Int)) xsr xar := by
 refine ci M func79 ntmps79 fun Fz hFz hF LL => ?_
 refine zG (zB (yH rfl yV (fun w1 b2 N2 => ?_)))
 obtain ⟨_, nF2, nM2, Lw1, B2⟩ := nza hF hM N2
 obtain ⟨LL, hM⟩ := up2 Lw1 LL hM
 refine zD (zG (zG (zB (zA rfl rfl (jE rfl rfl rfl (zD ?_))))))
 refine zU rfl (fun hp => absurd hp (by omega)) (fun hc0 => ?_)
 refine yG (zG (zB (zA rfl rfl (xT rfl yu3 yu170 rfl (by omega) (zI rfl (bo func148) rfl rfl ?_)))))
 refine (rof_c (n := k) (by omega) hM).mono ?_
 rintro v14 w2 ⟨hB14, hf14⟩
 have hM14 := hM
 have hS14 := LL.size
 obtain ⟨LL, B2⟩ := ub2 hB14 LL B2
 have hn14 := hf14.nat hM14
 refine bG rfl kT yV rfl (yB (gF (by first | rfl | exact yM (by assumption) | exact yO (by assumption) | assumption)) xI) rfl rfl (yC rfl rfl yV B2 rfl rfl (yK (yK jI)) rfl (fun w3 Cw3 B2 => ?_))
 obtain ⟨LL, hn14⟩ := up2 (lc LL Cw3 zO nF2) LL hn14
 refine zD (zR ?_)
 refine lv1 ⟨⟨_, rfl, yT xU yV B2 rfl rfl⟩, trivial⟩ ?_
 subst hFz
 exact ⟨LL.b, _, _, rfl, (decide_eq_false (by omega)).symm, hn14.less fun k c => zM c, xG (by simp; omega)⟩
theorem i5sign_c {z : Int} {n0 : Nat} {xs0 : Bool} {xa0 : Value} (h0 : ZQ M w n0 z xs0 xa0) (hl0 : n0 ≤ 1000000) (hM : OkM M w) :
    CallsV prog 87 [.agg #[.bool xs0, xa0]] w fun r w' => Bel w.heap.size w w' ∧ r = .int .i64 (z).sign := by
 obtain ⟨oxa0, _⟩ := h0.one
 refine ci M func87 ntmps87 fun Fz hFz hF LL => ?_
 refine zG (zB (yN rfl rfl (fun w1 b1 N1 => ?_)))
 obtain ⟨_, nF1, nM1, Lw1, B1⟩ := nza hF hM N1
 obtain ⟨LL, hM, h0⟩ := up3 Lw1 LL hM h0
 refine zC rfl rfl (zD (zG (zB (zP rfl xU yV rfl B1 rfl rfl (zI rfl (bo func155) rfl rfl ?_)))))
 refine (qW h0 (by omega) hM).mono ?_
 rintro v4 w2 ⟨hB4, xs4, xa4, rfl, hn4⟩
 obtain ⟨LL, B1⟩ := ub2 hB4 LL B1
 obtain ⟨oxa4, _⟩ := hn4.one
 refine yC rfl rfl yV B1 rfl rfl (yK (yK jI)) rfl (fun w3 Cw3 B1 => ?_)
 obtain ⟨LL, hn4⟩ := up2 (lc LL Cw3 zO nF1) LL hn4
 refine zD (zG (zZ (zG (zB (zJ 1 rfl yu31 rfl rfl xS rfl rfl (zN rfl yP rfl B1 rfl (ops_lens rfl yu29 rfl hn4.num.slc (gL rfl rfl rfl (zC rfl rfl (zD ?_))))))))))
 refine zU rfl (fun hc0 => ?_) (fun hc0 => ?_)
 ·refine zG (zB (zC rfl rfl (zD (zR ?_))))
  refine lv1 ⟨rfl, trivial⟩ ?_
  rw [hn4.sign.1 hc0]
  subst hFz
  exact ⟨LL.b, rfl⟩
 ·refine zG (zB (zJ 0 rfl yu31 rfl rfl sz4 rfl rfl (zN rfl uC rfl B1 rfl (zC rfl rfl (zD ?_)))))
  refine qC rfl (fun hc1 => ?_) (fun hc1 => ?_)
  ·refine zG (zB (zC rfl rfl (zD (zR ?_))))
   refine lv1 ⟨rfl, trivial⟩ ?_
   rw [Int.sign_eq_neg_one_of_neg (hn4.sign.2.1 hc1)]
   subst hFz
   exact ⟨LL.b, rfl⟩
  ·refine yG (zG (zB (zC rfl rfl (zD (zR ?_)))))
   refine lv1 ⟨rfl, trivial⟩ ?_
   have hp := hn4.sign.2.2 hc1
   rw [Int.sign_eq_one_of_pos (by have : z ≠ 0 := fun c => hc0 (by rw [c]; simp [xE]); omega)]
   subst hFz
   exact ⟨LL.b, rfl⟩
theorem i5neg_c {z : Int} {n0 : Nat} {xs0 : Bool} {xa0 : Value} (h0 : ZQ M w n0 z xs0 xa0) (hl0 : n0 ≤ 1000000) (hM : OkM M w) :
    CallsV prog 149 [.agg #[.bool xs0, xa0]] w fun r w' => Bel w.heap.size w w' ∧ ∃ xsr xar, r = .agg #[.bool xsr, xar] ∧ ZC M w' (n0) (-z) xsr xar := by
 obtain ⟨oxa0, _⟩ := h0.one
 refine ci M func149 ntmps149 fun Fz hFz hF LL => ?_
 refine zG (zB (yN rfl rfl (fun w1 b1 N1 => ?_)))
 obtain ⟨_, nF1, nM1, Lw1, B1⟩ := nza hF hM N1
 obtain ⟨LL, hM, hF, h0⟩ := up4 Lw1 LL hM hF h0
 refine yH rfl yV (fun w2 b2 N2 => ?_)
 obtain ⟨hBw2, nF2, nM2, Lw2, B2⟩ := nza hF hM N2
 obtain ⟨B1, ne1_2⟩ := bn B1 N2
 obtain ⟨LL, hM, h0⟩ := up3 Lw2 LL hM h0
 refine zD (zG (zB (zJ 0 rfl yu31 rfl rfl sz4 rfl rfl (zN rfl uC rfl B1 rfl (qZ rfl rfl (zJ 1 rfl yu31 rfl rfl xS rfl rfl (zN rfl yP rfl B1 rfl (xO rfl kT rfl rfl (yB (gF rfl) (yB (gF (by first | rfl | assumption)) xI)) rfl (zI rfl (bo func155) rfl rfl ?_)))))))))
 refine (qW h0.neg (by omega) hM).mono ?_
 rintro v9 w3 ⟨hB9, xs9, xa9, rfl, hn9⟩
 obtain ⟨LL, B2⟩ := ub2 hB9 LL B2
 obtain ⟨oxa9, _⟩ := hn9.one
 refine yC rfl rfl yV B2 rfl rfl (yK (yK jI)) rfl (fun w4 Cw4 B2 => ?_)
 obtain ⟨LL, hn9⟩ := up2 (lc LL Cw4 zO nF2) LL hn9
 refine zD (zR ?_)
 refine lv1 ⟨⟨_, rfl, yT xU yV B2 rfl rfl⟩, trivial⟩ ?_
 subst hFz
 exact ⟨LL.b, _, _, rfl, (hn9.less (fun k c => zM (zM c))).up (by omega)⟩
theorem i5two_c {z : Int} {n0 : Nat} {xs0 : Bool} {xa0 : Value} {y : Int} {n1 : Nat} {xs1 : Bool} {xa1 : Value} (h0 : ZQ M w n0 z xs0 xa0) (h1 : ZQ M w n1 y xs1 xa1) (hl0 : n0 ≤ 400000) (hl1 : n1 ≤ 400000) (hM : OkM M w) :
    CallsV prog 203 [.agg #[.bool xs0, xa0], .agg #[.bool xs1, xa1]] w fun r w' => Bel w.heap.size w w' ∧ ∃ xsr xar, r = .agg #[.bool xsr, xar] ∧ ZC M w' (max n0 n1 + 1) (z + y) xsr xar := by
 obtain ⟨Fz, hFz, hF, _⟩ := fz0 M w
 obtain ⟨oxa0, _⟩ := h0.one
 obtain ⟨oxa1, _⟩ := h1.one
 obtain ⟨xs, hx, hxl, hz⟩ := h0.ex
 obtain ⟨ys, hy, hyl, hzy⟩ := h1.ex
 have hvx := xX hx.lt hxl
 have hvy := xX hy.lt hyl
 have ex := yD xs hx.lt
 have ey := yD ys hy.lt
 have esx := yJ (Nat.sub_le (val xs) (val ys))
 have esy := yJ (Nat.sub_le (val ys) (val xs))
 have esum : (limbs (val xs + val ys)).length ≤ max n0 n1 + 1 := xG (by
   have a1 : (4294967296 : Nat) ^ n0 ≤ 4294967296 ^ max n0 n1 := Nat.pow_le_pow_right (by omega) (by omega)
   have a2 : (4294967296 : Nat) ^ n1 ≤ 4294967296 ^ max n0 n1 := Nat.pow_le_pow_right (by omega) (by omega)
   rw [Nat.pow_succ]; generalize (4294967296 : Nat) ^ max n0 n1 = B at *; omega)
 have LL := Le.refl Fz M w
 refine jA func203 rfl ntmps203 rfl ?_
 refine zG (zB (yN rfl rfl (fun w1 b2 N2 => ?_)))
 obtain ⟨_, nF2, nM2, Lw1, B2⟩ := nza hF hM N2
 obtain ⟨LL, hM, hF, hx, hy⟩ := up5 Lw1 LL hM hF hx hy
 refine yN rfl rfl (fun w2 b3 N3 => ?_)
 obtain ⟨hBw2, nF3, nM3, Lw2, B3⟩ := nza hF hM N3
 obtain ⟨B2, ne2_3⟩ := bn B2 N3
 obtain ⟨LL, hM, hF, hx, hy⟩ := up5 Lw2 LL hM hF hx hy
 refine yH rfl yV (fun w3 b4 N4 => ?_)
 obtain ⟨hBw3, nF4, nM4, Lw3, B4⟩ := nza hF hM N4
 obtain ⟨B2, ne2_4⟩ := bn B2 N4
 obtain ⟨B3, ne3_4⟩ := bn B3 N4
 obtain ⟨LL, hM, hx, hy⟩ := up4 Lw3 LL hM hx hy
 refine zD (zG (zG (zB (zJ 0 rfl yu31 rfl rfl sz4 rfl rfl (zN rfl uC rfl B2 rfl (zJ 0 rfl yu31 rfl rfl sz4 rfl rfl (zN rfl uC rfl B3 rfl (ops_beq rfl rfl rfl underlying4 (zD ?_)))))))))
 refine qC rfl (fun hc0 => ?_) (fun hc0 => ?_)
 ·refine zG ?_
  refine wd mixed 8 [4, 13, 19] (by decide +kernel) ?_
  refine zL (fun _ _ _ => zQ rfl rfl (zF (zJ 0 rfl yu31 rfl rfl sz4 rfl rfl (on0 rfl)))) ?_
  refine zL (fun _ hR _ => zK rfl (zF (zN rfl uC rfl (B2.below hR) rfl (on0 rfl)))) ?_
  refine zL (fun _ _ _ => zQ rfl rfl (zF (zJ 1 rfl yu31 rfl rfl xS rfl rfl (on0 rfl)))) ?_
  refine zL (fun _ hR _ => zK rfl (zF (zN rfl yP rfl (B2.below hR) rfl (on0 rfl)))) ?_
  refine zL (fun _ _ _ => zQ rfl rfl (zF (zJ 1 rfl yu31 rfl rfl xS rfl rfl (on0 rfl)))) ?_
  refine zL (fun _ hR _ => zK rfl (zF (zN rfl yP rfl (B3.below hR) rfl (on0 rfl)))) ?_
  refine yZ (fun v w => IsNats (Ins b4 (Ins b3 (Ins b2 M))) w v [xs, ys]) cI (fun wq hR hst => ?_) ?_
  ·refine zK rfl (zK rfl (zF ?_))
   obtain ⟨hM, hx, hy⟩ := ub3 hR hM hx hy
   refine yR rfl yu255 xS rfl rfl rfl (iY (by first | rfl | exact yM (by assumption) | exact yO (by assumption) | assumption) (by first | rfl | exact yM (by assumption) | exact yO (by assumption) | assumption)) rfl (fun w4 b18 N18 => ?_)
   have hBw4 := N18.below
   have nM18 := hM.new N18
   have B18 := N18.blk
   obtain ⟨hx, hy⟩ := ub2 hBw4 hx hy
   have hn18 := fQ B18 nM18 hx hy
   have hB18 := hBw4
   exact on1 hB18 rfl hn18
  refine yZ (fun v w => IsNat (Ins b4 (Ins b3 (Ins b2 M))) w v (limbs (val xs + val ys))) jG (fun wq hR hst => ?_) ?_
  ·refine yY rfl (fun v18 hp18 => ?_)
   have hn18 := hp18
   refine zF ?_
   obtain ⟨LL, hM⟩ := ub2 hR LL hM
   refine zI rfl (bo func225) rfl rfl ?_
   refine (radd_c hn18 (by intro q hq; rcases List.mem_cons.1 hq with rfl | hq; omega; rcases List.mem_cons.1 hq with rfl | hq; omega; cases hq) (by simp) hM).mono ?_
   rintro v19 w5 ⟨hB19, hf19⟩
   have hM19 := hM
   have hS19 := LL.size
   simp only [List.map_cons, List.map_nil, List.sum_cons, List.sum_nil, Nat.add_zero] at hf19
   have hn19 := hf19.nat hM19
   exact on1 hB19 rfl hn19
  refine xQ (fun wq2 hR2 hpost2 => ?_)
  refine zQ rfl rfl (zK rfl (yY rfl (fun v19 hp19 => ?_)))
  have hn19 := hp19
  refine zF ?_
  simp only [jW, jV, jU, jT]
  obtain ⟨LL, hM, B4⟩ := ub3 hR2 LL hM B4
  refine xO rfl kT rfl rfl (yB (gF rfl) (yB (gF (by first | rfl | exact yM (by assumption) | exact yO (by assumption) | assumption)) xI)) rfl ?_
  have hqz : ZQ (Ins b4 (Ins b3 (Ins b2 M))) wq2 (max n0 n1 + 1) (z + y) xs0 v19 := ⟨_, hn19, esum, by rw [zv_same hc0, hz, hzy]⟩
  refine zI rfl (bo func155) rfl rfl ?_
  refine (qW hqz (by omega) hM).mono ?_
  rintro v21 w6 ⟨hB21, xs21, xa21, rfl, hn21⟩
  obtain ⟨LL, B4⟩ := ub2 hB21 LL B4
  obtain ⟨oxa21, _⟩ := hn21.one
  refine yC rfl rfl yV B4 rfl rfl (yK (yK jI)) rfl (fun w7 Cw7 B4 => ?_)
  obtain ⟨LL, hn21⟩ := up2 (lc LL Cw7 zO nF4) LL hn21
  refine zD (zR ?_)
  refine lv1 ⟨⟨_, rfl, yT xU yV B4 rfl rfl⟩, trivial⟩ ?_
  subst hFz
  exact ⟨LL.b, _, _, rfl, (hn21.less (fun k c => zM (zM (zM c)))).up (by omega)⟩
 ·refine yG (zG (zB (zJ 1 rfl yu31 rfl rfl xS rfl rfl (zN rfl yP rfl B2 rfl (zJ 1 rfl yu31 rfl rfl xS rfl rfl (zN rfl yP rfl B3 rfl (zI rfl (bo func229) rfl rfl ?_)))))))
  refine (fE hx hy (by omega) (by omega) hM).mono ?_
  rintro v27 w8 ⟨hB27, q27, rfl, hf27⟩
  have hMx := hM
  obtain ⟨LL, hM, hx, hy, B2, B3, B4⟩ := ub7 hB27 LL hM hx hy B2 B3 B4
  have hn27 := hf27.nat hMx
  refine zA rfl rfl (zX rfl rfl rfl (zX rfl rfl rfl (zC rfl rfl (zC rfl rfl (zD (zG (zG (zB (zA rfl rfl (gL rfl rfl rfl (zD ?_)))))))))))
  refine zU rfl (fun hc1 => ?_) (fun hc1 => ?_)
  ·refine zG (zB (zJ 0 rfl yu31 rfl rfl sz4 rfl rfl (zN rfl uC rfl B2 rfl (zA rfl rfl (xO rfl kT rfl rfl (yB (gF rfl) (yB (gF (by first | rfl | exact yM (by assumption) | exact yO (by assumption) | assumption)) xI)) rfl ?_)))))
   have hqz : ZQ (Ins b4 (Ins b3 (Ins b2 M))) w8 (max n0 n1 + 1) (z + y) xs0 q27 := ⟨_, hn27, by omega, by rw [zv_ge hc0 (by have := hc1; by_cases c : val xs < val ys; rw [if_pos c] at this; simp at this; omega), hz, hzy]⟩
   refine zI rfl (bo func155) rfl rfl ?_
   refine (qW hqz (by omega) hM).mono ?_
   rintro v36 w9 ⟨hB36, xs36, xa36, rfl, hn36⟩
   obtain ⟨LL, B4⟩ := ub2 hB36 LL B4
   obtain ⟨oxa36, _⟩ := hn36.one
   refine yC rfl rfl yV B4 rfl rfl (yK (yK jI)) rfl (fun w10 Cw10 B4 => ?_)
   obtain ⟨LL, hn36⟩ := up2 (lc LL Cw10 zO nF4) LL hn36
   refine zD (zR ?_)
   refine lv1 ⟨⟨_, rfl, yT xU yV B4 rfl rfl⟩, trivial⟩ ?_
   subst hFz
   exact ⟨LL.b, _, _, rfl, (hn36.less (fun k c => zM (zM (zM c)))).up (by omega)⟩
  ·refine yG (zG (zB (zJ 1 rfl yu31 rfl rfl xS rfl rfl (zN rfl yP rfl B3 rfl (zJ 1 rfl yu31 rfl rfl xS rfl rfl (zN rfl yP rfl B2 rfl (zI rfl (bo func229) rfl rfl ?_)))))))
   refine (fE hy hx (by omega) (by omega) hM).mono ?_
   rintro v42 w11 ⟨hB42, q42, rfl, hf42⟩
   have hMx := hM
   obtain ⟨LL, hM, B3, B4⟩ := ub4 hB42 LL hM B3 B4
   have hn42 := hf42.nat hMx
   refine zA rfl rfl (zX rfl rfl rfl (zX rfl rfl rfl (zC rfl rfl (zD (zG (zB (zJ 0 rfl yu31 rfl rfl sz4 rfl rfl (zN rfl uC rfl B3 rfl (zA rfl rfl (xO rfl kT rfl rfl (yB (gF rfl) (yB (gF (by first | rfl | exact yM (by assumption) | exact yO (by assumption) | assumption)) xI)) rfl ?_))))))))))
   have hqz : ZQ (Ins b4 (Ins b3 (Ins b2 M))) w11 (max n0 n1 + 1) (z + y) xs1 q42 := ⟨_, hn42, by omega, by rw [zv_lt hc0 (by have := hc1; by_cases c : val xs < val ys; omega; rw [if_neg c] at this; simp at this), hz, hzy]⟩
   refine zI rfl (bo func155) rfl rfl ?_
   refine (qW hqz (by omega) hM).mono ?_
   rintro v49 w12 ⟨hB49, xs49, xa49, rfl, hn49⟩
   obtain ⟨LL, B4⟩ := ub2 hB49 LL B4
   obtain ⟨oxa49, _⟩ := hn49.one
   refine yC rfl rfl yV B4 rfl rfl (yK (yK jI)) rfl (fun w13 Cw13 B4 => ?_)
   obtain ⟨LL, hn49⟩ := up2 (lc LL Cw13 zO nF4) LL hn49
   refine zD (zR ?_)
   refine lv1 ⟨⟨_, rfl, yT xU yV B4 rfl rfl⟩, trivial⟩ ?_
   subst hFz
   exact ⟨LL.b, _, _, rfl, (hn49.less (fun k c => zM (zM (zM c)))).up (by omega)⟩
theorem i5add_c {l : List Int} {n0 : Nat} {xa0 : Value} (h0 : ZL M w n0 l xa0) (hl0 : n0 ≤ 390000) (hlen : l.length ≤ 2) (hM : OkM M w) :
    CallsV prog 150 [xa0] w fun r w' => Bel w.heap.size w w' ∧ ∃ xsr xar, r = .agg #[.bool xsr, xar] ∧ ZC M w' (n0 + 2) (l.sum) xsr xar := by
 obtain ⟨oxa0, _⟩ := h0.one
 refine ci M func150 ntmps150 fun Fz hFz hF LL => ?_
 refine zG (zB (yH rfl yV (fun w1 b2 N2 => ?_)))
 obtain ⟨_, nF2, nM2, Lw1, B2⟩ := nza hF hM N2
 obtain ⟨LL, hM, hF, h0⟩ := up4 Lw1 LL hM hF h0
 refine zD (zG (zB (yH rfl yV (fun w2 b3 N3 => ?_))))
 obtain ⟨hBw2, nF3, nM3, Lw2, B3⟩ := nza hF hM N3
 obtain ⟨B2, ne2_3⟩ := bn B2 N3
 obtain ⟨LL, hM, h0⟩ := up3 Lw2 LL hM h0
 refine zD (zG (zG (zB (zC rfl rfl (zD (zZ ?_))))))
 refine xR (σ := Nat) [(0, _), (2, _), (3, _)] (fun s => [(4, .int .i64 ((s : Nat) : Int))]) (fun s w3 => Le Fz (Ins b3 (Ins b2 M)) w2 (Ins b3 (Ins b2 M)) w3 ∧ s ≤ l.length ∧ Blk w3 b2 31 [.bool false, .slice none 0 0] ∧ ∃ xs3 xa3, Blk w3 b3 31 [.bool xs3, xa3] ∧ ZC (Ins b3 (Ins b2 M)) w3 (n0 + s) ((l.take s).sum) xs3 xa3) (fun s => l.length - s) (0) (zH rfl (zH rfl (zH rfl (zH rfl yE)))) ?_ (fun s w3 hJ => ?_)
 · exact ⟨Le.refl _ _ _, by omega, B2, _, _, B3, by simpa using zc_zero⟩
 ·obtain ⟨LR, hk, B2, xs3, xa3, B3, hn3⟩ := hJ
  obtain ⟨oxa3, _⟩ := hn3.one
  obtain ⟨LL, hM, h0⟩ := up3 LR LL hM h0
  refine zG (zG (zB (zA rfl rfl (zA rfl rfl (cD rfl yu174 rfl h0.row (jE rfl rfl rfl (zD ?_)))))))
  refine zU rfl (fun hc0 => ?_) (fun hc0 => ?_)
  ·refine yG (zG (zZ ?_))
   refine wd mixed 6 [0, 2, 3, 4, 11, 16] (by decide +kernel) ?_
   refine zL (fun _ hR _ => zQ rfl rfl (zF (zP rfl xU yV rfl (B3.below hR) rfl rfl (on0 rfl)))) ?_
   refine dv (fun v w => ∃ xa12, v = xa12 ∧ ZL (Ins b3 (Ins b2 M)) w (n0) (l) xa12) (fun wq hR hst => ?_) ?_
   ·refine zQ rfl rfl (zF ?_)
    replace h0 := ub1 hR h0
    exact zA rfl rfl (zD ⟨rfl, xD _, _, rfl, ⟨_, rfl, h0⟩⟩)
   refine zL (fun _ _ _ => zQ rfl rfl (zF (zA rfl rfl (on0 rfl)))) ?_
   refine dv (rZQ (Ins b3 (Ins b2 M)) (n0) (l.getD s 0)) (fun wq hR hst => ?_) ?_
   ·refine yY rfl (fun v12 hp12 => ?_)
    obtain ⟨xa12, rfl, hn12⟩ := hp12
    refine zK rfl (zF ?_)
    refine bF (dflt := (0 : Int)) (s) rfl yu174 yV rfl rfl hn12.row (by first | rfl | omega) (by first | omega | (simp; omega) | simp) (fun b14 o14 us14 hul14 hu14 hc14 => ?_)
    obtain ⟨xs14, xa14, rfl, hn14⟩ := hu14
    exact on1 (xD _) rfl ⟨b14, o14, _, _, rfl, hc14, hn14⟩
   refine yZ (vZQ (Ins b3 (Ins b2 M)) (n0) (l.getD s 0)) vZQ_m (fun wq hR hst => ?_) ?_
   ·refine yY rfl (fun v14 hp14 => ?_)
    obtain ⟨b14, o14, xs14, xa14, rfl, hc14, hn14⟩ := hp14
    refine zF ?_
    exact gU rfl xU yV rfl hc14 rfl (zD ⟨rfl, xD _, _, rfl, ⟨_, _, rfl, hn14⟩⟩)
   refine yZ (vZC (Ins b3 (Ins b2 M)) (n0) ((l.getD s 0))) vZC_m (fun wq hR hst => ?_) ?_
   ·refine yY rfl (fun v15 hp15 => ?_)
    obtain ⟨xs15, xa15, rfl, hn15⟩ := hp15
    refine zF ?_
    replace hM := ub1 hR hM
    refine zI rfl (bo func155) rfl rfl ?_
    refine (qW hn15 (by omega) hM).mono ?_
    rintro v16 w4 ⟨hB16, xs16, xa16, rfl, hn16⟩
    exact on1 hB16 rfl ⟨_, _, rfl, hn16⟩
   refine xQ (fun wq5 hR5 hpost5 => ?_)
   refine zQ rfl rfl (zQ rfl rfl (zQ rfl rfl (zQ rfl rfl (zK rfl (yY rfl (fun v16 hp16 => ?_))))))
   obtain ⟨xs16, xa16, rfl, hn16⟩ := hp16; obtain ⟨oxa16, _⟩ := hn16.one
   refine zF ?_
   simp only [jW, jV, jU, jT]
   obtain ⟨LR, hM, hn3, B2, B3⟩ := ub5 hR5 LR hM hn3 B2 B3
   refine zI rfl (bo func203) rfl rfl ?_
   refine (i5two_c hn3.gen hn16.gen (by omega) (by omega) hM).mono ?_
   rintro v17 w5 ⟨hB17, xs17, xa17, rfl, hn17⟩
   obtain ⟨LR, B2, B3⟩ := ub3 hB17 LR B2 B3
   obtain ⟨oxa17, _⟩ := hn17.one
   refine yC rfl rfl yV B3 rfl rfl (yK (yK jI)) rfl (fun w6 Cw6 B3 => ?_)
   obtain ⟨LR, hn17⟩ := up2 (lc LR Cw6 zO nF3) LR hn17
   replace B2 := B2.other Cw6 ne2_3
   refine zD (zB (zA rfl rfl (yW rfl rfl rfl (by omega) (zC rfl rfl (zD ?_)))))
   refine ⟨rfl, s + 1, (zS rfl (by rw [Int.natCast_add]; rfl) (zH rfl (zH rfl (zH rfl yE)))), ?_, ?_⟩
   exact ⟨LR, by omega, B2, _, _, B3, by rw [sum_take (by omega)]; exact hn17.up (by omega)⟩
   omega
  ·refine xK (xM (zG (zB (zP rfl xU yV rfl B3 rfl rfl (zI rfl (bo func155) rfl rfl ?_)))))
   refine (qW hn3.gen (by omega) hM).mono ?_
   rintro v19 w7 ⟨hB19, xs19, xa19, rfl, hn19⟩
   obtain ⟨LL, B2⟩ := ub2 hB19 LL B2
   obtain ⟨oxa19, _⟩ := hn19.one
   refine yC rfl rfl yV B2 rfl rfl (yK (yK jI)) rfl (fun w8 Cw8 B2 => ?_)
   obtain ⟨LL, hn19⟩ := up2 (lc LL Cw8 (.inr zO) nF2) LL hn19
   refine zD (zR ?_)
   refine lv1 ⟨⟨_, rfl, yT xU yV B2 rfl rfl⟩, trivial⟩ ?_
   obtain rfl : s = l.length := by omega
   rw [List.take_length] at hn19
   subst hFz
   exact ⟨LL.b, _, _, rfl, (hn19.less (fun k c => zM (zM c))).up (by omega)⟩
theorem i5sub_c {z : Int} {n0 : Nat} {xs0 : Bool} {xa0 : Value} {y : Int} {n1 : Nat} {xs1 : Bool} {xa1 : Value} (h0 : ZQ M w n0 z xs0 xa0) (h1 : ZQ M w n1 y xs1 xa1) (hl0 : n0 ≤ 380000) (hl1 : n1 ≤ 380000) (hM : OkM M w) :
    CallsV prog 88 [.agg #[.bool xs0, xa0], .agg #[.bool xs1, xa1]] w fun r w' => Bel w.heap.size w w' ∧ ∃ xsr xar, r = .agg #[.bool xsr, xar] ∧ ZC M w' (max n0 n1 + 2) (z - y) xsr xar := by
 obtain ⟨oxa0, _⟩ := h0.one
 obtain ⟨oxa1, _⟩ := h1.one
 refine ci M func88 ntmps88 fun Fz hFz hF LL => ?_
 refine zG (zB (yN rfl rfl (fun w1 b2 N2 => ?_)))
 obtain ⟨_, nF2, nM2, Lw1, B2⟩ := nza hF hM N2
 obtain ⟨LL, hM, hF, h0, h1⟩ := up5 Lw1 LL hM hF h0 h1
 refine yN rfl rfl (fun w2 b3 N3 => ?_)
 obtain ⟨hBw2, nF3, nM3, Lw2, B3⟩ := nza hF hM N3
 obtain ⟨B2, ne2_3⟩ := bn B2 N3
 obtain ⟨LL, hM, hF, h0, h1⟩ := up5 Lw2 LL hM hF h0 h1
 refine yH rfl yV (fun w3 b4 N4 => ?_)
 obtain ⟨hBw3, nF4, nM4, Lw3, B4⟩ := nza hF hM N4
 obtain ⟨B2, ne2_4⟩ := bn B2 N4
 obtain ⟨B3, ne3_4⟩ := bn B3 N4
 obtain ⟨LL, hM, h0, h1⟩ := up4 Lw3 LL hM h0 h1
 refine zD (zG ?_)
 refine wd mixed 3 [4, 5, 7] (by decide +kernel) ?_
 refine zL (fun _ hR _ => zQ rfl rfl (zF (zP rfl xU yV rfl (B2.below hR) rfl rfl (on0 rfl)))) ?_
 refine zL (fun _ hR _ => zQ rfl rfl (zF (zP rfl xU yV rfl (B3.below hR) rfl rfl (on0 rfl)))) ?_
 refine yZ (vZC (Ins b4 (Ins b3 (Ins b2 M))) (n1) (-y)) vZC_m (fun wq hR hst => ?_) ?_
 ·refine zK rfl (zF ?_)
  obtain ⟨hM, h1⟩ := ub2 hR hM h1
  refine zI rfl (bo func149) rfl rfl ?_
  refine (i5neg_c h1 (by omega) hM).mono ?_
  rintro v7 w4 ⟨hB7, xs7, xa7, rfl, hn7⟩
  exact on1 hB7 rfl ⟨_, _, rfl, hn7⟩
 refine xQ (fun wq1 hR1 hpost1 => ?_)
 refine zQ rfl rfl (zK rfl (yY rfl (fun v7 hp7 => ?_)))
 obtain ⟨xs7, xa7, rfl, hn7⟩ := hp7; obtain ⟨oxa7, _⟩ := hn7.one
 refine zF ?_
 simp only [jW, jV, jU, jT]
 obtain ⟨LL, hM, h0, B4⟩ := ub4 hR1 LL hM h0 B4
 refine xN rfl yu174 yV rfl rfl rfl rfl (yB rfl (yB rfl xI)) rfl rfl rfl (fun w5 b8 N8 => ?_)
 have hBw5 := N8.below
 have nM8 := hM.new N8
 have B8 := N8.blk
 obtain ⟨LL, hM, h0, hn7, B4⟩ := ub5 hBw5 LL hM h0 hn7 B4
 refine zI rfl (bo func150) rfl rfl ?_
 refine (i5add_c (zl2 ((KBlk.mk B8 nM8)) h0 hn7.gen) (by omega) (by first | omega | simp) hM).mono ?_
 rintro v9 w6 ⟨hB9, xs9, xa9, rfl, hn9⟩
 obtain ⟨LL, B4⟩ := ub2 hB9 LL B4
 obtain ⟨oxa9, _⟩ := hn9.one
 refine yC rfl rfl yV B4 rfl rfl (yK (yK jI)) rfl (fun w7 Cw7 B4 => ?_)
 obtain ⟨LL, hn9⟩ := up2 (lc LL Cw7 zO nF4) LL hn9
 refine zD (zR ?_)
 refine lv1 ⟨⟨_, rfl, yT xU yV B4 rfl rfl⟩, trivial⟩ ?_
 have hsm : [z, -y].sum = z - y := by simp only [List.sum_cons, List.sum_nil]; omega
 rw [hsm] at hn9
 subst hFz
 exact ⟨LL.b, _, _, rfl, (hn9.less (fun k c => zM (zM (zM c)))).up (by omega)⟩
theorem ZQ.sgn0 {n : Nat} {z : Int} {s : Bool} {a : Value} (h : ZQ M w n z s a) : z ≠ 0 → s = decide (z < 0) := by
  obtain ⟨xs, h1, h2, h3⟩ := h.ex
  intro h0
  subst h3
  cases s
  · simp [zv]
  · have : val xs ≠ 0 := fun c => h0 (by simp [zv, c])
    simp [zv]; omega
theorem ZQ.abs {n : Nat} {z : Int} {s : Bool} {a : Value} (h : ZQ M w n z s a) : ∃ ys, IsNat M w a ys ∧ ys.length ≤ n ∧ val ys = z.natAbs := by
  obtain ⟨xs, h1, h2, h3⟩ := h.ex
  exact ⟨xs, h1, h2, by rw [← h3, uD]⟩
theorem zv_prod {P z : Int} {b : Bool} (hb : z ≠ 0 → b = decide (z < 0)) : zv (decide (P < 0) != b) (limbs (P.natAbs * z.natAbs)) = P * z := by
  by_cases h0 : z = 0
  · subst h0; simp [zv, zT]
  · rw [hb h0, zv, zT]
    rcases Int.lt_or_le P 0 with hp | hp <;> rcases Int.lt_or_le z 0 with hz | hz
    · rw [decide_eq_true hp, decide_eq_true hz, if_neg (by simp)]
      rw [Int.natCast_mul, show ((P.natAbs : Nat) : Int) = -P by omega, show ((z.natAbs : Nat) : Int) = -z by omega, Int.neg_mul_neg]
    · rw [decide_eq_true hp, decide_eq_false (by omega), if_pos (by simp)]
      rw [Int.natCast_mul, show ((P.natAbs : Nat) : Int) = -P by omega, show ((z.natAbs : Nat) : Int) = z by omega, Int.neg_mul, Int.neg_neg]
    · rw [decide_eq_false (by omega), decide_eq_true hz, if_pos (by simp)]
      rw [Int.natCast_mul, show ((P.natAbs : Nat) : Int) = P by omega, show ((z.natAbs : Nat) : Int) = -z by omega, Int.mul_neg, Int.neg_neg]
    · rw [decide_eq_false (by omega), decide_eq_false (by omega), if_neg (by simp)]
      rw [Int.natCast_mul, show ((P.natAbs : Nat) : Int) = P by omega, show ((z.natAbs : Nat) : Int) = z by omega]
theorem i5mul_c {l : List Int} {n0 : Nat} {xa0 : Value} (h0 : ZL M w n0 l xa0) (hl0 : n0 ≤ 100000) (hlen : l.length ≤ 2) (hM : OkM M w) :
    CallsV prog 89 [xa0] w fun r w' => Bel w.heap.size w w' ∧ ∃ xsr xar, r = .agg #[.bool xsr, xar] ∧ ZC M w' (2 * n0 + 2) (uU l) xsr xar := by
 obtain ⟨oxa0, _⟩ := h0.one
 refine ci M func89 ntmps89 fun Fz hFz hF LL => ?_
 refine zG (zB (yH rfl yV (fun w1 b2 N2 => ?_)))
 have hBw1 := N2.below
 have nF2 := hF.new N2; have nM2 := hM.new N2
 have Lw1 := Le.of_new (Fz := Fz) (M := M) N2
 replace LL := LL.trans Lw1
 replace hM := hM.mono Lw1
 replace hF := hF.mono Lw1
 replace h0 := h0.mono Lw1
 have B2 := N2.blk
 rw [agg_cells] at B2
 refine zD (zG (zB (zI rfl (bo func79) rfl rfl ?_)))
 refine (i5of_c (M := (Ins b2 M)) (k := 1)  (by omega) hM).mono ?_
 rintro v5 w2 ⟨hB5, xs5, xa5, rfl, hn5⟩
 have Lw2 := Le.of_below (Fz := Fz) (M := (Ins b2 M)) hB5
 replace LL := LL.trans Lw2
 replace hM := hM.mono Lw2
 replace hF := hF.mono Lw2
 replace h0 := h0.mono Lw2
 replace B2 := B2.below hB5
 obtain ⟨oxa5, _⟩ := hn5.one
 refine yH rfl yV (fun w3 b3 N3 => ?_)
 have hBw3 := N3.below
 have nF3 := hF.new N3; have nM3 := hM.new N3
 have Lw3 := Le.of_new (Fz := Fz) (M := (Ins b2 M)) N3
 have lt2_3 := B2.lt; replace B2 := B2.below hBw3; have ne2_3 : b2 ≠ b3 := by have := N3.at_; omega
 replace LL := LL.trans Lw3
 replace hM := hM.mono Lw3
 replace hF := hF.mono Lw3
 replace h0 := h0.mono Lw3
 replace hn5 := hn5.mono Lw3
 have B3 := N3.blk
 rw [agg_cells] at B3
 refine yC rfl rfl yV B3 rfl rfl (yK (yK jI)) rfl (fun w4 Cw4 B3 => ?_)
 have Lw4 := Le.of_chg (M := (Ins b3 (Ins b2 M))) Cw4 zO nF3
 replace LL := LL.trans Lw4
 replace hM := hM.mono Lw4
 replace hF := hF.mono Lw4
 replace h0 := h0.mono Lw4
 replace hn5 := hn5.mono Lw4
 replace B2 := B2.other Cw4 ne2_3
 try simp only [List.set_cons_zero, List.set_cons_succ, List.take_succ_cons, List.take_zero, List.drop_succ_cons, List.drop_zero, List.drop_nil, List.cons_append, List.nil_append, List.append_nil] at B3
 refine zD (zG (zG (zB (zC rfl rfl (zD (zZ ?_))))))
 refine xR (σ := Nat) [(0, _), (2, _), (3, _)] (fun s => [(4, .int .i64 ((s : Nat) : Int))]) (fun s w5 => Le Fz (Ins b3 (Ins b2 M)) w4 (Ins b3 (Ins b2 M)) w5 ∧ s ≤ l.length ∧ Blk w5 b2 31 [.bool false, .slice none 0 0] ∧ ∃ xs3 xa3, Blk w5 b3 31 [.bool xs3, xa3] ∧ ZC (Ins b3 (Ins b2 M)) w5 (s * n0 + 2) (uU (l.take s)) xs3 xa3) (fun s => l.length - s) (0) (zH rfl (zH rfl (zH rfl (zH rfl yE)))) ?_ (fun s w5 hJ => ?_)
 · exact ⟨Le.refl _ _ _, by omega, B2, _, _, B3, by simpa [uU] using hn5.up (by omega)⟩
 ·obtain ⟨LR, hk, B2, xs3, xa3, B3, hn3⟩ := hJ
  obtain ⟨oxa3, _⟩ := hn3.one
  replace LL := LL.trans LR
  replace hM := hM.mono LR
  replace hF := hF.mono LR
  replace h0 := h0.mono LR
  replace hn5 := hn5.mono LR
  refine zG (zG (zB (zA rfl rfl (zA rfl rfl (cD rfl yu174 rfl h0.row (jE rfl rfl rfl (zD ?_)))))))
  refine zU rfl (fun hc0 => ?_) (fun hc0 => ?_)
  ·refine yG (zG (zZ ?_))
   refine wd mixed 16 [0, 2, 3, 4, 19, 27] (by decide +kernel) ?_
   apply zL
   ·intro wq hR hst
    refine zQ rfl rfl (zF ?_)
    have Lq := Le.of_below (Fz := Fz) (M := (Ins b3 (Ins b2 M))) hR
    replace LL := LL.trans Lq
    replace LR := LR.trans Lq
    replace hM := hM.mono Lq
    replace hF := hF.mono Lq
    replace h0 := h0.mono Lq
    replace hn5 := hn5.mono Lq
    replace hn3 := hn3.mono Lq
    replace B2 := B2.below hR
    replace B3 := B3.below hR
    refine zJ 0 rfl yu31 rfl rfl sz4 rfl rfl ?_
    exact on1 (xD _) rfl rfl
   apply zL
   ·intro wq hR hst
    refine zK rfl (zF ?_)
    have Lq := Le.of_below (Fz := Fz) (M := (Ins b3 (Ins b2 M))) hR
    replace LL := LL.trans Lq
    replace LR := LR.trans Lq
    replace hM := hM.mono Lq
    replace hF := hF.mono Lq
    replace h0 := h0.mono Lq
    replace hn5 := hn5.mono Lq
    replace hn3 := hn3.mono Lq
    replace B2 := B2.below hR
    replace B3 := B3.below hR
    refine zN rfl uC rfl B3 rfl ?_
    exact on1 (xD _) rfl rfl
   refine dv (fun v w => ∃ xa14, v = xa14 ∧ ZL (Ins b3 (Ins b2 M)) w (n0) (l) xa14) (fun wq hR hst => ?_) ?_
   ·refine zQ rfl rfl (zF ?_)
    have Lq := Le.of_below (Fz := Fz) (M := (Ins b3 (Ins b2 M))) hR
    replace LL := LL.trans Lq
    replace LR := LR.trans Lq
    replace hM := hM.mono Lq
    replace hF := hF.mono Lq
    replace h0 := h0.mono Lq
    replace hn5 := hn5.mono Lq
    replace hn3 := hn3.mono Lq
    replace B2 := B2.below hR
    replace B3 := B3.below hR
    refine zA rfl rfl ?_
    exact on1 (xD _) rfl ⟨_, rfl, h0⟩
   apply zL
   ·intro wq hR hst
    refine zQ rfl rfl (zF ?_)
    have Lq := Le.of_below (Fz := Fz) (M := (Ins b3 (Ins b2 M))) hR
    replace LL := LL.trans Lq
    replace LR := LR.trans Lq
    replace hM := hM.mono Lq
    replace hF := hF.mono Lq
    replace h0 := h0.mono Lq
    replace hn5 := hn5.mono Lq
    replace hn3 := hn3.mono Lq
    replace B2 := B2.below hR
    replace B3 := B3.below hR
    refine zA rfl rfl ?_
    exact on1 (xD _) rfl rfl
   refine dv (rZQ (Ins b3 (Ins b2 M)) (n0) (l.getD s 0)) (fun wq hR hst => ?_) ?_
   ·refine yY rfl (fun v14 hp14 => ?_)
    obtain ⟨xa14, rfl, hn14⟩ := hp14; obtain ⟨oxa14, _⟩ := hn14.one
    refine zK rfl (zF ?_)
    have Lq := Le.of_below (Fz := Fz) (M := (Ins b3 (Ins b2 M))) hR
    replace LL := LL.trans Lq
    replace LR := LR.trans Lq
    replace hM := hM.mono Lq
    replace hF := hF.mono Lq
    replace h0 := h0.mono Lq
    replace hn5 := hn5.mono Lq
    replace hn3 := hn3.mono Lq
    replace B2 := B2.below hR
    replace B3 := B3.below hR
    refine bF (dflt := (0 : Int)) (s) rfl yu174 yV rfl rfl hn14.row (by first | rfl | omega) (by first | omega | (simp; omega) | simp) (fun b16 o16 us16 hul16 hu16 hc16 => ?_)
    obtain ⟨xs16, xa16, rfl, hn16⟩ := hu16
    obtain ⟨oxa16, _⟩ := hn16.one
    exact on1 (xD _) rfl ⟨b16, o16, _, _, rfl, hc16, hn16⟩
   refine dv (rZQ (Ins b3 (Ins b2 M)) (n0) (l.getD s 0)) (fun wq hR hst => ?_) ?_
   ·refine yY rfl (fun v16 hp16 => ?_)
    obtain ⟨b16, o16, xs16, xa16, rfl, hc16, hn16⟩ := hp16; obtain ⟨oxa16, _⟩ := hn16.one
    refine zF ?_
    have Lq := Le.of_below (Fz := Fz) (M := (Ins b3 (Ins b2 M))) hR
    replace LL := LL.trans Lq
    replace LR := LR.trans Lq
    replace hM := hM.mono Lq
    replace hF := hF.mono Lq
    replace h0 := h0.mono Lq
    replace hn5 := hn5.mono Lq
    replace hn3 := hn3.mono Lq
    replace B2 := B2.below hR
    replace B3 := B3.below hR
    refine xA 0 rfl yu31 rfl rfl sz4 rfl rfl ?_
    exact on1 (xD _) rfl ⟨_, _, _, _, rfl, hc16, hn16⟩
   refine yZ (fun v w => ∃ b, v = .bool b ∧ (l.getD s 0 ≠ 0 → b = decide (l.getD s 0 < 0))) (fun _ _ _ e r => e) (fun wq hR hst => ?_) ?_
   ·refine yY rfl (fun v17 hp17 => ?_)
    obtain ⟨b17, o17, xs17, xa17, rfl, hc17, hn17⟩ := hp17; obtain ⟨oxa17, _⟩ := hn17.one
    refine zF ?_
    have Lq := Le.of_below (Fz := Fz) (M := (Ins b3 (Ins b2 M))) hR
    replace LL := LL.trans Lq
    replace LR := LR.trans Lq
    replace hM := hM.mono Lq
    replace hF := hF.mono Lq
    replace h0 := h0.mono Lq
    replace hn5 := hn5.mono Lq
    replace hn3 := hn3.mono Lq
    replace B2 := B2.below hR
    replace B3 := B3.below hR
    refine xL rfl uC rfl (hc17 0 _ rfl) ?_
    exact on1 (xD _) rfl ⟨_, rfl, hn17.sgn0⟩
   refine yZ (fun v w => ∃ b, v = .bool (xs3 != b) ∧ (l.getD s 0 ≠ 0 → b = decide (l.getD s 0 < 0))) (fun _ _ _ e r => e) (fun wq hR hst => ?_) ?_
   ·refine zK rfl (yY rfl (fun v18 hp18 => ?_))
    obtain ⟨s18, rfl, hsg18⟩ := hp18
    refine zF ?_
    have Lq := Le.of_below (Fz := Fz) (M := (Ins b3 (Ins b2 M))) hR
    replace LL := LL.trans Lq
    replace LR := LR.trans Lq
    replace hM := hM.mono Lq
    replace hF := hF.mono Lq
    replace h0 := h0.mono Lq
    replace hn5 := hn5.mono Lq
    replace hn3 := hn3.mono Lq
    replace B2 := B2.below hR
    replace B3 := B3.below hR
    refine ops_bne rfl rfl rfl underlying4 ?_
    exact on1 (xD _) rfl ⟨_, rfl, hsg18⟩
   apply zL
   ·intro wq hR hst
    refine zQ rfl rfl (zF ?_)
    have Lq := Le.of_below (Fz := Fz) (M := (Ins b3 (Ins b2 M))) hR
    replace LL := LL.trans Lq
    replace LR := LR.trans Lq
    replace hM := hM.mono Lq
    replace hF := hF.mono Lq
    replace h0 := h0.mono Lq
    replace hn5 := hn5.mono Lq
    replace hn3 := hn3.mono Lq
    replace B2 := B2.below hR
    replace B3 := B3.below hR
    refine zJ 1 rfl yu31 rfl rfl xS rfl rfl ?_
    exact on1 (xD _) rfl rfl
   apply zL
   ·intro wq hR hst
    refine zK rfl (zF ?_)
    have Lq := Le.of_below (Fz := Fz) (M := (Ins b3 (Ins b2 M))) hR
    replace LL := LL.trans Lq
    replace LR := LR.trans Lq
    replace hM := hM.mono Lq
    replace hF := hF.mono Lq
    replace h0 := h0.mono Lq
    replace hn5 := hn5.mono Lq
    replace hn3 := hn3.mono Lq
    replace B2 := B2.below hR
    replace B3 := B3.below hR
    refine zN rfl yP rfl B3 rfl ?_
    exact on1 (xD _) rfl rfl
   refine dv (fun v w => ∃ xa22, v = xa22 ∧ ZL (Ins b3 (Ins b2 M)) w (n0) (l) xa22) (fun wq hR hst => ?_) ?_
   ·refine zQ rfl rfl (zF ?_)
    have Lq := Le.of_below (Fz := Fz) (M := (Ins b3 (Ins b2 M))) hR
    replace LL := LL.trans Lq
    replace LR := LR.trans Lq
    replace hM := hM.mono Lq
    replace hF := hF.mono Lq
    replace h0 := h0.mono Lq
    replace hn5 := hn5.mono Lq
    replace hn3 := hn3.mono Lq
    replace B2 := B2.below hR
    replace B3 := B3.below hR
    refine zA rfl rfl ?_
    exact on1 (xD _) rfl ⟨_, rfl, h0⟩
   apply zL
   ·intro wq hR hst
    refine zQ rfl rfl (zF ?_)
    have Lq := Le.of_below (Fz := Fz) (M := (Ins b3 (Ins b2 M))) hR
    replace LL := LL.trans Lq
    replace LR := LR.trans Lq
    replace hM := hM.mono Lq
    replace hF := hF.mono Lq
    replace h0 := h0.mono Lq
    replace hn5 := hn5.mono Lq
    replace hn3 := hn3.mono Lq
    replace B2 := B2.below hR
    replace B3 := B3.below hR
    refine zA rfl rfl ?_
    exact on1 (xD _) rfl rfl
   refine dv (rZQ (Ins b3 (Ins b2 M)) (n0) (l.getD s 0)) (fun wq hR hst => ?_) ?_
   ·refine yY rfl (fun v22 hp22 => ?_)
    obtain ⟨xa22, rfl, hn22⟩ := hp22; obtain ⟨oxa22, _⟩ := hn22.one
    refine zK rfl (zF ?_)
    have Lq := Le.of_below (Fz := Fz) (M := (Ins b3 (Ins b2 M))) hR
    replace LL := LL.trans Lq
    replace LR := LR.trans Lq
    replace hM := hM.mono Lq
    replace hF := hF.mono Lq
    replace h0 := h0.mono Lq
    replace hn5 := hn5.mono Lq
    replace hn3 := hn3.mono Lq
    replace B2 := B2.below hR
    replace B3 := B3.below hR
    refine bF (dflt := (0 : Int)) (s) rfl yu174 yV rfl rfl hn22.row (by first | rfl | omega) (by first | omega | (simp; omega) | simp) (fun b24 o24 us24 hul24 hu24 hc24 => ?_)
    obtain ⟨xs24, xa24, rfl, hn24⟩ := hu24
    obtain ⟨oxa24, _⟩ := hn24.one
    exact on1 (xD _) rfl ⟨b24, o24, _, _, rfl, hc24, hn24⟩
   refine dv (rZQko 1 (Ins b3 (Ins b2 M)) (n0) (l.getD s 0)) (fun wq hR hst => ?_) ?_
   ·refine yY rfl (fun v24 hp24 => ?_)
    obtain ⟨b24, o24, xs24, xa24, rfl, hc24, hn24⟩ := hp24; obtain ⟨oxa24, _⟩ := hn24.one
    refine zF ?_
    have Lq := Le.of_below (Fz := Fz) (M := (Ins b3 (Ins b2 M))) hR
    replace LL := LL.trans Lq
    replace LR := LR.trans Lq
    replace hM := hM.mono Lq
    replace hF := hF.mono Lq
    replace h0 := h0.mono Lq
    replace hn5 := hn5.mono Lq
    replace hn3 := hn3.mono Lq
    replace B2 := B2.below hR
    replace B3 := B3.below hR
    refine xA 1 rfl yu31 rfl rfl xS rfl rfl ?_
    exact on1 (xD _) rfl ⟨_, _, _, _, rfl, hc24, hn24⟩
   refine dv (fun v w => ∃ ys, IsNat (Ins b3 (Ins b2 M)) w v ys ∧ ys.length ≤ n0 ∧ val ys = (l.getD s 0).natAbs) (fun wq hR hst => ?_) ?_
   ·refine yY rfl (fun v25 hp25 => ?_)
    obtain ⟨b25, o25, xs25, xa25, rfl, hc25, hn25⟩ := hp25; obtain ⟨oxa25, _⟩ := hn25.one
    refine zF ?_
    have Lq := Le.of_below (Fz := Fz) (M := (Ins b3 (Ins b2 M))) hR
    replace LL := LL.trans Lq
    replace LR := LR.trans Lq
    replace hM := hM.mono Lq
    replace hF := hF.mono Lq
    replace h0 := h0.mono Lq
    replace hn5 := hn5.mono Lq
    replace hn3 := hn3.mono Lq
    replace B2 := B2.below hR
    replace B3 := B3.below hR
    refine xL rfl yP rfl (hc25 1 _ rfl) ?_
    exact on1 (xD _) rfl hn25.abs
   refine dv (fun v w => IsNat (Ins b3 (Ins b2 M)) w v (limbs ((uU (l.take s)).natAbs * (l.getD s 0).natAbs)) ∧ (limbs (l.getD s 0).natAbs).length ≤ n0) (fun wq hR hst => ?_) ?_
   ·refine zK rfl (yY rfl (fun v26 hp26 => ?_))
    obtain ⟨ys, hn26, hyl, hyv⟩ := hp26
    refine zF ?_
    have Lq := Le.of_below (Fz := Fz) (M := (Ins b3 (Ins b2 M))) hR
    replace LL := LL.trans Lq
    replace LR := LR.trans Lq
    replace hM := hM.mono Lq
    replace hF := hF.mono Lq
    replace h0 := h0.mono Lq
    replace hn5 := hn5.mono Lq
    replace hn3 := hn3.mono Lq
    replace B2 := B2.below hR
    replace B3 := B3.below hR
    refine zI rfl (bo func108) rfl rfl ?_
    refine (rmul_c (M := (Ins b3 (Ins b2 M))) hn3.num hn26 (by have := hn3.len; have : s * n0 ≤ 2 * n0 := Nat.mul_le_mul_right _ (by omega); omega) (by omega) hM).mono ?_
    rintro v27 w6 ⟨hB27, hf27⟩
    have hM27 := hM; have hS27 := LL.size
    have Lw6 := Le.of_below (Fz := Fz) (M := (Ins b3 (Ins b2 M))) hB27
    replace LL := LL.trans Lw6
    replace LR := LR.trans Lw6
    replace hM := hM.mono Lw6
    replace hF := hF.mono Lw6
    replace h0 := h0.mono Lw6
    replace hn5 := hn5.mono Lw6
    replace hn3 := hn3.mono Lw6
    replace hn26 := hn26.mono Lw6
    replace B2 := B2.below hB27
    replace B3 := B3.below hB27
    rw [zT, hyv] at hf27
    have hyl2 : (limbs (l.getD s 0).natAbs).length ≤ n0 := by rw [← hyv]; exact Nat.le_trans (yD ys hn26.lt) hyl
    have hn27 := hf27.nat hM27; replace hf27 := hf27.less hS27
    exact on1 hB27 rfl ⟨hn27, hyl2⟩
   refine xQ (fun wq5 hR5 hpost5 => ?_)
   refine zQ rfl rfl (zQ rfl rfl (zQ rfl rfl (zQ rfl rfl (yY rfl (fun v19 hp19 => ?_)))))
   obtain ⟨s19, rfl, hsg19⟩ := hp19
   refine yY rfl (fun v27 hp27 => ?_)
   obtain ⟨hn27, hyl2⟩ := hp27
   refine zF ?_
   simp only [jW, jV, jU, jT]
   have Lwq5 := Le.of_below (Fz := Fz) (M := (Ins b3 (Ins b2 M))) hR5
   replace LL := LL.trans Lwq5
   replace LR := LR.trans Lwq5
   replace hM := hM.mono Lwq5
   replace hF := hF.mono Lwq5
   replace h0 := h0.mono Lwq5
   replace hn5 := hn5.mono Lwq5
   replace hn3 := hn3.mono Lwq5
   replace B2 := B2.below hR5
   replace B3 := B3.below hR5
   refine xO rfl kT rfl rfl (yB (gF rfl) (yB (gF (by first | rfl | exact yM (by assumption) | exact yO (by assumption) | assumption)) xI)) rfl ?_
   have hz28 : ZQ (Ins b3 (Ins b2 M)) wq5 (s * n0 + 2 + n0) (uU (l.take s) * l.getD s 0) (xs3 != s19) v27 := ⟨_, hn27, xG (by have a1 := yU hn3.len; have a2 := yU hyl2; exact gK a1 a2), by rw [hn3.sgn]; exact zv_prod hsg19⟩
   have hsn : s * n0 ≤ 2 * n0 := Nat.mul_le_mul_right _ (by omega)
   refine zI rfl (bo func155) rfl rfl ?_
   refine (qW (M := (Ins b3 (Ins b2 M))) hz28 (by omega) hM).mono ?_
   rintro v29 w7 ⟨hB29, xs29, xa29, rfl, hn29⟩
   have Lw7 := Le.of_below (Fz := Fz) (M := (Ins b3 (Ins b2 M))) hB29
   replace LL := LL.trans Lw7
   replace LR := LR.trans Lw7
   replace hM := hM.mono Lw7
   replace hF := hF.mono Lw7
   replace h0 := h0.mono Lw7
   replace hn5 := hn5.mono Lw7
   replace hn3 := hn3.mono Lw7
   replace hn27 := hn27.mono Lw7
   replace hz28 := hz28.mono Lw7
   replace B2 := B2.below hB29
   replace B3 := B3.below hB29
   obtain ⟨oxa29, _⟩ := hn29.one
   refine yC rfl rfl yV B3 rfl rfl (yK (yK jI)) rfl (fun w8 Cw8 B3 => ?_)
   have Lw8 := Le.of_chg (M := (Ins b3 (Ins b2 M))) Cw8 zO nF3
   replace LL := LL.trans Lw8
   replace LR := LR.trans Lw8
   replace hM := hM.mono Lw8
   replace hF := hF.mono Lw8
   replace h0 := h0.mono Lw8
   replace hn5 := hn5.mono Lw8
   replace hn3 := hn3.mono Lw8
   replace hn27 := hn27.mono Lw8
   replace hz28 := hz28.mono Lw8
   replace hn29 := hn29.mono Lw8
   replace B2 := B2.other Cw8 ne2_3
   try simp only [List.set_cons_zero, List.set_cons_succ, List.take_succ_cons, List.take_zero, List.drop_succ_cons, List.drop_zero, List.drop_nil, List.cons_append, List.nil_append, List.append_nil] at B3
   refine zD (zB (zA rfl rfl (yW rfl rfl rfl (by omega) (zC rfl rfl (zD ?_)))))
   refine ⟨rfl, s + 1, (zS rfl (by rw [Int.natCast_add]; rfl) (zH rfl (zH rfl (zH rfl yE)))), ?_, ?_⟩
   have e2 : (s + 1) * n0 + 2 = s * n0 + 2 + n0 := by rw [Nat.add_mul, Nat.one_mul]; omega
   exact ⟨LR, by omega, B2, _, _, B3, by rw [prod_take (by omega), e2]; exact hn29⟩
   omega
  ·refine xK (xM (zG (zB (zP rfl xU yV rfl B3 rfl rfl (yC rfl rfl yV B2 rfl rfl (yK (yK jI)) rfl (fun w9 Cw9 B2 => ?_))))))
   have Lw9 := Le.of_chg (M := (Ins b3 (Ins b2 M))) Cw9 (.inr zO) nF2
   replace LL := LL.trans Lw9
   replace LR := LR.trans Lw9
   replace hM := hM.mono Lw9
   replace hF := hF.mono Lw9
   replace h0 := h0.mono Lw9
   replace hn5 := hn5.mono Lw9
   replace hn3 := hn3.mono Lw9
   replace B3 := B3.other Cw9 ne2_3.symm
   try simp only [List.set_cons_zero, List.set_cons_succ, List.take_succ_cons, List.take_zero, List.drop_succ_cons, List.drop_zero, List.drop_nil, List.cons_append, List.nil_append, List.append_nil] at B2
   refine zD (zR ?_)
   refine lv1 ⟨⟨_, rfl, yT xU yV B2 rfl rfl⟩, trivial⟩ ?_
   obtain rfl : s = l.length := by omega
   rw [List.take_length] at hn3
   have hsn : l.length * n0 ≤ 2 * n0 := Nat.mul_le_mul_right _ (by omega)
   subst hFz
   exact ⟨LL.b, _, _, rfl, (hn3.less (fun k c => zM (zM c))).up (by omega)⟩
theorem tz_even {t : Nat} (h0 : t ≠ 0) (h : t % 2 = 0) : tz t = tz (t / 2) + 1 := by
  conv => lhs; rw [tz]
  rw [dif_neg (by omega)]
theorem tz_odd {t : Nat} (h : t % 2 = 1) : tz t = 0 := by rw [tz, dif_pos (.inl h)]
theorem tz_mul : ∀ (k m : Nat), m ≠ 0 → tz (2 ^ k * m) = k + tz m
  | 0, m, h => by simp
  | k + 1, m, h => by
    have hp : 2 ^ k * m ≠ 0 := Nat.mul_ne_zero (Nat.pos_iff_ne_zero.1 (Nat.pow_pos (by omega))) h
    have e : 2 ^ (k + 1) * m = 2 * (2 ^ k * m) := by rw [Nat.pow_succ, Nat.mul_comm (2 ^ k) 2, Nat.mul_assoc]
    rw [e, tz_even (by omega) (by omega), Nat.mul_div_cancel_left _ (by omega), tz_mul k m h]; omega
def od (x : Nat) : Nat := x / 2 ^ tz x
theorem eA {x : Nat} (h : x ≠ 0) : x = 2 ^ tz x * od x ∧ od x % 2 = 1 := dV x h
theorem aQ (x : Nat) : od x ≤ x := Nat.div_le_self _ _
theorem tz_low {x r : Nat} (hx : x ≠ 0) (hx2 : x < 4294967296) : tz (x + 4294967296 * r) = tz x := by
  obtain ⟨h1, h2⟩ := eA hx
  have hk := fZ (n := 32) hx (Nat.lt_of_lt_of_eq hx2 (by decide))
  obtain ⟨i, hi⟩ : ∃ i, 32 = tz x + (i + 1) := ⟨32 - tz x - 1, by omega⟩
  have e : x + 4294967296 * r = 2 ^ tz x * (od x + 2 * (2 ^ i * r)) := by
    have : (4294967296 : Nat) = 2 ^ tz x * (2 ^ i * 2) := by rw [← Nat.pow_succ, ← Nat.pow_add, ← hi]
    rw [this, Nat.mul_add, ← h1]; congr 1
    simp only [Nat.mul_assoc, Nat.mul_left_comm, Nat.mul_comm]
  rw [e]; generalize 2 ^ i * r = q
  rw [tz_mul _ _ (by omega), tz_odd (t := od x + 2 * q) (by omega)]; rfl
theorem val_low : ∀ (s : Nat) (xs : List Nat), (∀ j, j < s → xs.getD j 0 = 0) → s < xs.length → ∃ r, val xs = 2 ^ (32 * s) * (xs.getD s 0 + 4294967296 * r)
  | 0, x :: xs, _, _ => ⟨val xs, by simp [val]⟩
  | s + 1, x :: xs, h, hl => by
    obtain ⟨r, hr⟩ := val_low s xs (fun j hj => by have := h (j + 1) (by omega); simpa using this) (by simpa using hl)
    have h0 : x = 0 := by have := h 0 (by omega); simpa using this
    refine ⟨r, ?_⟩
    have e : 2 ^ (32 * (s + 1)) = 4294967296 * 2 ^ (32 * s) := by rw [Nat.mul_add, Nat.pow_add, Nat.mul_comm]
    rw [val, h0, hr, e, Nat.mul_assoc]; simp
theorem tz_limbs {xs : List Nat} {s : Nat} (hlt : ∀ x ∈ xs, x < 4294967296) (h : ∀ j, j < s → xs.getD j 0 = 0) (hs : s < xs.length) (h0 : xs.getD s 0 ≠ 0) : tz (val xs) = 32 * s + tz (xs.getD s 0) := by
  obtain ⟨r, hr⟩ := val_low s xs h hs
  rw [hr, tz_mul _ _ (by omega), tz_low h0 (qK hlt s)]
theorem val_zero_all {xs : List Nat} (h : ∀ j, j < xs.length → xs.getD j 0 = 0) : val xs = 0 := by
  have := dF (xs := xs) (n := 0) (fun j _ => by
    rcases Nat.lt_or_ge j xs.length with c | c
    · exact h j c
    · exact gA c)
  simpa [val] using this.symm
theorem gcd_od {x y : Nat} (hx : x ≠ 0) (hy : y ≠ 0) : Nat.gcd x y = Nat.gcd (od x) (od y) * 2 ^ min (tz x) (tz y) := by
  obtain ⟨h1, h2⟩ := eA hx; obtain ⟨k1, k2⟩ := eA hy
  rcases Nat.le_total (tz x) (tz y) with h | h
  · obtain ⟨i, hi⟩ : ∃ i, tz y = tz x + i := ⟨tz y - tz x, by omega⟩
    rw [Nat.min_eq_left h]
    conv => lhs; rw [h1, k1, hi, Nat.pow_add, Nat.mul_assoc, Nat.gcd_mul_left, uS h2]
    rw [Nat.mul_comm]
  · obtain ⟨i, hi⟩ : ∃ i, tz x = tz y + i := ⟨tz x - tz y, by omega⟩
    rw [Nat.min_eq_right h]
    conv => lhs; rw [h1, k1, hi, Nat.pow_add, Nat.mul_assoc, Nat.gcd_mul_left, Nat.gcd_comm, uS k2, Nat.gcd_comm]
    rw [Nat.mul_comm]
def GI (G A B : Nat) : Prop := B ≠ 0 ∧ (A ≠ 0 → Nat.gcd (od A) (od B) = G) ∧ (A = 0 → B = G)
theorem gi_step {G A B : Nat} (h : GI G A B) (hA : A ≠ 0) : (od B ≤ od A → GI G (od A - od B) (od B) ∧ od A - od B + od B < A + B) ∧ (od A ≤ od B → GI G (od B - od A) (od A) ∧ od B - od A + od A < A + B) := by
  have hg := h.2.1 hA
  obtain ⟨a1, a2⟩ := eA hA; obtain ⟨b1, b2⟩ := eA h.1
  have la := aQ A
  have lb := aQ B
  have key : ∀ a b : Nat, a % 2 = 1 → b % 2 = 1 → Nat.gcd a b = G → b ≤ a → GI G (a - b) b := fun a b ha hb hab hle => by
    refine ⟨by omega, fun h0 => ?_, fun h0 => ?_⟩
    · obtain ⟨c1, c2⟩ := eA h0
      have ob : od b = b := by unfold od; rw [tz_odd hb]; simp
      rw [ob, Nat.gcd_comm, ← uS (k := tz (a - b)) hb, ← c1, Nat.gcd_comm]
      have := Nat.gcd_sub_self_left (m := b) (n := a) (by omega)
      rw [this]; exact hab
    · obtain rfl : a = b := by omega
      rw [Nat.gcd_self] at hab; exact hab
  exact ⟨fun hle => ⟨key _ _ a2 b2 hg hle, by omega⟩, fun hle => ⟨key _ _ b2 a2 (by rw [Nat.gcd_comm]; exact hg) hle, by omega⟩⟩
theorem cntN_id {n m : Nat} (h : n ≤ m) : aU ((n : Nat) : Int) ((m : Nat) : Int) = n := by unfold aU; omega
theorem cntN_min {a b : Nat} (h : min a b ≤ 65536) : aU (min ((a : Nat) : Int) ((b : Nat) : Int)) 65536 = min a b := by unfold aU; omega
theorem ops_rem32 {P : Program} {r : Option Nat} {N : Nat} {all : Array Oper} {K : Pd} {D : List Deferred} {E : Env} {w : World} {rest : List Oper} {d : Nat} {x y : Operand} {tx ty t : TypeId} {pos : String} {af : Array Edge} {a b : Nat} (hd : Nat.blt d N = true)
    (hx : ev E x = some (.int .u32 (a : Int))) (hy : ev E y = some (.int .u32 (b : Int))) (hb : 0 < b)
    (h : Ops P r N all K rest D ((d, .int .u32 ((a % b : Nat) : Int)) :: E) w) : Ops P r N all K (⟨some d, .binOp .rem tx x y ty, t, pos, af, none⟩ :: rest) D E w :=
  cW hd (.inr rfl) hx hy (by omega) (by rw [Int.tmod_eq_emod_of_nonneg (by omega)]; rfl) h
theorem tz_bound {x n : Nat} (h0 : x ≠ 0) (h : (limbs x).length ≤ n) : tz x < 32 * n := fZ h0 (by have := yU h; rwa [show (4294967296 : Nat) = 2 ^ 32 by decide, ← Nat.pow_mul] at this)
theorem plain7_c {a b : Nat} (ha : a < 18446744073709551616) (hb : b < 18446744073709551616) (hM : OkM M w) :
    CallsV prog 168 [.int .u64 (a : Int), .int .u64 (b : Int)] w fun r w' => Bel w.heap.size w w' ∧ r = .int .u64 ((Nat.gcd a b : Nat) : Int) := by
 refine ci M func168 ntmps168 fun Fz hFz hF LL => ?_
 refine zG (zB (zC rfl rfl (zD (zG (zZ ?_)))))
 refine xR (σ := Nat × Nat) [] (fun s => [(0, .int .u64 ((s.1 : Nat) : Int)), (1, .int .u64 ((s.2 : Nat) : Int))]) (fun s w1 => Le Fz M w M w1 ∧ s.1 < 18446744073709551616 ∧ s.2 < 18446744073709551616 ∧ Nat.gcd s.1 s.2 = Nat.gcd a b) (fun s => s.2) ((a, b)) (zH rfl (zH rfl yE)) ?_ (fun s w1 hJ => ?_)
 · dsimp only
   exact ⟨Le.refl _ _ _, ha, hb, rfl⟩
 ·obtain ⟨p, q⟩ := s
  dsimp only at hJ ⊢
  obtain ⟨LR, hp, hq, hg⟩ := hJ
  replace LL := LL.trans LR
  refine zG (zG (zB (zA rfl rfl (kO rfl rfl rfl (zD ?_)))))
  refine zU rfl (fun hc0 => ?_) (fun hc0 => ?_)
  ·refine yG (zZ ?_)
   refine wd mixed 5 [0, 1, 10] (by decide +kernel) ?_
   refine zL (fun _ _ _ => zQ rfl rfl (zF (zA rfl rfl (on0 rfl)))) ?_
   refine zL (fun _ _ _ => zQ rfl rfl (zF (zA rfl rfl (on0 rfl)))) ?_
   refine zL (fun _ _ _ => zQ rfl rfl (zF (zA rfl rfl (on0 rfl)))) ?_
   apply zL
   ·intro wq hR hst
    refine zK rfl (zK rfl (zF ?_))
    exact ops_remu rfl rfl rfl (by omega) (on0 rfl)
   refine zL (fun _ _ _ => zK rfl (zF (zC rfl rfl (on0 rfl)))) ?_
   refine xQ (fun wq2 hR2 hpost2 => ?_)
   refine zK rfl (zQ rfl rfl (zK rfl (zF ?_)))
   simp only [jW, jV, jU, jT]
   replace LR := ub1 hR2 LR
   refine zC rfl rfl (zD ?_)
   refine ⟨rfl, (q, p % q), (zS rfl (rfl) (zS rfl (rfl) yE)), ?_, ?_⟩
   dsimp only
   have hlt := Nat.mod_lt p (show 0 < q by omega)
   exact ⟨LR, hq, by omega, by rw [← hg, Nat.gcd_comm, ← Nat.gcd_rec, Nat.gcd_comm]⟩
   dsimp only
   exact Nat.mod_lt p (by omega)
  ·refine xK (xM (zG (zB (zA rfl rfl (zC rfl rfl (zD (zR ?_)))))))
   refine lv1 ⟨rfl, trivial⟩ ?_
   obtain rfl : q = 0 := by omega
   rw [Nat.gcd_zero_right] at hg
   subst hFz
   exact ⟨LL.b, by rw [hg]⟩
theorem twos_c {v : Value} {xs : List Nat} (h : IsNat M w v xs) (h0 : val xs ≠ 0) (hl : xs.length ≤ 1000000) (hM : OkM M w) :
    CallsV prog 226 [v] w fun r w' => Bel w.heap.size w w' ∧ r = .int .i64 ((tz (val xs) : Nat) : Int) := by
 refine ci M func226 ntmps226 fun Fz hFz hF LL => ?_
 refine zG (zB (zC rfl rfl (zD (zG (zB (zC rfl rfl (zD (zG (zG (zB (zC rfl rfl (zD (zZ ?_)))))))))))))
 refine xR (σ := Nat) [(0, _)] (fun s => [(3, .int .i64 ((32 * s : Nat) : Int)), (4, .int .i64 ((s : Nat) : Int))]) (fun s w1 => Le Fz M w M w1 ∧ s ≤ xs.length ∧ ∀ j, j < s → xs.getD j 0 = 0) (fun s => xs.length - s) (0) (zH rfl (zH rfl (zH rfl yE))) ?_ (fun s w1 hJ => ?_)
 · exact ⟨Le.refl _ _ _, by omega, fun j hj => by omega⟩
 ·obtain ⟨LR, hs, hz⟩ := hJ
  obtain ⟨LL, h⟩ := up2 LR LL h
  refine zG (zG (zB (zA rfl rfl (zA rfl rfl ?_))))
  refine xB rfl yu29 rfl ?_
  refine jE rfl rfl rfl (zA rfl rfl (gV (d := 10) rfl (fun hg3_4 => ?_) (fun hg3_4 => ?_)))
  ·have hsl : s < xs.length := by omega
   refine yA rfl rfl (zA rfl rfl (yA rfl rfl (zA rfl rfl (yA rfl rfl (jR (s) rfl yu29 yS rfl rfl (by assumption) (by omega) (by omega) (fun b13 o13 hc13 hb13 => ?_))))))
   refine yA rfl rfl (xL rfl xZ rfl hc13 (yA rfl rfl (gL rfl rfl rfl (xY rfl rfl rfl (zD ?_)))))
   refine zU rfl (fun hc0 => ?_) (fun hc0 => ?_)
   ·refine yG (zG (zZ (zB (zA rfl rfl (yW rfl rfl rfl (by omega) (zC rfl rfl (zD (zB (zA rfl rfl (yW rfl rfl rfl (by omega) (zC rfl rfl (zD ?_))))))))))))
    refine ⟨rfl, s + 1, (zS rfl (by first | rfl | (show Value.int .i64 _ = Value.int .i64 _; congr 1; omega)) (zS rfl (by rw [Int.natCast_add]; rfl) (zH rfl yE))), ?_, ?_⟩
    exact ⟨LR, by omega, fun j hj => by
      rcases Nat.lt_or_ge j s with c | c
      · exact hz j c
      · obtain rfl : j = s := by omega
        omega⟩
    omega
   ·have hnz : xs.getD s 0 ≠ 0 := fun c => hc0 (by rw [c]; rfl)
    have hsl2 : s < xs.length := hsl
    have htl := tz_limbs h.lt hz hsl hnz
    have hxb := h.lim s
    refine xK (xM (zG (zG (zB (zA rfl rfl (zA rfl rfl (uM rfl rfl rfl (by omega) (jR (s) rfl yu29 yS rfl rfl (by assumption) (by omega) (by omega) (fun b24 o24 hc24 hb24 => ?_)))))))))
    refine xL rfl xZ rfl hc24 (zC rfl rfl (zD (zZ ?_)))
    refine xR (σ := Nat × Nat) [] (fun s => [(3, .int .i64 ((s.1 : Nat) : Int)), (5, .int .u32 ((s.2 : Nat) : Int))]) (fun s w2 => Le Fz M w1 M w2 ∧ s.2 ≠ 0 ∧ s.2 < 4294967296 ∧ s.1 + tz s.2 = tz (val xs) ∧ s.1 + s.2 ≤ 4294967296 + 32 * 1000000) (fun s => s.2) ((32 * s, xs.getD s 0)) (zH rfl (zH rfl yE)) ?_ (fun s w2 hJ => ?_)
    · dsimp only
      exact ⟨Le.refl _ _ _, hnz, hxb, by rw [htl], by omega⟩
    ·obtain ⟨n, t⟩ := s
     dsimp only at hJ ⊢
     obtain ⟨LR2, ht0, htb, hnt, hnb⟩ := hJ
     obtain ⟨LL, h⟩ := up2 LR2 LL h
     refine zG (zG (zB (zA rfl rfl (ops_rem32 (b := 2) rfl rfl rfl (by omega) (gL rfl rfl rfl (zD ?_))))))
     refine zU rfl (fun hc1 => ?_) (fun hc1 => ?_)
     ·refine yG (zG (zZ (zB (zA rfl rfl (yW rfl rfl rfl (by omega) (zC rfl rfl (zD (zB (zA rfl rfl (ops_quo32 (b := 2) rfl rfl rfl (by omega) (by omega) (zC rfl rfl (zD ?_))))))))))))
      refine ⟨rfl, (n + 1, t / 2), (zS rfl (by rw [Int.natCast_add]; rfl) (zS rfl (rfl) yE)), ?_, ?_⟩
      dsimp only
      have := tz_even ht0 (by omega)
      exact ⟨LR2, by omega, by omega, by omega, by omega⟩
      dsimp only
      omega
     ·refine xK (xM (zG (zB (zA rfl rfl (zC rfl rfl (zD (zR ?_)))))))
      refine lv1 ⟨rfl, trivial⟩ ?_
      have := tz_odd (t := t) (by omega)
      subst hFz
      exact ⟨LL.b, by rw [← hnt, this, Nat.add_zero]⟩
  ·exact absurd (val_zero_all fun j hj => hz j (by omega)) h0
theorem gcd4_c {v u : Value} {xs ys : List Nat} (h1 : IsNat M w v xs) (h2 : IsNat M w u ys) (hl1 : xs.length ≤ 2000) (hl2 : ys.length ≤ 2000) (hM : OkM M w) :
    CallsV prog 169 [v, u] w fun r w' => Bel w.heap.size w w' ∧ IsNat M w' r (limbs (Nat.gcd (val xs) (val ys))) := by
 have hxl := yD xs h1.lt
 have hyl := yD ys h2.lt
 refine ci M func169 ntmps169 fun Fz hFz hF LL => ?_
 refine zG (zB (zC rfl rfl (zD (zG (zB (zA rfl rfl (zI rfl (bo func86) rfl rfl ?_)))))))
 refine (qA h1 (by omega) hM).mono ?_
 rintro v7 w1 ⟨hB7, hf7⟩
 have hM7 := hM
 have hS7 := LL.size
 obtain ⟨LL, hM, h2⟩ := ub3 hB7 LL hM h2
 have hn7 := hf7.nat hM7
 refine zA rfl rfl (zI rfl (bo func86) rfl rfl ?_)
 refine (qA h2 (by omega) hM).mono ?_
 rintro v9 w2 ⟨hB9, hf9⟩
 have hM9 := hM
 have hS9 := LL.size
 obtain ⟨LL, hM, hn7⟩ := ub3 hB9 LL hM hn7
 have hn9 := hf9.nat hM9
 refine zC rfl rfl (zC rfl rfl (zD (zG (zG (zB (zA rfl rfl ?_))))))
 refine xB rfl yu29 rfl ?_
 refine gL rfl rfl rfl (zA rfl rfl (gV (d := 13) rfl (fun hg2_3 => ?_) (fun hg2_3 => ?_)))
 ·have hx0 : val xs = 0 := xF.1 (by omega)
  refine zY rfl rfl rfl rfl (zY rfl rfl rfl rfl (zY rfl rfl rfl rfl (xY rfl rfl rfl (zD (aW rfl (zG (zB (zA rfl rfl (zA rfl rfl (yR rfl yu255 xS rfl rfl rfl (iY (by first | rfl | exact yM (by assumption) | exact yO (by assumption) | assumption) (by first | rfl | exact yM (by assumption) | exact yO (by assumption) | assumption)) rfl (fun w3 b20 N20 => ?_)))))))))))
  have hBw3 := N20.below
  have nM20 := hM.new N20
  have B20 := N20.blk
  obtain ⟨LL, hM, hn7, hn9⟩ := ub4 hBw3 LL hM hn7 hn9
  have hn20 := fQ B20 nM20 hn7 hn9
  refine zI rfl (bo func225) rfl rfl ?_
  refine (radd_c hn20 (by intro q hq; rcases List.mem_cons.1 hq with rfl | hq; omega; rcases List.mem_cons.1 hq with rfl | hq; omega; cases hq) (by simp) hM).mono ?_
  rintro v21 w4 ⟨hB21, hf21⟩
  have hM21 := hM
  have hS21 := LL.size
  replace LL := ub1 hB21 LL
  simp only [List.map_cons, List.map_nil, List.sum_cons, List.sum_nil, Nat.add_zero, zT] at hf21
  have hn21 := hf21.nat hM21
  refine zC rfl rfl (zD (zR ?_))
  refine lv1 ⟨rfl, trivial⟩ ?_
  have e : Nat.gcd (val xs) (val ys) = val xs + val ys := by rw [hx0]; simp
  rw [e]
  subst hFz
  exact ⟨LL.b, hn21⟩
 ·have hx0 : val xs ≠ 0 := fun c => hg2_3 (by rw [c, xE]; rfl)
  refine yA rfl rfl (zA rfl rfl (yA rfl rfl ?_))
  refine xB rfl yu29 rfl ?_
  refine yA rfl rfl (gL rfl rfl rfl (xY rfl rfl rfl (zD ?_)))
  refine zU rfl (fun hc0 => ?_) (fun hc0 => ?_)
  ·have hy0 : val ys = 0 := xF.1 (by omega)
   refine zG (zB (zA rfl rfl (zA rfl rfl (yR rfl yu255 xS rfl rfl rfl (iY (by first | rfl | exact yM (by assumption) | exact yO (by assumption) | assumption) (by first | rfl | exact yM (by assumption) | exact yO (by assumption) | assumption)) rfl (fun w5 b20 N20 => ?_)))))
   have hBw5 := N20.below
   have nM20 := hM.new N20
   have B20 := N20.blk
   obtain ⟨LL, hM, hn7, hn9⟩ := ub4 hBw5 LL hM hn7 hn9
   have hn20 := fQ B20 nM20 hn7 hn9
   refine zI rfl (bo func225) rfl rfl ?_
   refine (radd_c hn20 (by intro q hq; rcases List.mem_cons.1 hq with rfl | hq; omega; rcases List.mem_cons.1 hq with rfl | hq; omega; cases hq) (by simp) hM).mono ?_
   rintro v21 w6 ⟨hB21, hf21⟩
   have hM21 := hM
   have hS21 := LL.size
   replace LL := ub1 hB21 LL
   simp only [List.map_cons, List.map_nil, List.sum_cons, List.sum_nil, Nat.add_zero, zT] at hf21
   have hn21 := hf21.nat hM21
   refine zC rfl rfl (zD (zR ?_))
   refine lv1 ⟨rfl, trivial⟩ ?_
   have e : Nat.gcd (val xs) (val ys) = val xs + val ys := by rw [hy0]; simp
   rw [e]
   subst hFz
   exact ⟨LL.b, hn21⟩
  ·have hy0 : val ys ≠ 0 := fun c => hc0 (by rw [c, xE]; rfl)
   have hxl2 : (limbs (val xs)).length ≤ 2000 := by omega
   have hyl2 : (limbs (val ys)).length ≤ 2000 := by omega
   refine yG (zG (zB (zA rfl rfl (zI rfl (bo func226) rfl rfl ?_))))
   refine (twos_c hn7 (by rw [zT]; exact hx0) (by omega) hM).mono ?_
   rintro v23 w7 ⟨hB23, rfl⟩
   obtain ⟨LL, hM, hn7, hn9⟩ := ub4 hB23 LL hM hn7 hn9
   rw [zT]
   refine zA rfl rfl (zI rfl (bo func226) rfl rfl ?_)
   refine (twos_c hn9 (by rw [zT]; exact hy0) (by omega) hM).mono ?_
   rintro v25 w8 ⟨hB25, rfl⟩
   obtain ⟨LL, hM, hn7, hn9⟩ := ub4 hB25 LL hM hn7 hn9
   rw [zT]
   refine dZ rfl rfl rfl (zC rfl rfl (zD (zG (zZ ?_))))
   refine xR (σ := Value × Value × Nat × Nat) [(5, _)] (fun s => [(0, s.1), (1, s.2.1)]) (fun s w9 => Le Fz M w8 M w9 ∧ IsNat M w9 s.1 (limbs s.2.2.1) ∧ IsNat M w9 s.2.1 (limbs s.2.2.2) ∧ (limbs s.2.2.1).length ≤ 2000 ∧ (limbs s.2.2.2).length ≤ 2000 ∧ GI (Nat.gcd (od (val xs)) (od (val ys))) s.2.2.1 s.2.2.2) (fun s => s.2.2.1 + s.2.2.2) ((v7, v9, val xs, val ys)) (zH rfl (zH rfl (zH rfl yE))) ?_ (fun s w9 hJ => ?_)
   · dsimp only
     exact ⟨Le.refl _ _ _, hn7, hn9, hxl2, hyl2, hy0, fun _ => rfl, fun c => absurd c hx0⟩
   ·obtain ⟨a, b, A, B⟩ := s
    dsimp only at hJ ⊢
    obtain ⟨LR, ha, hb, hal, hbl, hG⟩ := hJ
    obtain ⟨LL, hM⟩ := up2 LR LL hM
    refine zG (zG (zB (zA rfl rfl ?_)))
    refine xB rfl yu29 rfl ?_
    refine kO rfl rfl rfl (zD ?_)
    refine zU rfl (fun hc1 => ?_) (fun hc1 => ?_)
    ·have hA0 : A ≠ 0 := fun c => by rw [c, xE] at hc1; simp at hc1
     refine yG (zZ (zG (zB (zA rfl rfl (zA rfl rfl (zI rfl (bo func226) rfl rfl ?_))))))
     refine (twos_c ha (by rw [zT]; exact hA0) (by omega) hM).mono ?_
     rintro v32 w10 ⟨hB32, rfl⟩
     obtain ⟨LL, LR, hM, ha, hb⟩ := ub5 hB32 LL LR hM ha hb
     rw [zT]
     refine zI rfl (bo func227) rfl rfl ?_
     refine (rdown_c ha (by omega) hM).mono ?_
     rintro v33 w11 ⟨hB33, hf33⟩
     have hM33 := hM
     have hS33 := LL.size
     obtain ⟨LL, LR, hM, hb⟩ := ub4 hB33 LL LR hM hb
     rw [show (65536 : Int) = ((65536 : Nat) : Int) from rfl, cntN_id (by have := tz_bound hA0 hal; omega), zT, show A / 2 ^ tz A = od A from rfl] at hf33
     have hn33 := hf33.nat hM33
     refine zC rfl rfl (zD (zG (zB (zA rfl rfl (zA rfl rfl (zI rfl (bo func226) rfl rfl ?_))))))
     refine (twos_c hb (by rw [zT]; exact hG.1) (by omega) hM).mono ?_
     rintro v36 w12 ⟨hB36, rfl⟩
     obtain ⟨LL, LR, hM, hb, hn33⟩ := ub5 hB36 LL LR hM hb hn33
     rw [zT]
     refine zI rfl (bo func227) rfl rfl ?_
     refine (rdown_c hb (by omega) hM).mono ?_
     rintro v37 w13 ⟨hB37, hf37⟩
     have hM37 := hM
     have hS37 := LL.size
     obtain ⟨LR, hM, hn33⟩ := ub3 hB37 LR hM hn33
     rw [show (65536 : Int) = ((65536 : Nat) : Int) from rfl, cntN_id (by have := tz_bound hG.1 hbl; omega), zT, show B / 2 ^ tz B = od B from rfl] at hf37
     have hn37 := hf37.nat hM37
     refine zC rfl rfl (zD (zG (zG (zB (zA rfl rfl (zA rfl rfl (zI rfl (bo func228) rfl rfl ?_)))))))
     refine (rcmp_c hn33 hn37 (by have := yJ (aQ A); omega) (by have := yJ (aQ B); omega) hM).mono ?_
     rintro v40 w14 ⟨hB40, rfl⟩
     obtain ⟨LR, hM, hn33, hn37⟩ := ub4 hB40 LR hM hn33 hn37
     rw [zT, zT]
     refine jE rfl rfl rfl (zD ?_)
     refine zU rfl (fun hc2 => ?_) (fun hc2 => ?_)
     ·have hlt : od A < od B := by have := hc2; unfold fX at this; split at this <;> grind
      refine zB (zA rfl rfl (zA rfl rfl (zC rfl rfl (zC rfl rfl (zD (zB (zA rfl rfl (zA rfl rfl (zI rfl (bo func229) rfl rfl ?_)))))))))
      refine (fE (by assumption) (by assumption) (by have := yJ (aQ A); have := yJ (aQ B); omega) (by have := yJ (aQ A); have := yJ (aQ B); omega) hM).mono ?_
      rintro v47 w15 ⟨hB47, q47, rfl, hf47⟩
      have hMx := hM
      obtain ⟨LR, hn33⟩ := ub2 hB47 LR hn33
      rw [zT, zT] at hf47
      have hn47 := hf47.nat hMx
      refine zA rfl rfl (zX rfl rfl rfl (zX rfl rfl rfl (zC rfl rfl (zD ?_))))
      refine ⟨rfl, (q47, v33, od B - od A, od A), (zS rfl (rfl) (zS rfl (rfl) (zH rfl yE))), ?_, ?_⟩
      dsimp only
      have hl3 := yJ (show od B - od A ≤ B from Nat.le_trans (Nat.sub_le _ _) (aQ _))
      have hl4 := yJ (aQ A)
      exact ⟨LR, by simpa using hn47, hn33, by omega, by omega, (gi_step hG hA0).2 (Nat.le_of_lt hlt) |>.1⟩
      dsimp only
      exact (gi_step hG hA0).2 (Nat.le_of_lt hlt) |>.2
     ·have hge : od B ≤ od A := by have := hc2; unfold fX at this; split at this <;> grind
      refine yG (zB (zA rfl rfl (zA rfl rfl (zI rfl (bo func229) rfl rfl ?_))))
      refine (fE (by assumption) (by assumption) (by have := yJ (aQ A); have := yJ (aQ B); omega) (by have := yJ (aQ A); have := yJ (aQ B); omega) hM).mono ?_
      rintro v47 w16 ⟨hB47, q47, rfl, hf47⟩
      have hMx := hM
      obtain ⟨LR, hn37⟩ := ub2 hB47 LR hn37
      rw [zT, zT] at hf47
      have hn47 := hf47.nat hMx
      refine zA rfl rfl (zX rfl rfl rfl (zX rfl rfl rfl (zC rfl rfl (zD ?_))))
      refine ⟨rfl, (q47, v37, od A - od B, od B), (zS rfl (rfl) (zS rfl (rfl) (zH rfl yE))), ?_, ?_⟩
      dsimp only
      have hl3 := yJ (show od A - od B ≤ A from Nat.le_trans (Nat.sub_le _ _) (aQ _))
      have hl4 := yJ (aQ B)
      exact ⟨LR, by simpa using hn47, hn37, by omega, by omega, (gi_step hG hA0).1 hge |>.1⟩
      dsimp only
      exact (gi_step hG hA0).1 hge |>.2
    ·refine xK (xM (zG (zB (zA rfl rfl (zA rfl rfl (zI rfl (bo func187) rfl rfl ?_))))))
     refine (rup_c hb (by omega) hM).mono ?_
     rintro v52 w17 ⟨hB52, hf52⟩
     have hM52 := hM
     have hS52 := LL.size
     replace LL := ub1 hB52 LL
     rw [cntN_min (by have := tz_bound hx0 hxl2; omega), zT] at hf52
     have hn52 := hf52.nat hM52
     refine zC rfl rfl (zD (zR ?_))
     refine lv1 ⟨rfl, trivial⟩ ?_
     have hA0 : A = 0 := xF.1 (by omega)
     rw [hG.2.2 hA0, ← gcd_od hx0 hy0] at hn52
     subst hFz
     exact ⟨LL.b, hn52⟩
theorem limb_val {xs : List Nat} (h : ∀ x ∈ xs, x < 4294967296) (j : Nat) : xs.getD j 0 = val xs / 2 ^ (32 * j) % 2 ^ 32 := by
  have e : (2 : Nat) ^ (32 * j) = 4294967296 ^ j := by rw [Nat.pow_mul]
  rw [e, ← val_drop h j]
  rcases Nat.lt_or_ge j xs.length with c | c
  · rw [kR c, show (2 : Nat) ^ 32 = 4294967296 by decide, Nat.add_mul_mod_self_left]
    exact (Nat.mod_eq_of_lt (qK h j)).symm
  · rw [List.drop_of_length_le c, gA c]; rfl
theorem tb (x i : Nat) : x.testBit i = decide (x / 2 ^ i % 2 = 1) := Nat.testBit_eq_decide_div_mod_eq
theorem bit_of {xs : List Nat} (h : ∀ x ∈ xs, x < 4294967296) (i : Nat) : xs.getD (i / 32) 0 / 2 ^ (i % 32) % 2 = val xs / 2 ^ i % 2 := by
  have hk : i % 32 < 32 := Nat.mod_lt _ (by omega)
  have e : 32 * (i / 32) + i % 32 = i := Nat.div_add_mod i 32
  have h1 : (xs.getD (i / 32) 0).testBit (i % 32) = (val xs).testBit i := by
    rw [limb_val h, Nat.testBit_mod_two_pow, Nat.testBit_div_two_pow, Nat.add_comm (i % 32), e]; simp [hk]
  rw [tb, tb] at h1
  have h2 := decide_eq_decide.1 h1
  have a1 := Nat.mod_two_eq_zero_or_one (xs.getD (i / 32) 0 / 2 ^ (i % 32))
  have a2 := Nat.mod_two_eq_zero_or_one (val xs / 2 ^ i)
  generalize xs.getD (i / 32) 0 / 2 ^ (i % 32) % 2 = p at *
  generalize val xs / 2 ^ i % 2 = q at *
  omega
theorem or_bit {zs : List Nat} {i c : Nat} (h : ∀ z ∈ zs, z < 4294967296) (hv : val zs = c * 2 ^ (i + 1)) : zs.getD (i / 32) 0 ||| 2 ^ (i % 32) = zs.getD (i / 32) 0 + 2 ^ (i % 32) := by
  have hk : i % 32 < 32 := Nat.mod_lt _ (by omega)
  have e : 32 * (i / 32) + i % 32 = i := Nat.div_add_mod i 32
  obtain ⟨q, hq⟩ : ∃ q, 32 = i % 32 + 1 + q := ⟨32 - (i % 32 + 1), by omega⟩
  have h1 : zs.getD (i / 32) 0 = 2 ^ (i % 32 + 1) * (c % 2 ^ q) := by
    rw [limb_val h, hv]
    have : c * 2 ^ (i + 1) = 2 ^ (32 * (i / 32)) * (2 ^ (i % 32 + 1) * c) := by
      rw [← Nat.mul_assoc, ← Nat.pow_add, show 32 * (i / 32) + (i % 32 + 1) = i + 1 by omega, Nat.mul_comm]
    rw [this, Nat.mul_div_cancel_left _ (Nat.pow_pos (by omega))]
    rw [show (2 : Nat) ^ 32 = 2 ^ (i % 32 + 1) * 2 ^ q by rw [← Nat.pow_add, ← hq], Nat.mul_mod_mul_left]
  rw [h1]
  have := Nat.shiftLeft_add_eq_or_of_lt (b := 2 ^ (i % 32)) (i := i % 32 + 1) (Nat.pow_lt_pow_right (by omega) (by omega)) (c % 2 ^ q)
  rw [Nat.shiftLeft_eq, Nat.mul_comm] at this
  exact this.symm
theorem set_bit {zs : List Nat} {i : Nat} (hj : i / 32 < zs.length) : val (zs.set (i / 32) (zs.getD (i / 32) 0 + 2 ^ (i % 32))) = val zs + 2 ^ i := by
  have hv := bP (zs := zs) (j := i / 32) (zs.getD (i / 32) 0 + 2 ^ (i % 32)) hj
  have e : (4294967296 : Nat) ^ (i / 32) * 2 ^ (i % 32) = 2 ^ i := by
    rw [show (4294967296 : Nat) = 2 ^ 32 by decide, ← Nat.pow_mul, ← Nat.pow_add, Nat.div_add_mod i 32]
  rw [Nat.mul_add, e] at hv
  omega
theorem or_lt32 {a k : Nat} (ha : a < 4294967296) (hk : k < 32) : a ||| 2 ^ k < 4294967296 := Nat.or_lt_two_pow (n := 32) ha (Nat.pow_lt_pow_right (by omega) hk)
structure DI (X Y V R t : Nat) : Prop where
  eq : X = V * Y + 2 ^ t * R + X % 2 ^ t
  lt : R < Y
  dv : ∃ c, V = c * 2 ^ t
theorem di_step {X Y V R t i : Nat} (h : DI X Y V R t) (ht : t = i + 1) (b : Nat) (hb : X / 2 ^ i % 2 = b) : (Y ≤ 2 * R + b → DI X Y (V + 2 ^ i) (2 * R + b - Y) i) ∧ (2 * R + b < Y → DI X Y V (2 * R + b) i) := by
  subst ht
  obtain ⟨c, hc⟩ := h.dv
  have hm : X % 2 ^ (i + 1) = 2 ^ i * b + X % 2 ^ i := by
    rw [Nat.pow_succ, Nat.mod_mul, hb]; omega
  have hE := h.eq
  rw [hm, Nat.pow_succ] at hE
  have hlt := h.lt
  constructor
  · intro hle
    refine ⟨?_, by have := Nat.mod_two_eq_zero_or_one (X / 2 ^ i); omega, ⟨2 * c + 1, by rw [hc, Nat.pow_succ, Nat.add_mul, Nat.one_mul]; congr 1; rw [Nat.mul_comm 2 c, Nat.mul_assoc, Nat.mul_comm 2]⟩⟩
    obtain ⟨d, hd⟩ : ∃ d, 2 * R + b = Y + d := ⟨2 * R + b - Y, by omega⟩
    rw [hd, Nat.add_sub_cancel_left, Nat.add_mul]
    have e1 : 2 ^ i * (2 * R + b) = 2 ^ i * Y + 2 ^ i * d := by rw [hd, Nat.mul_add]
    have e2 : 2 ^ i * 2 * R = 2 ^ i * (2 * R) := by rw [Nat.mul_assoc]
    rw [Nat.mul_add] at e1
    rw [e2] at hE
    omega
  · intro hl
    refine ⟨?_, hl, ⟨2 * c, by rw [hc, Nat.pow_succ, Nat.mul_comm 2 c, Nat.mul_assoc, Nat.mul_comm 2]⟩⟩
    rw [Nat.mul_add]
    have e2 : 2 ^ i * 2 * R = 2 ^ i * (2 * R) := by rw [Nat.mul_assoc]
    rw [e2] at hE
    omega
theorem di_start {xs : List Nat} {Y f : Nat} (h : ∀ x ∈ xs, x < 4294967296) (hf : xs.length - ((limbs Y).length) + 1 ≤ f ∨ xs.length < (limbs Y).length) (hY : Y ≠ 0) : DI (val xs) Y 0 (val (xs.drop f)) (32 * f) := by
  have e : (2 : Nat) ^ (32 * f) = 4294967296 ^ f := by rw [Nat.pow_mul]
  refine ⟨?_, ?_, ⟨0, by simp⟩⟩
  · rw [val_drop h f, e, Nat.zero_mul, Nat.zero_add]; exact (Nat.div_add_mod _ _).symm
  · have h1 := gG (xs.drop f) (fun x hx => h x (List.mem_of_mem_drop hx))
    rw [List.length_drop] at h1
    have hl : (limbs Y).length ≠ 0 := fun c => hY (xF.1 c)
    have h2 : 4294967296 ^ ((limbs Y).length - 1) ≤ Y := Classical.byContradiction fun c => by
      have := xG (Nat.lt_of_not_le c); omega
    exact Nat.lt_of_lt_of_le h1 (Nat.le_trans (Nat.pow_le_pow_right (by omega) (by omega)) h2)
theorem di_end {X Y V R : Nat} (h : DI X Y V R 0) : V = X / Y ∧ R = X % Y := by
  have hE := h.eq
  rw [Nat.pow_zero, Nat.one_mul, Nat.mod_one, Nat.add_zero] at hE
  have := (Nat.div_mod_unique (a := X) (b := Y) (c := R) (d := V) (by have := h.lt; omega)).2 ⟨by rw [Nat.mul_comm]; omega, h.lt⟩
  exact ⟨this.1.symm, this.2.symm⟩
theorem div3_c {v u : Value} {xs ys : List Nat} (h1 : IsNat M w v xs) (h2 : IsNat M w u ys) (hl1 : xs.length ≤ 100000) (hl2 : ys.length ≤ 100000) (hy0 : val ys ≠ 0) (hM : OkM M w) :
    CallsV prog 170 [v, u] w fun r w' => Bel w.heap.size w w' ∧ ∃ q s, r = .tuple #[q, s, .int .i64 0] ∧ IsNat M w' q (limbs (val xs / val ys)) ∧ IsNat M w' s (limbs (val xs % val ys)) := by
 have hyl := yD ys h2.lt
 have hxl := yD xs h1.lt
 have hylp : (limbs (val ys)).length ≠ 0 := fun c => hy0 (xF.1 c)
 have lenY2 : (limbs (2 * val ys)).length ≤ ys.length + 1 := xG (by have := gG ys h2.lt; rw [Nat.pow_succ]; omega)
 refine ci M func170 ntmps170 fun Fz hFz hF LL => ?_
 refine zG (zB (zC rfl rfl (zC rfl rfl (zC rfl rfl (zD (zG (zG (zB (zA rfl rfl (zI rfl (bo func86) rfl rfl ?_))))))))))
 refine (qA h2 (by omega) hM).mono ?_
 rintro v14 w1 ⟨hB14, hf14⟩
 have hM14 := hM
 have hS14 := LL.size
 obtain ⟨LL, hM, hF, h1, h2⟩ := ub5 hB14 LL hM hF h1 h2
 have hn14 := hf14.nat hM14
 refine xB rfl yu29 rfl ?_
 refine gL rfl rfl rfl (zD ?_)
 refine zU rfl (fun hp => absurd hp (by omega)) (fun hc0 => ?_)
 refine yG (zG (zB (zA rfl rfl ?_)))
 refine xB rfl yu29 rfl ?_
 refine kN (xs.length) (xs.length) rfl yu29 yS rfl rfl rfl (by omega) (by omega) (by omega) (by omega) (by omega) (fun w2 b19 N19 => ?_)
 obtain ⟨_, nF19, nM19, Lw2, B19⟩ := nz hF hM N19
 obtain ⟨LL, hM, hF, h1, h2⟩ := up5 Lw2 LL hM hF h1 h2
 replace B19 : Blk w2 b19 107 ((List.replicate xs.length 0).map lw) := by simpa [lw] using B19
 refine zC rfl rfl (zD (zG (zB (zA rfl rfl ?_))))
 refine xB rfl yu29 rfl ?_
 refine zA rfl rfl (zI rfl (bo func86) rfl rfl ?_)
 refine (qA h2 (by omega) hM).mono ?_
 rintro v23 w3 ⟨hB23, hf23⟩
 have hM23 := hM
 have hS23 := LL.size
 obtain ⟨LL, hM, hF, h1, h2, B19⟩ := ub6 hB23 LL hM hF h1 h2 B19
 have hn23 := hf23.nat hM23
 refine xB rfl yu29 rfl ?_
 refine jJ rfl rfl rfl (by omega) (yW rfl rfl rfl (by omega) (kM rfl rfl rfl (zC rfl rfl ?_)))
 obtain ⟨f, hf⟩ : ∃ f : Nat, f = xs.length + 1 - (limbs (val ys)).length := ⟨_, rfl⟩
 have hfi : max (0 : Int) (((xs.length : Nat) : Int) - ((limbs (val ys)).length : Nat) + 1) = (f : Int) := by omega
 rw [hfi]
 have hfl : f ≤ xs.length := by omega
 have hst := di_start (f := f) h1.lt (by omega) hy0
 refine zD (zG (zB (yR rfl yu29 yS rfl rfl rfl (by simp) rfl (fun w4 b28 N28 => ?_))))
 have nF28 := hF.new N28
 have nM28 := hM.new N28
 have hBw4 := N28.below
 have Lw4 := Le.of_new_mo (Fz := Fz) (M := (Ins b19 M)) (v := Value.slice (some ⟨b28, 0, none⟩) 0 0) N28 rfl
 obtain ⟨B19, ne19_28⟩ := bn B19 N28
 obtain ⟨LL, hM, hF, h1, h2⟩ := up5 Lw4 LL hM hF h1 h2
 have Of : ∀ k, (Value.slice (some ⟨b28, 0, none⟩) 0 0).ownBlock = some k → ¬ Fz k := jQ nF28
 have Om : ∀ k, (Value.slice (some ⟨b28, 0, none⟩) 0 0).ownBlock = some k → ¬ (Ins b19 M) k := jQ nM28
 have Ow := aB (n := 0) (c := 0) N28.blk rfl (Nat.le_refl _) (by omega)
 refine zA rfl rfl (zA rfl rfl (gD (M := (Mo (Value.slice (some ⟨b28, 0, none⟩) 0 0) (Ins b19 M))) f xs.length rfl yu29 yS rfl h1.slc ⟨_, rfl⟩ rfl trivial hfl (Nat.le_refl _) (fun v31 hv31 => ?_)))
 have hn31 : IsNat (Mo (Value.slice (some ⟨b28, 0, none⟩) 0 0) (Ins b19 M)) w4 v31 (xs.drop f) := by have := h1.sub (l := f) (m := xs.length) (Nat.le_refl _) hv31; rwa [List.take_of_length_le (by simp)] at this
 refine jS rfl yu29 yS rfl rfl rfl Ow hn31.slc (iH _) (by simp only [List.length_drop]; omega) (by simp only [List.length_drop]; omega) (fun v32 w5 A32 G32 S32 => ?_)
 have Lw5 := Le.of_grown (Fz := Fz) (M := (Ins b19 M)) G32 S32 A32 Of
 have Omo32 := Om
 replace Of := jM (w' := w5) Of hF S32
 replace Om := jL (w' := w5) Om (fun k hk => hM k (.inr hk)) S32
 replace B19 := B19.grown G32 (fun h => Omo32 _ h zO)
 obtain ⟨LL, hM, h1, h2, hn31⟩ := up5 Lw5 LL hM h1 h2 hn31
 clear Ow; have Ow := A32
 refine zI rfl (bo func86) rfl rfl ?_
 refine (qA (xs := xs.drop f) ⟨by simpa using uL Ow (fun k hk c => Om k hk c) (by simp only [List.length_drop, List.length_nil]; omega), hn31.lt⟩ (by simp only [List.length_drop]; omega) (fun k hk => hM k (.inr hk))).mono ?_
 rintro v33 w6 ⟨hB33, hf33⟩
 have hM33 : OkM (Ins b19 M) _ := fun k hk => hM k (.inr hk)
 obtain ⟨LL, hM, h1, h2, B19⟩ := ub5 hB33 LL hM h1 h2 B19
 replace Ow := xH Ow hB33
 have hn33 := hf33.nat hM33
 refine zC rfl rfl (zD (zG (zG (zB ?_))))
 have Lo := Le.mo_out (Fz := Fz) (v := v32) (M := (Ins b19 M)) (w := w6)
 obtain ⟨LL, hM, h1, h2⟩ := up4 Lo LL hM h1 h2
 clear Lo Ow Of Om
 refine zA rfl rfl (ops_mul rfl rfl rfl (by omega) (jJ rfl rfl rfl (by omega) (zC rfl rfl (zD (zZ ?_)))))
 refine xR (σ := Nat × Value × Nat × List Nat) [(0, _), (1, _), (7, _)] (fun s => [(9, s.2.1), (10, .int .i64 (((s.1 : Nat) : Int) - 1))]) (fun s w7 => Le Fz (Ins b19 M) w6 (Ins b19 M) w7 ∧ s.1 ≤ 32 * xs.length ∧ Blk w7 b19 107 (s.2.2.2.map lw) ∧ s.2.2.2.length = xs.length ∧ (∀ z ∈ s.2.2.2, z < 4294967296) ∧ IsNat (Ins b19 M) w7 s.2.1 (limbs s.2.2.1) ∧ DI (val xs) (val ys) (val s.2.2.2) s.2.2.1 s.1) (fun s => s.1) ((32 * f, v33, val (xs.drop f), List.replicate xs.length 0)) (zH rfl (zS rfl (by congr 1) (zH rfl (zH rfl (zH rfl yE))))) ?_ (fun s w7 hJ => ?_)
 · dsimp only
   exact ⟨Le.refl _ _ _, by omega, B19, by simp, by intro z hz; have := (List.mem_replicate.1 hz).2; omega, hn33, by rw [kD]; exact hst⟩
 ·obtain ⟨t, r9, s2, zs⟩ := s
  dsimp only at hJ ⊢
  obtain ⟨LR, ht, B19, hzl, hzlt, hr, hDI⟩ := hJ
  have hs2l := yJ (Nat.le_of_lt hDI.lt)
  obtain ⟨LL, hM, h1, h2⟩ := up4 LR LL hM h1 h2
  refine zG (zG (zB (zA rfl rfl (kB rfl rfl rfl (zD ?_)))))
  refine zU rfl (fun hc1 => ?_) (fun hc1 => ?_)
  ·obtain ⟨i, rfl⟩ : ∃ i, t = i + 1 := ⟨t - 1, by omega⟩
   have hii : ((i + 1 : Nat) : Int) - 1 = (i : Int) := by omega
   simp only [hii]
   have hiz : (i : Int) / 32 = ((i / 32 : Nat) : Int) := by omega
   have hbit := bit_of h1.lt i
   have hbx := h1.lim (i / 32)
   have hki : i % 32 < 32 := Nat.mod_lt _ (by omega)
   obtain ⟨cv, hcv⟩ := hDI.dv
   have horb0 := or_bit hzlt hcv
   have hp2 : 2 ^ (i % 32) < 4294967296 := show 2 ^ (i % 32) < 2 ^ 32 from Nat.pow_lt_pow_right (by omega) hki
   have horb : zs.getD (i / 32) 0 ||| 1 * 2 ^ (i % 32) % 4294967296 = zs.getD (i / 32) 0 + 2 ^ (i % 32) := by rw [Nat.one_mul, Nat.mod_eq_of_lt hp2]; exact horb0
   have horlt : zs.getD (i / 32) 0 + 2 ^ (i % 32) < 4294967296 := by rw [← horb0]; exact or_lt32 (qK hzlt _) hki
   have hsb := set_bit (zs := zs) (i := i) (by omega)
   have hs1 := di_step hDI rfl 1
   have hs0 := di_step hDI rfl 0
   refine yG (zG (zZ (zG (zB (zA rfl rfl (zI rfl (bo func187) rfl rfl ?_))))))
   refine (rup_c hr (by omega) hM).mono ?_
   rintro v42 w8 ⟨hB42, hf42⟩
   have hM42 := hM
   have hS42 := LL.size
   obtain ⟨LL, LR, hM, h1, h2, B19⟩ := ub6 hB42 LL LR hM h1 h2 B19
   rw [show aU 1 65536 = 1 by decide, zT, Nat.pow_one] at hf42
   have hn42 := hf42.nat hM42
   refine zC rfl rfl (zD (zG (zG (zB (zA rfl rfl (zA rfl rfl (uM rfl rfl rfl (by omega) (jR (i / 32) rfl yu29 yS rfl rfl h1 hiz (by omega) (fun b46 o46 hc46 hb46 => ?_)))))))))
   refine xL rfl xZ rfl hc46 (zA rfl rfl (aC rfl rfl rfl (by omega) (xT (a := i % 32) rfl yu3 yu179 rfl (by omega) ?_)))
   refine jD (b := ((i % 32 : Nat) : Int)) rfl rfl rfl (by simp only [IntKind.bits]; omega) ?_
   simp only [Int.toNat_natCast]
   refine cF rfl rfl rfl (by simp only [IntKind.bits]; exact Nat.lt_of_le_of_lt (Nat.div_le_self _ _) hbx) (by simp only [IntKind.bits]; omega) (.inr rfl) (gL rfl rfl rfl (zD ?_))
   refine zU rfl (fun hc2 => ?_) (fun hc2 => ?_)
   ·have hb1 : val xs / 2 ^ i % 2 = 1 := by rw [← hbit]; have := hc2; rw [Nat.and_one_is_mod] at this; have := Nat.mod_two_eq_zero_or_one (xs.getD (i / 32) 0 / 2 ^ (i % 32)); grind
    refine zB (zA rfl rfl (yR rfl yu29 yS rfl rfl rfl (by simp [Value.oneCell', lw]) rfl (fun w9 b55 N55 => ?_)))
    have hBw9 := N55.below
    have nM55 := hM.new N55
    have B55 := N55.blk
    obtain ⟨LL, LR, hM, h2, hn42, B19⟩ := ub6 hBw9 LL LR hM h2 hn42 B19
    have hn55 : IsNat (Ins b19 M) w9 (.slice (some ⟨b55, 0, none⟩) 1 1) [1] := dB (xs := [1]) B55 nM55 rfl (by simp) (by simp)
    refine yR rfl yu255 xS rfl rfl rfl (iY (by first | rfl | exact yM (by assumption) | exact yO (by assumption) | assumption) (by first | rfl | exact yM (by assumption) | exact yO (by assumption) | assumption)) rfl (fun w10 b56 N56 => ?_)
    have hBw10 := N56.below
    have nM56 := hM.new N56
    have B56 := N56.blk
    obtain ⟨LL, LR, hM, h2, hn42, hn55, B19⟩ := ub7 hBw10 LL LR hM h2 hn42 hn55 B19
    have hn56 := fQ B56 nM56 hn42 hn55
    refine zI rfl (bo func225) rfl rfl ?_
    refine (radd_c hn56 (by intro q hq; rcases List.mem_cons.1 hq with rfl | hq; have := yJ (show s2 * 2 ≤ 2 * val ys by have := hDI.lt; omega); have := lenY2; omega; rcases List.mem_cons.1 hq with rfl | hq; simp; cases hq) (by simp) hM).mono ?_
    rintro v57 w11 ⟨hB57, hf57⟩
    have hM57 := hM
    have hS57 := LL.size
    obtain ⟨LR, hM, h2, B19⟩ := ub4 hB57 LR hM h2 B19
    simp only [List.map_cons, List.map_nil, List.sum_cons, List.sum_nil, Nat.add_zero, zT, show val [1] = 1 by decide] at hf57
    have hn57 := hf57.nat hM57
    refine zC rfl rfl (zD (zG (zB (zA rfl rfl (zA rfl rfl (zI rfl (bo func229) rfl rfl ?_))))))
    refine (fE (by assumption) h2 (by have := yJ (show s2 * 2 + 1 ≤ 2 * val ys by have := hDI.lt; omega); have := yJ (show s2 * 2 ≤ 2 * val ys by have := hDI.lt; omega); have := lenY2; omega) (by omega) hM).mono ?_
    rintro v61 w12 ⟨hB61, q61, rfl, hf61⟩
    have hMx := hM
    obtain ⟨LR, hn57, B19⟩ := ub3 hB61 LR hn57 B19
    rw [zT]
    rw [zT] at hf61
    have hn61 := hf61.nat hMx
    refine zA rfl rfl (zX rfl rfl rfl (zX rfl rfl rfl (zC rfl rfl (zC rfl rfl (zD (zG (zB (zA rfl rfl (gL rfl rfl rfl (zD ?_))))))))))
    refine zU rfl (fun hc3 => ?_) (fun hc3 => ?_)
    ·have hge : val ys ≤ s2 * 2 + 1 := by have h := hc3; split at h <;> omega
     refine zG (zB (zA rfl rfl (zC rfl rfl (zD (zB (zA rfl rfl (zA rfl rfl (uM rfl rfl rfl (by omega) (zA rfl rfl (zA rfl rfl (uM rfl rfl rfl (by omega) (qX (i / 32) rfl yu29 yS rfl rfl hiz (by omega) (xL rfl xZ rfl (cM (ex := []) (by rw [List.append_nil]; exact B19) (by omega)) (zA rfl rfl ?_))))))))))))))
     refine aC rfl rfl rfl (by omega) (xT (a := i % 32) rfl yu3 yu179 rfl (by omega) ?_)
     refine qV (b := ((i % 32 : Nat) : Int)) (a := 1) (m := 4294967296) rfl rfl rfl (by simp only [IntKind.bits]; omega) rfl (.inr rfl) ?_
     simp only [Int.toNat_natCast]
     refine uN rfl rfl rfl (by simp only [IntKind.bits]; exact Nat.lt_of_lt_of_eq (qK hzlt _) (by decide)) (by simp only [IntKind.bits]; exact Nat.lt_of_lt_of_eq (Nat.mod_lt _ (by omega)) (by decide)) (.inr rfl) (qX (i / 32) rfl yu29 yS rfl rfl hiz (by omega) (jB (i := i / 32) rfl rfl yS B19 rfl (by simp; omega) (fun w13 Cw13 Bw13 => ?_)))
     obtain ⟨LR, hn61⟩ := up2 (lc LR Cw13 zO nF19) LR hn61
     clear B19; have B19 := Bw13; clear Bw13; rw [show Value.int .u32 ((zs.getD (i / 32) 0 ||| 1 * 2 ^ (i % 32) % 4294967296 : Nat) : Int) = lw (zs.getD (i / 32) 0 + 2 ^ (i % 32)) from by rw [horb]; rfl, ← List.map_set] at B19
     refine zD (zB (zA rfl rfl (jJ rfl rfl rfl (by omega) (zC rfl rfl (zD ?_)))))
     refine ⟨rfl, (i, q61, s2 * 2 + 1 - val ys, zs.set (i / 32) (zs.getD (i / 32) 0 + 2 ^ (i % 32))), (zS rfl (rfl) (zS rfl (rfl) (zH rfl (zH rfl (zH rfl yE))))), ?_, ?_⟩
     dsimp only
     have hR2 := yJ (Nat.le_of_lt hDI.lt)
     exact ⟨LR, by omega, B19, by simp [hzl], kW hzlt horlt, hn61, by rw [hsb, Nat.mul_comm s2 2]; exact (hs1 hb1).1 (by omega)⟩
     dsimp only
     omega
    ·have hge : s2 * 2 + 1 < val ys := by have h := hc3; split at h <;> omega
     refine yG (zB (zA rfl rfl (jJ rfl rfl rfl (by omega) (zC rfl rfl (zD ?_)))))
     refine ⟨rfl, (i, v57, s2 * 2 + 1, zs), (zS rfl (rfl) (zS rfl (rfl) (zH rfl (zH rfl (zH rfl yE))))), ?_, ?_⟩
     dsimp only
     have hR2 := yJ (Nat.le_of_lt hDI.lt)
     exact ⟨LR, by omega, B19, by simp [hzl], hzlt, hn57, by rw [Nat.mul_comm s2 2]; exact (hs1 hb1).2 (by omega)⟩
     dsimp only
     omega
   ·have hb1 : val xs / 2 ^ i % 2 = 0 := by rw [← hbit]; have := hc2; rw [Nat.and_one_is_mod] at this; have := Nat.mod_two_eq_zero_or_one (xs.getD (i / 32) 0 / 2 ^ (i % 32)); grind
    refine yG (zG (zB (zA rfl rfl (zA rfl rfl (zI rfl (bo func229) rfl rfl ?_)))))
    refine (fE (by assumption) h2 (by have := yJ (show s2 * 2 + 1 ≤ 2 * val ys by have := hDI.lt; omega); have := yJ (show s2 * 2 ≤ 2 * val ys by have := hDI.lt; omega); have := lenY2; omega) (by omega) hM).mono ?_
    rintro v61 w14 ⟨hB61, q61, rfl, hf61⟩
    have hMx := hM
    obtain ⟨LR, hn42, B19⟩ := ub3 hB61 LR hn42 B19
    rw [zT]
    rw [zT] at hf61
    have hn61 := hf61.nat hMx
    refine zA rfl rfl (zX rfl rfl rfl (zX rfl rfl rfl (zC rfl rfl (zC rfl rfl (zD (zG (zB (zA rfl rfl (gL rfl rfl rfl (zD ?_))))))))))
    refine zU rfl (fun hc4 => ?_) (fun hc4 => ?_)
    ·have hge : val ys ≤ s2 * 2 := by have h := hc4; split at h <;> omega
     refine zG (zB (zA rfl rfl (zC rfl rfl (zD (zB (zA rfl rfl (zA rfl rfl (uM rfl rfl rfl (by omega) (zA rfl rfl (zA rfl rfl (uM rfl rfl rfl (by omega) (qX (i / 32) rfl yu29 yS rfl rfl hiz (by omega) (xL rfl xZ rfl (cM (ex := []) (by rw [List.append_nil]; exact B19) (by omega)) (zA rfl rfl ?_))))))))))))))
     refine aC rfl rfl rfl (by omega) (xT (a := i % 32) rfl yu3 yu179 rfl (by omega) ?_)
     refine qV (b := ((i % 32 : Nat) : Int)) (a := 1) (m := 4294967296) rfl rfl rfl (by simp only [IntKind.bits]; omega) rfl (.inr rfl) ?_
     simp only [Int.toNat_natCast]
     refine uN rfl rfl rfl (by simp only [IntKind.bits]; exact Nat.lt_of_lt_of_eq (qK hzlt _) (by decide)) (by simp only [IntKind.bits]; exact Nat.lt_of_lt_of_eq (Nat.mod_lt _ (by omega)) (by decide)) (.inr rfl) (qX (i / 32) rfl yu29 yS rfl rfl hiz (by omega) (jB (i := i / 32) rfl rfl yS B19 rfl (by simp; omega) (fun w15 Cw15 Bw15 => ?_)))
     obtain ⟨LR, hn61⟩ := up2 (lc LR Cw15 zO nF19) LR hn61
     clear B19; have B19 := Bw15; clear Bw15; rw [show Value.int .u32 ((zs.getD (i / 32) 0 ||| 1 * 2 ^ (i % 32) % 4294967296 : Nat) : Int) = lw (zs.getD (i / 32) 0 + 2 ^ (i % 32)) from by rw [horb]; rfl, ← List.map_set] at B19
     refine zD (zB (zA rfl rfl (jJ rfl rfl rfl (by omega) (zC rfl rfl (zD ?_)))))
     refine ⟨rfl, (i, q61, s2 * 2 - val ys, zs.set (i / 32) (zs.getD (i / 32) 0 + 2 ^ (i % 32))), (zS rfl (rfl) (zS rfl (rfl) (zH rfl (zH rfl (zH rfl yE))))), ?_, ?_⟩
     dsimp only
     have hR2 := yJ (Nat.le_of_lt hDI.lt)
     exact ⟨LR, by omega, B19, by simp [hzl], kW hzlt horlt, hn61, by rw [hsb, Nat.mul_comm s2 2]; exact (hs0 hb1).1 (by omega)⟩
     dsimp only
     omega
    ·have hge : s2 * 2 < val ys := by have h := hc4; split at h <;> omega
     refine yG (zB (zA rfl rfl (jJ rfl rfl rfl (by omega) (zC rfl rfl (zD ?_)))))
     refine ⟨rfl, (i, v42, s2 * 2, zs), (zS rfl (rfl) (zS rfl (rfl) (zH rfl (zH rfl (zH rfl yE))))), ?_, ?_⟩
     dsimp only
     have hR2 := yJ (Nat.le_of_lt hDI.lt)
     exact ⟨LR, by omega, B19, by simp [hzl], hzlt, hn42, by rw [Nat.mul_comm s2 2]; exact (hs0 hb1).2 (by omega)⟩
     dsimp only
     omega
  ·refine xK (xM (zG (zB (zA rfl rfl (zI rfl (bo func86) rfl rfl ?_)))))
   have hq : IsNat (fun _ => False) w7 (.slice (some ⟨b19, 0, none⟩) xs.length xs.length) zs := by have := dB (M := fun _ => False) (xs := zs) B19 (fun c => c) rfl (by omega) hzlt; rw [hzl] at this; exact this
   have hMq := hM
   refine (qA (xs := zs) hq (by omega) (fun _ c => c.elim)).mono ?_
   rintro v82 w16 ⟨hB82, hf82⟩
   obtain ⟨LL, hM, hr⟩ := ub3 hB82 LL hM hr
   have hn82 := hf82.nat hMq
   refine zA rfl rfl (zI rfl (bo func86) rfl rfl ?_)
   refine (qA hr (by omega) hM).mono ?_
   rintro v84 w17 ⟨hB84, hf84⟩
   have hM84 := hM
   have hS84 := LL.size
   obtain ⟨LL, hn82⟩ := ub2 hB84 LL hn82
   have hn84 := hf84.nat hM84
   refine zC rfl rfl (zC rfl rfl (zC rfl rfl (zD (zR ?_))))
   refine xC ⟨[_, _, _], ⟨rfl, rfl, rfl, trivial⟩, ?_⟩
   dsimp only [xJ]
   have ht0 : t = 0 := by omega
   subst ht0
   obtain ⟨e1, e2⟩ := di_end hDI
   rw [e1] at hn82; rw [zT, e2] at hn84
   subst hFz
   exact ⟨LL.b, _, _, rfl, hn82.less fun k c => zM c, hn84.less fun k c => zM c⟩
theorem rc_mk {n m : Nat} {q : Rat} {s : Bool} {a d : Value} (h : ZC M w n q.num s a) (hd : IsNat M w d (limbs q.den)) (hl : (limbs q.den).length ≤ m) : RC M w (max n m) q s a d :=
  ⟨h.sgn, h.num, hd, ⟨Nat.le_trans h.len (by omega), Nat.le_trans hl (by omega)⟩⟩
theorem RC.relen {n m : Nat} {q : Rat} {s : Bool} {a d : Value} (h : RC M w n q s a d) (hl : jZ q m) : RC M w m q s a d := ⟨h.sgn, h.num, h.den, hl⟩
theorem one_den (n : Nat) : (limbs ((n : Nat) : Rat).den) = [1] := by rw [show ((n : Nat) : Rat).den = 1 from rfl, gO]
theorem num_eq {z : Int} {k : Nat} (hk : k ≠ 0) : zv (decide (z < 0)) (limbs (z.natAbs / Nat.gcd z.natAbs k)) = (mkRat z k).num := by
  have h := eC (z := z) hk
  rw [← h.1, ← h.2.1]; exact gC _
theorem sgn_mk {z : Int} {k : Nat} (hk : k ≠ 0) : z.sign = iW (mkRat z k) := by
  have h := eC (z := z) hk
  unfold iW
  have h1 := decide_eq_decide.1 h.1
  rcases Int.lt_trichotomy z 0 with c | c | c
  · rw [Int.sign_eq_neg_one_of_neg c, Int.sign_eq_neg_one_of_neg (h1.2 c)]
  · subst c; simp
  · have h2 : (mkRat z k).num ≠ 0 := fun e => by
      rw [Rat.num_eq_zero] at e
      rw [Rat.mkRat_eq_zero hk] at e; omega
    rw [Int.sign_eq_one_of_pos c, Int.sign_eq_one_of_pos (by omega)]
theorem small_mk {z : Int} {k : Nat} (hk : k ≠ 0) : (limbs (z.natAbs / Nat.gcd z.natAbs k)).length ≤ (limbs z.natAbs).length ∧ (limbs (k / Nat.gcd z.natAbs k)).length ≤ (limbs k).length := ⟨yJ (Nat.div_le_self _ _), yJ (Nat.div_le_self _ _)⟩
theorem eO {k : Nat} (hk : k < 9223372036854775808) (hM : OkM M w) :
    CallsV prog 21 [.int .i64 ((k : Nat) : Int)] w fun r w' => Bel w.heap.size w w' ∧ ∃ xsr xar xdr, r = .agg #[.bool xsr, xar, xdr] ∧ RC M w' (2) (((k : Nat) : Rat)) xsr xar xdr := by
 refine ci M func21 ntmps21 fun Fz hFz hF LL => ?_
 refine zG (zB (yH rfl yL (fun w1 b2 N2 => ?_)))
 obtain ⟨_, nF2, nM2, Lw1, B2⟩ := nza hF hM N2
 obtain ⟨LL, hM⟩ := up2 Lw1 LL hM
 refine zD (zG (zB (zA rfl rfl (zI rfl (bo func79) rfl rfl ?_))))
 refine (i5of_c (k := k)  (by omega) hM).mono ?_
 rintro v4 w2 ⟨hB4, xs4, xa4, rfl, hn4⟩
 obtain ⟨LL, hM, B2⟩ := ub3 hB4 LL hM B2
 obtain ⟨oxa4, _⟩ := hn4.one
 refine yR rfl yu29 yS rfl rfl rfl (by simp [Value.oneCell', lw]) rfl (fun w3 b5 N5 => ?_)
 have hBw3 := N5.below
 have nM5 := hM.new N5
 have B5 := N5.blk
 obtain ⟨LL, hn4, B2⟩ := ub3 hBw3 LL hn4 B2
 have hn5 : IsNat (Ins b2 M) w3 (.slice (some ⟨b5, 0, none⟩) 1 1) [1] := dB (xs := [1]) B5 nM5 rfl (by simp) (by simp)
 refine xO rfl fP rfl rfl (yB (rfl) (yB (gF (by first | rfl | assumption)) xI)) rfl (yC rfl rfl yL B2 rfl rfl (yK (yK (yK jI))) rfl (fun w4 Cw4 B2 => ?_))
 obtain ⟨LL, hn4, hn5⟩ := up3 (lc LL Cw4 zO nF2) LL hn4 hn5
 refine zD (zR ?_)
 refine lv1 ⟨⟨_, rfl, yT yQ yL B2 rfl rfl⟩, trivial⟩ ?_
 subst hFz
 exact ⟨LL.b, _, _, _, rfl, (((RC.up (rc_mk (q := ((k : Nat) : Rat)) hn4 (m := 2) (by rw [one_den]; exact hn5) (by rw [one_den]; simp)) (m := 2) (by omega))).less (fun k c => zM c)).up (by omega)⟩
theorem r7new_c {z : Int} {n0 : Nat} {xs0 : Bool} {xa0 : Value} {k : Nat} {n1 : Nat} {xa1 : Value} (h0 : ZQ M w n0 z xs0 xa0) (h1 : NQ M w n1 k xa1) (hl0 : n0 ≤ 2000) (hl1 : n1 ≤ 2000) (hM : OkM M w) :
    CallsV prog 107 [.agg #[.bool xs0, xa0], xa1] w fun r w' => Bel w.heap.size w w' ∧ ∃ xsr xar xdr, r = .tuple #[.agg #[.bool xsr, xar, xdr], .int .i64 (if k = 0 then 30 else 0)] ∧ RC M w' (max n0 n1 + 2) (mkRat z k) xsr xar xdr := by
 obtain ⟨oxa0, _⟩ := h0.one
 obtain ⟨oxa1, _⟩ := h1.one
 obtain ⟨ds, hd, hdl, hdk⟩ := h1.ex
 have hdk2 := yD ds hd.lt
 rw [hdk] at hdk2
 refine ci M func107 ntmps107 fun Fz hFz hF LL => ?_
 refine zG (zB (yN rfl rfl (fun w1 b2 N2 => ?_)))
 obtain ⟨_, nF2, nM2, Lw1, B2⟩ := nza hF hM N2
 obtain ⟨LL, hM, hF, h0, hd⟩ := up5 Lw1 LL hM hF h0 hd
 refine yH rfl yL (fun w2 b4 N4 => ?_)
 obtain ⟨hBw2, nF4, nM4, Lw2, B4⟩ := nza hF hM N4
 obtain ⟨B2, ne2_4⟩ := bn B2 N4
 obtain ⟨LL, hM, h0, hd⟩ := up4 Lw2 LL hM h0 hd
 refine zC rfl rfl (zD (zG (zG (zB (zA rfl rfl (zI rfl (bo func86) rfl rfl ?_))))))
 refine (qA hd (by omega) hM).mono ?_
 rintro v19 w3 ⟨hB19, hf19⟩
 have hM19 := hM
 have hS19 := LL.size
 obtain ⟨LL, hM, h0, hd, B2, B4⟩ := ub6 hB19 LL hM h0 hd B2 B4
 have hn19 := hf19.nat hM19
 refine xB rfl yu29 rfl ?_
 refine gL rfl rfl rfl (zD ?_)
 refine zU rfl (fun hc0 => ?_) (fun hc0 => ?_)
 ·have hk0 : k = 0 := by rw [← hdk]; exact xF.1 (by omega)
  have hif : (if k = 0 then (30 : Int) else 0) = 30 := if_pos hk0
  have hmk : mkRat z k = ((0 : Nat) : Rat) := by rw [hk0, Rat.mkRat_zero]; rfl
  refine zG (zB (zI rfl (bo func21) rfl rfl ?_))
  refine (eO (k := 0)  (by omega) hM).mono ?_
  rintro v22 w4 ⟨hB22, xs22, xa22, xd22, rfl, hn22⟩
  obtain ⟨LL, B4⟩ := ub2 hB22 LL B4
  obtain ⟨oxa22, oxd22, _⟩ := hn22.one
  refine yC rfl rfl yL B4 rfl rfl (yK (yK (yK jI))) rfl (fun w5 Cw5 B4 => ?_)
  obtain ⟨LL, hn22⟩ := up2 (lc LL Cw5 zO nF4) LL hn22
  refine zC rfl rfl (zD (zR ?_))
  refine xC ⟨[_, _], ⟨⟨_, rfl, yT yQ yL B4 rfl rfl⟩, rfl, trivial⟩, ?_⟩
  dsimp only [xJ]
  rw [hif, hmk]
  subst hFz
  exact ⟨LL.b, _, _, _, rfl, (hn22.less (fun k c => zM (zM c))).up (by omega)⟩
 ·have hk0 : k ≠ 0 := fun c => hc0 (by rw [← hdk] at c; rw [c, xE]; rfl)
  have hif : (if k = 0 then (30 : Int) else 0) = 0 := if_neg hk0
  have hmt := eC (z := z) hk0
  have hsm := small_mk (z := z) hk0
  have hg0 : Nat.gcd z.natAbs k ≠ 0 := fun c => hk0 (Nat.eq_zero_of_gcd_eq_zero_right c)
  have hgl := yJ (Nat.gcd_le_right z.natAbs (Nat.pos_of_ne_zero hk0))
  refine yG (zG (zB (zP rfl xU yV rfl B2 rfl rfl (zI rfl (bo func155) rfl rfl ?_))))
  refine (qW h0 (by omega) hM).mono ?_
  rintro v24 w6 ⟨hB24, xs24, xa24, rfl, hn24⟩
  obtain ⟨LL, hM, h0, hd, B2, B4⟩ := ub6 hB24 LL hM h0 hd B2 B4
  obtain ⟨oxa24, _⟩ := hn24.one
  refine yC rfl rfl yV B2 rfl rfl (yK (yK jI)) rfl (fun w7 Cw7 B2 => ?_)
  obtain ⟨LL, hM, h0, hd, hn24⟩ := up5 (lc LL Cw7 (.inr zO) nF2) LL hM h0 hd hn24
  replace B4 := B4.other Cw7 ne2_4.symm
  refine zD (zG (zB (zJ 1 rfl yu31 rfl rfl xS rfl rfl (zN rfl yP rfl B2 rfl (zI rfl (bo func167) rfl rfl ?_)))))
  refine (rsmall_c hn24.num (by have := hn24.len; omega) hM).mono ?_
  rintro v28 w8 ⟨hB28, rfl⟩
  obtain ⟨LL, hM, h0, hd, hn24, B2, B4⟩ := ub7 hB28 LL hM h0 hd hn24 B2 B4
  simp only [zT]
  refine zA rfl rfl (zX rfl rfl rfl (zX rfl rfl rfl (zC rfl rfl (zC rfl rfl (zD (zG (zB (zA rfl rfl (zI rfl (bo func167) rfl rfl ?_)))))))))
  refine (rsmall_c hd (by omega) hM).mono ?_
  rintro v33 w9 ⟨hB33, rfl⟩
  obtain ⟨LL, hM, h0, hd, hn24, B2, B4⟩ := ub7 hB33 LL hM h0 hd hn24 B2 B4
  simp only [hdk]
  refine zA rfl rfl (zX rfl rfl rfl (zX rfl rfl rfl (zC rfl rfl (zC rfl rfl (zD (zG (zG (zB (zA rfl rfl (zA rfl rfl (gV (d := 37) rfl (fun hg6_1 => ?_) (fun hg6_1 => ?_))))))))))))
  ·refine yA rfl rfl (zA rfl rfl (xY rfl rfl rfl (zD ?_)))
   refine zU rfl (fun hc1 => ?_) (fun hc1 => ?_)
   ·have ea : kV z.natAbs = z.natAbs := if_pos hg6_1
    have ek : kV k = k := if_pos hc1
    rw [ea, ek]
    refine zG (zB (zA rfl rfl (zA rfl rfl (zI rfl (bo func168) rfl rfl ?_))))
    refine (plain7_c (a := z.natAbs) (b := k) hg6_1 hc1 hM).mono ?_
    rintro v42 w10 ⟨hB42, rfl⟩
    obtain ⟨LL, hM, h0, hn24, B2, B4⟩ := ub6 hB42 LL hM h0 hn24 B2 B4
    refine zC rfl rfl (zD (zG ?_))
    refine wd mixed 11 [4, 5, 50, 53] (by decide +kernel) ?_
    refine zL (fun _ _ _ => zQ rfl rfl (zF (zJ 0 rfl yu31 rfl rfl sz4 rfl rfl (on0 rfl)))) ?_
    refine zL (fun _ hR _ => zK rfl (zF (zN rfl uC rfl (B2.below hR) rfl (on0 rfl)))) ?_
    refine zL (fun _ _ _ => zQ rfl rfl (zF (zA rfl rfl (on0 rfl)))) ?_
    refine zL (fun _ _ _ => zQ rfl rfl (zF (zA rfl rfl (on0 rfl)))) ?_
    apply zL
    ·intro wq hR hst
     refine zK rfl (zK rfl (zF ?_))
     exact ops_quou rfl rfl rfl (by omega) (by omega) (on0 rfl)
    refine yZ (fun v w => IsNat (Ins b4 (Ins b2 M)) w v (limbs (z.natAbs / Nat.gcd z.natAbs k))) jG (fun wq hR hst => ?_) ?_
    ·refine zK rfl (zF ?_)
     obtain ⟨LL, hM⟩ := ub2 hR LL hM
     refine zI rfl (bo func148) rfl rfl ?_
     refine (rof_c (n := z.natAbs / Nat.gcd z.natAbs k) (Nat.lt_of_le_of_lt (Nat.div_le_self _ _) hg6_1) hM).mono ?_
     rintro v48 w11 ⟨hB48, hf48⟩
     have hM48 := hM
     have hS48 := LL.size
     have hn48 := hf48.nat hM48
     exact on1 hB48 rfl hn48
    refine yZ (vZQ (Ins b4 (Ins b2 M)) (n0) ((mkRat z k).num)) vZQ_m (fun wq hR hst => ?_) ?_
    ·refine zK rfl (yY rfl (fun v48 hp48 => ?_))
     have hn48 := hp48
     refine zF ?_
     replace hn24 := ub1 hR hn24
     exact xO rfl kT rfl rfl (yB (gF rfl) (yB (gF (by first | rfl | exact yM (by assumption) | exact yO (by assumption) | assumption)) xI)) rfl (zD ⟨rfl, xD _, _, rfl, ⟨_, _, rfl, (ZQ.mk ⟨_, hn48, Nat.le_trans hsm.1 hn24.len, by rw [hn24.sgn]; exact num_eq hk0⟩)⟩⟩)
    refine yZ (vZC (Ins b4 (Ins b2 M)) (n0) (((mkRat z k).num))) vZC_m (fun wq hR hst => ?_) ?_
    ·refine yY rfl (fun v49 hp49 => ?_)
     obtain ⟨xs49, xa49, rfl, hn49⟩ := hp49
     refine zF ?_
     replace hM := ub1 hR hM
     refine zI rfl (bo func155) rfl rfl ?_
     refine (qW hn49 (by omega) hM).mono ?_
     rintro v50 w12 ⟨hB50, xs50, xa50, rfl, hn50⟩
     exact on1 hB50 rfl ⟨_, _, rfl, hn50⟩
    refine zL (fun _ _ _ => zQ rfl rfl (zF (zA rfl rfl (on0 rfl)))) ?_
    refine zL (fun _ _ _ => zQ rfl rfl (zF (zA rfl rfl (on0 rfl)))) ?_
    apply zL
    ·intro wq hR hst
     refine zK rfl (zK rfl (zF ?_))
     exact ops_quou rfl rfl rfl (by omega) (by omega) (on0 rfl)
    refine xQ (fun wq8 hR8 hpost8 => ?_)
    refine zQ rfl rfl (zQ rfl rfl (yY rfl (fun v50 hp50 => ?_)))
    obtain ⟨xs50, xa50, rfl, hn50⟩ := hp50; obtain ⟨oxa50, _⟩ := hn50.one
    refine zK rfl (zF ?_)
    simp only [jW, jV, jU, jT]
    obtain ⟨LL, hM, B4⟩ := ub3 hR8 LL hM B4
    refine zI rfl (bo func148) rfl rfl ?_
    refine (rof_c (n := k / Nat.gcd z.natAbs k) (Nat.lt_of_le_of_lt (Nat.div_le_self _ _) hc1) hM).mono ?_
    rintro v54 w13 ⟨hB54, hf54⟩
    have hM54 := hM
    have hS54 := LL.size
    obtain ⟨LL, hn50, B4⟩ := ub3 hB54 LL hn50 B4
    have hn54 := hf54.nat hM54
    refine xO rfl fP rfl rfl (yB (rfl) (yB (gF (by first | rfl | exact yM (by assumption) | exact yO (by assumption) | assumption)) xI)) rfl (yC rfl rfl yL B4 rfl rfl (yK (yK (yK jI))) rfl (fun w14 Cw14 B4 => ?_))
    obtain ⟨LL, hn50, hn54⟩ := up3 (lc LL Cw14 zO nF4) LL hn50 hn54
    refine zC rfl rfl (zD (zR ?_))
    refine xC ⟨[_, _], ⟨⟨_, rfl, yT yQ yL B4 rfl rfl⟩, rfl, trivial⟩, ?_⟩
    dsimp only [xJ]
    rw [hif]
    subst hFz
    exact ⟨LL.b, _, _, _, rfl, (((RC.mk hn50.sgn hn50.num (by rw [hmt.2.2]; exact hn54) ⟨Nat.le_trans hn50.len (by omega), by rw [hmt.2.2]; omega⟩ : RC _ _ (max n0 n1 + 1) (mkRat z k) _ _ _)).less (fun k c => zM (zM c))).up (by omega)⟩
   ·refine yG (zG (zB (zJ 1 rfl yu31 rfl rfl xS rfl rfl (zN rfl yP rfl B2 rfl (zA rfl rfl (zI rfl (bo func169) rfl rfl ?_))))))
    refine (gcd4_c hn24.num hd (by have := hn24.len; omega) (by omega) hM).mono ?_
    rintro v59 w15 ⟨hB59, hn59⟩
    obtain ⟨LL, hM, hd, hn24, B2, B4⟩ := ub6 hB59 LL hM hd hn24 B2 B4
    rw [zT, hdk] at hn59
    refine zC rfl rfl (zD (zG (zB (zJ 1 rfl yu31 rfl rfl xS rfl rfl (zN rfl yP rfl B2 rfl (zA rfl rfl (zI rfl (bo func170) rfl rfl ?_)))))))
    refine (div3_c hn24.num hn59 (by have := hn24.len; omega) (by omega) (by rw [zT]; exact hg0) hM).mono ?_
    rintro v64 w16 ⟨hB64, q64, s64, rfl, hn64, hm64⟩
    obtain ⟨LL, hM, hd, hn24, hn59, B2, B4⟩ := ub7 hB64 LL hM hd hn24 hn59 B2 B4
    simp only [zT] at hn64
    refine zA rfl rfl (zX rfl rfl rfl (zX rfl rfl rfl (zX rfl rfl rfl (zC rfl rfl (zC rfl rfl (zC rfl rfl (zD (zG (zB (zA rfl rfl (zA rfl rfl (zI rfl (bo func170) rfl rfl ?_))))))))))))
    refine (div3_c hd hn59 (by omega) (by omega) (by rw [zT]; exact hg0) hM).mono ?_
    rintro v71 w17 ⟨hB71, q71, s71, rfl, hn71, hm71⟩
    obtain ⟨LL, hM, hn24, hn64, B2, B4⟩ := ub6 hB71 LL hM hn24 hn64 B2 B4
    simp only [zT, hdk] at hn71
    refine zA rfl rfl (zX rfl rfl rfl (zX rfl rfl rfl (zX rfl rfl rfl (zC rfl rfl (zC rfl rfl (zC rfl rfl (zD (zG (zB (zJ 0 rfl yu31 rfl rfl sz4 rfl rfl (zN rfl uC rfl B2 rfl (zA rfl rfl (xO rfl kT rfl rfl (yB (gF rfl) (yB (gF (by first | rfl | exact yM (by assumption) | exact yO (by assumption) | assumption)) xI)) rfl (zI rfl (bo func155) rfl rfl ?_))))))))))))))
    refine (qW ((ZQ.mk ⟨_, hn64, Nat.le_trans hsm.1 hn24.len, by rw [hn24.sgn]; exact num_eq hk0⟩ : ZQ _ _ n0 (mkRat z k).num _ _)) (by omega) hM).mono ?_
    rintro v79 w18 ⟨hB79, xs79, xa79, rfl, hn79⟩
    obtain ⟨LL, hn71, B4⟩ := ub3 hB79 LL hn71 B4
    obtain ⟨oxa79, _⟩ := hn79.one
    refine zA rfl rfl (xO rfl fP rfl rfl (yB (rfl) (yB (gF (by first | rfl | exact yM (by assumption) | exact yO (by assumption) | assumption)) xI)) rfl (yC rfl rfl yL B4 rfl rfl (yK (yK (yK jI))) rfl (fun w19 Cw19 B4 => ?_)))
    obtain ⟨LL, hn71, hn79⟩ := up3 (lc LL Cw19 zO nF4) LL hn71 hn79
    refine zC rfl rfl (zD (zR ?_))
    refine xC ⟨[_, _], ⟨⟨_, rfl, yT yQ yL B4 rfl rfl⟩, rfl, trivial⟩, ?_⟩
    dsimp only [xJ]
    rw [hif]
    subst hFz
    exact ⟨LL.b, _, _, _, rfl, (((RC.mk hn79.sgn hn79.num (by rw [hmt.2.2]; exact hn71) ⟨Nat.le_trans hn79.len (by omega), by rw [hmt.2.2]; omega⟩ : RC _ _ (max n0 n1 + 1) (mkRat z k) _ _ _)).less (fun k c => zM (zM c))).up (by omega)⟩
  ·refine zY rfl rfl rfl rfl (xY rfl rfl rfl (zD (kU rfl (yG (zG (zB (zJ 1 rfl yu31 rfl rfl xS rfl rfl (zN rfl yP rfl B2 rfl (zA rfl rfl (zI rfl (bo func169) rfl rfl ?_))))))))))
   refine (gcd4_c hn24.num hd (by have := hn24.len; omega) (by omega) hM).mono ?_
   rintro v59 w20 ⟨hB59, hn59⟩
   obtain ⟨LL, hM, hd, hn24, B2, B4⟩ := ub6 hB59 LL hM hd hn24 B2 B4
   rw [zT, hdk] at hn59
   refine zC rfl rfl (zD (zG (zB (zJ 1 rfl yu31 rfl rfl xS rfl rfl (zN rfl yP rfl B2 rfl (zA rfl rfl (zI rfl (bo func170) rfl rfl ?_)))))))
   refine (div3_c hn24.num hn59 (by have := hn24.len; omega) (by omega) (by rw [zT]; exact hg0) hM).mono ?_
   rintro v64 w21 ⟨hB64, q64, s64, rfl, hn64, hm64⟩
   obtain ⟨LL, hM, hd, hn24, hn59, B2, B4⟩ := ub7 hB64 LL hM hd hn24 hn59 B2 B4
   simp only [zT] at hn64
   refine zA rfl rfl (zX rfl rfl rfl (zX rfl rfl rfl (zX rfl rfl rfl (zC rfl rfl (zC rfl rfl (zC rfl rfl (zD (zG (zB (zA rfl rfl (zA rfl rfl (zI rfl (bo func170) rfl rfl ?_))))))))))))
   refine (div3_c hd hn59 (by omega) (by omega) (by rw [zT]; exact hg0) hM).mono ?_
   rintro v71 w22 ⟨hB71, q71, s71, rfl, hn71, hm71⟩
   obtain ⟨LL, hM, hn24, hn64, B2, B4⟩ := ub6 hB71 LL hM hn24 hn64 B2 B4
   simp only [zT, hdk] at hn71
   refine zA rfl rfl (zX rfl rfl rfl (zX rfl rfl rfl (zX rfl rfl rfl (zC rfl rfl (zC rfl rfl (zC rfl rfl (zD (zG (zB (zJ 0 rfl yu31 rfl rfl sz4 rfl rfl (zN rfl uC rfl B2 rfl (zA rfl rfl (xO rfl kT rfl rfl (yB (gF rfl) (yB (gF (by first | rfl | exact yM (by assumption) | exact yO (by assumption) | assumption)) xI)) rfl (zI rfl (bo func155) rfl rfl ?_))))))))))))))
   refine (qW ((ZQ.mk ⟨_, hn64, Nat.le_trans hsm.1 hn24.len, by rw [hn24.sgn]; exact num_eq hk0⟩ : ZQ _ _ n0 (mkRat z k).num _ _)) (by omega) hM).mono ?_
   rintro v79 w23 ⟨hB79, xs79, xa79, rfl, hn79⟩
   obtain ⟨LL, hn71, B4⟩ := ub3 hB79 LL hn71 B4
   obtain ⟨oxa79, _⟩ := hn79.one
   refine zA rfl rfl (xO rfl fP rfl rfl (yB (rfl) (yB (gF (by first | rfl | exact yM (by assumption) | exact yO (by assumption) | assumption)) xI)) rfl (yC rfl rfl yL B4 rfl rfl (yK (yK (yK jI))) rfl (fun w24 Cw24 B4 => ?_)))
   obtain ⟨LL, hn71, hn79⟩ := up3 (lc LL Cw24 zO nF4) LL hn71 hn79
   refine zC rfl rfl (zD (zR ?_))
   refine xC ⟨[_, _], ⟨⟨_, rfl, yT yQ yL B4 rfl rfl⟩, rfl, trivial⟩, ?_⟩
   dsimp only [xJ]
   rw [hif]
   subst hFz
   exact ⟨LL.b, _, _, _, rfl, (((RC.mk hn79.sgn hn79.num (by rw [hmt.2.2]; exact hn71) ⟨Nat.le_trans hn79.len (by omega), by rw [hmt.2.2]; omega⟩ : RC _ _ (max n0 n1 + 1) (mkRat z k) _ _ _)).less (fun k c => zM (zM c))).up (by omega)⟩
theorem ZQ.of_nat {n k : Nat} {a : Value} (h : NQ M w n k a) : ZQ M w n ((k : Nat) : Int) false a := by
  obtain ⟨xs, h1, h2, h3⟩ := h.ex
  exact ⟨xs, h1, h2, by rw [← h3]; rfl⟩
theorem nmul_q {n m k l : Nat} {a b : Value} (h1 : NQ M w n k a) (h2 : NQ M w m l b) (hn : n ≤ 1000000) (hm : m ≤ 1000000) (hM : OkM M w) :
    CallsV prog 108 [a, b] w fun r w' => Bel w.heap.size w w' ∧ ∃ x, r = x ∧ NC M w' (n + m) (k * l) x := by
  obtain ⟨xs, i1, i2, rfl⟩ := h1.ex; obtain ⟨ys, j1, j2, rfl⟩ := h2.ex
  exact (rmul_c i1 j1 (by omega) (by omega) hM).mono fun r w' ⟨hB, hf⟩ => ⟨hB, r, rfl, hf.nat hM, xG (by
    have a1 := xX i1.lt i2
    have a2 := xX j1.lt j2; exact gK a1 a2)⟩
theorem over7_c {k : Nat} {n0 : Nat} {xa0 : Value} (h0 : NQ M w n0 k xa0) (hl0 : n0 ≤ 1000000) (hM : OkM M w) :
    CallsV prog 90 [xa0] w fun r w' => Bel w.heap.size w w' ∧ ∃ xsr xar, r = .agg #[.bool xsr, xar] ∧ ZQ M w' (n0) (((k : Nat) : Int)) xsr xar := by
 obtain ⟨oxa0, _⟩ := h0.one
 refine ci M func90 ntmps90 fun Fz hFz hF LL => ?_
 refine zG (zB (yH rfl yV (fun w1 b2 N2 => ?_)))
 obtain ⟨_, nF2, nM2, Lw1, B2⟩ := nza hF hM N2
 obtain ⟨LL, h0⟩ := up2 Lw1 LL h0
 refine zD (zG (zB (zA rfl rfl (bG rfl kT yV rfl (yB (gF (by first | rfl | assumption)) xI) rfl rfl (yC rfl rfl yV B2 rfl rfl (yK (yK jI)) rfl (fun w2 Cw2 B2 => ?_))))))
 obtain ⟨LL, h0⟩ := up2 (lc LL Cw2 zO nF2) LL h0
 refine zD (zR ?_)
 refine lv1 ⟨⟨_, rfl, yT xU yV B2 rfl rfl⟩, trivial⟩ ?_
 subst hFz
 exact ⟨LL.b, _, _, rfl, (((ZQ.of_nat h0)).less (fun k c => zM c)).up (by omega)⟩
theorem r7norm_c {p : Rat} {n0 : Nat} {xs0 : Bool} {xa0 xd0 : Value} (h0 : QC M w n0 p xs0 xa0 xd0) (hl0 : n0 ≤ 1999) (hM : OkM M w) :
    CallsV prog 82 [.agg #[.bool xs0, xa0, xd0]] w fun r w' => Bel w.heap.size w w' ∧ ∃ xsr xar xdr, r = .agg #[.bool xsr, xar, xdr] ∧ RC M w' (n0 + 2) (p) xsr xar xdr := by
 obtain ⟨oxa0, oxd0, _⟩ := h0.one
 obtain ⟨xs, ds, i1, i2, i3, i4, hq⟩ := h0.ex
 refine ci M func82 ntmps82 fun Fz hFz hF LL => ?_
 refine zG (zB (yN rfl rfl (fun w1 b1 N1 => ?_)))
 obtain ⟨_, nF1, nM1, Lw1, B1⟩ := nza hF hM N1
 obtain ⟨LL, hM, hF, i1, i2⟩ := up5 Lw1 LL hM hF i1 i2
 refine yH rfl yL (fun w2 b2 N2 => ?_)
 obtain ⟨hBw2, nF2, nM2, Lw2, B2⟩ := nza hF hM N2
 obtain ⟨B1, ne1_2⟩ := bn B1 N2
 obtain ⟨LL, hM, hF, i1, i2⟩ := up5 Lw2 LL hM hF i1 i2
 refine zD (zG (zB (zJ 0 rfl yu33 rfl rfl yV rfl rfl (zP rfl xU yV rfl B1 rfl rfl (zJ 2 rfl yu33 rfl rfl xS rfl rfl (zN rfl yP rfl B1 rfl (zI rfl (bo func107) rfl rfl ?_)))))))
 refine (r7new_c ((ZQ.mk ⟨xs, i1, i3, rfl⟩ : ZQ _ _ n0 (zv xs0 xs) _ _)) ((NQ.mk ⟨ds, i2, i4, rfl⟩ : NQ _ _ n0 (val ds) _)) (by omega) (by omega) hM).mono ?_
 rintro v10 w3 ⟨hB10, xs10, xa10, xd10, rfl, hn10⟩
 obtain ⟨LL, hM, hF, B1, B2⟩ := ub5 hB10 LL hM hF B1 B2
 obtain ⟨oxa10, oxd10, _⟩ := hn10.one
 refine zA rfl rfl (zX rfl rfl rfl (zX rfl rfl rfl (yH rfl yL (fun w4 b3 N3 => ?_))))
 obtain ⟨hBw4, nF3, nM3, Lw4, B3⟩ := nza hF hM N3
 have lt1_3 := B1.lt
 have ne1_3 := N3.ne lt1_3
 obtain ⟨B2, ne2_3⟩ := bn B2 N3
 obtain ⟨LL, hn10⟩ := up2 Lw4 LL hn10
 refine yC rfl rfl yL B3 rfl rfl (yK (yK (yK jI))) rfl (fun w5 Cw5 B3 => ?_)
 obtain ⟨LL, hn10⟩ := up2 (lc LL Cw5 zO nF3) LL hn10
 replace B2 := B2.other Cw5 ne2_3
 refine zC rfl rfl (zD (zG (zB (zP rfl yQ yL rfl B3 rfl rfl (yC rfl rfl yL B2 rfl rfl (yK (yK (yK jI))) rfl (fun w6 Cw6 B2 => ?_))))))
 obtain ⟨LL, hn10⟩ := up2 (lc LL Cw6 (.inr zO) nF2) LL hn10
 refine zD (zR ?_)
 refine lv1 ⟨⟨_, rfl, yT yQ yL B2 rfl rfl⟩, trivial⟩ ?_
 rw [hq] at hn10
 subst hFz
 exact ⟨LL.b, _, _, _, rfl, (hn10.less (fun k c => zM (zM (zM c)))).up (by omega)⟩
theorem r7sign_c {p : Rat} {n0 : Nat} {xs0 : Bool} {xa0 xd0 : Value} (h0 : QC M w n0 p xs0 xa0 xd0) (hl0 : n0 ≤ 500000) (hM : OkM M w) :
    CallsV prog 32 [.agg #[.bool xs0, xa0, xd0]] w fun r w' => Bel w.heap.size w w' ∧ r = .int .i64 (iW p) := by
 obtain ⟨xs, ds, i1, i2, i3, i4, hq⟩ := h0.ex
 refine ci M func32 ntmps32 fun Fz hFz hF LL => ?_
 refine zG (zB (yN rfl rfl (fun w1 b1 N1 => ?_)))
 obtain ⟨_, nF1, nM1, Lw1, B1⟩ := nza hF hM N1
 obtain ⟨LL, hM, i1, i2⟩ := up4 Lw1 LL hM i1 i2
 refine zC rfl rfl (zD (zG (zG (zB (zJ 2 rfl yu33 rfl rfl xS rfl rfl (zN rfl yP rfl B1 rfl (zI rfl (bo func86) rfl rfl ?_)))))))
 refine (qA i2 (by omega) hM).mono ?_
 rintro v5 w2 ⟨hB5, hf5⟩
 have hM5 := hM
 have hS5 := LL.size
 obtain ⟨LL, hM, i1, B1⟩ := ub4 hB5 LL hM i1 B1
 have hn5 := hf5.nat hM5
 refine xB rfl yu29 rfl ?_
 refine gL rfl rfl rfl (zD ?_)
 refine zU rfl (fun hc0 => ?_) (fun hc0 => ?_)
 ·have hd0 : val ds = 0 := xF.1 (by omega)
  refine zG (zB (zC rfl rfl (zD (zR ?_))))
  refine lv1 ⟨rfl, trivial⟩ ?_
  have hs0 : iW p = 0 := by rw [← hq, hd0, Rat.mkRat_zero]; rfl
  rw [hs0]
  subst hFz
  exact ⟨LL.b, rfl⟩
 ·have hd0 : val ds ≠ 0 := fun c => hc0 (by rw [c, xE]; rfl)
  refine yG (zG (zB (zJ 0 rfl yu33 rfl rfl yV rfl rfl (zP rfl xU yV rfl B1 rfl rfl (zI rfl (bo func87) rfl rfl ?_)))))
  refine (i5sign_c ((ZQ.mk ⟨xs, i1, i3, rfl⟩ : ZQ _ _ n0 (zv xs0 xs) _ _)) (by omega) hM).mono ?_
  rintro v10 w3 ⟨hB10, rfl⟩
  replace LL := ub1 hB10 LL
  refine zC rfl rfl (zD (zR ?_))
  refine lv1 ⟨rfl, trivial⟩ ?_
  rw [← hq, ← sgn_mk hd0]
  subst hFz
  exact ⟨LL.b, rfl⟩
theorem iO (x y : Int) : uU [x, y] = x * y := by simp [uU]
theorem add_eq (p q : Rat) : mkRat ([uU [p.num, ((q.den : Nat) : Int)], uU [q.num, ((p.den : Nat) : Int)]].sum) (p.den * q.den) = p + q := by
  conv => rhs; rw [← Rat.mkRat_self p, ← Rat.mkRat_self q]
  rw [Rat.mkRat_add_mkRat _ _ p.den_nz q.den_nz, iO, iO]; simp
theorem mul_eq (p q : Rat) : mkRat (uU [p.num, q.num]) (p.den * q.den) = p * q := by
  conv => rhs; rw [← Rat.mkRat_self p, ← Rat.mkRat_self q]
  rw [Rat.mkRat_mul_mkRat, iO]
def iS (l : List Rat) : Rat := l.foldl (· + ·) 0
def uT (l : List Rat) : Rat := l.foldl (· * ·) 1
theorem sumR_take {l : List Rat} {s : Nat} (h : s < l.length) : iS (l.take (s + 1)) = iS (l.take s) + l.getD s 0 := by
  rw [(gP (0 : Rat) h).1, iS, List.foldl_append]; rfl
theorem prodR_take {l : List Rat} {s : Nat} (h : s < l.length) : uT (l.take (s + 1)) = uT (l.take s) * l.getD s 0 := by
  rw [(gP (0 : Rat) h).1, uT, List.foldl_append]; rfl
theorem cmp_eq (p q : Rat) : (uU [p.num, ((q.den : Nat) : Int)] - uU [q.num, ((p.den : Nat) : Int)]).sign = jY p q := by rw [iO, iO]; exact cmpR_eq p q
theorem r7mul_c {l : List Rat} {n0 : Nat} {xa0 : Value} (h0 : QL M w n0 l xa0) (hl0 : n0 ≤ 970) (hlen : l.length ≤ 2) (hM : OkM M w) :
    CallsV prog 52 [xa0] w fun r w' => Bel w.heap.size w w' ∧ ∃ xsr xar xdr, r = .agg #[.bool xsr, xar, xdr] ∧ RC M w' (2 * n0 + 8) (uT l) xsr xar xdr := by
 obtain ⟨oxa0, _⟩ := h0.one
 refine ci M func52 ntmps52 fun Fz hFz hF LL => ?_
 refine zG (zB (yH rfl yL (fun w1 b2 N2 => ?_)))
 obtain ⟨_, nF2, nM2, Lw1, B2⟩ := nza hF hM N2
 obtain ⟨LL, hM, hF, h0⟩ := up4 Lw1 LL hM hF h0
 refine zD (zG (zB (zI rfl (bo func21) rfl rfl ?_)))
 refine (eO (k := 1)  (by omega) hM).mono ?_
 rintro v6 w2 ⟨hB6, xs6, xa6, xd6, rfl, hn6⟩
 obtain ⟨LL, hM, hF, h0, B2⟩ := ub5 hB6 LL hM hF h0 B2
 obtain ⟨oxa6, oxd6, _⟩ := hn6.one
 refine yH rfl yL (fun w3 b3 N3 => ?_)
 obtain ⟨hBw3, nF3, nM3, Lw3, B3⟩ := nza hF hM N3
 obtain ⟨B2, ne2_3⟩ := bn B2 N3
 obtain ⟨LL, hM, hF, h0, hn6⟩ := up5 Lw3 LL hM hF h0 hn6
 refine yC rfl rfl yL B3 rfl rfl (yK (yK (yK jI))) rfl (fun w4 Cw4 B3 => ?_)
 obtain ⟨LL, hM, hF, h0, hn6⟩ := up5 (lc LL Cw4 zO nF3) LL hM hF h0 hn6
 replace B2 := B2.other Cw4 ne2_3
 refine zD (zG (zG (zB (zC rfl rfl (zD (zZ ?_))))))
 refine xR (σ := Nat) [(0, _), (2, _), (3, _)] (fun s => [(4, .int .i64 ((s : Nat) : Int))]) (fun s w5 => Le Fz (Ins b3 (Ins b2 M)) w4 (Ins b3 (Ins b2 M)) w5 ∧ s ≤ l.length ∧ Blk w5 b2 33 [.bool false, .slice none 0 0, .slice none 0 0] ∧ ∃ xs3 xa3 xd3, Blk w5 b3 33 [.bool xs3, xa3, xd3] ∧ RC (Ins b3 (Ins b2 M)) w5 (s * (n0 + 3) + 2) (uT (l.take s)) xs3 xa3 xd3) (fun s => l.length - s) (0) (zH rfl (zH rfl (zH rfl (zH rfl yE)))) ?_ (fun s w5 hJ => ?_)
 · exact ⟨Le.refl _ _ _, by omega, B2, _, _, _, B3, by simpa [uT] using hn6.up (by omega)⟩
 ·obtain ⟨LR, hk, B2, xs3, xa3, xd3, B3, hn3⟩ := hJ
  obtain ⟨oxa3, oxd3, _⟩ := hn3.one
  have hsn : s * (n0 + 3) ≤ 2 * (n0 + 3) := Nat.mul_le_mul_right _ (by omega)
  have hsn1 : s ≤ 1 → s * (n0 + 3) ≤ n0 + 3 := fun c => by have := Nat.mul_le_mul_right (n0 + 3) c; omega
  have hst : (s + 1) * (n0 + 3) = s * (n0 + 3) + (n0 + 3) := by rw [Nat.add_mul, Nat.one_mul]
  have hl3 := hn3.len
  obtain ⟨LL, hM, hF, h0⟩ := up4 LR LL hM hF h0
  refine zG (zG (zB (zA rfl rfl (zA rfl rfl (cD rfl yu22 rfl h0.row (jE rfl rfl rfl (zD ?_)))))))
  refine zU rfl (fun hc0 => ?_) (fun hc0 => ?_)
  ·refine yG (zG (zZ (zG (zB (zA rfl rfl (zA rfl rfl (bF (dflt := (0 : Rat)) (s) rfl yu22 yL rfl rfl h0.row (by first | rfl | omega) (by first | omega | (simp; omega) | simp) (fun b15 o15 us15 hul15 hu15 hc15 => ?_))))))))
   obtain ⟨xs15, xa15, xd15, rfl, hn15⟩ := hu15
   obtain ⟨oxa15, oxd15, _⟩ := hn15.one
   have hle := hn15.rlen
   refine gU rfl yQ yL rfl hc15 rfl (zI rfl (bo func82) rfl rfl ?_)
   refine (r7norm_c hn15 (by omega) hM).mono ?_
   rintro v17 w6 ⟨hB17, xs17, xa17, xd17, rfl, hn17⟩
   obtain ⟨LR, hM, hF, h0, hn3, B2, B3⟩ := ub7 hB17 LR hM hF h0 hn3 B2 B3
   obtain ⟨oxa17, oxd17, _⟩ := hn17.one
   refine yH rfl yL (fun w7 b5 N5 => ?_)
   obtain ⟨hBw7, nF5, nM5, Lw7, B5⟩ := nza hF hM N5
   obtain ⟨B2, ne2_5⟩ := bn B2 N5
   obtain ⟨B3, ne3_5⟩ := bn B3 N5
   obtain ⟨LR, hM, h0, hn3, hn17⟩ := up5 Lw7 LR hM h0 hn3 hn17
   refine yC rfl rfl yL B5 rfl rfl (yK (yK (yK jI))) rfl (fun w8 Cw8 B5 => ?_)
   obtain ⟨LR, hM, h0, hn3, hn17⟩ := up5 (lc LR Cw8 zO nF5) LR hM h0 hn3 hn17
   replace B2 := B2.other Cw8 ne2_5
   replace B3 := B3.other Cw8 ne3_5
   refine zD ?_
   refine bO (R := Rs (· = b3)) (R' := Rb) (st := some (15, (fun w => Blk w b3 33 [.bool xs3, xa3, xd3]), (fun w => ∃ xs3 xa3 xd3, Blk w b3 33 [.bool xs3, xa3, xd3] ∧ RC (Ins b5 (Ins b3 (Ins b2 M))) w (max (2 * (max ((s * (n0 + 3) + 2)) (n0 + 2)) + 2) ((s * (n0 + 3) + 2) + (n0 + 2)) + 2) (mkRat (uU ([(uT (l.take s)).num, ((l.getD s 0)).num])) (((uT (l.take s)).den) * (((l.getD s 0)).den))) xs3 xa3 xd3))) mixed 16 [0, 2, 3, 4] (by decide +kernel) bD fO (cR _) (fun _ _ _ h => by cases h; exact ⟨by decide, B3, fun _ _ h r => h.below r, fun _ _ ⟨xs3, xa3, xd3, B, h0⟩ r => ⟨xs3, xa3, xd3, B.below r, h0.mono (lb r)⟩, _, rfl⟩) ?_
   apply yF rfl
   ·intro wq hR hst
    refine zQ rfl rfl (zF ?_)
    have Lq := lqb (M := (Ins b5 (Ins b3 (Ins b2 M)))) hR (.inr zO) nF3
    exact zJ 0 rfl yu33 rfl rfl yV rfl rfl (on0 rfl)
   apply yF rfl
   ·intro wq hR hst
    refine zK rfl (zF ?_)
    have Lq := lqb (M := (Ins b5 (Ins b3 (Ins b2 M)))) hR (.inr zO) nF3
    replace B3 := (hst.2 (by decide +kernel))
    exact zP rfl xU yV rfl B3 rfl rfl (on0 rfl)
   apply yF rfl
   ·intro wq hR hst
    refine zQ rfl rfl (zF ?_)
    have Lq := lqb (M := (Ins b5 (Ins b3 (Ins b2 M)))) hR (.inr zO) nF3
    exact zJ 0 rfl yu33 rfl rfl yV rfl rfl (on0 rfl)
   apply yF rfl
   ·intro wq hR hst
    refine zK rfl (zF ?_)
    have Lq := lqb (M := (Ins b5 (Ins b3 (Ins b2 M)))) hR (.inr zO) nF3
    replace B5 := B5.rs hR ne3_5.symm
    exact zP rfl xU yV rfl B5 rfl rfl (on0 rfl)
   refine gM rfl (fun v w => ∃ bb xs23 xa23 xs23b xa23b, v = .slice (some ⟨bb, 0, none⟩) 2 2 ∧ KBlk (Ins b5 (Ins b3 (Ins b2 M))) w bb 31 [.bool xs23, xa23, .bool xs23b, xa23b] ∧ ZC (Ins b5 (Ins b3 (Ins b2 M))) w (s * (n0 + 3) + 2) ((uT (l.take s)).num) xs23 xa23 ∧ ZC (Ins b5 (Ins b3 (Ins b2 M))) w (n0 + 2) (((l.getD s 0)).num) xs23b xa23b) (fun _ _ _ ⟨bb, xs23, xa23, xs23b, xa23b, e, hk, h0, h1⟩ r => ⟨bb, xs23, xa23, xs23b, xa23b, e, hk.mono (Fz := fun _ => False) (Le.of_rs r (by rintro _ rfl; exact (.inr zO)) (fun _ _ h => h)), h0.mono (Fz := fun _ => False) (Le.of_rs r (by rintro _ rfl; exact (.inr zO)) (fun _ _ h => h)), h1.mono (Fz := fun _ => False) (Le.of_rs r (by rintro _ rfl; exact (.inr zO)) (fun _ _ h => h))⟩) (fun wq hR hst => ?_) ?_
   ·refine zK rfl (zK rfl (zF ?_))
    have Lq := lqb (M := (Ins b5 (Ins b3 (Ins b2 M)))) hR (.inr zO) nF3
    obtain ⟨hM, hn3, hn17⟩ := up3 Lq hM hn3 hn17
    refine xN rfl yu174 yV rfl rfl rfl rfl (yB rfl (yB rfl xI)) rfl rfl rfl (fun w9 b23 N23 => ?_)
    have hBw9 := N23.below
    have nM23 := hM.new N23
    have B23 := N23.blk
    obtain ⟨hn3, hn17⟩ := ub2 hBw9 hn3 hn17
    have hB23 := hBw9
    exact on1 hB23 rfl ⟨b23, _, _, _, _, rfl, KBlk.mk B23 nM23, hn3.z, hn17.z⟩
   refine gM rfl (fun v w => ∃ xs24 xa24, v = .agg #[.bool xs24, xa24] ∧ ZC (Ins b5 (Ins b3 (Ins b2 M))) w (2 * (max ((s * (n0 + 3) + 2)) (n0 + 2)) + 2) (uU ([(uT (l.take s)).num, ((l.getD s 0)).num])) xs24 xa24) (fun _ _ _ ⟨xs24, xa24, e, h0⟩ r => ⟨xs24, xa24, e, h0.mono (Fz := fun _ => False) (Le.of_rs r (by rintro _ rfl; exact (.inr zO)) (fun _ _ h => h))⟩) (fun wq hR hst => ?_) ?_
   ·refine yY rfl (fun v23 hp23 => ?_)
    obtain ⟨bb23, xs23, xa23, xs23b, xa23b, rfl, hk23, hn23, hnb23⟩ := hp23; obtain ⟨oxa23, _⟩ := hn23.one
    refine zF ?_
    have Lq := lqb (M := (Ins b5 (Ins b3 (Ins b2 M)))) hR (.inr zO) nF3
    replace hM := hM.mono Lq
    refine zI rfl (bo func89) rfl rfl ?_
    refine (i5mul_c (zl2 hk23 hn23.gen hnb23.gen) (by omega) (by first | omega | simp) hM).mono ?_
    rintro v24 w10 ⟨hB24, xs24, xa24, rfl, hn24⟩
    exact on1 hB24 rfl ⟨_, _, rfl, hn24⟩
   apply yF rfl
   ·intro wq hR hst
    refine zQ rfl rfl (zF ?_)
    have Lq := lqb (M := (Ins b5 (Ins b3 (Ins b2 M)))) hR (.inr zO) nF3
    exact zJ 2 rfl yu33 rfl rfl xS rfl rfl (on0 rfl)
   apply yF rfl
   ·intro wq hR hst
    refine zK rfl (zF ?_)
    have Lq := lqb (M := (Ins b5 (Ins b3 (Ins b2 M)))) hR (.inr zO) nF3
    replace B3 := (hst.2 (by decide +kernel))
    exact zN rfl yP rfl B3 rfl (on0 rfl)
   apply yF rfl
   ·intro wq hR hst
    refine zQ rfl rfl (zF ?_)
    have Lq := lqb (M := (Ins b5 (Ins b3 (Ins b2 M)))) hR (.inr zO) nF3
    exact zJ 2 rfl yu33 rfl rfl xS rfl rfl (on0 rfl)
   apply yF rfl
   ·intro wq hR hst
    refine zK rfl (zF ?_)
    have Lq := lqb (M := (Ins b5 (Ins b3 (Ins b2 M)))) hR (.inr zO) nF3
    replace B5 := B5.rs hR ne3_5.symm
    exact zN rfl yP rfl B5 rfl (on0 rfl)
   refine gM rfl (fun v w => ∃ xa29, v = xa29 ∧ NC (Ins b5 (Ins b3 (Ins b2 M))) w ((s * (n0 + 3) + 2) + (n0 + 2)) (((uT (l.take s)).den) * (((l.getD s 0)).den)) xa29) (fun _ _ _ ⟨xa29, e, h0⟩ r => ⟨xa29, e, h0.mono (Fz := fun _ => False) (Le.of_rs r (by rintro _ rfl; exact (.inr zO)) (fun _ _ h => h))⟩) (fun wq hR hst => ?_) ?_
   ·refine zK rfl (zK rfl (zF ?_))
    have Lq := lqb (M := (Ins b5 (Ins b3 (Ins b2 M)))) hR (.inr zO) nF3
    obtain ⟨hM, hn3, hn17⟩ := up3 Lq hM hn3 hn17
    refine zI rfl (bo func108) rfl rfl ?_
    refine (nmul_q hn3.d.gen hn17.d.gen (by omega) (by omega) hM).mono ?_
    rintro v29 w11 ⟨hB29, xa29, rfl, hn29⟩
    exact on1 hB29 rfl ⟨_, rfl, hn29⟩
   refine gM rfl (fun v w => ∃ xs30 xa30 xd30, v = .tuple #[.agg #[.bool xs30, xa30, xd30], .int .i64 (if (((uT (l.take s)).den) * (((l.getD s 0)).den)) = 0 then 30 else 0)] ∧ RC (Ins b5 (Ins b3 (Ins b2 M))) w (max (2 * (max ((s * (n0 + 3) + 2)) (n0 + 2)) + 2) ((s * (n0 + 3) + 2) + (n0 + 2)) + 2) (mkRat (uU ([(uT (l.take s)).num, ((l.getD s 0)).num])) (((uT (l.take s)).den) * (((l.getD s 0)).den))) xs30 xa30 xd30) (fun _ _ _ ⟨xs30, xa30, xd30, e, h0⟩ r => ⟨xs30, xa30, xd30, e, h0.mono (Fz := fun _ => False) (Le.of_rs r (by rintro _ rfl; exact (.inr zO)) (fun _ _ h => h))⟩) (fun wq hR hst => ?_) ?_
   ·refine yY rfl (fun v24 hp24 => ?_)
    obtain ⟨xs24, xa24, rfl, hn24⟩ := hp24
    refine yY rfl (fun v29 hp29 => ?_)
    obtain ⟨xa29, rfl, hn29⟩ := hp29
    refine zF ?_
    have Lq := lqb (M := (Ins b5 (Ins b3 (Ins b2 M)))) hR (.inr zO) nF3
    replace hM := hM.mono Lq
    refine zI rfl (bo func107) rfl rfl ?_
    refine (r7new_c hn24.gen hn29.gen (by omega) (by omega) hM).mono ?_
    rintro v30 w12 ⟨hB30, xs30, xa30, xd30, rfl, hn30⟩
    exact on1 hB30 rfl ⟨_, _, _, rfl, hn30⟩
   refine gM rfl (fun v w => ∃ xs18 xa18 xd18, v = .tuple #[.agg #[.bool xs18, xa18, xd18], .int .i64 (if (((uT (l.take s)).den) * (((l.getD s 0)).den)) = 0 then 30 else 0)] ∧ RC (Ins b5 (Ins b3 (Ins b2 M))) w (max (2 * (max ((s * (n0 + 3) + 2)) (n0 + 2)) + 2) ((s * (n0 + 3) + 2) + (n0 + 2)) + 2) (mkRat (uU ([(uT (l.take s)).num, ((l.getD s 0)).num])) (((uT (l.take s)).den) * (((l.getD s 0)).den))) xs18 xa18 xd18) (fun _ _ _ ⟨xs18, xa18, xd18, e, h0⟩ r => ⟨xs18, xa18, xd18, e, h0.mono (Fz := fun _ => False) (Le.of_rs r (by rintro _ rfl; exact (.inr zO)) (fun _ _ h => h))⟩) (fun wq hR hst => ?_) ?_
   ·refine yY rfl (fun v30 hp30 => ?_)
    obtain ⟨xs30, xa30, xd30, rfl, hn30⟩ := hp30
    refine zF ?_
    have Lq := lqb (M := (Ins b5 (Ins b3 (Ins b2 M)))) hR (.inr zO) nF3
    exact zA rfl rfl (zD ⟨rfl, xD _, _, rfl, ⟨_, _, _, rfl, hn30⟩⟩)
   refine gM rfl (fun v w => ∃ xs31 xa31 xd31, v = .agg #[.bool xs31, xa31, xd31] ∧ RC (Ins b5 (Ins b3 (Ins b2 M))) w (max (2 * (max ((s * (n0 + 3) + 2)) (n0 + 2)) + 2) ((s * (n0 + 3) + 2) + (n0 + 2)) + 2) (mkRat (uU ([(uT (l.take s)).num, ((l.getD s 0)).num])) (((uT (l.take s)).den) * (((l.getD s 0)).den))) xs31 xa31 xd31) (fun _ _ _ ⟨xs31, xa31, xd31, e, h0⟩ r => ⟨xs31, xa31, xd31, e, h0.mono (Fz := fun _ => False) (Le.of_rs r (by rintro _ rfl; exact (.inr zO)) (fun _ _ h => h))⟩) (fun wq hR hst => ?_) ?_
   ·refine yY rfl (fun v18 hp18 => ?_)
    obtain ⟨xs18, xa18, xd18, rfl, hn18⟩ := hp18
    refine zF ?_
    have Lq := lqb (M := (Ins b5 (Ins b3 (Ins b2 M)))) hR (.inr zO) nF3
    exact zX rfl rfl rfl (zD ⟨rfl, xD _, _, rfl, ⟨_, _, _, rfl, hn18⟩⟩)
   refine gM rfl (Ex (.int .i64 (if (((uT (l.take s)).den) * (((l.getD s 0)).den)) = 0 then 30 else 0))) uZ (fun wq hR hst => ?_) ?_
   ·refine yY rfl (fun v18 hp18 => ?_)
    obtain ⟨xs18, xa18, xd18, rfl, hn18⟩ := hp18
    refine zF ?_
    have Lq := lqb (M := (Ins b5 (Ins b3 (Ins b2 M)))) hR (.inr zO) nF3
    exact zX rfl rfl rfl (on0 rfl)
   refine eF rfl (fun wq hR hp => ?_) ?_
   ·refine zQ rfl rfl (yY rfl (fun v31 hp31 => ?_))
    obtain ⟨xs31, xa31, xd31, rfl, hn31⟩ := hp31; obtain ⟨oxa31, oxd31, _⟩ := hn31.one
    refine zF ?_
    have Lq := lqb (M := (Ins b5 (Ins b3 (Ins b2 M)))) hR (.inr zO) nF3
    replace B3 := hp
    refine yC rfl rfl yL B3 rfl rfl (yK (yK (yK jI))) rfl (fun w13 Cw13 B3 => ?_)
    have Lw13 := Le.of_chg (M := (Ins b5 (Ins b3 (Ins b2 M)))) Cw13 (.inr zO) nF3
    replace hn31 := hn31.mono Lw13
    exact zD ⟨rfl, cT Cw13, _, _, _, B3, hn31⟩
   refine xQ (fun wq6 hR6 hpost6 => ?_)
   refine zQ rfl rfl (zQ rfl rfl (zQ rfl rfl (zQ rfl rfl (zF ?_))))
   simp only [jW, jV, jU, jT]
   obtain ⟨LR, hn3⟩ := up2 (lqc LR hR6 (.inr zO) nF3) LR hn3
   replace B2 := B2.rs hR6 ne2_3
   obtain ⟨xs3, xa3, xd3, B3, hn3⟩ := hpost6 _ _ _ rfl
   refine zD (zB (zA rfl rfl (yW rfl rfl rfl (by omega) (zC rfl rfl (zD ?_)))))
   replace LR := LR.trans (Le.less (fun k c => (zM c)))
   replace hn3 := hn3.mono (Fz := fun _ => False) (Le.less (fun k c => (zM c)))
   refine ⟨rfl, s + 1, (zS rfl (by rw [Int.natCast_add]; rfl) (zH rfl (zH rfl (zH rfl yE)))), ?_, ?_⟩
   rw [mul_eq] at hn3
   exact ⟨LR, by omega, B2, _, _, _, B3, by rw [prodR_take (by omega)]; exact RC.relen hn3 (jC (bE hl3 hle) (by omega))⟩
   omega
  ·refine xK (xM (zG (zB (zP rfl yQ yL rfl B3 rfl rfl (yC rfl rfl yL B2 rfl rfl (yK (yK (yK jI))) rfl (fun w14 Cw14 B2 => ?_))))))
   obtain ⟨LL, hn3⟩ := up2 (lc LL Cw14 (.inr zO) nF2) LL hn3
   refine zD (zR ?_)
   refine lv1 ⟨⟨_, rfl, yT yQ yL B2 rfl rfl⟩, trivial⟩ ?_
   obtain rfl : s = l.length := by omega
   rw [List.take_length] at hn3
   subst hFz
   exact ⟨LL.b, _, _, _, rfl, (hn3.less (fun k c => zM (zM c))).up (by omega)⟩
theorem alike_f {p q : P2} (h : p.1 ≠ q.1) : decide (p = q) = false := decide_eq_false fun c => h (by rw [c])
theorem alike_t {p q : P2} (h : p.1 = q.1) : decide (p.2 = q.2) = decide (p = q) := by
  rw [decide_eq_decide]; exact ⟨fun c => Prod.ext h c, fun c => by rw [c]⟩
theorem r8of_c {k : Nat} {l : Nat} (hk : k < 9223372036854775808) (hl : l < 9223372036854775808) (hM : OkM M w) :
    CallsV prog 85 [.int .i64 ((k : Nat) : Int), .int .i64 ((l : Nat) : Int)] w fun r w' => Bel w.heap.size w w' ∧ ∃ xsr xar xdr xtr xbr xer, r = .agg #[.bool xsr, xar, xdr, .bool xtr, xbr, xer] ∧ PC M w' (2) ((((k : Nat) : Rat), ((l : Nat) : Rat))) xsr xar xdr xtr xbr xer := by
 refine ci M func85 ntmps85 fun Fz hFz hF LL => ?_
 refine zG (zB (yH rfl gT (fun w1 b4 N4 => ?_)))
 obtain ⟨_, nF4, nM4, Lw1, B4⟩ := nza hF hM N4
 obtain ⟨LL, hM⟩ := up2 Lw1 LL hM
 refine zD (zG (zB (zA rfl rfl (zI rfl (bo func21) rfl rfl ?_))))
 refine (eO (k := k)  (by omega) hM).mono ?_
 rintro v6 w2 ⟨hB6, xs6, xa6, xd6, rfl, hn6⟩
 obtain ⟨LL, hM, B4⟩ := ub3 hB6 LL hM B4
 obtain ⟨oxa6, oxd6, _⟩ := hn6.one
 refine zA rfl rfl (zI rfl (bo func21) rfl rfl ?_)
 refine (eO (k := l)  (by omega) hM).mono ?_
 rintro v8 w3 ⟨hB8, xs8, xa8, xd8, rfl, hn8⟩
 obtain ⟨LL, hn6, B4⟩ := ub3 hB8 LL hn6 B4
 obtain ⟨oxa8, oxd8, _⟩ := hn8.one
 refine xO rfl plc39 rfl rfl (yB (rfl) (yB (rfl) xI)) rfl (yC rfl rfl gT B4 rfl rfl (yK (yK (yK (yK (yK (yK jI)))))) rfl (fun w4 Cw4 B4 => ?_))
 obtain ⟨LL, hn6, hn8⟩ := up3 (lc LL Cw4 zO nF4) LL hn6 hn8
 refine zD (zR ?_)
 refine lv1 ⟨⟨_, rfl, yT qG gT B4 rfl rfl⟩, trivial⟩ ?_
 subst hFz
 exact ⟨LL.b, _, _, _, _, _, _, rfl, ((PC.mk2 hn6 hn8).less (fun k c => zM c)).up (by omega)⟩
abbrev N4 := Nat × Nat × Nat × Nat
def m4 (k : N4) : Nat := max (max (max k.1 k.2.1) k.2.2.1) k.2.2.2
end
end Go.Proofs.YtfkejnlohkgbgaaGreatDoor
namespace Go.Proofs.YtfkejnlohkgbgaaGreatDoor
open Go Go.SL Go.RowKit Tryz
structure plen (p : P2) (n : Nat) : Prop where
 x : jZ p.1 n
 y : jZ p.2 n
theorem rlen_sub {p q : Rat} {A B : Nat} (h1 : jZ p A) (h2 : jZ q B) : jZ (p - q) (A + B + 1) := by
 rw [Rat.sub_eq_add_neg]; exact qU h1 (rlen_neg h2)
theorem plen.sub {p q : P2} {A B : Nat} (h1 : plen p A) (h2 : plen q B) : plen (lN p q) (A + B + 1) := ⟨rlen_sub h1.x h2.x, rlen_sub h1.y h2.y⟩
theorem plen.add {p q : P2} {A B : Nat} (h1 : plen p A) (h2 : plen q B) : plen (lX p q) (A + B + 1) := ⟨qU h1.x h2.x, qU h1.y h2.y⟩
theorem plen.scale {p : P2} {q : Rat} {A B : Nat} (h1 : plen p A) (h2 : jZ q B) : plen (fW p q) (A + B) := ⟨bE h1.x h2, bE h1.y h2⟩
theorem plen.at_ {p q : P2} {t : Rat} {A B C : Nat} (h1 : plen p A) (h2 : plen q B) (h3 : jZ t C) : plen (atP p q t) (A + ((B + A + 1) + C) + 1) := h1.add ((h2.sub h1).scale h3)
theorem rlen_zero' : jZ 0 1 := by unfold jZ; rw [show (0 : Rat).num.natAbs = 0 from rfl, show (0 : Rat).den = 1 from rfl, xE, gO]; exact ⟨Nat.zero_le _, Nat.le_refl _⟩
section
variable {M : Nat → Prop} {w : World} {n m : Nat} {s t : Bool} {a d b e : Value}
theorem PQ.plen {p : P2} (h : PQ M w n p s a d t b e) (hn : n + 1 ≤ m) : plen p m := ⟨jC h.x.rlen hn, jC h.y.rlen hn⟩
end
end Go.Proofs.YtfkejnlohkgbgaaGreatDoor
namespace Go.Proofs.YtfkejnlohkgbgaaGreatDoor
open Go.SL Go.RowKit Go.Proofs Tryz
section
variable {M : Nat → Prop} {w : World}
abbrev N2 := Nat × Nat
structure Q2 (M : Nat → Prop) (w : World) (n : Nat) (q : N2) (s : Bool) (a d : Value) : Prop where
  a : ∃ p c, a = .slice p q.1 c
  d : ∃ p c, d = .slice p q.2 c
theorem nat_start {M M0 : Nat → Prop} {w0 w : World} {v : Value} {xs : List Nat} (h : IsNat M0 w0 v xs) (hM : ∀ k, M k → M0 k ∨ w0.heap.size ≤ k) (k0 : Keep M0 w0 w) : IsNat M w v xs := by
  obtain ⟨⟨h1, h2, ad, cap, h3, h4, h5⟩, hlt⟩ := h
  refine ⟨⟨h1, h2, ad, cap, h3, h4, ?_⟩, hlt⟩
  rcases h5 with h5 | ⟨b, off, h5, h6, cur, t, fz, h7, h8⟩
  · exact .inl h5
  · have hb := (Array.getElem?_eq_some_iff.1 h7).1
    exact .inr ⟨b, off, h5, fun c => (hM b c).elim h6 (fun c => by omega), cur, t, fz, (k0.2 b hb h6).trans h7, h8⟩
theorem tab_start {M M0 : Nat → Prop} {w0 w : World} (h : Tab M0 w0) (hM : ∀ k, M k → M0 k ∨ w0.heap.size ≤ k) (k0 : Keep M0 w0 w) : Tab M w := by
  obtain ⟨h1, cur, t, fz, h7, h8⟩ := h
  have hb := (Array.getElem?_eq_some_iff.1 h7).1
  exact ⟨fun c => (hM 0 c).elim h1 (fun c => by omega), cur, t, fz, (k0.2 0 hb h1).trans h7, h8⟩
structure EPB (M : Nat → Prop) (w : World) (n : Nat) (cur : List Value) (l : List P2) : Prop where
  e : EB (RPc n) 6 M w cur l
theorem EPB.mono {Fz M M' : Nat → Prop} {w w' : World} {n : Nat} {cur : List Value} {l : List P2} (h : EPB M w n cur l) (k : Le Fz M w M' w') : EPB M' w' n cur l := ⟨EB.mono h.e fun _ _ ⟨a, b, c, d, e, f, e0, h0⟩ => ⟨a, b, c, d, e, f, e0, h0.mono k⟩⟩
instance {Fz M M' : Nat → Prop} {w w' : World} {n : Nat} {cur : List Value} {l : List P2} : Up Fz M M' w w' (EPB M w n cur l) (EPB M' w' n cur l) := ⟨fun l h => h.mono l⟩
instance {M : Nat → Prop} {w w' : World} {n : Nat} {cur : List Value} {l : List P2} : UpB w w' (EPB M w n cur l) (EPB M w' n cur l) := ⟨fun l h => h.mono (lb l)⟩
theorem EPB.set {n i : Nat} {cur : List Value} {l : List P2} {p : P2} {s t : Bool} {a d b e : Value} (h : EPB M w n cur l) (hi : i < l.length) (hp : PC M w n p s a d t b e) : EPB M w n (cur.take (i * 6) ++ [.bool s, a, d, .bool t, b, e] ++ cur.drop (i * 6 + 6)) (l.set i p) := ⟨h.e.set hi rfl ⟨_, _, _, _, _, _, rfl, hp⟩⟩
theorem EPB.take {n m : Nat} {cur : List Value} {l : List P2} (h : EPB M w n cur l) : EPB M w n cur (l.take m) := ⟨h.e.take⟩
theorem keep_same {l : List P2} {s : Nat} (h0 : 0 < s) (hs : s < l.length) (h : ∀ i, 0 < i → i < s → iU (l.getD i (0, 0)) (l.getD (i - 1) (0, 0)) ≠ 0) (hc : iU (l.getD s (0, 0)) (l.getD (s - 1) (0, 0)) = 0) : l.take s = qF l (s + 1) := by
  rw [qF, if_pos ⟨h0, hc⟩, keep_all (by omega) h, List.append_nil]
theorem keep_skip {l l2 : List P2} {k m : Nat} (h0 : 0 < m) (ht : l2.take k = qF l m) (hc : iU (l.getD m (0, 0)) (l.getD (m - 1) (0, 0)) = 0) : l2.take k = qF l (m + 1) := by
  rw [qF, if_pos ⟨h0, hc⟩, List.append_nil, ht]
theorem keep_put {l l2 : List P2} {k m : Nat} (hk : k < l2.length) (ht : l2.take k = qF l m) (hc : ¬ iU (l.getD m (0, 0)) (l.getD (m - 1) (0, 0)) = 0) : (l2.set k (l.getD m (0, 0))).take (k + 1) = qF l (m + 1) := by
  rw [qF, if_neg (fun c => hc c.2), ← ht, List.take_add_one, List.getElem?_set_self hk, List.take_set_of_le (Nat.le_refl _)]; rfl
theorem getD_set_ne {l : List P2} {k i : Nat} {p : P2} (h : k ≠ i) : (l.set k p).getD i (0, 0) = l.getD i (0, 0) := by
  rw [List.getD_eq_getElem?_getD, List.getD_eq_getElem?_getD, List.getElem?_set_ne h]
theorem bod_enter {P : Program} {g : Nat} (h : Bod P g) (args : Array Value) (w : World) : (callFunc g args).run P w = .ok (.enter g args) w := by
  obtain ⟨fn, h1, h2, h3⟩ := h
  have h2' : fn.body ≠ none := fun c => by rw [c] at h2; cases h2
  have h3' : fn.name ≠ "runtime.NumGoroutine" := fun c => by rw [c] at h3; simp at h3
  simp [callFunc, h1, h2', h3']
end
end Go.Proofs.YtfkejnlohkgbgaaGreatDoor
namespace Go.SL
def bR (lo hi x : Rat) : Rat := if lo < hi then (x - lo) / (hi - lo) else 0
def uY (l : P2) (t : Rat) : Rat := l.1 + t * (l.2 - l.1)
def kP (l : P2) (lo hi x : Rat) : Rat := if lo < hi then uY l (bR lo hi x) else 0
def hsL (lo hi x : Rat) (ls : List P2) : List Rat := ls.map fun l => uY l (bR lo hi x)
theorem bU (lo hi x : Rat) (ls : List P2) : (hsL lo hi x ls).length = ls.length := by simp [hsL]
theorem hsL_getD {lo hi x : Rat} {ls : List P2} {s : Nat} (h : s < ls.length) : (hsL lo hi x ls).getD s 0 = uY (ls.getD s (0, 0)) (bR lo hi x) := by
 unfold hsL; simp [List.getD_eq_getElem?_getD, List.getElem?_eq_getElem h]
def eQ (a b : P2) : Int := if jY (a.1 + a.2) (b.1 + b.2) ≠ 0 then jY (a.1 + a.2) (b.1 + b.2) else jY a.1 b.1
def leL (a b : P2) : Prop := a.1 + a.2 < b.1 + b.2 ∨ a.1 + a.2 = b.1 + b.2 ∧ a.1 ≤ b.1
theorem eX {a b : P2} : eQ a b < 0 ↔ ¬ leL b a := by
 unfold eQ leL
 have h1 := @cmpR_le (a.1 + a.2) (b.1 + b.2); have h2 := @qN (a.1 + a.2) (b.1 + b.2); have h3 := @eH a.1 b.1; have h4 := @eH (a.1 + a.2) (b.1 + b.2)
 grind
theorem leL_refl (a : P2) : leL a a := by unfold leL; grind
theorem leL_trans {a b c : P2} (h : leL a b) (k : leL b c) : leL a c := by unfold leL at *; grind
theorem leL_total (a b : P2) : leL a b ∨ leL b a := by unfold leL; grind
theorem leL_anti {a b : P2} (h : leL a b) (k : leL b a) : a = b := by unfold leL at *; rw [Prod.ext_iff]; grind
def uH (ys : List Rat) (y : Rat) : Nat → Int
 | 0 => 0
 | s + 1 => uH ys y s + (if ys.getD s 0 < y then 1 else 0)
theorem below_yes {ys : List Rat} {y : Rat} {s : Nat} (h : ys.getD s 0 < y) : uH ys y (s + 1) - 1 = uH ys y s - 1 + 1 := by rw [uH, if_pos h]; omega
theorem below_no {ys : List Rat} {y : Rat} {s : Nat} (h : ¬ ys.getD s 0 < y) : uH ys y (s + 1) - 1 = uH ys y s - 1 := by rw [uH, if_neg h]; omega
theorem belowY_bnd (ys : List Rat) (y : Rat) : ∀ s : Nat, 0 ≤ uH ys y s ∧ uH ys y s ≤ s
 | 0 => by simp [uH]
 | s + 1 => by
  have := belowY_bnd ys y s
  unfold uH
  split <;> omega
def lD (ys : List Rat) (y : Rat) : Nat → Option Nat
 | 0 => none
 | s + 1 => match lD ys y s with
  | some i => some i
  | none => if ys.getD s 0 = y then some s else none
def fT (ys : List Rat) (y : Rat) : Int × Bool := match lD ys y ys.length with
 | some i => ((i : Int), true)
 | none => (uH ys y ys.length - 1, false)
theorem hitY_none {ys : List Rat} {y : Rat} : ∀ {s : Nat}, lD ys y s = none ↔ ∀ i, i < s → ys.getD i 0 ≠ y
 | 0 => by simp [lD]
 | s + 1 => by
  have ih := @hitY_none ys y s
  unfold lD
  constructor
  ·intro h0 i hi
   cases hh : lD ys y s with
   | some q => rw [hh] at h0; cases h0
   | none =>
   rw [hh] at h0
   have h1 := ih.1 hh
   have h2 : (if ys.getD s 0 = y then some s else none) = none := h0
   rcases Nat.lt_or_ge i s with c | c
   ·exact h1 i c
   ·obtain rfl : i = s := by omega
    intro e; rw [if_pos e] at h2; cases h2
  ·intro h
   rw [ih.2 fun i hi => h i (by omega)]
   exact if_neg (h s (by omega))
theorem hitY_some {ys : List Rat} {y : Rat} {s : Nat} (hn : ∀ i, i < s → ys.getD i 0 ≠ y) (he : ys.getD s 0 = y) : ∀ k, s < k → lD ys y k = some s
 | 0, h => by omega
 | k + 1, h => by
  unfold lD
  rcases Nat.lt_or_ge s k with c | c
  ·rw [hitY_some hn he k c]
  ·obtain rfl : s = k := by omega
   rw [hitY_none.2 hn]; exact if_pos he
theorem findY_hit {ys : List Rat} {y : Rat} {s : Nat} (hs : s < ys.length) (hn : ∀ i, i < s → ys.getD i 0 ≠ y) (he : ys.getD s 0 = y) : fT ys y = ((s : Int), true) := by
 unfold fT; rw [hitY_some hn he _ hs]
theorem findY_miss {ys : List Rat} {y : Rat} (hn : ∀ i, i < ys.length → ys.getD i 0 ≠ y) : fT ys y = (uH ys y ys.length - 1, false) := by
 unfold fT; rw [hitY_none.2 hn]
def fU (lo hi : Rat) (p : P2) (ls : List P2) : Int × Bool := fT (hsL lo hi p.1 ls) p.2
def fN (lo hi : Rat) (e : P2 × P2) : Prop := ¬ lo < e.1.1 ∧ ¬ e.2.1 < hi ∧ e.1.1 < e.2.1
instance (lo hi : Rat) (e : P2 × P2) : Decidable (fN lo hi e) := inferInstanceAs (Decidable (_ ∧ _))
def fH (lo hi : Rat) (e : P2 × P2) : P2 := (bV e.1 e.2 lo, bV e.1 e.2 hi)
def qD (lo hi : Rat) (es : List (P2 × P2)) : Nat → List P2
 | 0 => []
 | s + 1 => qD lo hi es s ++ (if fN lo hi (es.getD s ((0, 0), (0, 0))) then [fH lo hi (es.getD s ((0, 0), (0, 0)))] else [])
theorem thru_skip {lo hi : Rat} {es : List (P2 × P2)} {s : Nat} (h : ¬ fN lo hi (es.getD s ((0, 0), (0, 0)))) : qD lo hi es (s + 1) = qD lo hi es s := by rw [qD, if_neg h, List.append_nil]
theorem thru_take {lo hi : Rat} {es : List (P2 × P2)} {s : Nat} (h : fN lo hi (es.getD s ((0, 0), (0, 0)))) : qD lo hi es (s + 1) = qD lo hi es s ++ [fH lo hi (es.getD s ((0, 0), (0, 0)))] := by rw [qD, if_pos h]
theorem thru_pre (lo hi : Rat) (es : List (P2 × P2)) (s : Nat) : ∀ k, ∃ post, qD lo hi es (s + k) = qD lo hi es s ++ post
 | 0 => ⟨[], by simp⟩
 | k + 1 => by
  obtain ⟨post, h⟩ := thru_pre lo hi es s k
  rw [← Nat.add_assoc, qD, h, List.append_assoc]
  exact ⟨_, rfl⟩
theorem thru_at {lo hi : Rat} {es : List (P2 × P2)} {s : Nat} (hs : s < es.length) (h : fN lo hi (es.getD s ((0, 0), (0, 0)))) : ∃ post, qD lo hi es es.length = qD lo hi es s ++ fH lo hi (es.getD s ((0, 0), (0, 0))) :: post := by
 obtain ⟨post, e⟩ := thru_pre lo hi es (s + 1) (es.length - (s + 1))
 rw [show s + 1 + (es.length - (s + 1)) = es.length by omega, thru_take h, List.append_assoc] at e
 exact ⟨post, e⟩
theorem thru_len (lo hi : Rat) (es : List (P2 × P2)) : ∀ s, (qD lo hi es s).length ≤ s
 | 0 => by simp [qD]
 | s + 1 => by
  have := thru_len lo hi es s
  rw [qD, List.length_append]
  split <;> simp <;> omega
def qQ (a b : P2) : Prop := a.1 ≤ b.1 ∧ a.2 ≤ b.2 ∧ a ≠ b
def aN (ls : List P2) : Prop := ∀ i, i + 1 < ls.length → qQ (ls.getD i (0, 0)) (ls.getD (i + 1) (0, 0))
noncomputable instance (ls : List P2) : Decidable (aN ls) := Classical.propDecidable _
theorem cmpR_bnd (p q : Rat) : -1 ≤ jY p q ∧ jY p q ≤ 1 := by unfold jY; split <;> (try split) <;> decide
theorem rise_ok {a b : P2} (h1 : ¬ 0 < jY a.1 b.1) (h2 : ¬ 0 < jY a.2 b.2) (h3 : ¬ (jY a.1 b.1 = 0 ∧ jY a.2 b.2 = 0)) : qQ a b := by
 rw [eW] at h1 h2
 rw [qN, qN] at h3
 exact ⟨by grind, by grind, fun e => h3 (by rw [e]; exact ⟨rfl, rfl⟩)⟩
theorem rise_no1 {a b : P2} (h : 0 < jY a.1 b.1) : ¬ qQ a b := fun c => by rw [eW] at h; have := c.1; grind
theorem rise_no2 {a b : P2} (h : 0 < jY a.2 b.2) : ¬ qQ a b := fun c => by rw [eW] at h; have := c.2.1; grind
theorem rise_no3 {a b : P2} (h : jY a.1 b.1 = 0) (k : jY a.2 b.2 = 0) : ¬ qQ a b := fun c => c.2.2 (Prod.ext (qN.1 h) (qN.1 k))
theorem rise_not {ls : List P2} {s : Nat} (hs : s + 1 < ls.length) (h : ¬ qQ (ls.getD s (0, 0)) (ls.getD (s + 1) (0, 0))) : decide (aN ls) = false := decide_eq_false fun c => h (c s hs)
theorem cmpL_irr (a : P2) : ¬ eQ a a < 0 := by rw [eX]; exact fun c => c (leL_refl a)
theorem cmpL_lt_trans {a b c : P2} (h : eQ a b < 0) (k : eQ b c < 0) : eQ a c < 0 := by
 rw [eX] at *
 exact fun x => h (leL_trans (Classical.byContradiction fun y => by rcases leL_total b c with z | z; exact y z; exact k z) x)
theorem keep_specL {l : List P2} (hs : ∀ i j, i < j → j < l.length → leL (l.getD i (0, 0)) (l.getD j (0, 0))) : ∀ k, k ≤ l.length →
  (qF l k).Pairwise (fun a b => eQ a b < 0) ∧ ∀ x, x ∈ qF l k ↔ x ∈ l.take k
 | 0, _ => by simp [qF]
 | k + 1, hk => by
  obtain ⟨h1, h2⟩ := keep_specL hs k (by omega)
  rw [take_getD (0, 0) (by omega)]
  unfold qF
  split
  ·rename_i c
   rw [List.append_nil]
   refine ⟨h1, fun x => ?_⟩
   rw [h2, List.mem_append]
   refine ⟨.inl, fun d => d.elim id fun d => ?_⟩
   rw [List.mem_singleton.1 d, aX.1 c.2]
   have := take_getD (l := l) (k := k - 1) (0, 0) (by omega)
   rw [show k - 1 + 1 = k by omega] at this
   rw [this]; simp
  ·rename_i c
   refine ⟨List.pairwise_append.2 ⟨h1, List.pairwise_singleton _ _, fun a ha b hb => ?_⟩, fun x => by rw [List.mem_append, List.mem_append, h2]⟩
   rw [List.mem_singleton.1 hb, eX]
   intro hle
   obtain ⟨i, hi, rfl⟩ := List.mem_iff_getElem.1 ((h2 a).1 ha)
   rw [List.length_take] at hi
   rw [List.getElem_take] at hle
   have e : l[i]'(by omega) = l.getD i (0, 0) := by rw [List.getD_eq_getElem?_getD, List.getElem?_eq_getElem]; rfl
   rw [e] at hle
   apply c
   refine ⟨by omega, aX.2 ?_⟩
   have h4 := hs (k - 1) k (by omega) (by omega)
   rcases Nat.lt_or_ge i (k - 1) with d | d
   ·exact leL_anti (leL_trans hle (hs i (k - 1) d (by omega))) h4
   ·rw [show i = k - 1 by omega] at hle
    exact leL_anti hle h4
theorem pw_uniq : ∀ {l m : List P2}, l.Pairwise (fun a b => eQ a b < 0) → m.Pairwise (fun a b => eQ a b < 0) → (∀ x, x ∈ l ↔ x ∈ m) → l = m
 | [], [], _, _, _ => rfl
 | [], b :: m, _, _, h => absurd ((h b).2 (by simp)) (by simp)
 | a :: l, [], _, _, h => absurd ((h a).1 (by simp)) (by simp)
 | a :: l, b :: m, h1, h2, h => by
  obtain ⟨a1, a2⟩ := List.pairwise_cons.1 h1
  obtain ⟨b1, b2⟩ := List.pairwise_cons.1 h2
  have e : a = b := by
   rcases List.mem_cons.1 ((h a).1 (by simp)) with c | c
   ·exact c
   rcases List.mem_cons.1 ((h b).2 (by simp)) with d | d
   ·exact d.symm
   exact absurd (cmpL_lt_trans (a1 b d) (b1 a c)) (cmpL_irr a)
  subst e
  rw [pw_uniq a2 b2 fun x => ⟨fun hx => ?_, fun hx => ?_⟩]
  ·rcases List.mem_cons.1 ((h x).1 (List.mem_cons_of_mem _ hx)) with c | c
   ·subst c; exact absurd (a1 x hx) (cmpL_irr x)
   ·exact c
  ·rcases List.mem_cons.1 ((h x).2 (List.mem_cons_of_mem _ hx)) with c | c
   ·subst c; exact absurd (b1 x hx) (cmpL_irr x)
   ·exact c
structure IsLv (lo hi yl yh : Rat) (es : List (P2 × P2)) (l : List P2) : Prop where
 rise : l.Pairwise (fun a b => eQ a b < 0)
 mem : ∀ x, x ∈ l ↔ x ∈ qD lo hi es es.length ++ [(yl, yl), (yh, yh)]
theorem lv_of_sort {lo hi yl yh : Rat} {es : List (P2 × P2)} {d : List P2} (hp : d.Perm (qD lo hi es es.length ++ [(yl, yl), (yh, yh)])) (hs : ∀ i j, i < j → j < d.length → leL (d.getD i (0, 0)) (d.getD j (0, 0))) : IsLv lo hi yl yh es (qF d d.length) := by
 obtain ⟨h1, h2⟩ := keep_specL hs d.length (Nat.le_refl _)
 exact ⟨h1, fun x => by rw [h2, List.take_length]; exact hp.mem_iff⟩
theorem lv_uniq {lo hi yl yh : Rat} {es : List (P2 × P2)} {l m : List P2} (h : IsLv lo hi yl yh es l) (k : IsLv lo hi yl yh es m) : l = m := pw_uniq h.rise k.rise fun x => by rw [h.mem, k.mem]
theorem part_in {lo hi x : Rat} (h1 : lo < x) (h2 : x < hi) : 0 < bR lo hi x ∧ bR lo hi x < 1 := by
 have h3 : lo < hi := by grind
 have h4 : (0 : Rat) < hi - lo := by grind
 unfold bR
 rw [if_pos h3]
 refine ⟨by rw [Rat.lt_div_iff h4]; grind, ?_⟩
 rw [Rat.div_lt_iff h4]; grind
theorem height_rise {a b : P2} {t : Rat} (h0 : 0 < t) (h1 : t < 1) (h : qQ a b) : uY a t < uY b t := by
 obtain ⟨e1, e2, e3⟩ := h
 unfold uY
 have f1 : 0 ≤ (1 - t) * (b.1 - a.1) := Rat.mul_nonneg (by grind) (by grind)
 have f2 : 0 ≤ t * (b.2 - a.2) := Rat.mul_nonneg (by grind) (by grind)
 have e : b.1 + t * (b.2 - b.1) = a.1 + t * (a.2 - a.1) + ((1 - t) * (b.1 - a.1) + t * (b.2 - a.2)) := by grind
 rw [e]
 rcases Classical.em (a.1 = b.1) with c | c
 ·have : (0 : Rat) < t * (b.2 - a.2) := Rat.mul_pos h0 (by
   have : a.2 ≠ b.2 := fun d => e3 (Prod.ext c d)
   grind)
  grind
 ·have : (0 : Rat) < (1 - t) * (b.1 - a.1) := Rat.mul_pos (by grind) (by grind)
  grind
def upY (ys : List Rat) : Prop := ∀ i k, i < k → k < ys.length → ys.getD i 0 < ys.getD k 0
theorem hs_up {lo hi x : Rat} {ls : List P2} (h1 : lo < x) (h2 : x < hi) (h : aN ls) : upY (hsL lo hi x ls) := by
 obtain ⟨t0, t1⟩ := part_in h1 h2
 have one : ∀ i, i + 1 < ls.length → (hsL lo hi x ls).getD i 0 < (hsL lo hi x ls).getD (i + 1) 0 := fun i hi => by
  rw [hsL_getD (by omega), hsL_getD hi]
  exact height_rise t0 t1 (h i hi)
 intro i k hik hk
 rw [bU] at hk
 induction k with
 | zero => omega
 | succ k ih =>
  rcases Nat.lt_or_ge i k with c | c
  ·have := ih c (by omega); have := one k hk; grind
  ·obtain rfl : i = k := by omega
   exact one i hk
theorem belowY_is {ys : List Rat} {y : Rat} {k : Nat} : ∀ s, (∀ i, i < s → (ys.getD i 0 < y ↔ i < k)) → uH ys y s = ((min s k : Nat) : Int)
 | 0, _ => by simp [uH]
 | s + 1, h => by
  rw [uH, belowY_is s fun i hi => h i (by omega)]
  have := h s (by omega)
  by_cases c : s < k
  ·rw [if_pos (this.2 c)]; omega
  ·rw [if_neg (fun d => c (this.1 d))]; omega
theorem find_at {ys : List Rat} {j : Nat} (h : upY ys) (hj : j < ys.length) : fT ys (ys.getD j 0) = ((j : Int), true) :=
 findY_hit hj (fun i hi => by have := h i j hi hj; grind) rfl
theorem find_btw {ys : List Rat} {y : Rat} {j : Nat} (h : upY ys) (hj : j < ys.length) (h1 : ys.getD j 0 < y) (h2 : ∀ k, k = j + 1 → k < ys.length → y < ys.getD k 0) : fT ys y = ((j : Int), false) := by
 have hlt : ∀ i, i < ys.length → (ys.getD i 0 < y ↔ i < j + 1) := fun i hi => by
  rcases Nat.lt_trichotomy i j with c | c | c
  ·have := h i j c hj; exact ⟨fun _ => by omega, fun _ => by grind⟩
  ·subst c; exact ⟨fun _ => by omega, fun _ => h1⟩
  ·have h3 := h2 (j + 1) rfl (by omega)
   rcases Nat.eq_or_lt_of_le (show j + 1 ≤ i by omega) with d | d
   ·subst d; exact ⟨fun c => by grind, fun c => by omega⟩
   ·have := h (j + 1) i d hi; exact ⟨fun c => by grind, fun c => by omega⟩
 rw [findY_miss fun i hi => by
  rcases Nat.lt_or_ge i (j + 1) with c | c
  ·have := (hlt i hi).2 c; grind
  ·have h3 := h2 (j + 1) rfl (by omega)
   rcases Nat.eq_or_lt_of_le c with d | d
   ·subst d; grind
   ·have := h (j + 1) i d hi; grind, belowY_is (k := j + 1) _ hlt]
 have : min ys.length (j + 1) = j + 1 := by omega
 rw [this]; simp
theorem find_low {ys : List Rat} {y : Rat} (h : upY ys) (h0 : 0 < ys.length) (h1 : y < ys.getD 0 0) : fT ys y = (-1, false) := by
 have hall : ∀ i, i < ys.length → y < ys.getD i 0 := fun i hi => by
  rcases Nat.eq_zero_or_pos i with c | c
  ·subst c; exact h1
  ·have := h 0 i c hi; grind
 rw [findY_miss fun i hi => by have := hall i hi; grind, belowY_is (k := 0) _ fun i hi => by have := hall i hi; exact ⟨fun c => by grind, fun c => by omega⟩]
 simp
end Go.SL
