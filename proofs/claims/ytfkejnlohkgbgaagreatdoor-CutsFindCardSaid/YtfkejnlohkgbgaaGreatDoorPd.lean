/- Walks of the functions that the statement reaches, and the lemmas they stand on; no statement of the seat is proved here. -/
import Derived.Test.YtfkejnlohkgbgaaGreatDoorPc
set_option linter.unusedVariables false
set_option linter.unusedSimpArgs false
set_option maxRecDepth 100000
namespace Go.Proofs.YtfkejnlohkgbgaaGreatDoor
open Go.SL Go.RowKit Go.Proofs Tryz
variable {M : Nat → Prop} {w : World}
theorem floor_pos {z : Int} {d : Nat} (h : ¬ z < 0) : zv (decide (z < 0)) (limbs (z.natAbs / d)) = z / (d : Int) := by
  obtain ⟨n, rfl⟩ := Int.eq_ofNat_of_zero_le (Int.not_lt.1 h)
  rw [decide_eq_false h, zv, zY]; simp
theorem floor_neg {z : Int} {d : Nat} (hd : d ≠ 0) (h : z < 0) (hr : ¬ 0 < z.natAbs % d) : zv (decide (z < 0)) (limbs (z.natAbs / d)) = z / (d : Int) := by
  rw [decide_eq_true h, zv, zY, if_pos rfl]
  obtain ⟨n, hn⟩ : ∃ n : Nat, z = -(n : Int) := ⟨z.natAbs, by omega⟩
  subst hn
  rw [Int.natAbs_neg, Int.natAbs_natCast] at hr ⊢
  have e := Nat.div_add_mod n d
  have e2 : ((d * (n / d) : Nat) : Int) = (n : Int) := by congr 1; omega
  rw [Int.natCast_mul] at e2
  have := (Int.ediv_emod_unique (a := -(n : Int)) (b := (d : Int)) (r := 0) (q := -((n / d : Nat) : Int)) (by omega)).2 ⟨by rw [Int.mul_neg, e2]; omega, by omega, by omega⟩
  exact this.1.symm
theorem floor_up {z : Int} {d : Nat} (hd : d ≠ 0) (h : z < 0) (hr : 0 < z.natAbs % d) : zv (decide (z < 0)) (limbs (z.natAbs / d + 1)) = z / (d : Int) := by
  rw [decide_eq_true h, zv, zY, if_pos rfl]
  obtain ⟨n, hn⟩ : ∃ n : Nat, z = -(n : Int) := ⟨z.natAbs, by omega⟩
  subst hn
  rw [Int.natAbs_neg, Int.natAbs_natCast] at hr ⊢
  have e := Nat.div_add_mod n d
  have hlt := Nat.mod_lt n (Nat.pos_of_ne_zero hd)
  have e2 : ((d : Nat) : Int) * ((n / d : Nat) : Int) = (n : Int) - ((n % d : Nat) : Int) := by
    have : ((d * (n / d) + n % d : Nat) : Int) = (n : Int) := by rw [e]
    rw [Int.natCast_add, Int.natCast_mul] at this; omega
  have := (Int.ediv_emod_unique (a := -(n : Int)) (b := (d : Int)) (r := (d : Int) - ((n % d : Nat) : Int)) (q := -((n / d + 1 : Nat) : Int)) (by omega)).2 ⟨by rw [Int.natCast_add, Int.mul_neg, Int.mul_add, e2]; simp; omega, by omega, by omega⟩
  exact this.1.symm
theorem rfloor_r {s : Bool} {v u : Value} {xs ds : List Nat} (hT : Tab M w) (hv : IsNat M w v xs) (hu : IsNat M w u ds) (hl1 : xs.length ≤ 100000) (hl2 : ds.length ≤ 100000) (hM : OkM M w) :
    CallsV prog 194 [.agg #[.bool s, v, u]] w fun r w' => Below w.heap.size w w' ∧ ∃ q, r = .agg #[.bool (decide ((mkRat (zv s xs) (val ds)).num / ((mkRat (zv s xs) (val ds)).den : Int) < 0)), q] ∧ IsNat M w' q (limbs ((mkRat (zv s xs) (val ds)).num / ((mkRat (zv s xs) (val ds)).den : Int)).natAbs) := by
 obtain ⟨Fz, hFz, hF, LL⟩ := fz0 M w
 obtain ⟨p, hp⟩ : ∃ p, p = mkRat (zv s xs) (val ds) := ⟨_, rfl⟩
 rw [← hp]
 have hl5 := bO (s := s) hv.lt hu.lt
 rw [← hp] at hl5
 obtain ⟨hl7, hl8⟩ := hl5
 have l1 : [1].length = 1 := rfl
 have hl9 := yN (Nat.div_le_self p.num.natAbs p.den)
 have hM0 := hM
 refine zQ func194 rfl ntmps194 rfl ?_
 refine zF (zC (xL rfl rfl (fun w1 b1 N1 => ?_)))
 obtain ⟨_, nF1, nM1, Lw1, B1⟩ := nza hF hM N1
 obtain ⟨LL, hM, hF, hT, hv, hu⟩ := up6 Lw1 LL hM hF hT hv hu
 refine yU rfl yX (fun w2 b2 N2 => ?_)
 obtain ⟨hBw2, nF2, nM2, Lw2, B2⟩ := nza hF hM N2
 obtain ⟨B1, ne1_2⟩ := bn B1 N2
 obtain ⟨LL, hM, hT, hv, hu⟩ := up5 Lw2 LL hM hT hv hu
 refine zB (zF (zC (yE rfl xE yY rfl B1 rfl rfl (zI rfl bY rfl rfl ?_))))
 refine (aW (s := s) hT hv hu (by omega) (by omega) hM).mono ?_
 rintro v8 w3 ⟨hB8, b8, a8, d8, rfl, hz8, B8, hn8, hm8⟩
 have hk8 : KBlk (Ins b2 (Ins b1 M)) w3 b8 167 _ := ⟨B8, fun c => by have := hM _ c; omega⟩
 obtain ⟨LL, hM, B2⟩ := ub3 hB8 LL hM B2
 rw [← hp] at hk8 hn8 hm8
 refine zD rfl rfl (zB (zF ?_))
 refine xQ (R := Rb) (R' := Rb) (st := none) jR 18 [2, 3, 4, 5, 24] (by decide +kernel) xO xY (xX _) (fun _ _ _ h => by cases h) ?_
 refine zK (fun _ _ _ => zJ rfl rfl (zE (zA rfl rfl (on0 rfl)))) ?_
 refine zK (fun _ _ _ => zH rfl (zE (yJ rfl rfl (on0 rfl)))) ?_
 refine zK (fun _ _ _ => zH rfl (zE (yT 0 rfl yu167 rfl rfl yY rfl rfl (on0 rfl)))) ?_
 refine zK (fun _ _ _ => zH rfl (zE (yT 0 rfl yu33 rfl rfl yX rfl rfl (on0 rfl)))) ?_
 refine zK (fun _ _ _ => zH rfl (zE (yT 1 rfl yu31 rfl rfl xU rfl rfl (on0 rfl)))) ?_
 apply zK
 ·intro wq hR hst
  refine zH rfl (zE ?_)
  replace hk8 := ub1 hR hk8
  exact zR rfl yS rfl hk8.blk rfl (on0 rfl)
 refine zK (fun _ _ _ => zJ rfl rfl (zE (zA rfl rfl (on0 rfl)))) ?_
 refine zK (fun _ _ _ => zH rfl (zE (yJ rfl rfl (on0 rfl)))) ?_
 refine zK (fun _ _ _ => zH rfl (zE (yT 0 rfl yu167 rfl rfl yY rfl rfl (on0 rfl)))) ?_
 refine zK (fun _ _ _ => zH rfl (zE (yT 2 rfl yu33 rfl rfl xU rfl rfl (on0 rfl)))) ?_
 apply zK
 ·intro wq hR hst
  refine zH rfl (zE ?_)
  replace hk8 := ub1 hR hk8
  exact zR rfl yS rfl hk8.blk rfl (on0 rfl)
 refine zP (fun v w => ∃ c e, v = .tuple #[c, e, .int .i64 (if p.den = 0 then 30 else 0)] ∧ IsNat (Ins b2 (Ins b1 M)) w c (limbs (p.num.natAbs / p.den)) ∧ IsNat (Ins b2 (Ins b1 M)) w e (limbs (p.num.natAbs % p.den))) (fun _ _ _ ⟨c, e, h1, h2, h3⟩ r => ⟨c, e, h1, xP _ _ _ h2 r, xP _ _ _ h3 r⟩) (fun wq hR hst => ?_) ?_
 ·refine zH rfl (zH rfl (zE ?_))
  obtain ⟨LL, hM, hn8, hm8⟩ := ub4 hR LL hM hn8 hm8
  refine zI rfl bod261 rfl rfl ?_
  refine (div_c hn8 hm8 (by omega) (by omega) hM).mono ?_
  rintro v21 w4 ⟨hB21, q21, s21, rfl, hf21, hg21⟩
  have hM21 := hM
  have hS21 := LL.size
  simp only [zY] at hf21 hg21
  rw [if_neg p.den_nz] at hg21
  have hn21 := hf21.nat hM21
  have hm21 := hg21.nat hM21
  simp only [zY]
  exact zB ⟨rfl, hB21, _, rfl, ⟨_, _, rfl, hn21, hm21⟩⟩
 refine zP (fun v w => ∃ c e, v = .tuple #[c, e, .int .i64 (if p.den = 0 then 30 else 0)] ∧ IsNat (Ins b2 (Ins b1 M)) w c (limbs (p.num.natAbs / p.den)) ∧ IsNat (Ins b2 (Ins b1 M)) w e (limbs (p.num.natAbs % p.den))) (fun _ _ _ ⟨c, e, h1, h2, h3⟩ r => ⟨c, e, h1, xP _ _ _ h2 r, xP _ _ _ h3 r⟩) (fun wq hR hst => ?_) ?_
 ·refine yC rfl (fun v21 hn21 => ?_)
  refine zE ?_
  obtain ⟨c, e, rfl, hcx, hex⟩ := hn21
  exact zA rfl rfl (zB ⟨rfl, yB _, _, rfl, ⟨_, _, rfl, hcx, hex⟩⟩)
 refine zP (fun v w => IsNat (Ins b2 (Ins b1 M)) w v (limbs (p.num.natAbs / p.den))) xP (fun wq hR hst => ?_) ?_
 ·refine yC rfl (fun v9 hn9 => ?_)
  refine zE ?_
  obtain ⟨c, e, rfl, hcx, hex⟩ := hn9
  exact zT rfl rfl rfl (zB ⟨rfl, yB _, _, rfl, hcx⟩)
 refine zP (fun v w => IsNat (Ins b2 (Ins b1 M)) w v (limbs (p.num.natAbs % p.den))) xP (fun wq hR hst => ?_) ?_
 ·refine yC rfl (fun v9 hn9 => ?_)
  refine zE ?_
  obtain ⟨c, e, rfl, hcx, hex⟩ := hn9
  exact zT rfl rfl rfl (zB ⟨rfl, yB _, _, rfl, hex⟩)
 apply zK
 ·intro wq hR hst
  refine yC rfl (fun v9 hn9 => ?_)
  refine zE ?_
  obtain ⟨c, e, rfl, hcx, hex⟩ := hn9
  exact zT rfl rfl rfl (on0 rfl)
 refine zP (fun v w => IsNat (Ins b2 (Ins b1 M)) w v (limbs (p.num.natAbs / p.den))) xP (fun wq hR hst => ?_) ?_
 ·refine yC rfl (fun v22 hn22 => ?_)
  refine zE ?_
  exact zD rfl rfl (zB ⟨rfl, yB _, _, rfl, by assumption⟩)
 refine zP (fun v w => IsNat (Ins b2 (Ins b1 M)) w v (limbs (p.num.natAbs % p.den))) xP (fun wq hR hst => ?_) ?_
 ·refine yC rfl (fun v23 hn23 => ?_)
  refine zE ?_
  exact zD rfl rfl (zB ⟨rfl, yB _, _, rfl, by assumption⟩)
 refine xR (fun wq2 hR2 hpost2 => ?_)
 refine zJ rfl rfl (zJ rfl rfl (yC rfl (fun v4 hn4 => ?_)))
 refine yC rfl (fun v5 hn5 => ?_)
 refine zH rfl (zE ?_)
 simp only [List.drop_succ_cons, List.drop_zero, List.drop_nil, List.toList_toArray]
 obtain ⟨LL, hM, hk8, B2⟩ := ub4 hR2 LL hM hk8 B2
 refine zD rfl rfl (zB (zF (zF (zC (zA rfl rfl (yJ rfl rfl (yT 0 rfl yu167 rfl rfl yY rfl rfl (yT 0 rfl yu33 rfl rfl yX rfl rfl (yT 0 rfl yu31 rfl rfl sz4 rfl rfl (zR rfl qR rfl hk8.blk rfl (zA rfl rfl (gZ (d := 31) rfl (fun hg3_6 => ?_) (fun hg3_6 => ?_)))))))))))))
 ·refine zM rfl rfl (zA rfl rfl (zM rfl rfl ?_))
  first | refine yM rfl yu29 rfl (IsNat.slc (by assumption)) ?_ | refine yQ rfl yu29 rfl ?_
  refine zM rfl rfl (qV rfl rfl rfl (xA rfl rfl rfl (zB ?_)))
  refine zX rfl (fun hc0 => ?_) (fun hc0 => ?_)
  ·have hr : 0 < (p.num.natAbs % p.den) := Nat.pos_of_ne_zero fun c => by rw [c, xJ] at hc0; simp at hc0
   refine zC (zA rfl rfl (yP rfl yu29 yV rfl rfl rfl (by simp [Value.oneCell', lw]) rfl (fun w5 b37 N37 => ?_)))
   have hBw5 := N37.below
   have nM37 := hM.new N37
   have B37 := N37.blk
   obtain ⟨LL, hM, hk8, hn4, B2⟩ := ub5 hBw5 LL hM hk8 hn4 B2
   have hn37 : IsNat (Ins b2 (Ins b1 M)) w5 (.slice (some ⟨b37, 0, none⟩) 1 1) [1] := aI (xs := [1]) B37 nM37 rfl (by simp) (by simp)
   refine yP rfl yu255 xU rfl rfl rfl (eP (by first | rfl | exact yD (by assumption) | exact yG (by assumption) | assumption) (by first | rfl | exact yD (by assumption) | exact yG (by assumption) | assumption)) rfl (fun w6 b38 N38 => ?_)
   have hBw6 := N38.below
   have nM38 := hM.new N38
   have B38 := N38.blk
   obtain ⟨LL, hM, hk8, hn4, hn37, B2⟩ := ub6 hBw6 LL hM hk8 hn4 hn37 B2
   have hn38 := cW B38 nM38 hn4 hn37
   refine zI rfl dQ rfl rfl ?_
   refine (eH hn38 (gM _) (by simp) (by omega) (by simp) hM).mono ?_
   rintro v39 w7 ⟨hB39, hf39, hl39⟩
   have hM39 := hM
   have hS39 := LL.size
   obtain ⟨LL, hM, hk8, B2⟩ := ub4 hB39 LL hM hk8 B2
   rw [zY, show val [1] = 1 by decide] at hf39 hl39
   have hn39 := hf39.nat hM39
   refine zD rfl rfl (zB (zF (zC (zA rfl rfl (yJ rfl rfl (yT 0 rfl yu167 rfl rfl yY rfl rfl (yT 0 rfl yu33 rfl rfl yX rfl rfl (yT 0 rfl yu31 rfl rfl sz4 rfl rfl (zR rfl qR rfl hk8.blk rfl (zA rfl rfl (jF rfl kG rfl rfl (yO (gF rfl) (yO (gF (by first | rfl | exact yD (by assumption) | exact yG (by assumption) | assumption)) xS)) rfl (zI rfl eD rfl rfl ?_))))))))))))
   refine (eB (by assumption) (by omega) hM).mono ?_
   rintro v48 w8 ⟨hB48, q48, rfl, hn48⟩
   obtain ⟨LL, B2⟩ := ub2 hB48 LL B2
   refine yK rfl rfl yX B2 rfl rfl (xC rfl (xC (by first | rfl | exact yD (by assumption) | exact yG (by assumption) | assumption) gD)) rfl (fun w9 Cw9 B2 => ?_)
   have Lw9 := Le.of_chg (M := (Ins b2 (Ins b1 M))) Cw9 zS nF2
   obtain ⟨LL, hn48⟩ := up2 Lw9 LL hn48
   refine zB (zZ ?_)
   refine zN ⟨[_], ⟨⟨_, rfl, xI xV yX B2 rfl rfl⟩, trivial⟩, ?_⟩
   dsimp only [zW]
   rw [← floor_up p.den_nz hg3_6 hr]
   subst hFz
   exact ⟨LL.below (Nat.le_refl _), _, rfl, hn48.less fun k c => zO (zO c)⟩
  ·have hr : ¬ 0 < (p.num.natAbs % p.den) := fun c => hc0 (by have := mt xH.1 (Nat.ne_of_gt c); omega)
   refine yH (zF (zC (zA rfl rfl (yJ rfl rfl (yT 0 rfl yu167 rfl rfl yY rfl rfl (yT 0 rfl yu33 rfl rfl yX rfl rfl (yT 0 rfl yu31 rfl rfl sz4 rfl rfl (zR rfl qR rfl hk8.blk rfl (zA rfl rfl (jF rfl kG rfl rfl (yO (gF rfl) (yO (gF (by first | rfl | exact yD (by assumption) | exact yG (by assumption) | assumption)) xS)) rfl (zI rfl eD rfl rfl ?_)))))))))))
   refine (eB (by assumption) (by omega) hM).mono ?_
   rintro v48 w10 ⟨hB48, q48, rfl, hn48⟩
   obtain ⟨LL, B2⟩ := ub2 hB48 LL B2
   refine yK rfl rfl yX B2 rfl rfl (xC rfl (xC (by first | rfl | exact yD (by assumption) | exact yG (by assumption) | assumption) gD)) rfl (fun w11 Cw11 B2 => ?_)
   have Lw11 := Le.of_chg (M := (Ins b2 (Ins b1 M))) Cw11 zS nF2
   obtain ⟨LL, hn48⟩ := up2 Lw11 LL hn48
   refine zB (zZ ?_)
   refine zN ⟨[_], ⟨⟨_, rfl, xI xV yX B2 rfl rfl⟩, trivial⟩, ?_⟩
   dsimp only [zW]
   rw [← floor_neg p.den_nz hg3_6 hr]
   subst hFz
   exact ⟨LL.below (Nat.le_refl _), _, rfl, hn48.less fun k c => zO (zO c)⟩
 ·refine zU rfl rfl rfl rfl (zU rfl rfl rfl rfl (zU rfl rfl rfl rfl (xA rfl rfl rfl (zB (gQ rfl (yH (zF (zC (zA rfl rfl (yJ rfl rfl (yT 0 rfl yu167 rfl rfl yY rfl rfl (yT 0 rfl yu33 rfl rfl yX rfl rfl (yT 0 rfl yu31 rfl rfl sz4 rfl rfl (zR rfl qR rfl hk8.blk rfl ?_))))))))))))))
  refine zA rfl rfl (jF rfl kG rfl rfl (yO (gF rfl) (yO (gF (by first | rfl | exact yD (by assumption) | exact yG (by assumption) | assumption)) xS)) rfl (zI rfl eD rfl rfl ?_))
  refine (eB (by assumption) (by omega) hM).mono ?_
  rintro v48 w12 ⟨hB48, q48, rfl, hn48⟩
  obtain ⟨LL, B2⟩ := ub2 hB48 LL B2
  refine yK rfl rfl yX B2 rfl rfl (xC rfl (xC (by first | rfl | exact yD (by assumption) | exact yG (by assumption) | assumption) gD)) rfl (fun w13 Cw13 B2 => ?_)
  have Lw13 := Le.of_chg (M := (Ins b2 (Ins b1 M))) Cw13 zS nF2
  obtain ⟨LL, hn48⟩ := up2 Lw13 LL hn48
  refine zB (zZ ?_)
  refine zN ⟨[_], ⟨⟨_, rfl, xI xV yX B2 rfl rfl⟩, trivial⟩, ?_⟩
  dsimp only [zW]
  rw [← floor_pos hg3_6]
  subst hFz
  exact ⟨LL.below (Nat.le_refl _), _, rfl, hn48.less fun k c => zO (zO c)⟩
theorem floor_len {p : Rat} {A : Nat} (h1 : (limbs p.num.natAbs).length ≤ A) : (limbs (p.num / (p.den : Int)).natAbs).length ≤ A + 1 := by
  have h := xT h1
  have hd := p.den_nz
  rcases Int.lt_or_le p.num 0 with hz | hz
  · by_cases hr : 0 < p.num.natAbs % p.den
    · rw [← floor_up hd hz hr, qU, zY]
      have h2 := Nat.div_le_self p.num.natAbs p.den
      exact yZ (uW (Nat.lt_of_le_of_lt h2 h) (Nat.lt_of_lt_of_le (show 1 < 4294967296 ^ A from Nat.lt_of_le_of_lt (show 1 ≤ p.num.natAbs by omega) h) (Nat.le_refl _)))
    · rw [← floor_neg hd hz hr, qU, zY]
      exact Nat.le_succ_of_le (yZ (Nat.lt_of_le_of_lt (Nat.div_le_self _ _) h))
  · rw [← floor_pos (Int.not_lt.2 hz), qU, zY]
    exact Nat.le_succ_of_le (yZ (Nat.lt_of_le_of_lt (Nat.div_le_self _ _) h))
theorem above_r {s : Bool} {v u : Value} {xs ds : List Nat} (hT : Tab M w) (hv : IsNat M w v xs) (hu : IsNat M w u ds) (hl1 : xs.length ≤ 100000) (hl2 : ds.length ≤ 100000) (hM : OkM M w) :
    CallsV prog 142 [.agg #[.bool s, v, u]] w fun r w' => Below w.heap.size w w' ∧ ∃ q, r = .agg #[.bool (decide (((mkRat (zv s xs) (val ds)).num / ((mkRat (zv s xs) (val ds)).den : Int)) + 1 < 0)), q] ∧ IsNat M w' q (limbs (((mkRat (zv s xs) (val ds)).num / ((mkRat (zv s xs) (val ds)).den : Int)) + 1).natAbs) := by
 obtain ⟨Fz, hFz, hF, LL⟩ := fz0 M w
 have hfl := floor_len (p := mkRat (zv s xs) (val ds)) (Nat.le_trans (bO (s := s) hv.lt hu.lt).1 hl1)
 have h1l : (limbs ((1 : Nat) : Int).natAbs).length ≤ 200000 := by rw [show ((1 : Nat) : Int).natAbs = 1 from rfl, uL]; simp
 have hzs : dG [(decide (((mkRat (zv s xs) (val ds)).num / ((mkRat (zv s xs) (val ds)).den : Int)) < 0), limbs ((mkRat (zv s xs) (val ds)).num / ((mkRat (zv s xs) (val ds)).den : Int)).natAbs), (decide (((1 : Nat) : Int) < 0), limbs ((1 : Nat) : Int).natAbs)] = ((mkRat (zv s xs) (val ds)).num / ((mkRat (zv s xs) (val ds)).den : Int)) + 1 := by unfold dG; simp only [List.map_cons, List.map_nil, gY, List.sum_cons, List.sum_nil]; omega
 have hM0 := hM
 refine zQ func142 rfl ntmps142 rfl ?_
 refine zF (zC (xL rfl rfl (fun w1 b1 N1 => ?_)))
 obtain ⟨_, nF1, nM1, Lw1, B1⟩ := nza hF hM N1
 obtain ⟨LL, hM, hF, hT, hv, hu⟩ := up6 Lw1 LL hM hF hT hv hu
 refine yU rfl yX (fun w2 b2 N2 => ?_)
 obtain ⟨hBw2, nF2, nM2, Lw2, B2⟩ := nza hF hM N2
 obtain ⟨B1, ne1_2⟩ := bn B1 N2
 obtain ⟨LL, hM, hT, hv, hu⟩ := up5 Lw2 LL hM hT hv hu
 refine zB (zF (zC (yE rfl xE yY rfl B1 rfl rfl (zI rfl bod194 rfl rfl ?_))))
 refine (rfloor_r (s := s) hT hv hu hl1 hl2 hM).mono ?_
 rintro v4 w3 ⟨hB4, q4, rfl, hn4⟩
 obtain ⟨LL, hM, B2⟩ := ub3 hB4 LL hM B2
 refine zI rfl bod144 rfl rfl ?_
 refine (iofn_c (n := 1) (by omega) hM).mono ?_
 rintro v5 w4 ⟨hB5, q5, rfl, hn5⟩
 obtain ⟨LL, hM, hn4, B2⟩ := ub4 hB5 LL hM hn4 B2
 refine jA rfl yu174 yX rfl rfl rfl rfl (yO rfl (yO rfl xS)) rfl rfl rfl (fun w5 b6 N6 => ?_)
 have hBw5 := N6.below
 have nM6 := hM.new N6
 have B6 := N6.blk
 obtain ⟨LL, hM, hn4, hn5, B2⟩ := ub5 hBw5 LL hM hn4 hn5 B2
 have hn6 : IsInts (Ins b2 (Ins b1 M)) w5 (.slice (some ⟨b6, 0, none⟩) 2 2) [(decide (((mkRat (zv s xs) (val ds)).num / ((mkRat (zv s xs) (val ds)).den : Int)) < 0), limbs ((mkRat (zv s xs) (val ds)).num / ((mkRat (zv s xs) (val ds)).den : Int)).natAbs), (decide (((1 : Nat) : Int) < 0), limbs ((1 : Nat) : Int).natAbs)] := ints2 B6 nM6 hn4 hn5
 refine zI rfl bod193 rfl rfl ?_
 refine (iadds_c (L := 200000) hn6 (by intro x hx; rcases List.mem_cons.1 hx with rfl | hx; exact gM _; rcases List.mem_cons.1 hx with rfl | hx; exact gM _; cases hx) (by intro x hx; rcases List.mem_cons.1 hx with rfl | hx; exact Nat.le_trans hfl (by omega); rcases List.mem_cons.1 hx with rfl | hx; exact h1l; cases hx) (by simp) hM).mono ?_
 rintro v7 w6 ⟨hB7, q7, rfl, hn7⟩
 obtain ⟨LL, B2⟩ := ub2 hB7 LL B2
 rw [hzs]; rw [hzs] at hn7
 refine yK rfl rfl yX B2 rfl rfl (xC rfl (xC (by first | rfl | exact yD (by assumption) | exact yG (by assumption) | assumption) gD)) rfl (fun w7 Cw7 B2 => ?_)
 have Lw7 := Le.of_chg (M := (Ins b2 (Ins b1 M))) Cw7 zS nF2
 obtain ⟨LL, hn7⟩ := up2 Lw7 LL hn7
 refine zB (zZ ?_)
 refine zN ⟨[_], ⟨⟨_, rfl, xI xV yX B2 rfl rfl⟩, trivial⟩, ?_⟩
 dsimp only [zW]
 subst hFz
 exact ⟨LL.below (Nat.le_refl _), _, rfl, hn7.less fun k c => zO (zO c)⟩
end Go.Proofs.YtfkejnlohkgbgaaGreatDoor
set_option maxRecDepth 100000
namespace Go.Proofs.YtfkejnlohkgbgaaGreatDoor
open Go.SL Go.RowKit Go.Proofs Tryz
variable {M : Nat → Prop} {w : World}
structure QC (M : Nat → Prop) (w : World) (n : Nat) (q : Rat) (s : Bool) (a d : Value) : Prop where
  ex : ∃ xs ds, IsNat M w a xs ∧ IsNat M w d ds ∧ xs.length ≤ n ∧ ds.length ≤ n ∧ mkRat (zv s xs) (val ds) = q
structure RC (M : Nat → Prop) (w : World) (n : Nat) (q : Rat) (s : Bool) (a d : Value) : Prop where
  sgn : s = decide (q.num < 0)
  num : IsNat M w a (limbs q.num.natAbs)
  den : IsNat M w d (limbs q.den)
  len : aY q n
section
variable {Fz M M' T S : Nat → Prop} {w w' : World} {n m k : Nat} {q : Rat} {s : Bool} {a d : Value}
theorem QC.mono (h : QC M w n q s a d) (l : Le Fz M w M' w') : QC M' w' n q s a d := by
  obtain ⟨xs, ds, h1, h2, h3⟩ := h.ex; exact ⟨xs, ds, h1.mono l, h2.mono l, h3⟩
theorem QC.drift (h : QC M w n q s a d) (x : Drift T k w w') (ht : ∀ k, T k → M k) : QC M w' n q s a d := by
  obtain ⟨xs, ds, h1, h2, h3⟩ := h.ex; exact ⟨xs, ds, h1.drift x ht, h2.drift x ht, h3⟩
theorem QC.less (h : QC M w n q s a d) (hm : ∀ k, M' k → M k) : QC M' w n q s a d := h.mono (Fz := fun _ => False) (Le.less hm)
theorem QC.up (h : QC M w n q s a d) (hm : n ≤ m) : QC M w m q s a d := by
  obtain ⟨xs, ds, h1, h2, h3, h4, h5⟩ := h.ex; exact ⟨xs, ds, h1, h2, by omega, by omega, h5⟩
theorem QC.rlen (h : QC M w n q s a d) : aY q (n + 1) := by
  obtain ⟨xs, ds, h1, h2, h3, h4, rfl⟩ := h.ex
  have := bO (s := s) h1.lt h2.lt
  exact ⟨by omega, by omega⟩
theorem QC.sl (h : QC M w n q s a d) : (∃ x i j, a = .slice x i j) ∧ ∃ x i j, d = .slice x i j := by
  obtain ⟨xs, ds, h1, h2, h3⟩ := h.ex
  obtain ⟨_, _, ad, cap, rfl, _⟩ := h1.slc
  obtain ⟨_, _, ad2, cap2, rfl, _⟩ := h2.slc
  exact ⟨⟨_, _, _, rfl⟩, _, _, _, rfl⟩
theorem QC.one (h : QC M w n q s a d) : a.oneCell' = true ∧ d.oneCell' = true ∧ True := by
  obtain ⟨⟨_, _, _, rfl⟩, _, _, _, rfl⟩ := h.sl; exact ⟨rfl, rfl, trivial⟩
theorem RC.mono (h : RC M w n q s a d) (l : Le Fz M w M' w') : RC M' w' n q s a d := ⟨h.sgn, h.num.mono l, h.den.mono l, h.len⟩
theorem RC.drift (h : RC M w n q s a d) (x : Drift T k w w') (ht : ∀ k, T k → M k) : RC M w' n q s a d := ⟨h.sgn, h.num.drift x ht, h.den.drift x ht, h.len⟩
theorem RC.less (h : RC M w n q s a d) (hm : ∀ k, M' k → M k) : RC M' w n q s a d := h.mono (Fz := fun _ => False) (Le.less hm)
theorem RC.up (h : RC M w n q s a d) (hm : n ≤ m) : RC M w m q s a d := ⟨h.sgn, h.num, h.den, rlen_mono h.len hm⟩
theorem RC.gen (h : RC M w n q s a d) : QC M w n q s a d := ⟨_, _, h.num, h.den, h.len.1, h.len.2, by rw [h.sgn, gY, zY, Rat.mkRat_self]⟩
theorem RC.one (h : RC M w n q s a d) : a.oneCell' = true ∧ d.oneCell' = true ∧ True := h.gen.one
end
def RV (M : Nat → Prop) (n : Nat) (q : Rat) : VP := fun v w => ∃ s a d, v = .agg #[.bool s, a, d] ∧ RC M w n q s a d
theorem rv_of {n : Nat} {q : Rat} {a d : Value} (h1 : IsNat M w a (limbs q.num.natAbs)) (h2 : IsNat M w d (limbs q.den)) (h3 : aY q n) : RV M n q (.agg #[.bool (decide (q.num < 0)), a, d]) w := ⟨_, _, _, rfl, rfl, h1, h2, h3⟩
theorem dL {n m : Nat} {p q : Rat} {s t : Bool} {a d b e : Value} (hT : Tab M w) (h1 : QC M w n p s a d) (h2 : QC M w m q t b e) (hn : n ≤ 90000) (hm : m ≤ 90000) (hM : OkM M w) : CallsV prog 78 [.agg #[.bool s, a, d], .agg #[.bool t, b, e]] w fun r w' => Below w.heap.size w w' ∧ r = .int .i64 (kK p q) := by
  obtain ⟨xs, ds, i1, i2, i3, i4, rfl⟩ := h1.ex
  obtain ⟨ys, es, j1, j2, j3, j4, rfl⟩ := h2.ex
  exact rcmp_r hT i1 i2 j1 j2 (by omega) (by omega) (by omega) (by omega) hM
theorem rsgn_q {n : Nat} {p : Rat} {s : Bool} {a d : Value} (hT : Tab M w) (h1 : QC M w n p s a d) (hn : n ≤ 90000) (hM : OkM M w) : CallsV prog 138 [.agg #[.bool s, a, d]] w fun r w' => Below w.heap.size w w' ∧ r = .int .i64 (fA p) := by
  obtain ⟨xs, ds, i1, i2, i3, i4, rfl⟩ := h1.ex
  exact rsgn_c hT i1 i2 (by omega) (by omega) hM
theorem rnrm_q {n : Nat} {p : Rat} {s : Bool} {a d : Value} (hT : Tab M w) (h1 : QC M w n p s a d) (hn : n ≤ 90000) (hM : OkM M w) : CallsV prog 126 [.agg #[.bool s, a, d]] w fun r w' => Below w.heap.size w w' ∧ RV M (n + 1) p r w' := by
  have hl := h1.rlen
  obtain ⟨xs, ds, i1, i2, i3, i4, rfl⟩ := h1.ex
  exact (rnrm_c hT i1 i2 (by omega) (by omega) hM).mono fun r w' ⟨hB, x, y, e, k1, k2⟩ => ⟨hB, by subst e; exact rv_of k1 k2 hl⟩
theorem rneg_q {n : Nat} {p : Rat} {s : Bool} {a d : Value} (hT : Tab M w) (h1 : QC M w n p s a d) (hn : n ≤ 90000) (hM : OkM M w) : CallsV prog 139 [.agg #[.bool s, a, d]] w fun r w' => Below w.heap.size w w' ∧ RV M (n + 1) (-p) r w' := by
  have hl := rlen_neg h1.rlen
  obtain ⟨xs, ds, i1, i2, i3, i4, rfl⟩ := h1.ex
  exact (rneg_c hT i1 i2 (by omega) (by omega) hM).mono fun r w' ⟨hB, x, y, e, k1, k2⟩ => ⟨hB, by subst e; exact rv_of k1 k2 hl⟩
theorem rofn_q {n : Nat} (hn : n < 9223372036854775808) (hM : OkM M w) : CallsV prog 77 [.int .i64 (n : Int)] w fun r w' => Below w.heap.size w w' ∧ RV M 2 (n : Rat) r w' := by
  have e0 : ((n : Nat) : Rat).num = (n : Int) := rfl
  have e1 : ((n : Nat) : Rat).den = 1 := rfl
  exact (rofn_c hn hM).mono fun r w' ⟨hB, x, y, e, k1, k2⟩ => ⟨hB, false, x, y, e, by rw [e0]; exact (decide_eq_false (by omega)).symm, by rw [e0]; exact k1, by rw [e1, uL]; exact k2, by
    unfold aY; rw [e0, e1, uL]; exact ⟨yZ (by simp; omega), by simp⟩⟩
end Go.Proofs.YtfkejnlohkgbgaaGreatDoor
namespace Go.Proofs.YtfkejnlohkgbgaaGreatDoor
open Go Go.SL Go.RowKit Tryz
variable {Fz M M' : Nat → Prop} {w w' : World}
instance {n : Nat} {q : Rat} {s : Bool} {a d : Value} : Up Fz M M' w w' (QC M w n q s a d) (QC M' w' n q s a d) := ⟨fun l h => h.mono l⟩
instance {n : Nat} {q : Rat} {s : Bool} {a d : Value} : UpB w w' (QC M w n q s a d) (QC M w' n q s a d) := ⟨fun l h => h.mono (Fz := fun _ => False) (Le.of_below l)⟩
instance {n : Nat} {q : Rat} {s : Bool} {a d : Value} : Up Fz M M' w w' (RC M w n q s a d) (RC M' w' n q s a d) := ⟨fun l h => h.mono l⟩
instance {n : Nat} {q : Rat} {s : Bool} {a d : Value} : UpB w w' (RC M w n q s a d) (RC M w' n q s a d) := ⟨fun l h => h.mono (Fz := fun _ => False) (Le.of_below l)⟩
abbrev vRC (M : Nat → Prop) (n : Nat) (q : Rat) : VP := fun v w => ∃ s a d, v = .agg #[.bool s, a, d] ∧ RC M w n q s a d
theorem cQ {M : Nat → Prop} {n : Nat} {q : Rat} : ∀ v (w w' : World), vRC M n q v w → Rb w w' → vRC M n q v w' := fun _ _ _ ⟨s, a, d, hq, h0⟩ r => ⟨s, a, d, hq, h0.mono (Fz := fun _ => False) (Le.of_below r)⟩
abbrev vQC (M : Nat → Prop) (n : Nat) (q : Rat) : VP := fun v w => ∃ s a d, v = .agg #[.bool s, a, d] ∧ QC M w n q s a d
theorem cM {M : Nat → Prop} {n : Nat} {q : Rat} : ∀ v (w w' : World), vQC M n q v w → Rb w w' → vQC M n q v w' := fun _ _ _ ⟨s, a, d, hq, h0⟩ r => ⟨s, a, d, hq, h0.mono (Fz := fun _ => False) (Le.of_below r)⟩
end Go.Proofs.YtfkejnlohkgbgaaGreatDoor
set_option maxRecDepth 100000
namespace Go.Proofs.YtfkejnlohkgbgaaGreatDoor
open Go.SL Go.RowKit Go.Proofs Tryz
variable {M : Nat → Prop} {w : World}
structure ZQ (M : Nat → Prop) (w : World) (n : Nat) (q : Int) (s : Bool) (a : Value) : Prop where
  ex : ∃ xs, IsNat M w a xs ∧ xs.length ≤ n ∧ zv s xs = q
section
variable {Fz M M' T S : Nat → Prop} {w w' w0 : World} {n m k : Nat} {q : Int} {s : Bool} {a : Value}
theorem ZQ.mono (h : ZQ M w n q s a) (l : Le Fz M w M' w') : ZQ M' w' n q s a := by obtain ⟨xs, h1, h2⟩ := h.ex; exact ⟨xs, h1.mono l, h2⟩
theorem ZQ.less (h : ZQ M w n q s a) (hm : ∀ k, M' k → M k) : ZQ M' w n q s a := h.mono (Fz := fun _ => False) (Le.less hm)
theorem ZQ.up (h : ZQ M w n q s a) (hm : n ≤ m) : ZQ M w m q s a := by obtain ⟨xs, h1, h2, h3⟩ := h.ex; exact ⟨xs, h1, by omega, h3⟩
theorem ZQ.one (h : ZQ M w n q s a) : a.oneCell' = true ∧ True := by obtain ⟨xs, h1, _⟩ := h.ex; exact ⟨yD h1, trivial⟩
end
structure ZC (M : Nat → Prop) (w : World) (n : Nat) (q : Int) (s : Bool) (a : Value) : Prop where
  sgn : s = decide (q < 0)
  num : IsNat M w a (limbs (q.natAbs))
  len : (limbs (q.natAbs)).length ≤ n
section
variable {Fz M M' T S : Nat → Prop} {w w' w0 : World} {n m k : Nat} {q : Int} {s : Bool} {a : Value}
theorem ZC.mono (h : ZC M w n q s a) (l : Le Fz M w M' w') : ZC M' w' n q s a := ⟨h.sgn, h.num.mono l, h.len⟩
theorem ZC.less (h : ZC M w n q s a) (hm : ∀ k, M' k → M k) : ZC M' w n q s a := h.mono (Fz := fun _ => False) (Le.less hm)
theorem ZC.up (h : ZC M w n q s a) (hm : n ≤ m) : ZC M w m q s a := ⟨h.sgn, h.num, Nat.le_trans h.len hm⟩
theorem ZC.one (h : ZC M w n q s a) : a.oneCell' = true ∧ True := ⟨yD h.num, trivial⟩
theorem ZC.gen (h : ZC M w n q s a) : ZQ M w n q s a := ⟨_, h.num, h.len, by rw [h.sgn]; exact gY q⟩
end
structure NQ (M : Nat → Prop) (w : World) (n : Nat) (q : Nat) (a : Value) : Prop where
  ex : ∃ xs, IsNat M w a xs ∧ xs.length ≤ n ∧ val xs = q
section
variable {Fz M M' T S : Nat → Prop} {w w' w0 : World} {n m k : Nat} {q : Nat}  {a : Value}
theorem NQ.mono (h : NQ M w n q a) (l : Le Fz M w M' w') : NQ M' w' n q a := by obtain ⟨xs, h1, h2⟩ := h.ex; exact ⟨xs, h1.mono l, h2⟩
theorem NQ.one (h : NQ M w n q a) : a.oneCell' = true ∧ True := by obtain ⟨xs, h1, _⟩ := h.ex; exact ⟨yD h1, trivial⟩
end
structure NC (M : Nat → Prop) (w : World) (n : Nat) (q : Nat) (a : Value) : Prop where
  num : IsNat M w a (limbs (q))
  len : (limbs (q)).length ≤ n
section
variable {Fz M M' T S : Nat → Prop} {w w' w0 : World} {n m k : Nat} {q : Nat}  {a : Value}
theorem NC.mono (h : NC M w n q a) (l : Le Fz M w M' w') : NC M' w' n q a := ⟨h.num.mono l, h.len⟩
theorem NC.one (h : NC M w n q a) : a.oneCell' = true ∧ True := ⟨yD h.num, trivial⟩
theorem NC.gen (h : NC M w n q a) : NQ M w n q a := ⟨_, h.num, h.len, zY q⟩
end
theorem ZC.n {n : Nat} {q : Int} {s : Bool} {a : Value} (h : ZC M w n q s a) : NC M w n q.natAbs a := ⟨h.num, h.len⟩
theorem RC.z {n : Nat} {q : Rat} {s : Bool} {a d : Value} (h : RC M w n q s a d) : ZC M w n q.num s a := ⟨h.sgn, h.num, h.len.1⟩
theorem RC.d {n : Nat} {q : Rat} {s : Bool} {a d : Value} (h : RC M w n q s a d) : NC M w n q.den d := ⟨h.den, h.len.2⟩
end Go.Proofs.YtfkejnlohkgbgaaGreatDoor
namespace Go.Proofs.YtfkejnlohkgbgaaGreatDoor
open Go Go.SL Go.RowKit Tryz
variable {Fz M M' : Nat → Prop} {w w' : World}
instance {n : Nat} {q : Int} {s : Bool} {a : Value} : Up Fz M M' w w' (ZQ M w n q s a) (ZQ M' w' n q s a) := ⟨fun l h => h.mono l⟩
instance {n : Nat} {q : Int} {s : Bool} {a : Value} : UpB w w' (ZQ M w n q s a) (ZQ M w' n q s a) := ⟨fun l h => h.mono (Fz := fun _ => False) (Le.of_below l)⟩
instance {n : Nat} {q : Int} {s : Bool} {a : Value} : Up Fz M M' w w' (ZC M w n q s a) (ZC M' w' n q s a) := ⟨fun l h => h.mono l⟩
instance {n : Nat} {q : Int} {s : Bool} {a : Value} : UpB w w' (ZC M w n q s a) (ZC M w' n q s a) := ⟨fun l h => h.mono (Fz := fun _ => False) (Le.of_below l)⟩
instance {n : Nat} {q : Nat} {a : Value} : Up Fz M M' w w' (NQ M w n q a) (NQ M' w' n q a) := ⟨fun l h => h.mono l⟩
instance {n : Nat} {q : Nat} {a : Value} : UpB w w' (NQ M w n q a) (NQ M w' n q a) := ⟨fun l h => h.mono (Fz := fun _ => False) (Le.of_below l)⟩
instance {n : Nat} {q : Nat} {a : Value} : Up Fz M M' w w' (NC M w n q a) (NC M' w' n q a) := ⟨fun l h => h.mono l⟩
instance {n : Nat} {q : Nat} {a : Value} : UpB w w' (NC M w n q a) (NC M w' n q a) := ⟨fun l h => h.mono (Fz := fun _ => False) (Le.of_below l)⟩
abbrev vZC (M : Nat → Prop) (n : Nat) (q : Int) : VP := fun v w => ∃ s a, v = .agg #[.bool s, a] ∧ ZC M w n q s a
theorem eR {M : Nat → Prop} {n : Nat} {q : Int} : ∀ v (w w' : World), vZC M n q v w → Rb w w' → vZC M n q v w' := fun _ _ _ ⟨s, a, hq, h0⟩ r => ⟨s, a, hq, h0.mono (Fz := fun _ => False) (Le.of_below r)⟩
abbrev vZQ (M : Nat → Prop) (n : Nat) (q : Int) : VP := fun v w => ∃ s a, v = .agg #[.bool s, a] ∧ ZQ M w n q s a
theorem eQ {M : Nat → Prop} {n : Nat} {q : Int} : ∀ v (w w' : World), vZQ M n q v w → Rb w w' → vZQ M n q v w' := fun _ _ _ ⟨s, a, hq, h0⟩ r => ⟨s, a, hq, h0.mono (Fz := fun _ => False) (Le.of_below r)⟩
end Go.Proofs.YtfkejnlohkgbgaaGreatDoor
namespace Go.SL
open Go.RowKit
variable {G : Type}
abbrev VPS (G : Type) := Value → World × G → Prop
def ExS (v : Value) : VPS G := fun u _ => u = v
def aZ (Γ : List (Nat × VPS G)) (E : Env) (x : World × G) (body : Env → Prop) : List Nat → Env → Prop
 | [], F => body F
 | s :: ss, F => match Γ.find? (fun p => Nat.beq p.1 s) with
  | some p => ∀ v, p.2 v x → aZ Γ E x body ss ((s, v) :: F)
  | none => match get E s with
   | some v => aZ Γ E x body ss ((s, v) :: F)
   | none => aZ Γ E x body ss F
def fB (st : Option (Nat × (World × G → Prop) × (World × G → Prop))) (an : List (List Nat)) (i : Nat) (w : World × G) : Prop :=
 match st with
 | none => True
 | some (k, pre, post) => (k ∈ an.getD i [] → post w) ∧ (i ∈ an.getD k [] → pre w)
section draw
variable (P : Program) (r : Option Nat) (N : Nat) (ops : Array Oper) (D : List Deferred) (E : Env) (x0 : World × G) (R : World × G → World × G → Prop) (R' : Nat → World × G → World × G → Prop) (Pr : Nat → World × G → Prop) (st : Option (Nat × (World × G → Prop) × (World × G → Prop)))
def OneOkS (i : Nat) (o : Oper) (Ψ : VPS G) (Γ : List (Nat × VPS G)) : Prop :=
 match o.dst with
 | some d => (∀ k pre post, st = some (k, pre, post) → i ≠ k) ∧ (∀ v w w', Ψ v w → R w w' → Ψ v w') ∧ ∀ w, R x0 w → fB st (uP ops.toList) i w → Pr i w →
   aZ Γ E w (fun F => Ops P r N ops (fun D' E' w' => D' = D ∧ ∃ g', R' i w (w', g') ∧ ∃ v, get E' d = some v ∧ Ψ v (w', g')) [o] D F w.1) (jV ops o) []
 | none => ∃ pre post, st = some (i, pre, post) ∧ ∀ w, R x0 w → pre w →
   aZ Γ E w (fun F => Ops P r N ops (fun D' E' w' => D' = D ∧ ∃ g', R' i w (w', g') ∧ post (w', g')) [o] D F w.1) (jV ops o) []
def gam1S (o : Oper) (Ψ : VPS G) (Γ : List (Nat × VPS G)) : List (Nat × VPS G) := match o.dst with | some d => (d, Ψ) :: Γ | none => Γ
def eK (F : List (Nat × VPS G) → Prop) : List Oper → Nat → List (Nat × VPS G) → Prop
 | [], _, Γ => F Γ
 | o :: rest, i, Γ => ∃ Ψ, OneOkS P r N ops D E x0 R R' Pr st i o Ψ Γ ∧ eK F rest (i + 1) (gam1S o Ψ Γ)
def bR : List Oper → List (VPS G) → List (Nat × VPS G) → List (Nat × VPS G)
 | [], _, Γ => Γ
 | o :: os, [], Γ => Γ
 | o :: os, Ψ :: Ψs, Γ => bR os Ψs (gam1S o Ψ Γ)
variable {P r N ops D E x0 R R' Pr st}
theorem drs_listS {F : List (Nat × VPS G) → Prop} : ∀ (l : List Oper) (i : Nat) (Γ : List (Nat × VPS G)), eK P r N ops D E x0 R R' Pr st F l i Γ →
  ∃ Ψs : List (VPS G), Ψs.length = l.length ∧ F (bR l Ψs Γ) ∧ ∀ (j : Nat) (o : Oper) (Ψ : VPS G), l[j]? = some o → Ψs[j]? = some Ψ → OneOkS P r N ops D E x0 R R' Pr st (i + j) o Ψ (bR (l.take j) (Ψs.take j) Γ)
 | [], i, Γ, h => ⟨[], rfl, h, by simp⟩
 | o :: rest, i, Γ, h => by
  obtain ⟨Ψ, h1, h2⟩ := h
  obtain ⟨Ψs, e1, e2, e3⟩ := drs_listS rest (i + 1) _ h2
  refine ⟨Ψ :: Ψs, by simp [e1], e2, fun j o' Ψ' hj hp => ?_⟩
  cases j with
  | zero => simp at hj hp; subst hj; subst hp; simpa [bR] using h1
  | succ j =>
   have := e3 j o' Ψ' (by simpa using hj) (by simpa using hp)
   have e : i + 1 + j = i + (j + 1) := by omega
   rw [e] at this
   simpa [bR] using this
theorem gam_find_someS : ∀ (l : List Oper) (Ψs : List (VPS G)) (Γ : List (Nat × VPS G)) (s : Nat) (p : Nat × VPS G), Ψs.length = l.length → (bR l Ψs Γ).find? (fun p => Nat.beq p.1 s) = some p →
  (∃ (k : Nat) (o : Oper), l[k]? = some o ∧ o.dst = some s ∧ Ψs[k]? = some p.2) ∨ Γ.find? (fun p => Nat.beq p.1 s) = some p
 | [], Ψs, Γ, s, p, _, h => .inr h
 | o :: os, [], Γ, s, p, hl, h => by simp at hl
 | o :: os, Ψ :: Ψs, Γ, s, p, hl, h => by
  rcases gam_find_someS os Ψs _ s p (by simpa using hl) h with ⟨k, o', h1, h2, h3⟩ | h1
  ·exact .inl ⟨k + 1, o', by simpa using h1, h2, by simpa using h3⟩
  ·unfold gam1S at h1
   cases hd : o.dst with
   | none => rw [hd] at h1; exact .inr h1
   | some d =>
    rw [hd] at h1
    simp only [List.find?_cons] at h1
    cases hb : Nat.beq d s with
    | true =>
     rw [hb] at h1
     have e : d = s := Nat.eq_of_beq_eq_true hb
     simp at h1; subst h1; subst e
     exact .inl ⟨0, o, rfl, hd, rfl⟩
    | false => rw [hb] at h1; exact .inr h1
theorem gam_find_noneS : ∀ (l : List Oper) (Ψs : List (VPS G)) (Γ : List (Nat × VPS G)) (s : Nat), Ψs.length = l.length → (bR l Ψs Γ).find? (fun p => Nat.beq p.1 s) = none →
  (∀ (k : Nat) (o : Oper), l[k]? = some o → o.dst ≠ some s) ∧ Γ.find? (fun p => Nat.beq p.1 s) = none
 | [], Ψs, Γ, s, _, h => ⟨by simp, h⟩
 | o :: os, [], Γ, s, hl, h => by simp at hl
 | o :: os, Ψ :: Ψs, Γ, s, hl, h => by
  obtain ⟨h1, h2⟩ := gam_find_noneS os Ψs _ s (by simpa using hl) h
  unfold gam1S at h2
  cases hd : o.dst with
  | none => rw [hd] at h2; exact ⟨fun k o' hk => by cases k with
                         | zero => simp at hk; subst hk; rw [hd]; simp
                         | succ k => exact h1 k o' (by simpa using hk), h2⟩
  | some d =>
   rw [hd] at h2
   simp only [List.find?_cons] at h2
   cases hb : Nat.beq d s with
   | true => rw [hb] at h2; simp at h2
   | false =>
    rw [hb] at h2
    have hne : d ≠ s := Nat.ne_of_beq_eq_false hb
    exact ⟨fun k o' hk => by cases k with
                 | zero => simp at hk; subst hk; rw [hd]; simpa using hne
                 | succ k => exact h1 k o' (by simpa using hk), h2⟩
theorem uV {Γ : List (Nat × VPS G)} {body : Env → Prop} {a : Act} {w : World × G} (hN : a.tmps.size = N) : ∀ (ss : List Nat) (F : Env), aZ Γ E w body ss F → Has a N F →
    (∀ s ∈ ss, ∀ p, Γ.find? (fun p => Nat.beq p.1 s) = some p → ∃ v, a.tmps[s]? = some v ∧ p.2 v w) →
    (∀ s ∈ ss, Γ.find? (fun p => Nat.beq p.1 s) = none → ∀ v, get E s = some v → a.tmps[s]? = some v) → ∃ F', body F' ∧ Has a N F'
  | [], F, h, ha, _, _ => ⟨F, h, ha⟩
  | s :: ss, F, h, ha, h1, h2 => by
    have hadd : ∀ v, a.tmps[s]? = some v → Has a N ((s, v) :: F) := fun v hv => ⟨ha.size, fun i u hu => by
      unfold get at hu
      cases hb : Nat.beq s i with
      | true => have e : s = i := Nat.eq_of_beq_eq_true hb
                subst e; simp [hb] at hu; subst hu; exact hv
      | false => rw [hb] at hu; exact ha.at_ i u hu⟩
    unfold aZ at h
    cases hf : Γ.find? (fun p => Nat.beq p.1 s) with
    | some p =>
      rw [hf] at h
      obtain ⟨v, hv, hp⟩ := h1 s (by simp) p hf
      exact uV hN ss _ (h v hp) (hadd v hv) (fun s' hs => h1 s' (by simp [hs])) (fun s' hs => h2 s' (by simp [hs]))
    | none =>
      rw [hf] at h
      simp only at h
      cases hg : get E s with
      | some v =>
        rw [hg] at h
        exact uV hN ss _ h (hadd v (h2 s (by simp) hf v hg)) (fun s' hs => h1 s' (by simp [hs])) (fun s' hs => h2 s' (by simp [hs]))
      | none => rw [hg] at h; exact uV hN ss _ h ha (fun s' hs => h1 s' (by simp [hs])) (fun s' hs => h2 s' (by simp [hs]))
theorem wp_drawS {Kn Kr : Pd} {Ke : Nat → Pd} {w : World} (g0 : G) {id : Nat} (hm : P.follows .mixedOrders = true) (m : Nat) (outs : List Nat) (hlook : aQ ops m = true)
    (hRt : ∀ a b c, R a b → R b c → R a c) (hRR : ∀ i a b, R' i a b → R a b) (hR0 : R (w, g0) ({ w with drawn := w.drawn + 1 }, g0))
    (hst : ∀ k pre post, st = some (k, pre, post) → k < m ∧ pre ({ w with drawn := w.drawn + 1 }, g0) ∧ (∀ i a b, i ≠ k → pre a → R' i a b → pre b) ∧ (∀ i a b, i ≠ k → post a → R' i a b → post b) ∧ ∃ o, ops[k]? = some o)
    (hPr0 : ∀ i, Pr i ({ w with drawn := w.drawn + 1 }, g0)) (hPr : ∀ i j a b, i ≠ j → Pr i a → R' j a b → Pr i b)
    (h : eK P r N ops D E (w, g0) R R' Pr st (fun Γ => ∀ x', R (w, g0) x' → (∀ k pre post, st = some (k, pre, post) → post x') → aZ Γ E x' (fun F => Ops P r N ops Kn (ops.toList.drop m) D F x'.1) outs []) (ops.toList.take m) 0 []) :
    Wp P r N (.region id ops true) Kn Ke Kr D E w := by
  intro a0 ha0 hd0
  -- the look
  unfold aQ at hlook
  simp only [Bool.and_eq_true] at hlook
  obtain ⟨⟨⟨hl1, hl2⟩, hl3⟩, hl4⟩ := hlook
  have hdir : ∀ i o, ops.toList[i]? = some o → ∀ j ∈ gX o, j < i := by
    intro i o ho j hj
    have := uT hl1 ho
    rw [List.all_eq_true] at this
    simpa using this j hj
  have hslot : ∀ i o, (ops.toList.take m)[i]? = some o → ∀ s ∈ jV ops o, ∀ k p, (ops.toList.take m)[k]? = some p → p.dst = some s → (k < i → k ∈ (uP ops.toList).getD i []) ∧ (i < k → i ∈ (uP ops.toList).getD k []) ∧ k ≠ i := by
    intro i o ho s hs k p hp hps
    have h1 := uT hl2 ho
    rw [List.all_eq_true] at h1
    have h2 := uT (h1 s hs) hp
    simp only [hps, beq_self_eq_true, if_true] at h2
    by_cases e1 : k < i
    · rw [if_pos e1] at h2; exact ⟨fun _ => by simpa using h2, fun _ => by omega, by omega⟩
    · rw [if_neg e1] at h2
      by_cases e2 : i < k
      · rw [if_pos e2] at h2; exact ⟨fun _ => by omega, fun _ => by simpa using h2, by omega⟩
      · rw [if_neg e2] at h2; cases h2
  have hdist : ∀ (i : Nat) (o : Oper) (k : Nat) (p : Oper) (d : Nat), (ops.toList.take m)[i]? = some o → (ops.toList.take m)[k]? = some p → o.dst = some d → p.dst = some d → i = k := by
    intro i o k p d ho hp h1 h2
    have h3 := uT (uT hl3 ho) hp
    simpa [h1, h2] using h3
  have htail : ∀ i o, ops.toList[i]? = some o → m ≤ i → ∀ j, j < i → j ∈ (uP ops.toList).getD i [] := by
    intro i o ho hi j hj
    have h1 := uT hl4 ho
    simp only [Bool.or_eq_true, decide_eq_true_eq] at h1
    rcases h1 with h1 | h1
    · omega
    · rw [List.all_eq_true] at h1
      simpa using h1 j (by simpa using hj)
  obtain ⟨Ψs, hlen, hF, hone⟩ := drs_listS _ _ _ h
  have htk : ∀ i o, ops.toList[i]? = some o → i < m → (ops.toList.take m)[i]? = some o := by
    intro i o ho hi; rw [List.getElem?_take, if_pos hi]; exact ho
  have hkt : ∀ i o, (ops.toList.take m)[i]? = some o → ops.toList[i]? = some o ∧ i < m := by
    intro i o ho; rw [List.getElem?_take] at ho; split at ho
    · rename_i hi; exact ⟨ho, hi⟩
    · cases ho
  refine wpIn_region_any hm ?_
  -- what holds once some have been taken
  let Inv : Array Bool → Act → World × G → Prop := fun listed a w' =>
    listed.size = ops.size ∧ (∀ i, m ≤ i → i < ops.size → listed.getD i true = false) ∧
    (∀ i o, ops.toList[i]? = some o → listed.getD i true = true → ∀ j ∈ gX o, listed.getD j true = true) ∧
    a.tmps.size = N ∧ a.defers = D ∧ R (w, g0) w' ∧
    (∀ (i : Nat) (o : Oper) (d : Nat) (Ψ : VPS G), (ops.toList.take m)[i]? = some o → listed.getD i true = true → o.dst = some d → Ψs[i]? = some Ψ → ∃ v, a.tmps[d]? = some v ∧ Ψ v w') ∧
    (∀ s v, get E s = some v → (∀ (i : Nat) (o : Oper), (ops.toList.take m)[i]? = some o → listed.getD i true = true → o.dst ≠ some s) → a.tmps[s]? = some v) ∧
    (∀ k pre post, st = some (k, pre, post) → (listed.getD k true = true → post w') ∧ (listed.getD k true = false → pre w')) ∧
    (∀ i, listed.getD i true = false → Pr i w')
  have key : ∀ (fuel : Nat) (listed : Array Bool) (a : Act) (w' : World × G), Inv listed a w' → ((List.range ops.size).filter fun i => !listed.getD i true).length ≤ fuel →
      wpAnyIn (Fr r) 0 P .any ops (toQ N Kn Ke Kr) fuel listed a w'.1 := by
    intro fuel
    induction fuel with
    | zero =>
      intro listed a w' hI hf
      have hnil : ∀ i, i < ops.size → listed.getD i true = true := by
        intro i hi
        cases hb : listed.getD i true with
        | true => rfl
        | false =>
          have : i ∈ (List.range ops.size).filter fun i => !listed.getD i true := List.mem_filter.2 ⟨by simpa using hi, by simp [hb]⟩
          have := List.length_pos_of_mem this
          omega
      -- all taken: m is the whole
      obtain ⟨hs, htl, hcl, hN, hD', hRw, hv, hE', hst', hPrI⟩ := hI
      have hmn : ops.size ≤ m := by
        rcases Nat.lt_or_ge m ops.size with hlt | hge
        · have h1 := htl m (Nat.le_refl _) hlt; rw [hnil m hlt] at h1; cases h1
        · exact hge
      have hfin := hF w' hRw (fun k pre post hk => (hst' k pre post hk).1 (by
        have := (hst k pre post hk).1
        rcases Nat.lt_or_ge k ops.size with hlt | hge
        · exact hnil k hlt
        · simp [Array.getD_eq_getD_getElem?, Array.getElem?_eq_none (show listed.size ≤ k by omega)]))
      obtain ⟨F, hbody, hhas⟩ := uV hN outs [] hfin ⟨hN, by simp [get]⟩ (fun s _ p hp => by
          rcases gam_find_someS _ _ _ s p hlen hp with ⟨k, o, h1, h2, h3⟩ | h1
          · exact hv k o s p.2 h1 (hnil k (by have := (List.getElem?_eq_some_iff.1 (hkt k o h1).1).1; simpa using this)) h2 h3
          · simp at h1) (fun s _ hn v hg => hE' s v hg (fun i o hi _ => (gam_find_noneS _ _ _ s hlen hn).1 i o hi))
      have hdrop : ops.toList.drop m = [] := by simp; omega
      rw [hdrop] at hbody
      have hres := hbody a (toQ N Kn Ke Kr) hhas hD' (fun _ _ E' h1 h2 => ⟨E', h1, h2⟩)
      refine ⟨?_, hres⟩
      rw [List.eq_nil_iff_forall_not_mem]
      intro i hi
      obtain ⟨h1, h2, _⟩ := qG.1 hi
      rw [hnil i h1] at h2; cases h2
    | succ f ih =>
      intro listed a w' hI hf
      by_cases hall : ∀ i, i < m → i < ops.size → listed.getD i true = true
      · -- the first m have been taken
        obtain ⟨hs, htl, hcl, hN, hD', hRw, hv, hE', hst', hPrI⟩ := hI
        have hfin := hF w' hRw (fun k pre post hk => (hst' k pre post hk).1 (by
          have := (hst k pre post hk).1
          rcases Nat.lt_or_ge k ops.size with hlt | hge
          · exact hall k this hlt
          · simp [Array.getD_eq_getD_getElem?, Array.getElem?_eq_none (show listed.size ≤ k by omega)]))
        obtain ⟨F, hbody, hhas⟩ := uV hN outs [] hfin ⟨hN, by simp [get]⟩ (fun s _ p hp => by
            rcases gam_find_someS _ _ _ s p hlen hp with ⟨k, o, h1, h2, h3⟩ | h1
            · exact hv k o s p.2 h1 (hall k (hkt k o h1).2 (by have := (List.getElem?_eq_some_iff.1 (hkt k o h1).1).1; simpa using this)) h2 h3
            · simp at h1) (fun s _ hn v hg => hE' s v hg (fun i o hi _ => (gam_find_noneS _ _ _ s hlen hn).1 i o hi))
        have hres := hbody a (toQ N Kn Ke Kr) hhas hD' (fun _ _ E' h1 h2 => ⟨E', h1, h2⟩)
        refine tail_any hdir m htail (ops.toList.drop m) m listed a w'.1 (f + 1) (Nat.le_refl _) rfl hs (fun i hi => ?_) ?_ hres
        · constructor
          · intro h1
            rcases Nat.lt_or_ge i m with h2 | h2
            · exact h2
            · rw [htl i h2 hi] at h1; cases h1
          · intro h1; exact hall i h1 hi
        · -- enough steps are left
          have hlen2 : (ops.toList.drop m).length ≤ ((List.range ops.size).filter fun i => !listed.getD i true).length := by
            have e : (List.range ops.size).filter (fun i => !listed.getD i true) = (List.range ops.size).filter (fun i => decide (m ≤ i)) := by
              apply List.filter_congr
              intro i hi
              have hi' : i < ops.size := by simpa using hi
              rcases Nat.lt_or_ge i m with h2 | h2
              · simp [hall i h2 hi', Nat.not_le.2 h2]
              · simp [htl i h2 hi', h2]
            rw [e]
            have : ∀ n, ((List.range n).filter (fun i => decide (m ≤ i))).length = n - m := by
              intro n
              induction n with
              | zero => simp
              | succ n ihn =>
                rw [List.range_succ, List.filter_append, List.length_append, ihn]
                by_cases hmn : m ≤ n
                · simp [hmn]; omega
                · simp [hmn]; omega
            rw [this]; simp
          omega
      · -- one of the first m is taken
        have hmem : ∀ i, i ∈ Region.ready .any ops listed → i < m := by
          intro i hi
          obtain ⟨h1, h2, o, ho, h3⟩ := qG.1 hi
          rcases Nat.lt_or_ge i m with hlt | hge
          · exact hlt
          · exfalso
            apply hall
            intro j hj hjn
            have hoi : ops.toList[i]? = some o := by simpa using ho
            have := uD hdir (fun y => listed.getD y true = true ∨ y = i) (fun x ox hx hs' y hy => by
              rcases hs' with hs' | rfl
              · exact .inl (hI.2.2.1 x ox hx hs' y hy)
              · obtain ⟨e, he, rfl⟩ := List.mem_map.1 hy
                obtain ⟨he1, he2⟩ := List.mem_filter.1 he
                have hxo : ox = o := by rw [hoi] at hx; exact (Option.some.inj hx).symm
                subst hxo
                have h4 := h3 e (by simpa using he1) he2
                have h5 := hdir x ox hx e.on hy
                have hsz : e.on < listed.size := by rw [hI.1]; omega
                left
                simp only [Array.getD_eq_getD_getElem?, Array.getElem?_eq_getElem hsz, Option.getD_some] at h4 ⊢
                exact h4) i o hoi (.inr rfl) j (htail i o hoi hge j (by omega))
            rcases this with h | h
            · exact h
            · omega
        refine ⟨fun hr => ?_, fun i hi => ?_⟩
        · -- some is ready
          exfalso
          have : ∃ i, i < m ∧ i < ops.size ∧ listed.getD i true = false ∧ ∀ j, j < i → listed.getD j true = true := by
            have hex : ∃ i, i < m ∧ i < ops.size ∧ listed.getD i true = false := by
              apply Classical.byContradiction
              intro hc
              apply hall
              intro i h1 h2
              cases hb : listed.getD i true with
              | true => rfl
              | false => exact absurd ⟨i, h1, h2, hb⟩ hc
            obtain ⟨i, hi⟩ := hex
            induction i using Nat.strongRecOn with
            | _ i ihi =>
              by_cases hc : ∃ j, j < i ∧ listed.getD j true = false
              · obtain ⟨j, hj1, hj2⟩ := hc; exact ihi j hj1 ⟨by omega, by omega, hj2⟩
              · refine ⟨i, hi.1, hi.2.1, hi.2.2, fun j hj => ?_⟩
                cases hb : listed.getD j true with
                | true => rfl
                | false => exact absurd ⟨j, hj, hb⟩ hc
          obtain ⟨i, h1, h2, h3, h4⟩ := this
          have hoi : ops[i]? = some ops[i] := by simp [h2]
          have : i ∈ Region.ready .any ops listed := qG.2 ⟨h2, h3, ops[i], hoi, fun e he hb => by
            have hj : e.on ∈ gX ops[i] := List.mem_map.2 ⟨e, List.mem_filter.2 ⟨by simpa using he, hb⟩, rfl⟩
            have hlt := hdir i ops[i] (by simp) e.on hj
            have h5 := h4 e.on hlt
            have hsz : e.on < listed.size := by rw [hI.1]; omega
            simp only [Array.getD_eq_getD_getElem?, Array.getElem?_eq_getElem hsz, Option.getD_some] at h5 ⊢
            exact h5⟩
          rw [hr] at this; cases this
        · have him := hmem i hi
          obtain ⟨h1, h2, o, ho, h3⟩ := qG.1 hi
          have hoi : ops.toList[i]? = some o := by simpa using ho
          have hit := htk i o hoi him
          obtain ⟨hs, htl, hcl, hN, hD', hRw, hv, hE', hst', hPrI⟩ := hI
          have hdl : ∀ j ∈ gX o, listed.getD j true = true := by
            intro j hj
            obtain ⟨e, he, rfl⟩ := List.mem_map.1 hj
            obtain ⟨he1, he2⟩ := List.mem_filter.1 he
            have h4 := h3 e (by simpa using he1) he2
            have h5 := hdir i o hoi e.on hj
            have hsz : e.on < listed.size := by rw [hs]; omega
            simp only [Array.getD_eq_getD_getElem?, Array.getElem?_eq_getElem hsz, Option.getD_some] at h4 ⊢
            exact h4
          have hanl : ∀ j ∈ (uP ops.toList).getD i [], listed.getD j true = true := by
            intro j hj
            rw [dE hoi (hdir i o hoi)] at hj
            rcases List.mem_append.1 hj with h | h
            · exact hdl j h
            · obtain ⟨q, hq, hjq⟩ := List.mem_flatMap.1 h
              have hqi := hdir i o hoi q hq
              exact uD hdir (fun y => listed.getD y true = true) hcl q ops[q] (by simp) (hdl q hq) j hjq
          have hnan : ∀ k p, ops.toList[k]? = some p → i ∈ (uP ops.toList).getD k [] → listed.getD k true = false := by
            intro k p hp hik
            cases hb : listed.getD k true with
            | false => rfl
            | true =>
              have := uD hdir (fun y => listed.getD y true = true) hcl k p hp hb i hik
              rw [this] at h2; cases h2
          have hΨ : ∃ Ψ, Ψs[i]? = some Ψ := by
            have : i < Ψs.length := by rw [hlen]; exact (List.getElem?_eq_some_iff.1 hit).1
            exact ⟨_, List.getElem?_eq_getElem this⟩
          obtain ⟨Ψ, hΨ⟩ := hΨ
          have hok := hone i o Ψ hit hΨ
          rw [Nat.zero_add] at hok
          -- the frame holds what the operation looks at
          have hsub1 : ∀ s ∈ jV ops o, ∀ p, (bR ((ops.toList.take m).take i) (Ψs.take i) []).find? (fun p => Nat.beq p.1 s) = some p → ∃ v, a.tmps[s]? = some v ∧ p.2 v w' := by
            intro s hsl p hp
            rcases gam_find_someS _ _ _ s p (by simp [hlen]) hp with ⟨k, q, e1, e2, e3⟩ | e1
            · rw [List.getElem?_take] at e1 e3
              split at e1
              · rename_i hki
                rw [if_pos hki] at e3
                exact hv k q s p.2 e1 (hanl k ((hslot i o hit s hsl k q e1 e2).1 hki)) e2 e3
              · cases e1
            · simp at e1
          have hsub2 : ∀ s ∈ jV ops o, (bR ((ops.toList.take m).take i) (Ψs.take i) []).find? (fun p => Nat.beq p.1 s) = none → ∀ v, get E s = some v → a.tmps[s]? = some v := by
            intro s hsl hn v hg
            refine hE' s v hg (fun k q hk hlk hd => ?_)
            have h5 := hslot i o hit s hsl k q hk hd
            rcases Nat.lt_or_ge k i with hlt | hge
            · have h6 := (gam_find_noneS _ _ _ s (by simp [hlen]) hn).1 k q (by rw [List.getElem?_take, if_pos hlt]; exact hk)
              exact h6 hd
            · rcases Nat.lt_or_eq_of_le hge with hlt | heq
              · have h7 := hnan k q (hkt k q hk).1 (h5.2.1 hlt)
                rw [h7] at hlk; cases hlk
              · exact h5.2.2 heq.symm
          have hsz : i < listed.size := by rw [hs]; exact h1
          have hget : ∀ j, (listed.setIfInBounds i true).getD j true = true ↔ j = i ∨ listed.getD j true = true := by
            intro j
            by_cases e : i = j
            · subst e; simp [Array.getD_eq_getD_getElem?, hsz]
            · have : (listed.setIfInBounds i true).getD j true = listed.getD j true := by simp [Array.getD_eq_getD_getElem?, Array.getElem?_setIfInBounds_ne e]
              rw [this]; constructor
              · exact .inr
              · rintro (h | h)
                · exact absurd h.symm e
                · exact h
          have hcount : ((List.range ops.size).filter fun j => !(listed.setIfInBounds i true).getD j true).length < ((List.range ops.size).filter fun j => !listed.getD j true).length := by
            have e : (List.range ops.size).filter (fun j => !(listed.setIfInBounds i true).getD j true) = ((List.range ops.size).filter fun j => !listed.getD j true).filter (fun j => decide (j ≠ i)) := by
              rw [List.filter_filter]
              apply List.filter_congr
              intro j hj
              have := hget j
              by_cases e : j = i
              · subst e; have h5 := this.2 (.inl rfl); simp [h5]
              · cases hb : listed.getD j true with
                | true => have h5 := this.2 (.inr hb); simp [h5]
                | false =>
                  have h5 : (listed.setIfInBounds i true).getD j true = false := by
                    cases hc : (listed.setIfInBounds i true).getD j true with
                    | false => rfl
                    | true => rcases this.1 hc with h | h
                              · exact absurd h e
                              · rw [hb] at h; cases h
                  simp [h5, e]
            rw [e]
            have hmemi : i ∈ (List.range ops.size).filter fun j => !listed.getD j true := List.mem_filter.2 ⟨by simpa using h1, by simp [h2]⟩
            exact List.length_filter_lt_length_iff_exists.2 ⟨i, hmemi, by simp⟩
          -- what comes behind
          have hnext : ∀ a2 (w2 : World × G) v, a2.tmps = (a.put o.dst v).tmps → a2.defers = D → R' i w' w2 → (∀ d, o.dst = some d → ∃ u, a2.tmps[d]? = some u ∧ Ψ u w2) → (∀ (u : VPS G) (w1 : World × G), (∃ j : Nat, j ≠ i ∧ Ψs[j]? = some u ∧ (ops.toList.take m)[j]?.bind (·.dst) ≠ none) → ∀ x, u x w' → u x w2) →
              (∀ k pre post, st = some (k, pre, post) → (i = k → post w2)) → Inv (listed.setIfInBounds i true) a2 w2 := by
            intro a2 w2 v ht hd2 hR2 hΨ2 hmono hst2
            have htmp : ∀ s, o.dst ≠ some s → a2.tmps[s]? = a.tmps[s]? := by
              intro s hne
              rw [ht]
              cases hdd : o.dst with
              | none => rfl
              | some d => have : d ≠ s := fun e => hne (by rw [hdd, e]); simp [Act.put, Array.getElem?_setIfInBounds_ne this]
            refine ⟨by simp [hs], fun j hj hjn => ?_, fun j oj hoj hl j' hj' => ?_, ?_, hd2, hRt _ _ _ hRw (hRR _ _ _ hR2), fun j oj d Ψ' hoj hl hd' hΨ' => ?_, fun s u hg hn => ?_, fun k pre post hk => ?_, fun j hl => ?_⟩
            · cases hb : (listed.setIfInBounds i true).getD j true with
              | false => rfl
              | true => rcases (hget j).1 hb with h | h
                        · omega
                        · rw [htl j hj hjn] at h; cases h
            · rcases (hget j).1 hl with rfl | h
              · have : oj = o := by rw [hoi] at hoj; exact (Option.some.inj hoj).symm
                subst this
                exact (hget j').2 (.inr (hdl j' hj'))
              · exact (hget j').2 (.inr (hcl j oj hoj h j' hj'))
            · rw [ht]; cases o.dst <;> simp [Act.put, hN]
            · rcases (hget j).1 hl with rfl | h
              · have : oj = o := by rw [hit] at hoj; exact (Option.some.inj hoj).symm
                subst this
                rw [hΨ] at hΨ'; obtain rfl := Option.some.inj hΨ'
                exact hΨ2 d hd'
              · obtain ⟨x, hx1, hx2⟩ := hv j oj d Ψ' hoj h hd' hΨ'
                have hne : o.dst ≠ some d := fun hc => by
                  have := hdist i o j oj d hit hoj hc hd'
                  subst this; rw [h] at h2; cases h2
                exact ⟨x, by rw [htmp d hne]; exact hx1, hmono Ψ' w' ⟨j, fun e => (by subst e; rw [h] at h2; cases h2), hΨ', by rw [hoj]; simp [hd']⟩ x hx2⟩
            · have hne : o.dst ≠ some s := hn i o hit ((hget i).2 (.inl rfl))
              rw [htmp s hne]
              exact hE' s u hg (fun j oj hoj hl => hn j oj hoj ((hget j).2 (.inr hl)))
            · have c1 := hst2 k pre post hk
              obtain ⟨_, _, p1, p2, _⟩ := hst k pre post hk
              constructor
              · intro hl
                by_cases e : i = k
                · exact c1 e
                · rcases (hget k).1 hl with h | h
                  · exact absurd h.symm e
                  · exact p2 i _ _ e ((hst' k pre post hk).1 h) hR2
              · intro hl
                have e : i ≠ k := fun e => by rw [(hget k).2 (.inl e.symm)] at hl; cases hl
                refine p1 i _ _ e ((hst' k pre post hk).2 ?_) hR2
                cases hb : listed.getD k true with
                | false => rfl
                | true => rw [(hget k).2 (.inr hb)] at hl; cases hl
            · have hji : j ≠ i := fun e => by rw [(hget j).2 (.inl e)] at hl; cases hl
              refine hPr j i _ _ hji (hPrI j ?_) hR2
              cases hb : listed.getD j true with
              | false => rfl
              | true => rw [(hget j).2 (.inr hb)] at hl; cases hl
          have hmonoR : ∀ w2 : World × G, R w' w2 → ∀ (u : VPS G) (w1 : World × G), (∃ j : Nat, j ≠ i ∧ Ψs[j]? = some u ∧ (ops.toList.take m)[j]?.bind (·.dst) ≠ none) → ∀ x, u x w' → u x w2 := by
            intro w2 hR2 u w1 ⟨j, hji, hj, hjd⟩ x hx
            cases hoj : (ops.toList.take m)[j]? with
            | none => rw [hoj] at hjd; simp at hjd
            | some oj =>
              rw [hoj] at hjd
              have hj' := hone j oj u hoj hj
              unfold OneOkS at hj'
              cases hdj : oj.dst with
              | none => simp [hdj] at hjd
              | some d =>
                rw [hdj, Nat.zero_add] at hj'
                exact hj'.2.1 x w' w2 hx hR2
          unfold OneOkS at hok
          cases hdo : o.dst with
          | some d =>
            rw [hdo] at hok
            obtain ⟨hik, hmo, hob⟩ := hok
            have hsti : fB st (uP ops.toList) i w' := by
              unfold fB
              cases hst0 : st with
              | none => trivial
              | some x =>
                obtain ⟨k, pre, post⟩ := x
                refine ⟨fun hk => (hst' k pre post hst0).1 (hanl k hk), fun hk => (hst' k pre post hst0).2 ?_⟩
                have hkm := (hst k pre post hst0).1
                rcases Nat.lt_or_ge k ops.size with hlt | hge
                · exact hnan k ops[k] (by simp [hlt]) hk
                · exfalso
                  have : (uP ops.toList).getD k [] = [] := by
                    have hl : ∀ (l : List Oper) (acc : List (List Nat)), (aC l acc).length = acc.length + l.length := by
                      intro l; induction l with
                      | nil => intro acc; rfl
                      | cons o l ihl => intro acc; unfold aC; rw [ihl]; simp; omega
                    have := hl ops.toList []
                    unfold uP
                    rw [List.getD_eq_getElem?_getD, List.getElem?_eq_none (by rw [this]; simpa using hge)]; rfl
                  rw [this] at hk; cases hk
            obtain ⟨F, hbody, hhas⟩ := uV hN (jV ops o) [] (hob w' hRw hsti (hPrI i h2)) ⟨hN, by simp [get]⟩ hsub1 hsub2
            refine aP ho hbody hhas hD' fun a2 w2 E2 he2 ⟨hd2, g2, hR2, u, hu1, hu2⟩ ⟨v, hv2⟩ => ih _ a2 (w2, g2) ?_ (by omega)
            exact hnext a2 (w2, g2) v hv2 hd2 hR2 (fun d' hd' => by
              have : d' = d := by rw [hdo] at hd'; exact (Option.some.inj hd').symm
              subst this; exact ⟨u, he2.at_ d' u hu1, hu2⟩) (hmonoR (w2, g2) (hRR _ _ _ hR2)) (fun k pre post hk => fun e => absurd e (hik k pre post hk))
          | none =>
            rw [hdo] at hok
            obtain ⟨pre, post, hst0, hob⟩ := hok
            obtain ⟨F, hbody, hhas⟩ := uV hN (jV ops o) [] (hob w' hRw ((hst' i pre post hst0).2 h2)) ⟨hN, by simp [get]⟩ hsub1 hsub2
            refine aP ho hbody hhas hD' fun a2 w2 E2 he2 ⟨hd2, g2, hR2, hp2⟩ ⟨v, hv2⟩ => ih _ a2 (w2, g2) ?_ (by omega)
            exact hnext a2 (w2, g2) v hv2 hd2 hR2 (fun d' hd' => by rw [hdo] at hd'; cases hd') (hmonoR (w2, g2) (hRR _ _ _ hR2)) (fun k pre' post' hk => by
              rw [hst0] at hk
              obtain ⟨rfl, rfl, rfl⟩ : i = k ∧ pre = pre' ∧ post = post' := by simpa using hk
              exact fun _ => hp2)
  have hsz0 : ∀ i, i < ops.size → (Array.replicate ops.size false).getD i true = false := by intro i hi; simp [Array.getD_eq_getD_getElem?, hi]
  refine key ops.size _ a0 ({ w with drawn := w.drawn + 1 }, g0) ⟨by simp, fun i _ hi => hsz0 i hi, fun i o ho hl => ?_, ha0.size, hd0, hR0, fun i o d Ψ ho hl => ?_, fun s v hg _ => ha0.at_ s v hg, fun k pre post hk => ⟨fun hl => ?_, fun _ => (hst k pre post hk).2.1⟩, fun i _ => hPr0 i⟩ ?_
  · have : i < ops.size := by have := (List.getElem?_eq_some_iff.1 ho).1; simpa using this
    rw [hsz0 i this] at hl; cases hl
  · have : i < ops.size := by have := (List.getElem?_eq_some_iff.1 (hkt i o ho).1).1; simpa using this
    rw [hsz0 i this] at hl; cases hl
  · obtain ⟨_, _, _, _, o6, h6⟩ := hst k pre post hk
    rw [hsz0 k (Array.getElem?_eq_some_iff.1 h6).1] at hl; cases hl
  · exact Nat.le_trans (List.length_filter_le _ _) (by simp)
end draw
section draw
variable {P : Program} {r : Option Nat} {N : Nat} {ops : Array Oper} {D : List Deferred} {E : Env} {x0 : World × G} {R : World × G → World × G → Prop} {R' : Nat → World × G → World × G → Prop} {Pr : Nat → World × G → Prop} {st : Option (Nat × (World × G → Prop) × (World × G → Prop))}
variable {F : List (Nat × VPS G) → Prop} {rest : List Oper} {i : Nat} {Γ : List (Nat × VPS G)}
theorem drsS_nil (h : F Γ) : eK P r N ops D E x0 R R' Pr st F [] i Γ := h
theorem jE {k : Nat} {pre post : World × G → Prop} {d : Nat} {op : Op} {t : TypeId} {pos : String} {af : Array Edge} {g : Option (Nat × Bool)} (hi : Nat.beq i k = false) (Ψ : VPS G) (hm : ∀ v w w', Ψ v w → R w w' → Ψ v w')
  (ho : ∀ w, R x0 w → fB (some (k, pre, post)) (uP ops.toList) i w → Pr i w → aZ Γ E w (fun F => Ops P r N ops (fun D' E' w' => D' = D ∧ ∃ g', R' i w (w', g') ∧ ∃ v, get E' d = some v ∧ Ψ v (w', g')) [⟨some d, op, t, pos, af, g⟩] D F w.1) (jV ops ⟨some d, op, t, pos, af, g⟩) [])
  (h : eK P r N ops D E x0 R R' Pr (some (k, pre, post)) F rest (i + 1) ((d, Ψ) :: Γ)) : eK P r N ops D E x0 R R' Pr (some (k, pre, post)) F (⟨some d, op, t, pos, af, g⟩ :: rest) i Γ :=
 ⟨Ψ, ⟨fun k' _ _ h => (by cases h; exact Nat.ne_of_beq_eq_false hi), hm, ho⟩, h⟩
theorem drsS_eff {op : Op} {t : TypeId} {pos : String} {af : Array Edge} {g : Option (Nat × Bool)} {pre post : World × G → Prop} (hs : st = some (i, pre, post))
  (ho : ∀ w, R x0 w → pre w → aZ Γ E w (fun F => Ops P r N ops (fun D' E' w' => D' = D ∧ ∃ g', R' i w (w', g') ∧ post (w', g')) [⟨none, op, t, pos, af, g⟩] D F w.1) (jV ops ⟨none, op, t, pos, af, g⟩) [])
  (h : eK P r N ops D E x0 R R' Pr st F rest (i + 1) Γ) : eK P r N ops D E x0 R R' Pr st F (⟨none, op, t, pos, af, g⟩ :: rest) i Γ :=
 ⟨fun _ _ => True, ⟨pre, post, hs, ho⟩, h⟩
theorem gW {k : Nat} {pre post : World × G → Prop} {u : Value} {d : Nat} {op : Op} {t : TypeId} {pos : String} {af : Array Edge} {g : Option (Nat × Bool)} (hi : Nat.beq i k = false)
  (ho : ∀ w, R x0 w → fB (some (k, pre, post)) (uP ops.toList) i w → Pr i w → aZ Γ E w (fun F => Ops P r N ops (fun D' E' w' => D' = D ∧ ∃ g', R' i w (w', g') ∧ ∃ v, get E' d = some v ∧ v = u) [⟨some d, op, t, pos, af, g⟩] D F w.1) (jV ops ⟨some d, op, t, pos, af, g⟩) [])
  (h : eK P r N ops D E x0 R R' Pr (some (k, pre, post)) F rest (i + 1) ((d, ExS u) :: Γ)) : eK P r N ops D E x0 R R' Pr (some (k, pre, post)) F (⟨some d, op, t, pos, af, g⟩ :: rest) i Γ :=
 jE hi (ExS u) (fun _ _ _ h _ => h) ho h
theorem xD {w : World × G} {body : Env → Prop} {F : Env} (h : body F) : aZ Γ E w body [] F := h
theorem qH {w : World × G} {body : Env → Prop} {F : Env} {s k : Nat} {ss : List Nat} {u : Value} (hf : Γ.find? (fun p => Nat.beq p.1 s) = some (k, ExS u)) (h : aZ Γ E w body ss ((s, u) :: F)) : aZ Γ E w body (s :: ss) F := by
 unfold aZ; rw [hf]; rintro v rfl; exact h
theorem jT {w : World × G} {body : Env → Prop} {F : Env} {s k : Nat} {ss : List Nat} {Ψ : VPS G} (hf : Γ.find? (fun p => Nat.beq p.1 s) = some (k, Ψ)) (h : ∀ v, Ψ v w → aZ Γ E w body ss ((s, v) :: F)) : aZ Γ E w body (s :: ss) F := by
 unfold aZ; rw [hf]; exact h
theorem qW {w : World × G} {body : Env → Prop} {F : Env} {s : Nat} {ss : List Nat} {u : Value} (hf : Γ.find? (fun p => Nat.beq p.1 s) = none) (hg : get E s = some u) (h : aZ Γ E w body ss ((s, u) :: F)) : aZ Γ E w body (s :: ss) F := by
 unfold aZ; rw [hf]; simp only; rw [hg]; exact h
end draw
abbrev Gb := Nat → Option Nat
def g0 : Gb := fun _ => none
def eI (g : Gb) (i b : Nat) : Gb := fun j => if j = i then some b else g j
def Mg (M : Nat → Prop) (g : Gb) : Nat → Prop := fun k => (∃ i, g i = some k) ∨ M k
def GOk (x : World × Gb) : Prop := (∀ i b, x.2 i = some b → b < x.1.heap.size) ∧ ∀ i j b, x.2 i = some b → x.2 j = some b → i = j
structure Rg (ka : Nat) (x y : World × Gb) : Prop where
 os : y.1.os = x.1.os
 tape : y.1.tape = x.1.tape
 output : y.1.output = x.1.output
 size : x.1.heap.size ≤ y.1.heap.size
 keep : ∀ k, k < x.1.heap.size → x.2 ka ≠ some k → y.1.heap[k]? = x.1.heap[k]?
 gst : ∀ i, y.2 i = x.2 i ∨ (x.2 i = none ∧ ∃ b, y.2 i = some b ∧ x.1.heap.size ≤ b ∧ b < y.1.heap.size)
 ok : GOk x → GOk y
def Rh (az : List (Nat × Value × TypeId)) (ka k : Nat) (i : Nat) (x y : World × Gb) : Prop :=
 match az.find? (fun p => Nat.beq p.1 i) with
 | some p => x.2 i = none ∧ ∃ b, y.2 = eI x.2 i b ∧ New x.1 y.1 b (.cells p.2.1.cells p.2.2)
 | none => if i = k then Rg ka x y ∧ y.2 = x.2 else Below x.1.heap.size x.1 y.1 ∧ y.2 = x.2
def PrA (i : Nat) (x : World × Gb) : Prop := x.2 i = none
theorem rg_trans {ka : Nat} : ∀ a b c, Rg ka a b → Rg ka b c → Rg ka a c := fun a b c h k =>
 ⟨k.os.trans h.os, k.tape.trans h.tape, k.output.trans h.output, Nat.le_trans h.size k.size, fun i hi hg => by
  have hb : b.2 ka ≠ some i := by
   rcases h.gst ka with e | ⟨_, q, e, h1, _⟩
   ·rw [e]; exact hg
   ·rw [e]; intro c; injection c with c; omega
  exact (k.keep i (Nat.lt_of_lt_of_le hi h.size) hb).trans (h.keep i hi hg), fun i => by
  rcases h.gst i with e | ⟨e0, q, e, h1, h2⟩
  ·rcases k.gst i with f | ⟨f0, q, f, k1, k2⟩
   ·exact .inl (f.trans e)
   ·exact .inr ⟨by rw [← e]; exact f0, q, f, Nat.le_trans h.size k1, k2⟩
  ·rcases k.gst i with f | ⟨f0, q', f, k1, k2⟩
   ·exact .inr ⟨e0, q, f.trans e, h1, Nat.lt_of_lt_of_le h2 k.size⟩
   ·rw [e] at f0; exact absurd f0 (by simp), fun h0 => k.ok (h.ok h0)⟩
theorem rg_below {ka : Nat} {x y : World × Gb} (h : Below x.1.heap.size x.1 y.1) (e : y.2 = x.2) : Rg ka x y :=
 ⟨h.os, h.tape, h.output, h.size, fun k hk _ => h.block k hk, fun i => .inl (by rw [e]), fun o => by unfold GOk; rw [e]; exact ⟨fun i b hb => Nat.lt_of_lt_of_le (o.1 i b hb) h.size, o.2⟩⟩
theorem rg_new {ka i b : Nat} {x y : World × Gb} {o : Obj} (h0 : x.2 i = none) (e : y.2 = eI x.2 i b) (n : New x.1 y.1 b o) : Rg ka x y :=
 have h := n.below
 have hb : b < y.1.heap.size := (Array.getElem?_eq_some_iff.1 n.obj).1
 ⟨h.os, h.tape, h.output, h.size, fun k hk _ => h.block k hk, fun j => by
  rw [e]; unfold eI
  by_cases c : j = i
  ·subst c; exact .inr ⟨h0, b, by simp, by rw [n.at_]; exact Nat.le_refl _, hb⟩
  ·exact .inl (by simp [c]), fun o => by
  unfold GOk; rw [e]; unfold eI
  refine ⟨fun j q hq => ?_, fun j l q hj hl => ?_⟩
  ·by_cases c : j = i
   ·simp only [c, if_true] at hq; injection hq with hq; rw [← hq]; exact hb
   ·simp only [c, if_false] at hq; exact Nat.lt_of_lt_of_le (o.1 j q hq) h.size
  ·by_cases c : j = i <;> by_cases d : l = i
   ·rw [c, d]
   ·simp only [c, if_true] at hj; simp only [d, if_false] at hl; injection hj with hj; have := o.1 l q hl; have := n.at_; omega
   ·simp only [c, if_false] at hj; simp only [d, if_true] at hl; injection hl with hl; have := o.1 j q hj; have := n.at_; omega
   ·simp only [c, if_false] at hj; simp only [d, if_false] at hl; exact o.2 j l q hj hl⟩
theorem rh_rg {az : List (Nat × Value × TypeId)} {ka k : Nat} : ∀ i x y, Rh az ka k i x y → Rg ka x y := fun i x y h => by
 unfold Rh at h
 split at h
 ·obtain ⟨e0, q, e, n⟩ := h; exact rg_new e0 e n
 ·split at h
  ·exact h.1
  ·exact rg_below h.1 h.2
theorem prA0 {w : World} : ∀ i, PrA i (w, g0) := fun _ => rfl
theorem prA_mono {az : List (Nat × Value × TypeId)} {ka k : Nat} : ∀ i j x y, i ≠ j → PrA i x → Rh az ka k j x y → PrA i y := fun i j x y hij hp h => by
 unfold PrA Rh at *
 split at h
 ·obtain ⟨_, q, e, _⟩ := h; rw [e]; unfold eI; rw [if_neg hij]; exact hp
 ·split at h
  ·rw [h.2]; exact hp
  ·rw [h.2]; exact hp
theorem rg_drew {ka : Nat} (w : World) : Rg ka (w, g0) ({ w with drawn := w.drawn + 1 }, g0) := ⟨rfl, rfl, rfl, Nat.le_refl _, fun _ _ _ => rfl, fun _ => .inl rfl, fun _ => ⟨fun _ _ h => (by cases h), fun _ _ _ h => (by cases h)⟩⟩
theorem Rg.le {ka : Nat} {M : Nat → Prop} {x y : World × Gb} (h : Rg ka x y) : Le (fun _ => False) (Mg M x.2) x.1 (Mg M y.2) y.1 :=
 ⟨h.os, h.tape, h.output, h.size, fun _ _ c => c.elim, fun k hk hm => h.keep k hk (fun e => hm (.inl ⟨ka, e⟩)), fun k hk => by
  rcases hk with ⟨i, hk⟩ | hk
  ·rcases h.gst i with e | ⟨e0, q, e, h1, _⟩
   ·rw [e] at hk; exact .inl (.inl ⟨i, hk⟩)
   ·rw [e] at hk; injection hk with hk; subst hk; exact .inr h1
  ·exact .inl (.inr hk), fun ho k hk => by
  rcases hk with ⟨i, hk⟩ | hk
  ·rcases h.gst i with e | ⟨e0, q, e, h1, h2⟩
   ·rw [e] at hk; exact Nat.lt_of_lt_of_le (ho k (.inl ⟨i, hk⟩)) h.size
   ·rw [e] at hk; injection hk with hk; subst hk; exact h2
  ·exact Nat.lt_of_lt_of_le (ho k (.inr hk)) h.size⟩
theorem Rg.le0 {ka : Nat} {Fz M : Nat → Prop} {w : World} {y : World × Gb} (h : Rg ka (w, g0) y) : Le Fz M w (Mg M y.2) y.1 := by
 have l := h.le (M := M)
 refine ⟨l.os, l.tape, l.output, l.size, fun k hk _ => h.keep k hk (by simp [g0]), fun k hk _ => h.keep k hk (by simp [g0]), fun k hk => (l.chg k hk).imp (fun c => ?_) id, fun ho => l.ok fun k hk => ho k ?_⟩
 ·rcases c with ⟨i, c⟩ | c
  ·cases c
  ·exact c
 ·rcases hk with ⟨i, c⟩ | c
  ·cases c
  ·exact c
theorem Rg.ge {ka i b : Nat} {w : World} {y : World × Gb} (h : Rg ka (w, g0) y) (hb : y.2 i = some b) : w.heap.size ≤ b := by
 rcases h.gst i with e | ⟨_, q, e, h1, _⟩
 ·rw [e] at hb; cases hb
 ·rw [e] at hb; injection hb with hb; subst hb; exact h1
theorem Blk.rg {ka : Nat} {w : World} {y : World × Gb} {b : Nat} {t : TypeId} {cs : List Value} (h : Blk w b t cs) (r : Rg ka (w, g0) y) : Blk y.1 b t cs := (r.keep b h.lt (by simp [g0])).trans h
theorem own_rg {ka : Nat} {sz : Nat} {e : TypeId} {v : Value} {m : Nat} {xs : List Value} {w : World} {y : World × Gb} (h : w.ownsRow 0 e sz v m xs) (r : Rg ka (w, g0) y) : y.1.ownsRow 0 e sz v m xs := by
 obtain ⟨h1, h2 | ⟨g, cap, cur, h3, h4, h5, h6⟩⟩ := h
 ·exact ⟨h1, .inl h2⟩
 ·exact ⟨h1, .inr ⟨g, cap, cur, h3, h4, (r.keep g (Array.getElem?_eq_some_iff.1 h5).1 (by simp [g0])).trans h5, h6⟩⟩
theorem gK {az : List (Nat × Value × TypeId)} {ka k i : Nat} {w w' : World} {g : Gb} (ha : az.find? (fun p => Nat.beq p.1 i) = none) (hk : Nat.beq i k = false) (h : Below w.heap.size w w') : Rh az ka k i (w, g) (w', g) := by
 unfold Rh; rw [ha]; show (if i = k then _ else _); rw [if_neg (Nat.ne_of_beq_eq_false hk)]; exact ⟨h, rfl⟩
theorem rh_new {az : List (Nat × Value × TypeId)} {ka k i j : Nat} {z : Value} {t : TypeId} {w w' : World} {g : Gb} {b : Nat} (ha : az.find? (fun p => Nat.beq p.1 i) = some (j, z, t)) (h0 : PrA i (w, g)) (h : New w w' b (.cells z.cells t)) : Rh az ka k i (w, g) (w', eI g i b) := by
 unfold Rh; rw [ha]; exact ⟨h0, b, rfl, h⟩
def Pb (i : Nat) : VPS Gb := fun v x => ∃ b, v = .pointer (some ⟨b, 0, none⟩) ∧ x.2 i = some b
theorem pb_mono {ka i : Nat} : ∀ v x y, Pb i v x → Rg ka x y → Pb i v y := fun v x y ⟨b, h1, h2⟩ r => ⟨b, h1, by
 rcases r.gst i with e | ⟨e0, _⟩
 ·rw [e]; exact h2
 ·rw [h2] at e0; cases e0⟩
theorem pb_new {g : Gb} {i b : Nat} {w : World} : Pb i (.pointer (some ⟨b, 0, none⟩)) (w, eI g i b) := ⟨b, rfl, by simp [eI]⟩
def fC (ka : Nat) (z : Value) (t : TypeId) : World × Gb → Prop := fun x => ∀ b, x.2 ka = some b → Blk x.1 b t z.cells.toList
def PostB (ka : Nat) (Q : Nat → World × Gb → Prop) : World × Gb → Prop := fun x => ∃ b, x.2 ka = some b ∧ Q b x
theorem preB0 {ka : Nat} {z : Value} {t : TypeId} {w : World} : fC ka z t (w, g0) := fun _ h => by cases h
theorem preB_mono {az : List (Nat × Value × TypeId)} {ka k j : Nat} {z : Value} {t : TypeId} (ha : az.find? (fun p => Nat.beq p.1 ka) = some (j, z, t)) : ∀ i x y, i ≠ k → fC ka z t x → Rh az ka k i x y → fC ka z t y := fun i x y hik h r b hb => by
 unfold Rh at r
 split at r
 ·rename_i p hp
  obtain ⟨e0, q, e, n⟩ := r
  by_cases c : ka = i
  ·subst c
   rw [ha] at hp; obtain rfl := Option.some.inj hp
   rw [e] at hb; simp only [eI, if_true] at hb; injection hb with hb; subst hb; exact n.blk
  ·rw [e] at hb; simp only [eI, if_neg c] at hb
   exact (h b hb).below n.below
 ·rw [if_neg hik] at r
  exact (h b (by rw [← r.2]; exact hb)).below r.1
theorem postB_mono {az : List (Nat × Value × TypeId)} {ka k : Nat} {Q : Nat → World × Gb → Prop} (hQ : ∀ b x y, x.2 ka = some b → Q b x → Below x.1.heap.size x.1 y.1 → Rg ka x y → Q b y) : ∀ i x y, i ≠ k → PostB ka Q x → Rh az ka k i x y → PostB ka Q y := fun i x y hik ⟨b, h1, h2⟩ r0 => by
 have rg := rh_rg i x y r0
 have r := r0
 have hb : y.2 ka = some b := by
  rcases rg.gst ka with e | ⟨e0, _⟩
  ·rw [e]; exact h1
  ·rw [h1] at e0; cases e0
 unfold Rh at r
 split at r
 ·obtain ⟨e0, q, e, n⟩ := r
  exact ⟨b, hb, hQ _ _ _ h1 h2 n.below rg⟩
 ·rw [if_neg hik] at r
  exact ⟨b, hb, hQ _ _ _ h1 h2 r.1 rg⟩
theorem rh_chg {az : List (Nat × Value × TypeId)} {ka k : Nat} {w w' : World} {g : Gb} {b : Nat} (ha : az.find? (fun p => Nat.beq p.1 k) = none) (hb : g ka = some b) (h : Chg w w' b) : Rh az ka k k (w, g) (w', g) := by
 unfold Rh; rw [ha]; show (if k = k then _ else _); rw [if_pos rfl]
 refine ⟨⟨h.os, h.tape, h.output, by show w.heap.size ≤ w'.heap.size; rw [h.size]; exact Nat.le_refl _, fun k hk hne => h.other k (fun e => hne (by rw [e]; exact hb)), fun _ => .inl rfl, fun o => ?_⟩, rfl⟩
 unfold GOk at *; show (∀ i b, g i = some b → b < w'.heap.size) ∧ _
 rw [h.size]; exact o
theorem Mg.ins {M : Nat → Prop} {g : Gb} {i b : Nat} (h : g i = some b) : ∀ k, Ins b (Mg M g) k → Mg M g k := fun k hk => by
 rcases hk with rfl | hk
 ·exact .inl ⟨i, h⟩
 ·exact hk
theorem Mg.base {M : Nat → Prop} {g : Gb} : ∀ k, M k → Mg M g k := fun k hk => .inr hk
theorem ins_sub {M M' : Nat → Prop} {b : Nat} (hb : M' b) (h : ∀ k, M k → M' k) : ∀ k, Ins b M k → M' k := fun k hk => by
 rcases hk with rfl | hk
 ·exact hb
 ·exact h k hk
end Go.SL
namespace Go.SL
open Go.RowKit
section flds
variable {P : Program} {r : Option Nat} {N : Nat} {all : Array Oper} {K : Pd} {D : List Deferred} {E : Env} {w : World} {rest : List Oper}
end flds
theorem mo_sub {v : Value} {M M' : Nat → Prop} (h : ∀ k, M k → M' k) : ∀ k, Mo v M k → Mo v M' k := fun k hk => hk.elim .inl (fun c => .inr (h k c))
theorem jH {w wx : World} {b o : Nat} {v : Value} (hb : Below w.heap.size w wx) (h : w.cell? ⟨b, o, none⟩ = some v) : wx.cell? ⟨b, o, none⟩ = some v :=
 (World.cell?_of_block (w := w) (a := ⟨b, o, none⟩) (hb.block b (cell_lt h))).trans h
end Go.SL
set_option maxRecDepth 100000
namespace Go.Proofs.YtfkejnlohkgbgaaGreatDoor
open Go.SL Go.RowKit Go.Proofs Tryz
variable {M : Nat → Prop} {w : World}
structure Elems {α : Type} (R : bT α) (sz : Nat) (M : Nat → Prop) (w : World) (cs : List Value) (l : List α) : Prop where
  len : cs.length = l.length * sz
  at_ : ∀ (i : Nat) (a : α), l[i]? = some a → ∃ us : List Value, us.length = sz ∧ (∀ (q : Nat) (u : Value), us[q]? = some u → cs[i * sz + q]? = some u) ∧ R M w a us
theorem Elems.nil {α : Type} {R : bT α} {sz : Nat} : Elems R sz M w [] ([] : List α) := ⟨by simp, fun i a h => by simp at h⟩
theorem Elems.snoc {α : Type} {R : bT α} {sz : Nat} {cs us : List Value} {l : List α} {a : α} (h : Elems R sz M w cs l) (hu : us.length = sz) (hr : R M w a us) : Elems R sz M w (cs ++ us) (l ++ [a]) :=
  ⟨by simp [h.len, hu, Nat.add_mul], fun i b hb => by
    rcases Nat.lt_or_ge i l.length with hi | hi
    · rw [List.getElem?_append_left hi] at hb
      obtain ⟨vs, h1, h2, h3⟩ := h.at_ i b hb
      refine ⟨vs, h1, fun q u hq => ?_, h3⟩
      have := h2 q u hq
      rw [List.getElem?_append_left (List.getElem?_eq_some_iff.1 this).1]; exact this
    · rw [List.getElem?_append_right hi] at hb
      have h0 : i - l.length = 0 := by
        have := (List.getElem?_eq_some_iff.1 hb).1; simp at this; omega
      obtain rfl : i = l.length := by omega
      simp at hb; subst hb
      refine ⟨us, hu, fun q u hq => ?_, hr⟩
      rw [List.getElem?_append_right (by rw [h.len]; omega), h.len, Nat.add_sub_cancel_left]; exact hq⟩
theorem Elems.mono {α : Type} {R : bT α} {sz : Nat} {M M' : Nat → Prop} {w w' : World} {cs : List Value} {l : List α} (h : Elems R sz M w cs l) (hR : ∀ a us, R M w a us → R M' w' a us) : Elems R sz M' w' cs l :=
  ⟨h.len, fun i a ha => let ⟨us, h1, h2, h3⟩ := h.at_ i a ha; ⟨us, h1, h2, hR a us h3⟩⟩
theorem row_own {α : Type} {R : bT α} {sz : Nat} {e : TypeId} {v : Value} {cs : List Value} {l : List α} (h : w.ownsRow 0 e sz v l.length cs) (hm : ∀ k, v.ownBlock = some k → ¬ M k) (hl : l.length ≤ 9223372036854775807) (he : Elems R sz M w cs l) : RowOf R sz M w v l :=
  ⟨cs, qY h hm hl, he.at_⟩
theorem row_blk {α : Type} {R : bT α} {sz : Nat} {b : Nat} {t : TypeId} {cs : List Value} {l : List α} {c : Nat} (h : KBlk M w b t cs) (hc : l.length ≤ c) (hl : l.length ≤ 9223372036854775807) (he : Elems R sz M w cs l) : RowOf R sz M w (.slice (some ⟨b, 0, none⟩) l.length c) l :=
  ⟨cs, h.blk.slc h.not he.len (fun j u hj => hj) hl hc, he.at_⟩
def RQ (n : Nat) : bT Rat := fun M w p us => ∃ s a d, us = [.bool s, a, d] ∧ QC M w n p s a d
def RQc (n : Nat) : bT Rat := fun M w p us => ∃ s a d, us = [.bool s, a, d] ∧ RC M w n p s a d
structure QL (M : Nat → Prop) (w : World) (n : Nat) (q : List Rat) (v : Value) : Prop where
  row : RowOf (RQ n) 3 M w v q
section
variable {Fz M M' T S : Nat → Prop} {w w' w0 : World} {n m k : Nat} {q : List Rat} {v : Value}
theorem QL.mono (h : QL M w n q v) (l : Le Fz M w M' w') : QL M' w' n q v := ⟨h.row.mono l (fun _ _ ⟨a, b, c, e0, h0⟩ => ⟨a, b, c, e0, h0.mono l⟩)⟩
theorem QL.less (h : QL M w n q v) (hm : ∀ k, M' k → M k) : QL M' w n q v := h.mono (Fz := fun _ => False) (Le.less hm)
theorem QL.one (h : QL M w n q v) : v.oneCell' = true ∧ True := by obtain ⟨_, ⟨_, _, ad, cap, rfl, _⟩, _⟩ := h.row; exact ⟨rfl, trivial⟩
end
structure QLc (M : Nat → Prop) (w : World) (n : Nat) (q : List Rat) (v : Value) : Prop where
  row : RowOf (RQc n) 3 M w v q
section
variable {Fz M M' T S : Nat → Prop} {w w' w0 : World} {n m k : Nat} {q : List Rat} {v : Value}
theorem QLc.mono (h : QLc M w n q v) (l : Le Fz M w M' w') : QLc M' w' n q v := ⟨h.row.mono l (fun _ _ ⟨a, b, c, e0, h0⟩ => ⟨a, b, c, e0, h0.mono l⟩)⟩
theorem QLc.one (h : QLc M w n q v) : v.oneCell' = true ∧ True := by obtain ⟨_, ⟨_, _, ad, cap, rfl, _⟩, _⟩ := h.row; exact ⟨rfl, trivial⟩
theorem QLc.gen (h : QLc M w n q v) : QL M w n q v := ⟨let ⟨cs, h1, h2⟩ := h.row; ⟨cs, h1, fun i a ha => let ⟨us, h3, h4, a, b, c, e0, h5⟩ := h2 i a ha; ⟨us, h3, h4, a, b, c, e0, h5.gen⟩⟩⟩
end
def RZ (n : Nat) : bT Int := fun M w p us => ∃ s a, us = [.bool s, a] ∧ ZQ M w n p s a
structure ZL (M : Nat → Prop) (w : World) (n : Nat) (q : List Int) (v : Value) : Prop where
  row : RowOf (RZ n) 2 M w v q
section
variable {Fz M M' T S : Nat → Prop} {w w' w0 : World} {n m k : Nat} {q : List Int} {v : Value}
theorem ZL.mono (h : ZL M w n q v) (l : Le Fz M w M' w') : ZL M' w' n q v := ⟨h.row.mono l (fun _ _ ⟨a, b, e0, h0⟩ => ⟨a, b, e0, h0.mono l⟩)⟩
theorem ZL.one (h : ZL M w n q v) : v.oneCell' = true ∧ True := by obtain ⟨_, ⟨_, _, ad, cap, rfl, _⟩, _⟩ := h.row; exact ⟨rfl, trivial⟩
end
theorem zl2 {bb : Nat} {ty : TypeId} {n m : Nat} {p q : Int} {s t : Bool} {a b : Value} (hk : KBlk M w bb ty [.bool s, a, .bool t, b]) (h1 : ZQ M w n p s a) (h2 : ZQ M w m q t b) : ZL M w (max n m) [p, q] (.slice (some ⟨bb, 0, none⟩) 2 2) :=
  ⟨row_blk (l := [p, q]) hk (by simp) (by simp) ((Elems.nil.snoc (us := [.bool s, a]) rfl ⟨_, _, rfl, h1.up (by omega)⟩).snoc (us := [.bool t, b]) rfl ⟨_, _, rfl, h2.up (by omega)⟩)⟩
structure ER (M : Nat → Prop) (w : World) (n : Nat) (cs : List Value) (l : List Rat) : Prop where
  e : Elems (RQc n) 3 M w cs l
theorem ER.mono {Fz M M' : Nat → Prop} {w w' : World} {n : Nat} {cs : List Value} {l : List Rat} (h : ER M w n cs l) (k : Le Fz M w M' w') : ER M' w' n cs l := ⟨Elems.mono h.e fun _ _ ⟨a, b, c, e0, h0⟩ => ⟨a, b, c, e0, h0.mono k⟩⟩
theorem ER.snoc {n : Nat} {cs : List Value} {l : List Rat} {p : Rat} {s : Bool} {a d : Value} (h : ER M w n cs l) (hp : RC M w n p s a d) : ER M w n (cs ++ [.bool s, a, d]) (l ++ [p]) := ⟨h.e.snoc rfl ⟨_, _, _, rfl, hp⟩⟩
theorem ones3 {s : Bool} {a d : Value} (h1 : a.oneCell' = true) (h2 : d.oneCell' = true) : ∀ u ∈ [Value.bool s, a, d], u.oneCell' = true := xC rfl (xC h1 (xC h2 gD))
end Go.Proofs.YtfkejnlohkgbgaaGreatDoor
namespace Go.Proofs.YtfkejnlohkgbgaaGreatDoor
open Go Go.SL Go.RowKit Tryz
variable {Fz M M' : Nat → Prop} {w w' : World}
instance {n : Nat} {q : List Rat} {v : Value} : Up Fz M M' w w' (QL M w n q v) (QL M' w' n q v) := ⟨fun l h => h.mono l⟩
instance {n : Nat} {q : List Rat} {v : Value} : UpB w w' (QL M w n q v) (QL M w' n q v) := ⟨fun l h => h.mono (Fz := fun _ => False) (Le.of_below l)⟩
instance {n : Nat} {q : List Rat} {v : Value} : Up Fz M M' w w' (QLc M w n q v) (QLc M' w' n q v) := ⟨fun l h => h.mono l⟩
instance {n : Nat} {q : List Rat} {v : Value} : UpB w w' (QLc M w n q v) (QLc M w' n q v) := ⟨fun l h => h.mono (Fz := fun _ => False) (Le.of_below l)⟩
instance {n : Nat} {q : List Int} {v : Value} : Up Fz M M' w w' (ZL M w n q v) (ZL M' w' n q v) := ⟨fun l h => h.mono l⟩
instance {n : Nat} {q : List Int} {v : Value} : UpB w w' (ZL M w n q v) (ZL M w' n q v) := ⟨fun l h => h.mono (Fz := fun _ => False) (Le.of_below l)⟩
end Go.Proofs.YtfkejnlohkgbgaaGreatDoor
set_option maxRecDepth 100000
namespace Go.Proofs.YtfkejnlohkgbgaaGreatDoor
open Go.SL Go.RowKit Go.Proofs Tryz
variable {M : Nat → Prop} {w : World}
theorem ZQ.neg {n : Nat} {z : Int} {s : Bool} {a : Value} (h : ZQ M w n z s a) : ZQ M w n (-z) (!s) a := by
  obtain ⟨xs, h1, h2, h3⟩ := h.ex
  exact ⟨xs, h1, h2, by rw [← h3]; cases s <;> simp [zv]⟩
theorem zc_zero {n : Nat} : ZC M w n 0 false (.slice none 0 0) := ⟨by simp, by simpa [xJ] using (kQ (M := M) (w := w)), by simp [xJ]⟩
theorem ZC.sign {n : Nat} {z : Int} {s : Bool} {a : Value} (h : ZC M w n z s a) : (((limbs z.natAbs).length : Int) = 0 → z = 0) ∧ (s = true → z < 0) ∧ (s = false → 0 ≤ z) := by
  refine ⟨fun c => ?_, fun c => ?_, fun c => ?_⟩
  · have := xH.1 (show (limbs z.natAbs).length = 0 by omega); omega
  · have := h.sgn; rw [c] at this; exact of_decide_eq_true this.symm
  · have := h.sgn; rw [c] at this; have := of_decide_eq_false this.symm; omega
theorem sum_take {l : List Int} {s : Nat} (h : s < l.length) : (l.take (s + 1)).sum = (l.take s).sum + l.getD s 0 := by
  rw [(qL (0 : Int) h).1, List.sum_append]; simp
def qB (l : List Int) : Int := l.foldl (· * ·) 1
theorem prod_take {l : List Int} {s : Nat} (h : s < l.length) : qB (l.take (s + 1)) = qB (l.take s) * l.getD s 0 := by
  rw [(qL (0 : Int) h).1, qB, List.foldl_append]; rfl
theorem qQ {z : Int} {n0 : Nat} {xs0 : Bool} {xa0 : Value} (h0 : ZQ M w n0 z xs0 xa0) (hl0 : n0 ≤ 1000000) (hM : OkM M w) :
    CallsV prog 155 [.agg #[.bool xs0, xa0]] w fun r w' => Below w.heap.size w w' ∧ ∃ xsr xar, r = .agg #[.bool xsr, xar] ∧ ZC M w' (n0) (z) xsr xar := by
 obtain ⟨Fz, hFz, hF, LL⟩ := fz0 M w
 obtain ⟨oxa0, _⟩ := h0.one
 obtain ⟨xs, hx, hxl, hz⟩ := h0.ex
 have hM0 := hM
 refine zQ func155 rfl ntmps155 rfl ?_
 refine zF (zC (xL rfl rfl (fun w1 b1 N1 => ?_)))
 obtain ⟨_, nF1, nM1, Lw1, B1⟩ := nza hF hM N1
 obtain ⟨LL, hM, hF, hx⟩ := up4 Lw1 LL hM hF hx
 refine yU rfl yX (fun w2 b2 N2 => ?_)
 obtain ⟨hBw2, nF2, nM2, Lw2, B2⟩ := nza hF hM N2
 obtain ⟨B1, ne1_2⟩ := bn B1 N2
 obtain ⟨LL, hM, hx⟩ := up3 Lw2 LL hM hx
 refine zB (zF (zC (zL 1 rfl yu31 rfl rfl xU rfl rfl (zR rfl yS rfl B1 rfl (zI rfl aB rfl rfl ?_)))))
 refine (qA hx (by omega) hM).mono ?_
 rintro v6 w3 ⟨hB6, hf6⟩
 have hM6 := hM
 have hS6 := LL.size
 obtain ⟨LL, hx, B1, B2⟩ := ub4 hB6 LL hx B1 B2
 have hn6 := hf6.nat hM6
 refine zD rfl rfl (zB (zF (zC (zL 0 rfl yu31 rfl rfl sz4 rfl rfl (zR rfl qR rfl B1 rfl (zA rfl rfl (ops_bcase (d := 9) rfl (fun hg2_2 => ?_) (fun hg2_2 => ?_))))))))
 ·refine zM rfl rfl (zA rfl rfl (zM rfl rfl ?_))
  first | refine yM rfl yu29 rfl hn6.slc ?_ | refine yQ rfl yu29 rfl ?_
  refine zM rfl rfl (qV rfl rfl rfl (xA rfl rfl rfl (zA rfl rfl (jF rfl kG rfl rfl (yO (gF rfl) (yO (gF (by first | rfl | exact yD (by assumption) | exact yG (by assumption) | assumption)) xS)) rfl (yK rfl rfl yX B2 rfl rfl (xC rfl (xC (by first | rfl | exact yD (by assumption) | exact yG (by assumption) | assumption) gD)) rfl (fun w4 Cw4 B2 => ?_))))))
  have Lw4 := Le.of_chg (M := (Ins b2 (Ins b1 M))) Cw4 zS nF2
  obtain ⟨LL, hx, hn6⟩ := up3 Lw4 LL hx hn6
  refine zB (zZ ?_)
  refine zN ⟨[_], ⟨⟨_, rfl, xI xV yX B2 rfl rfl⟩, trivial⟩, ?_⟩
  dsimp only [zW]
  have hle := yI xs hx.lt
  subst hz; subst hFz
  refine ⟨LL.below (Nat.le_refl _), _, _, rfl, ?_, by rw [qU]; exact hn6.less fun k c => zO (zO c), by rw [qU]; omega⟩
  rw [zv_neg, hg2_2]; rfl
 ·refine zU rfl rfl rfl rfl (zU rfl rfl rfl rfl (zU rfl rfl rfl rfl (xA rfl rfl rfl (zA rfl rfl (jF rfl kG rfl rfl (yO (gF rfl) (yO (gF (by first | rfl | exact yD (by assumption) | exact yG (by assumption) | assumption)) xS)) rfl (yK rfl rfl yX B2 rfl rfl (xC rfl (xC (by first | rfl | exact yD (by assumption) | exact yG (by assumption) | assumption) gD)) rfl (fun w5 Cw5 B2 => ?_)))))))
  have Lw5 := Le.of_chg (M := (Ins b2 (Ins b1 M))) Cw5 zS nF2
  obtain ⟨LL, hx, hn6⟩ := up3 Lw5 LL hx hn6
  refine zB (zZ ?_)
  refine zN ⟨[_], ⟨⟨_, rfl, xI xV yX B2 rfl rfl⟩, trivial⟩, ?_⟩
  dsimp only [zW]
  have hle := yI xs hx.lt
  subst hz; subst hFz
  refine ⟨LL.below (Nat.le_refl _), _, _, rfl, ?_, by rw [qU]; exact hn6.less fun k c => zO (zO c), by rw [qU]; omega⟩
  rw [zv_neg, hg2_2]; rfl
theorem i5of_c {k : Nat} (hk : k < 9223372036854775808) (hM : OkM M w) :
    CallsV prog 79 [.int .i64 ((k : Nat) : Int)] w fun r w' => Below w.heap.size w w' ∧ ∃ xsr xar, r = .agg #[.bool xsr, xar] ∧ ZC M w' (2) (((k : Nat) : Int)) xsr xar := by
 obtain ⟨Fz, hFz, hF, LL⟩ := fz0 M w
 have hM0 := hM
 refine zQ func79 rfl ntmps79 rfl ?_
 refine zF (zC (yU rfl yX (fun w1 b2 N2 => ?_)))
 obtain ⟨_, nF2, nM2, Lw1, B2⟩ := nza hF hM N2
 obtain ⟨LL, hM⟩ := up2 Lw1 LL hM
 refine zB (zF (zF (zC (zA rfl rfl (jG rfl rfl rfl (zB ?_))))))
 refine zX rfl (fun hp => absurd hp (by omega)) (fun hc0 => ?_)
 refine yH (zF (zC (zA rfl rfl (xW rfl yu3 yu170 rfl (by omega) (zI rfl bod148 rfl rfl ?_)))))
 refine (rof_c (n := k) (by omega) hM).mono ?_
 rintro v14 w2 ⟨hB14, hf14⟩
 have hM14 := hM
 have hS14 := LL.size
 obtain ⟨LL, B2⟩ := ub2 hB14 LL B2
 have hn14 := hf14.nat hM14
 refine kP rfl kG yX rfl (yO (gF (by first | rfl | exact yD (by assumption) | exact yG (by assumption) | assumption)) xS) rfl rfl (yK rfl rfl yX B2 rfl rfl (xC rfl (xC (by first | rfl | exact yD (by assumption) | exact yG (by assumption) | assumption) gD)) rfl (fun w3 Cw3 B2 => ?_))
 have Lw3 := Le.of_chg (M := (Ins b2 M)) Cw3 zS nF2
 obtain ⟨LL, hn14⟩ := up2 Lw3 LL hn14
 refine zB (zZ ?_)
 refine zN ⟨[_], ⟨⟨_, rfl, xI xV yX B2 rfl rfl⟩, trivial⟩, ?_⟩
 dsimp only [zW]
 subst hFz
 exact ⟨LL.below (Nat.le_refl _), _, _, rfl, (decide_eq_false (by omega)).symm, hn14.less fun k c => zO c, yZ (by simp; omega)⟩
theorem i5sign_c {z : Int} {n0 : Nat} {xs0 : Bool} {xa0 : Value} (h0 : ZQ M w n0 z xs0 xa0) (hl0 : n0 ≤ 1000000) (hM : OkM M w) :
    CallsV prog 87 [.agg #[.bool xs0, xa0]] w fun r w' => Below w.heap.size w w' ∧ r = .int .i64 (z).sign := by
 obtain ⟨Fz, hFz, hF, LL⟩ := fz0 M w
 obtain ⟨oxa0, _⟩ := h0.one
 have hM0 := hM
 refine zQ func87 rfl ntmps87 rfl ?_
 refine zF (zC (xL rfl rfl (fun w1 b1 N1 => ?_)))
 obtain ⟨_, nF1, nM1, Lw1, B1⟩ := nza hF hM N1
 obtain ⟨LL, hM, h0⟩ := up3 Lw1 LL hM h0
 refine zD rfl rfl (zB (zF (zC (yE rfl xV yX rfl B1 rfl rfl (zI rfl aF rfl rfl ?_)))))
 refine (qQ h0 (by omega) hM).mono ?_
 rintro v4 w2 ⟨hB4, xs4, xa4, rfl, hn4⟩
 obtain ⟨LL, B1⟩ := ub2 hB4 LL B1
 obtain ⟨oxa4, _⟩ := hn4.one
 refine yK rfl rfl yX B1 rfl rfl (xC rfl (xC (by first | rfl | assumption) gD)) rfl (fun w3 Cw3 B1 => ?_)
 have Lw3 := Le.of_chg (M := (Ins b1 M)) Cw3 zS nF1
 obtain ⟨LL, hn4⟩ := up2 Lw3 LL hn4
 refine zB (zF (yA (zF (zC (zL 1 rfl yu31 rfl rfl xU rfl rfl (zR rfl yS rfl B1 rfl (yM rfl yu29 rfl hn4.num.slc (gI rfl rfl rfl (zD rfl rfl (zB ?_))))))))))
 refine zX rfl (fun hc0 => ?_) (fun hc0 => ?_)
 ·refine zF (zC (zD rfl rfl (zB (zZ ?_))))
  refine zN ⟨[_], ⟨rfl, trivial⟩, ?_⟩
  dsimp only [zW]
  rw [hn4.sign.1 hc0]
  subst hFz
  exact ⟨LL.below (Nat.le_refl _), rfl⟩
 ·refine zF (zC (zL 0 rfl yu31 rfl rfl sz4 rfl rfl (zR rfl qR rfl B1 rfl (zD rfl rfl (zB ?_)))))
  refine qX rfl (fun hc1 => ?_) (fun hc1 => ?_)
  ·refine zF (zC (zD rfl rfl (zB (zZ ?_))))
   refine zN ⟨[_], ⟨rfl, trivial⟩, ?_⟩
   dsimp only [zW]
   rw [Int.sign_eq_neg_one_of_neg (hn4.sign.2.1 hc1)]
   subst hFz
   exact ⟨LL.below (Nat.le_refl _), rfl⟩
  ·refine yH (zF (zC (zD rfl rfl (zB (zZ ?_)))))
   refine zN ⟨[_], ⟨rfl, trivial⟩, ?_⟩
   dsimp only [zW]
   have hp := hn4.sign.2.2 hc1
   rw [Int.sign_eq_one_of_pos (by have : z ≠ 0 := fun c => hc0 (by rw [c]; simp [xJ]); omega)]
   subst hFz
   exact ⟨LL.below (Nat.le_refl _), rfl⟩
theorem i5neg_c {z : Int} {n0 : Nat} {xs0 : Bool} {xa0 : Value} (h0 : ZQ M w n0 z xs0 xa0) (hl0 : n0 ≤ 1000000) (hM : OkM M w) :
    CallsV prog 149 [.agg #[.bool xs0, xa0]] w fun r w' => Below w.heap.size w w' ∧ ∃ xsr xar, r = .agg #[.bool xsr, xar] ∧ ZC M w' (n0) (-z) xsr xar := by
 obtain ⟨Fz, hFz, hF, LL⟩ := fz0 M w
 obtain ⟨oxa0, _⟩ := h0.one
 have hM0 := hM
 refine zQ func149 rfl ntmps149 rfl ?_
 refine zF (zC (xL rfl rfl (fun w1 b1 N1 => ?_)))
 obtain ⟨_, nF1, nM1, Lw1, B1⟩ := nza hF hM N1
 obtain ⟨LL, hM, hF, h0⟩ := up4 Lw1 LL hM hF h0
 refine yU rfl yX (fun w2 b2 N2 => ?_)
 obtain ⟨hBw2, nF2, nM2, Lw2, B2⟩ := nza hF hM N2
 obtain ⟨B1, ne1_2⟩ := bn B1 N2
 obtain ⟨LL, hM, h0⟩ := up3 Lw2 LL hM h0
 refine zB (zF (zC (zL 0 rfl yu31 rfl rfl sz4 rfl rfl (zR rfl qR rfl B1 rfl (gR rfl rfl (zL 1 rfl yu31 rfl rfl xU rfl rfl (zR rfl yS rfl B1 rfl (jF rfl kG rfl rfl (yO (gF rfl) (yO (gF (by first | rfl | assumption)) xS)) rfl (zI rfl aF rfl rfl ?_)))))))))
 refine (qQ h0.neg (by omega) hM).mono ?_
 rintro v9 w3 ⟨hB9, xs9, xa9, rfl, hn9⟩
 obtain ⟨LL, B2⟩ := ub2 hB9 LL B2
 obtain ⟨oxa9, _⟩ := hn9.one
 refine yK rfl rfl yX B2 rfl rfl (xC rfl (xC (by first | rfl | assumption) gD)) rfl (fun w4 Cw4 B2 => ?_)
 have Lw4 := Le.of_chg (M := (Ins b2 (Ins b1 M))) Cw4 zS nF2
 obtain ⟨LL, hn9⟩ := up2 Lw4 LL hn9
 refine zB (zZ ?_)
 refine zN ⟨[_], ⟨⟨_, rfl, xI xV yX B2 rfl rfl⟩, trivial⟩, ?_⟩
 dsimp only [zW]
 subst hFz
 exact ⟨LL.below (Nat.le_refl _), _, _, rfl, (hn9.less (fun k c => zO (zO c))).up (by omega)⟩
theorem i5two_c {z : Int} {n0 : Nat} {xs0 : Bool} {xa0 : Value} {y : Int} {n1 : Nat} {xs1 : Bool} {xa1 : Value} (h0 : ZQ M w n0 z xs0 xa0) (h1 : ZQ M w n1 y xs1 xa1) (hl0 : n0 ≤ 400000) (hl1 : n1 ≤ 400000) (hM : OkM M w) :
    CallsV prog 203 [.agg #[.bool xs0, xa0], .agg #[.bool xs1, xa1]] w fun r w' => Below w.heap.size w w' ∧ ∃ xsr xar, r = .agg #[.bool xsr, xar] ∧ ZC M w' (max n0 n1 + 1) (z + y) xsr xar := by
 obtain ⟨Fz, hFz, hF, _⟩ := fz0 M w
 obtain ⟨oxa0, _⟩ := h0.one
 obtain ⟨oxa1, _⟩ := h1.one
 obtain ⟨xs, hx, hxl, hz⟩ := h0.ex
 obtain ⟨ys, hy, hyl, hzy⟩ := h1.ex
 have hvx := xZ hx.lt hxl
 have hvy := xZ hy.lt hyl
 have ex := yI xs hx.lt
 have ey := yI ys hy.lt
 have esx := yN (Nat.sub_le (val xs) (val ys))
 have esy := yN (Nat.sub_le (val ys) (val xs))
 have esum : (limbs (val xs + val ys)).length ≤ max n0 n1 + 1 := yZ (by
   have a1 : (4294967296 : Nat) ^ n0 ≤ 4294967296 ^ max n0 n1 := Nat.pow_le_pow_right (by omega) (by omega)
   have a2 : (4294967296 : Nat) ^ n1 ≤ 4294967296 ^ max n0 n1 := Nat.pow_le_pow_right (by omega) (by omega)
   rw [Nat.pow_succ]; generalize (4294967296 : Nat) ^ max n0 n1 = B at *; omega)
 have LL := Le.refl Fz M w
 have hM0 := hM
 refine zQ func203 rfl ntmps203 rfl ?_
 refine zF (zC (xL rfl rfl (fun w1 b2 N2 => ?_)))
 obtain ⟨_, nF2, nM2, Lw1, B2⟩ := nza hF hM N2
 obtain ⟨LL, hM, hF, hx, hy⟩ := up5 Lw1 LL hM hF hx hy
 refine xL rfl rfl (fun w2 b3 N3 => ?_)
 obtain ⟨hBw2, nF3, nM3, Lw2, B3⟩ := nza hF hM N3
 obtain ⟨B2, ne2_3⟩ := bn B2 N3
 obtain ⟨LL, hM, hF, hx, hy⟩ := up5 Lw2 LL hM hF hx hy
 refine yU rfl yX (fun w3 b4 N4 => ?_)
 obtain ⟨hBw3, nF4, nM4, Lw3, B4⟩ := nza hF hM N4
 obtain ⟨B2, ne2_4⟩ := bn B2 N4
 obtain ⟨B3, ne3_4⟩ := bn B3 N4
 obtain ⟨LL, hM, hx, hy⟩ := up4 Lw3 LL hM hx hy
 refine zB (zF (zF (zC (zL 0 rfl yu31 rfl rfl sz4 rfl rfl (zR rfl qR rfl B2 rfl (zL 0 rfl yu31 rfl rfl sz4 rfl rfl (zR rfl qR rfl B3 rfl (ops_beq rfl rfl rfl underlying4 (zB ?_)))))))))
 refine qX rfl (fun hc0 => ?_) (fun hc0 => ?_)
 ·refine zF ?_
  refine xQ (R := Rb) (R' := Rb) (st := none) jR 8 [2, 3, 4, 13, 19] (by decide +kernel) xO xY (xX _) (fun _ _ _ h => by cases h) ?_
  refine zK (fun _ _ _ => zJ rfl rfl (zE (zL 0 rfl yu31 rfl rfl sz4 rfl rfl (on0 rfl)))) ?_
  refine zK (fun _ hR _ => zH rfl (zE (zR rfl qR rfl (B2.below hR) rfl (on0 rfl)))) ?_
  refine zK (fun _ _ _ => zJ rfl rfl (zE (zL 1 rfl yu31 rfl rfl xU rfl rfl (on0 rfl)))) ?_
  refine zK (fun _ hR _ => zH rfl (zE (zR rfl yS rfl (B2.below hR) rfl (on0 rfl)))) ?_
  refine zK (fun _ _ _ => zJ rfl rfl (zE (zL 1 rfl yu31 rfl rfl xU rfl rfl (on0 rfl)))) ?_
  refine zK (fun _ hR _ => zH rfl (zE (zR rfl yS rfl (B3.below hR) rfl (on0 rfl)))) ?_
  refine zP (fun v w => IsNats (Ins b4 (Ins b3 (Ins b2 M))) w v [xs, ys]) bI (fun wq hR hst => ?_) ?_
  ·refine zH rfl (zH rfl (zE ?_))
   obtain ⟨hM, hx, hy⟩ := ub3 hR hM hx hy
   refine yP rfl yu255 xU rfl rfl rfl (eP (by first | rfl | exact yD (by assumption) | exact yG (by assumption) | assumption) (by first | rfl | exact yD (by assumption) | exact yG (by assumption) | assumption)) rfl (fun w4 b18 N18 => ?_)
   have hBw4 := N18.below
   have nM18 := hM.new N18
   have B18 := N18.blk
   obtain ⟨hx, hy⟩ := ub2 hBw4 hx hy
   have hn18 := cW B18 nM18 hx hy
   have hB18 := hBw4
   exact zB ⟨rfl, hB18, _, rfl, hn18⟩
  refine zP (fun v w => IsNat (Ins b4 (Ins b3 (Ins b2 M))) w v (limbs (val xs + val ys))) xP (fun wq hR hst => ?_) ?_
  ·refine yC rfl (fun v18 hp18 => ?_)
   have hn18 := hp18
   refine zE ?_
   obtain ⟨LL, hM⟩ := ub2 hR LL hM
   refine zI rfl bod225 rfl rfl ?_
   refine (radd_c hn18 (by intro q hq; rcases List.mem_cons.1 hq with rfl | hq; omega; rcases List.mem_cons.1 hq with rfl | hq; omega; cases hq) (by simp) hM).mono ?_
   rintro v19 w5 ⟨hB19, hf19⟩
   have hM19 := hM
   have hS19 := LL.size
   simp only [List.map_cons, List.map_nil, List.sum_cons, List.sum_nil, Nat.add_zero] at hf19
   have hn19 := hf19.nat hM19
   exact zB ⟨rfl, hB19, _, rfl, hn19⟩
  refine xR (fun wq2 hR2 hpost2 => ?_)
  refine zJ rfl rfl (zJ rfl rfl (zJ rfl rfl (zH rfl (yC rfl (fun v19 hp19 => ?_)))))
  have hn19 := hp19
  refine zE ?_
  simp only [List.drop_succ_cons, List.drop_zero, List.drop_nil, List.toList_toArray]
  obtain ⟨LL, hM, B4⟩ := ub3 hR2 LL hM B4
  refine jF rfl kG rfl rfl (yO (gF rfl) (yO (gF (by first | rfl | exact yD (by assumption) | exact yG (by assumption) | assumption)) xS)) rfl ?_
  have hqz : ZQ (Ins b4 (Ins b3 (Ins b2 M))) wq2 (max n0 n1 + 1) (z + y) xs0 v19 := ⟨_, hn19, esum, by rw [zv_same hc0, hz, hzy]⟩
  refine zI rfl aF rfl rfl ?_
  refine (qQ hqz (by omega) hM).mono ?_
  rintro v21 w6 ⟨hB21, xs21, xa21, rfl, hn21⟩
  obtain ⟨LL, B4⟩ := ub2 hB21 LL B4
  obtain ⟨oxa21, _⟩ := hn21.one
  refine yK rfl rfl yX B4 rfl rfl (xC rfl (xC (by first | rfl | exact yD (by assumption) | exact yG (by assumption) | assumption) gD)) rfl (fun w7 Cw7 B4 => ?_)
  have Lw7 := Le.of_chg (M := (Ins b4 (Ins b3 (Ins b2 M)))) Cw7 zS nF4
  obtain ⟨LL, hn21⟩ := up2 Lw7 LL hn21
  refine zB (zZ ?_)
  refine zN ⟨[_], ⟨⟨_, rfl, xI xV yX B4 rfl rfl⟩, trivial⟩, ?_⟩
  dsimp only [zW]
  subst hFz
  exact ⟨LL.below (Nat.le_refl _), _, _, rfl, (hn21.less (fun k c => zO (zO (zO c)))).up (by omega)⟩
 ·refine yH (zF (zC (zL 1 rfl yu31 rfl rfl xU rfl rfl (zR rfl yS rfl B2 rfl (zL 1 rfl yu31 rfl rfl xU rfl rfl (zR rfl yS rfl B3 rfl (zI rfl dP rfl rfl ?_)))))))
  refine (dK hx hy (by omega) (by omega) hM).mono ?_
  rintro v27 w8 ⟨hB27, q27, rfl, hf27⟩
  have hMx := hM
  obtain ⟨LL, hM, hx, hy, B2, B3, B4⟩ := ub7 hB27 LL hM hx hy B2 B3 B4
  have hn27 := hf27.nat hMx
  refine zA rfl rfl (zT rfl rfl rfl (zT rfl rfl rfl (zD rfl rfl (zD rfl rfl (zB (zF (zF (zC (zA rfl rfl (gI rfl rfl rfl (zB ?_)))))))))))
  refine zX rfl (fun hc1 => ?_) (fun hc1 => ?_)
  ·refine zF (zC (zL 0 rfl yu31 rfl rfl sz4 rfl rfl (zR rfl qR rfl B2 rfl (zA rfl rfl (jF rfl kG rfl rfl (yO (gF rfl) (yO (gF (by first | rfl | exact yD (by assumption) | exact yG (by assumption) | assumption)) xS)) rfl ?_)))))
   have hqz : ZQ (Ins b4 (Ins b3 (Ins b2 M))) w8 (max n0 n1 + 1) (z + y) xs0 q27 := ⟨_, hn27, by omega, by rw [zv_ge hc0 (by have := hc1; by_cases c : val xs < val ys; rw [if_pos c] at this; simp at this; omega), hz, hzy]⟩
   refine zI rfl aF rfl rfl ?_
   refine (qQ hqz (by omega) hM).mono ?_
   rintro v36 w9 ⟨hB36, xs36, xa36, rfl, hn36⟩
   obtain ⟨LL, B4⟩ := ub2 hB36 LL B4
   obtain ⟨oxa36, _⟩ := hn36.one
   refine yK rfl rfl yX B4 rfl rfl (xC rfl (xC (by first | rfl | exact yD (by assumption) | exact yG (by assumption) | assumption) gD)) rfl (fun w10 Cw10 B4 => ?_)
   have Lw10 := Le.of_chg (M := (Ins b4 (Ins b3 (Ins b2 M)))) Cw10 zS nF4
   obtain ⟨LL, hn36⟩ := up2 Lw10 LL hn36
   refine zB (zZ ?_)
   refine zN ⟨[_], ⟨⟨_, rfl, xI xV yX B4 rfl rfl⟩, trivial⟩, ?_⟩
   dsimp only [zW]
   subst hFz
   exact ⟨LL.below (Nat.le_refl _), _, _, rfl, (hn36.less (fun k c => zO (zO (zO c)))).up (by omega)⟩
  ·refine yH (zF (zC (zL 1 rfl yu31 rfl rfl xU rfl rfl (zR rfl yS rfl B3 rfl (zL 1 rfl yu31 rfl rfl xU rfl rfl (zR rfl yS rfl B2 rfl (zI rfl dP rfl rfl ?_)))))))
   refine (dK hy hx (by omega) (by omega) hM).mono ?_
   rintro v42 w11 ⟨hB42, q42, rfl, hf42⟩
   have hMx := hM
   obtain ⟨LL, hM, B3, B4⟩ := ub4 hB42 LL hM B3 B4
   have hn42 := hf42.nat hMx
   refine zA rfl rfl (zT rfl rfl rfl (zT rfl rfl rfl (zD rfl rfl (zB (zF (zC (zL 0 rfl yu31 rfl rfl sz4 rfl rfl (zR rfl qR rfl B3 rfl (zA rfl rfl (jF rfl kG rfl rfl (yO (gF rfl) (yO (gF (by first | rfl | exact yD (by assumption) | exact yG (by assumption) | assumption)) xS)) rfl ?_))))))))))
   have hqz : ZQ (Ins b4 (Ins b3 (Ins b2 M))) w11 (max n0 n1 + 1) (z + y) xs1 q42 := ⟨_, hn42, by omega, by rw [zv_lt hc0 (by have := hc1; by_cases c : val xs < val ys; omega; rw [if_neg c] at this; simp at this), hz, hzy]⟩
   refine zI rfl aF rfl rfl ?_
   refine (qQ hqz (by omega) hM).mono ?_
   rintro v49 w12 ⟨hB49, xs49, xa49, rfl, hn49⟩
   obtain ⟨LL, B4⟩ := ub2 hB49 LL B4
   obtain ⟨oxa49, _⟩ := hn49.one
   refine yK rfl rfl yX B4 rfl rfl (xC rfl (xC (by first | rfl | exact yD (by assumption) | exact yG (by assumption) | assumption) gD)) rfl (fun w13 Cw13 B4 => ?_)
   have Lw13 := Le.of_chg (M := (Ins b4 (Ins b3 (Ins b2 M)))) Cw13 zS nF4
   obtain ⟨LL, hn49⟩ := up2 Lw13 LL hn49
   refine zB (zZ ?_)
   refine zN ⟨[_], ⟨⟨_, rfl, xI xV yX B4 rfl rfl⟩, trivial⟩, ?_⟩
   dsimp only [zW]
   subst hFz
   exact ⟨LL.below (Nat.le_refl _), _, _, rfl, (hn49.less (fun k c => zO (zO (zO c)))).up (by omega)⟩
theorem i5add_c {l : List Int} {n0 : Nat} {xa0 : Value} (h0 : ZL M w n0 l xa0) (hl0 : n0 ≤ 390000) (hlen : l.length ≤ 2) (hM : OkM M w) :
    CallsV prog 150 [xa0] w fun r w' => Below w.heap.size w w' ∧ ∃ xsr xar, r = .agg #[.bool xsr, xar] ∧ ZC M w' (n0 + 2) (l.sum) xsr xar := by
 obtain ⟨Fz, hFz, hF, LL⟩ := fz0 M w
 obtain ⟨oxa0, _⟩ := h0.one
 have hM0 := hM
 refine zQ func150 rfl ntmps150 rfl ?_
 refine zF (zC (yU rfl yX (fun w1 b2 N2 => ?_)))
 obtain ⟨_, nF2, nM2, Lw1, B2⟩ := nza hF hM N2
 obtain ⟨LL, hM, hF, h0⟩ := up4 Lw1 LL hM hF h0
 refine zB (zF (zC (yU rfl yX (fun w2 b3 N3 => ?_))))
 obtain ⟨hBw2, nF3, nM3, Lw2, B3⟩ := nza hF hM N3
 obtain ⟨B2, ne2_3⟩ := bn B2 N3
 obtain ⟨LL, hM, h0⟩ := up3 Lw2 LL hM h0
 refine zB (zF (zF (zC (zD rfl rfl (zB (yA ?_))))))
 refine xN (σ := Nat) [(0, _), (2, _), (3, _)] (fun s => [(4, .int .i64 ((s : Nat) : Int))]) (fun s w3 => Le Fz (Ins b3 (Ins b2 M)) w2 (Ins b3 (Ins b2 M)) w3 ∧ s ≤ l.length ∧ Blk w3 b2 31 [.bool false, .slice none 0 0] ∧ ∃ xs3 xa3, Blk w3 b3 31 [.bool xs3, xa3] ∧ ZC (Ins b3 (Ins b2 M)) w3 (n0 + s) ((l.take s).sum) xs3 xa3) (fun s => l.length - s) (0) (zG rfl (zG rfl (zG rfl (zG rfl yF)))) ?_ (fun s w3 hJ => ?_)
 · exact ⟨Le.refl _ _ _, by omega, B2, _, _, B3, by simpa using zc_zero⟩
 ·obtain ⟨LR, hk, B2, xs3, xa3, B3, hn3⟩ := hJ
  obtain ⟨oxa3, _⟩ := hn3.one
  obtain ⟨LL, hM, h0⟩ := up3 LR LL hM h0
  refine zF (zF (zC (zA rfl rfl (zA rfl rfl (gB rfl yu174 rfl h0.row (jG rfl rfl rfl (zB ?_)))))))
  refine zX rfl (fun hc0 => ?_) (fun hc0 => ?_)
  ·refine yH (zF (yA ?_))
   refine xQ (R := Rb) (R' := Rb) (st := none) jR 6 [0, 2, 3, 4, 5, 6, 7, 8, 11, 12, 13, 14, 15, 16] (by decide +kernel) xO xY (xX _) (fun _ _ _ h => by cases h) ?_
   refine zK (fun _ hR _ => zJ rfl rfl (zE (yE rfl xV yX rfl (B3.below hR) rfl rfl (on0 rfl)))) ?_
   refine zP (fun v w => ∃ xa12, v = xa12 ∧ ZL (Ins b3 (Ins b2 M)) w (n0) (l) xa12) (fun _ _ _ ⟨xa12, e, h0⟩ r => ⟨xa12, e, h0.mono (Fz := fun _ => False) (Le.of_below r)⟩) (fun wq hR hst => ?_) ?_
   ·refine zJ rfl rfl (zE ?_)
    replace h0 := ub1 hR h0
    exact zA rfl rfl (zB ⟨rfl, yB _, _, rfl, ⟨_, rfl, h0⟩⟩)
   refine zK (fun _ _ _ => zJ rfl rfl (zE (zA rfl rfl (on0 rfl)))) ?_
   refine zP (fun v w => ∃ b o xs14 xa14, v = .pointer (some ⟨b, o, none⟩) ∧ (∀ (q : Nat) (u : Value), [.bool xs14, xa14][q]? = some u → w.cell? ⟨b, o + q, none⟩ = some u) ∧ ZQ (Ins b3 (Ins b2 M)) w (n0) (l.getD s 0) xs14 xa14) (fun _ _ _ ⟨b, o, xs14, xa14, e, hc, h⟩ r => ⟨b, o, xs14, xa14, e, fun q u hq => jH r (hc q u hq), h.mono (Fz := fun _ => False) (Le.of_below r)⟩) (fun wq hR hst => ?_) ?_
   ·refine yC rfl (fun v12 hp12 => ?_)
    obtain ⟨xa12, rfl, hn12⟩ := hp12
    refine zH rfl (zE ?_)
    refine gG (dflt := (0 : Int)) (s) rfl yu174 yX rfl rfl hn12.row (by first | rfl | omega) (by first | omega | (simp; omega) | simp) (fun b14 o14 us14 hul14 hu14 hc14 => ?_)
    obtain ⟨xs14, xa14, rfl, hn14⟩ := hu14
    exact zB ⟨rfl, yB _, _, rfl, ⟨b14, o14, _, _, rfl, hc14, hn14⟩⟩
   refine zP (vZQ (Ins b3 (Ins b2 M)) (n0) (l.getD s 0)) eQ (fun wq hR hst => ?_) ?_
   ·refine yC rfl (fun v14 hp14 => ?_)
    obtain ⟨b14, o14, xs14, xa14, rfl, hc14, hn14⟩ := hp14
    refine zE ?_
    exact jZ rfl xV yX rfl hc14 rfl (zB ⟨rfl, yB _, _, rfl, ⟨_, _, rfl, hn14⟩⟩)
   refine zP (vZC (Ins b3 (Ins b2 M)) (n0) ((l.getD s 0))) eR (fun wq hR hst => ?_) ?_
   ·refine yC rfl (fun v15 hp15 => ?_)
    obtain ⟨xs15, xa15, rfl, hn15⟩ := hp15
    refine zE ?_
    replace hM := ub1 hR hM
    refine zI rfl aF rfl rfl ?_
    refine (qQ hn15 (by omega) hM).mono ?_
    rintro v16 w4 ⟨hB16, xs16, xa16, rfl, hn16⟩
    exact zB ⟨rfl, hB16, _, rfl, ⟨_, _, rfl, hn16⟩⟩
   refine xR (fun wq5 hR5 hpost5 => ?_)
   refine zJ rfl rfl (zJ rfl rfl (zJ rfl rfl (zJ rfl rfl (zJ rfl rfl (zJ rfl rfl (zJ rfl rfl (zJ rfl rfl (zH rfl (yC rfl (fun v12 hp12 => ?_))))))))))
   obtain ⟨xa12, rfl, hn12⟩ := hp12; obtain ⟨oxa12, _⟩ := hn12.one
   refine zH rfl (yC rfl (fun v14 hp14 => ?_))
   obtain ⟨b14, o14, xs14, xa14, rfl, hc14, hn14⟩ := hp14; obtain ⟨oxa14, _⟩ := hn14.one
   refine yC rfl (fun v15 hp15 => ?_)
   obtain ⟨xs15, xa15, rfl, hn15⟩ := hp15; obtain ⟨oxa15, _⟩ := hn15.one
   refine yC rfl (fun v16 hp16 => ?_)
   obtain ⟨xs16, xa16, rfl, hn16⟩ := hp16; obtain ⟨oxa16, _⟩ := hn16.one
   refine zE ?_
   simp only [List.drop_succ_cons, List.drop_zero, List.drop_nil, List.toList_toArray]
   obtain ⟨LR, hM, hn3, B2, B3⟩ := ub5 hR5 LR hM hn3 B2 B3
   refine zI rfl bod203 rfl rfl ?_
   refine (i5two_c hn3.gen hn16.gen (by omega) (by omega) hM).mono ?_
   rintro v17 w5 ⟨hB17, xs17, xa17, rfl, hn17⟩
   obtain ⟨LR, B2, B3⟩ := ub3 hB17 LR B2 B3
   obtain ⟨oxa17, _⟩ := hn17.one
   refine yK rfl rfl yX B3 rfl rfl (xC rfl (xC (by first | rfl | assumption) gD)) rfl (fun w6 Cw6 B3 => ?_)
   have Lw6 := Le.of_chg (M := (Ins b3 (Ins b2 M))) Cw6 zS nF3
   obtain ⟨LR, hn17⟩ := up2 Lw6 LR hn17
   replace B2 := B2.other Cw6 ne2_3
   refine zB (zC (zA rfl rfl (yR rfl rfl rfl (by omega) (zD rfl rfl (zB ?_)))))
   refine ⟨rfl, s + 1, (zV rfl (by rw [Int.natCast_add]; rfl) (zG rfl (zG rfl (zG rfl yF)))), ?_, ?_⟩
   exact ⟨LR, by omega, B2, _, _, B3, by rw [sum_take (by omega)]; exact hn17.up (by omega)⟩
   omega
  ·refine xF (xG (zF (zC (yE rfl xV yX rfl B3 rfl rfl (zI rfl aF rfl rfl ?_)))))
   refine (qQ hn3.gen (by omega) hM).mono ?_
   rintro v19 w7 ⟨hB19, xs19, xa19, rfl, hn19⟩
   obtain ⟨LL, B2⟩ := ub2 hB19 LL B2
   obtain ⟨oxa19, _⟩ := hn19.one
   refine yK rfl rfl yX B2 rfl rfl (xC rfl (xC (by first | rfl | assumption) gD)) rfl (fun w8 Cw8 B2 => ?_)
   have Lw8 := Le.of_chg (M := (Ins b3 (Ins b2 M))) Cw8 (.inr zS) nF2
   obtain ⟨LL, hn19⟩ := up2 Lw8 LL hn19
   refine zB (zZ ?_)
   refine zN ⟨[_], ⟨⟨_, rfl, xI xV yX B2 rfl rfl⟩, trivial⟩, ?_⟩
   dsimp only [zW]
   obtain rfl : s = l.length := by omega
   rw [List.take_length] at hn19
   subst hFz
   exact ⟨LL.below (Nat.le_refl _), _, _, rfl, (hn19.less (fun k c => zO (zO c))).up (by omega)⟩
theorem i5sub_c {z : Int} {n0 : Nat} {xs0 : Bool} {xa0 : Value} {y : Int} {n1 : Nat} {xs1 : Bool} {xa1 : Value} (h0 : ZQ M w n0 z xs0 xa0) (h1 : ZQ M w n1 y xs1 xa1) (hl0 : n0 ≤ 380000) (hl1 : n1 ≤ 380000) (hM : OkM M w) :
    CallsV prog 88 [.agg #[.bool xs0, xa0], .agg #[.bool xs1, xa1]] w fun r w' => Below w.heap.size w w' ∧ ∃ xsr xar, r = .agg #[.bool xsr, xar] ∧ ZC M w' (max n0 n1 + 2) (z - y) xsr xar := by
 obtain ⟨Fz, hFz, hF, LL⟩ := fz0 M w
 obtain ⟨oxa0, _⟩ := h0.one
 obtain ⟨oxa1, _⟩ := h1.one
 have hM0 := hM
 refine zQ func88 rfl ntmps88 rfl ?_
 refine zF (zC (xL rfl rfl (fun w1 b2 N2 => ?_)))
 obtain ⟨_, nF2, nM2, Lw1, B2⟩ := nza hF hM N2
 obtain ⟨LL, hM, hF, h0, h1⟩ := up5 Lw1 LL hM hF h0 h1
 refine xL rfl rfl (fun w2 b3 N3 => ?_)
 obtain ⟨hBw2, nF3, nM3, Lw2, B3⟩ := nza hF hM N3
 obtain ⟨B2, ne2_3⟩ := bn B2 N3
 obtain ⟨LL, hM, hF, h0, h1⟩ := up5 Lw2 LL hM hF h0 h1
 refine yU rfl yX (fun w3 b4 N4 => ?_)
 obtain ⟨hBw3, nF4, nM4, Lw3, B4⟩ := nza hF hM N4
 obtain ⟨B2, ne2_4⟩ := bn B2 N4
 obtain ⟨B3, ne3_4⟩ := bn B3 N4
 obtain ⟨LL, hM, h0, h1⟩ := up4 Lw3 LL hM h0 h1
 refine zB (zF ?_)
 refine xQ (R := Rb) (R' := Rb) (st := none) jR 3 [4, 5, 7] (by decide +kernel) xO xY (xX _) (fun _ _ _ h => by cases h) ?_
 refine zK (fun _ hR _ => zJ rfl rfl (zE (yE rfl xV yX rfl (B2.below hR) rfl rfl (on0 rfl)))) ?_
 refine zK (fun _ hR _ => zJ rfl rfl (zE (yE rfl xV yX rfl (B3.below hR) rfl rfl (on0 rfl)))) ?_
 refine zP (vZC (Ins b4 (Ins b3 (Ins b2 M))) (n1) (-y)) eR (fun wq hR hst => ?_) ?_
 ·refine zH rfl (zE ?_)
  obtain ⟨hM, h1⟩ := ub2 hR hM h1
  refine zI rfl bod149 rfl rfl ?_
  refine (i5neg_c h1 (by omega) hM).mono ?_
  rintro v7 w4 ⟨hB7, xs7, xa7, rfl, hn7⟩
  exact zB ⟨rfl, hB7, _, rfl, ⟨_, _, rfl, hn7⟩⟩
 refine xR (fun wq1 hR1 hpost1 => ?_)
 refine zJ rfl rfl (zH rfl (yC rfl (fun v7 hp7 => ?_)))
 obtain ⟨xs7, xa7, rfl, hn7⟩ := hp7; obtain ⟨oxa7, _⟩ := hn7.one
 refine zE ?_
 simp only [List.drop_succ_cons, List.drop_zero, List.drop_nil, List.toList_toArray]
 obtain ⟨LL, hM, h0, B4⟩ := ub4 hR1 LL hM h0 B4
 refine jA rfl yu174 yX rfl rfl rfl rfl (yO rfl (yO rfl xS)) rfl rfl rfl (fun w5 b8 N8 => ?_)
 have hBw5 := N8.below
 have nM8 := hM.new N8
 have B8 := N8.blk
 obtain ⟨LL, hM, h0, hn7, B4⟩ := ub5 hBw5 LL hM h0 hn7 B4
 refine zI rfl bod150 rfl rfl ?_
 refine (i5add_c (zl2 ((KBlk.mk B8 nM8)) h0 hn7.gen) (by omega) (by first | omega | simp) hM).mono ?_
 rintro v9 w6 ⟨hB9, xs9, xa9, rfl, hn9⟩
 obtain ⟨LL, B4⟩ := ub2 hB9 LL B4
 obtain ⟨oxa9, _⟩ := hn9.one
 refine yK rfl rfl yX B4 rfl rfl (xC rfl (xC (by first | rfl | assumption) gD)) rfl (fun w7 Cw7 B4 => ?_)
 have Lw7 := Le.of_chg (M := (Ins b4 (Ins b3 (Ins b2 M)))) Cw7 zS nF4
 obtain ⟨LL, hn9⟩ := up2 Lw7 LL hn9
 refine zB (zZ ?_)
 refine zN ⟨[_], ⟨⟨_, rfl, xI xV yX B4 rfl rfl⟩, trivial⟩, ?_⟩
 dsimp only [zW]
 have hsm : [z, -y].sum = z - y := by simp only [List.sum_cons, List.sum_nil]; omega
 rw [hsm] at hn9
 subst hFz
 exact ⟨LL.below (Nat.le_refl _), _, _, rfl, (hn9.less (fun k c => zO (zO (zO c)))).up (by omega)⟩
theorem ZQ.sgn0 {n : Nat} {z : Int} {s : Bool} {a : Value} (h : ZQ M w n z s a) : z ≠ 0 → s = decide (z < 0) := by
  obtain ⟨xs, h1, h2, h3⟩ := h.ex
  intro h0
  subst h3
  cases s
  · simp [zv]
  · have : val xs ≠ 0 := fun c => h0 (by simp [zv, c])
    simp [zv]; omega
theorem ZQ.abs {n : Nat} {z : Int} {s : Bool} {a : Value} (h : ZQ M w n z s a) : ∃ ys, IsNat M w a ys ∧ ys.length ≤ n ∧ val ys = z.natAbs := by
  obtain ⟨xs, h1, h2, h3⟩ := h.ex
  exact ⟨xs, h1, h2, by rw [← h3, qU]⟩
theorem zv_prod {P z : Int} {b : Bool} (hb : z ≠ 0 → b = decide (z < 0)) : zv (decide (P < 0) != b) (limbs (P.natAbs * z.natAbs)) = P * z := by
  by_cases h0 : z = 0
  · subst h0; simp [zv, zY]
  · rw [hb h0, zv, zY]
    rcases Int.lt_or_le P 0 with hp | hp <;> rcases Int.lt_or_le z 0 with hz | hz
    · rw [decide_eq_true hp, decide_eq_true hz, if_neg (by simp)]
      rw [Int.natCast_mul, show ((P.natAbs : Nat) : Int) = -P by omega, show ((z.natAbs : Nat) : Int) = -z by omega, Int.neg_mul_neg]
    · rw [decide_eq_true hp, decide_eq_false (by omega), if_pos (by simp)]
      rw [Int.natCast_mul, show ((P.natAbs : Nat) : Int) = -P by omega, show ((z.natAbs : Nat) : Int) = z by omega, Int.neg_mul, Int.neg_neg]
    · rw [decide_eq_false (by omega), decide_eq_true hz, if_pos (by simp)]
      rw [Int.natCast_mul, show ((P.natAbs : Nat) : Int) = P by omega, show ((z.natAbs : Nat) : Int) = -z by omega, Int.mul_neg, Int.neg_neg]
    · rw [decide_eq_false (by omega), decide_eq_false (by omega), if_neg (by simp)]
      rw [Int.natCast_mul, show ((P.natAbs : Nat) : Int) = P by omega, show ((z.natAbs : Nat) : Int) = z by omega]
theorem i5mul_c {l : List Int} {n0 : Nat} {xa0 : Value} (h0 : ZL M w n0 l xa0) (hl0 : n0 ≤ 100000) (hlen : l.length ≤ 2) (hM : OkM M w) :
    CallsV prog 89 [xa0] w fun r w' => Below w.heap.size w w' ∧ ∃ xsr xar, r = .agg #[.bool xsr, xar] ∧ ZC M w' (2 * n0 + 2) (qB l) xsr xar := by
 obtain ⟨Fz, hFz, hF, LL⟩ := fz0 M w; have hM0 := hM
 obtain ⟨oxa0, _⟩ := h0.one
 refine zQ func89 rfl ntmps89 rfl ?_
 refine zF (zC (yU rfl yX (fun w1 b2 N2 => ?_)))
 have hBw1 := N2.below
 have nF2 := hF.new N2; have nM2 := hM.new N2
 have Lw1 := Le.of_new (Fz := Fz) (M := M) N2
 replace LL := LL.trans Lw1
 replace hM := hM.mono Lw1
 replace hF := hF.mono Lw1
 replace h0 := h0.mono Lw1
 have B2 := N2.blk
 rw [agg_cells] at B2
 refine zB (zF (zC (zI rfl bod79 rfl rfl ?_)))
 refine (i5of_c (M := (Ins b2 M)) (k := 1)  (by omega) hM).mono ?_
 rintro v5 w2 ⟨hB5, xs5, xa5, rfl, hn5⟩
 have Lw2 := Le.of_below (Fz := Fz) (M := (Ins b2 M)) hB5
 replace LL := LL.trans Lw2
 replace hM := hM.mono Lw2
 replace hF := hF.mono Lw2
 replace h0 := h0.mono Lw2
 replace B2 := B2.below hB5
 obtain ⟨oxa5, _⟩ := hn5.one
 refine yU rfl yX (fun w3 b3 N3 => ?_)
 have hBw3 := N3.below
 have nF3 := hF.new N3; have nM3 := hM.new N3
 have Lw3 := Le.of_new (Fz := Fz) (M := (Ins b2 M)) N3
 have lt2_3 := B2.lt; replace B2 := B2.below hBw3; have ne2_3 : b2 ≠ b3 := by have := N3.at_; omega
 replace LL := LL.trans Lw3
 replace hM := hM.mono Lw3
 replace hF := hF.mono Lw3
 replace h0 := h0.mono Lw3
 replace hn5 := hn5.mono Lw3
 have B3 := N3.blk
 rw [agg_cells] at B3
 refine yK rfl rfl yX B3 rfl rfl (xC rfl (xC (by first | rfl | exact yD (by assumption) | exact yG (by assumption) | assumption) gD)) rfl (fun w4 Cw4 B3 => ?_)
 have Lw4 := Le.of_chg (M := (Ins b3 (Ins b2 M))) Cw4 zS nF3
 replace LL := LL.trans Lw4
 replace hM := hM.mono Lw4
 replace hF := hF.mono Lw4
 replace h0 := h0.mono Lw4
 replace hn5 := hn5.mono Lw4
 replace B2 := B2.other Cw4 ne2_3
 try simp only [List.set_cons_zero, List.set_cons_succ, List.take_succ_cons, List.take_zero, List.drop_succ_cons, List.drop_zero, List.drop_nil, List.cons_append, List.nil_append, List.append_nil] at B3
 refine zB (zF (zF (zC (zD rfl rfl (zB (yA ?_))))))
 refine xN (σ := Nat) [(0, _), (2, _), (3, _)] (fun s => [(4, .int .i64 ((s : Nat) : Int))]) (fun s w5 => Le Fz (Ins b3 (Ins b2 M)) w4 (Ins b3 (Ins b2 M)) w5 ∧ s ≤ l.length ∧ Blk w5 b2 31 [.bool false, .slice none 0 0] ∧ ∃ xs3 xa3, Blk w5 b3 31 [.bool xs3, xa3] ∧ ZC (Ins b3 (Ins b2 M)) w5 (s * n0 + 2) (qB (l.take s)) xs3 xa3) (fun s => l.length - s) (0) (zG rfl (zG rfl (zG rfl (zG rfl yF)))) ?_ (fun s w5 hJ => ?_)
 · exact ⟨Le.refl _ _ _, by omega, B2, _, _, B3, by simpa [qB] using hn5.up (by omega)⟩
 ·obtain ⟨LR, hk, B2, xs3, xa3, B3, hn3⟩ := hJ
  obtain ⟨oxa3, _⟩ := hn3.one
  replace LL := LL.trans LR
  replace hM := hM.mono LR
  replace hF := hF.mono LR
  replace h0 := h0.mono LR
  replace hn5 := hn5.mono LR
  refine zF (zF (zC (zA rfl rfl (zA rfl rfl (gB rfl yu174 rfl h0.row (jG rfl rfl rfl (zB ?_)))))))
  refine zX rfl (fun hc0 => ?_) (fun hc0 => ?_)
  ·refine yH (zF (yA ?_))
   refine xQ (R := Rb) (R' := Rb) (st := none) jR 16 [0, 2, 3, 4, 6, 7, 8, 9, 12, 13, 14, 15, 16, 17, 18, 19, 20, 21, 22, 23, 24, 25, 26, 27] (by decide +kernel) xO xY (xX _) (fun _ _ _ h => by cases h) ?_
   apply zK
   ·intro wq hR hst
    refine zJ rfl rfl (zE ?_)
    have Lq := Le.of_below (Fz := Fz) (M := (Ins b3 (Ins b2 M))) hR
    replace LL := LL.trans Lq
    replace LR := LR.trans Lq
    replace hM := hM.mono Lq
    replace hF := hF.mono Lq
    replace h0 := h0.mono Lq
    replace hn5 := hn5.mono Lq
    replace hn3 := hn3.mono Lq
    replace B2 := B2.below hR
    replace B3 := B3.below hR
    refine zL 0 rfl yu31 rfl rfl sz4 rfl rfl ?_
    exact zB ⟨rfl, yB _, _, rfl, rfl⟩
   apply zK
   ·intro wq hR hst
    refine zH rfl (zE ?_)
    have Lq := Le.of_below (Fz := Fz) (M := (Ins b3 (Ins b2 M))) hR
    replace LL := LL.trans Lq
    replace LR := LR.trans Lq
    replace hM := hM.mono Lq
    replace hF := hF.mono Lq
    replace h0 := h0.mono Lq
    replace hn5 := hn5.mono Lq
    replace hn3 := hn3.mono Lq
    replace B2 := B2.below hR
    replace B3 := B3.below hR
    refine zR rfl qR rfl B3 rfl ?_
    exact zB ⟨rfl, yB _, _, rfl, rfl⟩
   refine zP (fun v w => ∃ xa14, v = xa14 ∧ ZL (Ins b3 (Ins b2 M)) w (n0) (l) xa14) (fun _ _ _ ⟨xa14, e, h0⟩ r => ⟨xa14, e, h0.mono (Fz := fun _ => False) (Le.of_below r)⟩) (fun wq hR hst => ?_) ?_
   ·refine zJ rfl rfl (zE ?_)
    have Lq := Le.of_below (Fz := Fz) (M := (Ins b3 (Ins b2 M))) hR
    replace LL := LL.trans Lq
    replace LR := LR.trans Lq
    replace hM := hM.mono Lq
    replace hF := hF.mono Lq
    replace h0 := h0.mono Lq
    replace hn5 := hn5.mono Lq
    replace hn3 := hn3.mono Lq
    replace B2 := B2.below hR
    replace B3 := B3.below hR
    refine zA rfl rfl ?_
    exact zB ⟨rfl, yB _, _, rfl, ⟨_, rfl, h0⟩⟩
   apply zK
   ·intro wq hR hst
    refine zJ rfl rfl (zE ?_)
    have Lq := Le.of_below (Fz := Fz) (M := (Ins b3 (Ins b2 M))) hR
    replace LL := LL.trans Lq
    replace LR := LR.trans Lq
    replace hM := hM.mono Lq
    replace hF := hF.mono Lq
    replace h0 := h0.mono Lq
    replace hn5 := hn5.mono Lq
    replace hn3 := hn3.mono Lq
    replace B2 := B2.below hR
    replace B3 := B3.below hR
    refine zA rfl rfl ?_
    exact zB ⟨rfl, yB _, _, rfl, rfl⟩
   refine zP (fun v w => ∃ b o xs16 xa16, v = .pointer (some ⟨b, o, none⟩) ∧ (∀ (q : Nat) (u : Value), [.bool xs16, xa16][q]? = some u → w.cell? ⟨b, o + q, none⟩ = some u) ∧ ZQ (Ins b3 (Ins b2 M)) w (n0) (l.getD s 0) xs16 xa16) (fun _ _ _ ⟨b, o, xs16, xa16, e, hc, h⟩ r => ⟨b, o, xs16, xa16, e, fun q u hq => jH r (hc q u hq), h.mono (Fz := fun _ => False) (Le.of_below r)⟩) (fun wq hR hst => ?_) ?_
   ·refine yC rfl (fun v14 hp14 => ?_)
    obtain ⟨xa14, rfl, hn14⟩ := hp14; obtain ⟨oxa14, _⟩ := hn14.one
    refine zH rfl (zE ?_)
    have Lq := Le.of_below (Fz := Fz) (M := (Ins b3 (Ins b2 M))) hR
    replace LL := LL.trans Lq
    replace LR := LR.trans Lq
    replace hM := hM.mono Lq
    replace hF := hF.mono Lq
    replace h0 := h0.mono Lq
    replace hn5 := hn5.mono Lq
    replace hn3 := hn3.mono Lq
    replace B2 := B2.below hR
    replace B3 := B3.below hR
    refine gG (dflt := (0 : Int)) (s) rfl yu174 yX rfl rfl hn14.row (by first | rfl | omega) (by first | omega | (simp; omega) | simp) (fun b16 o16 us16 hul16 hu16 hc16 => ?_)
    obtain ⟨xs16, xa16, rfl, hn16⟩ := hu16
    obtain ⟨oxa16, _⟩ := hn16.one
    exact zB ⟨rfl, yB _, _, rfl, ⟨b16, o16, _, _, rfl, hc16, hn16⟩⟩
   refine zP (fun v w => ∃ b o xs17 xa17, v = .pointer (some ⟨b, o, none⟩) ∧ (∀ (q : Nat) (u : Value), [.bool xs17, xa17][q]? = some u → w.cell? ⟨b, o + q, none⟩ = some u) ∧ ZQ (Ins b3 (Ins b2 M)) w (n0) (l.getD s 0) xs17 xa17) (fun _ _ _ ⟨b, o, xs17, xa17, e, hc, h⟩ r => ⟨b, o, xs17, xa17, e, fun q u hq => jH r (hc q u hq), h.mono (Fz := fun _ => False) (Le.of_below r)⟩) (fun wq hR hst => ?_) ?_
   ·refine yC rfl (fun v16 hp16 => ?_)
    obtain ⟨b16, o16, xs16, xa16, rfl, hc16, hn16⟩ := hp16; obtain ⟨oxa16, _⟩ := hn16.one
    refine zE ?_
    have Lq := Le.of_below (Fz := Fz) (M := (Ins b3 (Ins b2 M))) hR
    replace LL := LL.trans Lq
    replace LR := LR.trans Lq
    replace hM := hM.mono Lq
    replace hF := hF.mono Lq
    replace h0 := h0.mono Lq
    replace hn5 := hn5.mono Lq
    replace hn3 := hn3.mono Lq
    replace B2 := B2.below hR
    replace B3 := B3.below hR
    refine yT 0 rfl yu31 rfl rfl sz4 rfl rfl ?_
    exact zB ⟨rfl, yB _, _, rfl, ⟨_, _, _, _, rfl, hc16, hn16⟩⟩
   refine zP (fun v w => ∃ b, v = .bool b ∧ (l.getD s 0 ≠ 0 → b = decide (l.getD s 0 < 0))) (fun _ _ _ e r => e) (fun wq hR hst => ?_) ?_
   ·refine yC rfl (fun v17 hp17 => ?_)
    obtain ⟨b17, o17, xs17, xa17, rfl, hc17, hn17⟩ := hp17; obtain ⟨oxa17, _⟩ := hn17.one
    refine zE ?_
    have Lq := Le.of_below (Fz := Fz) (M := (Ins b3 (Ins b2 M))) hR
    replace LL := LL.trans Lq
    replace LR := LR.trans Lq
    replace hM := hM.mono Lq
    replace hF := hF.mono Lq
    replace h0 := h0.mono Lq
    replace hn5 := hn5.mono Lq
    replace hn3 := hn3.mono Lq
    replace B2 := B2.below hR
    replace B3 := B3.below hR
    refine xM rfl qR rfl (hc17 0 _ rfl) ?_
    exact zB ⟨rfl, yB _, _, rfl, ⟨_, rfl, hn17.sgn0⟩⟩
   refine zP (fun v w => ∃ b, v = .bool (xs3 != b) ∧ (l.getD s 0 ≠ 0 → b = decide (l.getD s 0 < 0))) (fun _ _ _ e r => e) (fun wq hR hst => ?_) ?_
   ·refine zH rfl (yC rfl (fun v18 hp18 => ?_))
    obtain ⟨s18, rfl, hsg18⟩ := hp18
    refine zE ?_
    have Lq := Le.of_below (Fz := Fz) (M := (Ins b3 (Ins b2 M))) hR
    replace LL := LL.trans Lq
    replace LR := LR.trans Lq
    replace hM := hM.mono Lq
    replace hF := hF.mono Lq
    replace h0 := h0.mono Lq
    replace hn5 := hn5.mono Lq
    replace hn3 := hn3.mono Lq
    replace B2 := B2.below hR
    replace B3 := B3.below hR
    refine ops_bne rfl rfl rfl underlying4 ?_
    exact zB ⟨rfl, yB _, _, rfl, ⟨_, rfl, hsg18⟩⟩
   apply zK
   ·intro wq hR hst
    refine zJ rfl rfl (zE ?_)
    have Lq := Le.of_below (Fz := Fz) (M := (Ins b3 (Ins b2 M))) hR
    replace LL := LL.trans Lq
    replace LR := LR.trans Lq
    replace hM := hM.mono Lq
    replace hF := hF.mono Lq
    replace h0 := h0.mono Lq
    replace hn5 := hn5.mono Lq
    replace hn3 := hn3.mono Lq
    replace B2 := B2.below hR
    replace B3 := B3.below hR
    refine zL 1 rfl yu31 rfl rfl xU rfl rfl ?_
    exact zB ⟨rfl, yB _, _, rfl, rfl⟩
   apply zK
   ·intro wq hR hst
    refine zH rfl (zE ?_)
    have Lq := Le.of_below (Fz := Fz) (M := (Ins b3 (Ins b2 M))) hR
    replace LL := LL.trans Lq
    replace LR := LR.trans Lq
    replace hM := hM.mono Lq
    replace hF := hF.mono Lq
    replace h0 := h0.mono Lq
    replace hn5 := hn5.mono Lq
    replace hn3 := hn3.mono Lq
    replace B2 := B2.below hR
    replace B3 := B3.below hR
    refine zR rfl yS rfl B3 rfl ?_
    exact zB ⟨rfl, yB _, _, rfl, rfl⟩
   refine zP (fun v w => ∃ xa22, v = xa22 ∧ ZL (Ins b3 (Ins b2 M)) w (n0) (l) xa22) (fun _ _ _ ⟨xa22, e, h0⟩ r => ⟨xa22, e, h0.mono (Fz := fun _ => False) (Le.of_below r)⟩) (fun wq hR hst => ?_) ?_
   ·refine zJ rfl rfl (zE ?_)
    have Lq := Le.of_below (Fz := Fz) (M := (Ins b3 (Ins b2 M))) hR
    replace LL := LL.trans Lq
    replace LR := LR.trans Lq
    replace hM := hM.mono Lq
    replace hF := hF.mono Lq
    replace h0 := h0.mono Lq
    replace hn5 := hn5.mono Lq
    replace hn3 := hn3.mono Lq
    replace B2 := B2.below hR
    replace B3 := B3.below hR
    refine zA rfl rfl ?_
    exact zB ⟨rfl, yB _, _, rfl, ⟨_, rfl, h0⟩⟩
   apply zK
   ·intro wq hR hst
    refine zJ rfl rfl (zE ?_)
    have Lq := Le.of_below (Fz := Fz) (M := (Ins b3 (Ins b2 M))) hR
    replace LL := LL.trans Lq
    replace LR := LR.trans Lq
    replace hM := hM.mono Lq
    replace hF := hF.mono Lq
    replace h0 := h0.mono Lq
    replace hn5 := hn5.mono Lq
    replace hn3 := hn3.mono Lq
    replace B2 := B2.below hR
    replace B3 := B3.below hR
    refine zA rfl rfl ?_
    exact zB ⟨rfl, yB _, _, rfl, rfl⟩
   refine zP (fun v w => ∃ b o xs24 xa24, v = .pointer (some ⟨b, o, none⟩) ∧ (∀ (q : Nat) (u : Value), [.bool xs24, xa24][q]? = some u → w.cell? ⟨b, o + q, none⟩ = some u) ∧ ZQ (Ins b3 (Ins b2 M)) w (n0) (l.getD s 0) xs24 xa24) (fun _ _ _ ⟨b, o, xs24, xa24, e, hc, h⟩ r => ⟨b, o, xs24, xa24, e, fun q u hq => jH r (hc q u hq), h.mono (Fz := fun _ => False) (Le.of_below r)⟩) (fun wq hR hst => ?_) ?_
   ·refine yC rfl (fun v22 hp22 => ?_)
    obtain ⟨xa22, rfl, hn22⟩ := hp22; obtain ⟨oxa22, _⟩ := hn22.one
    refine zH rfl (zE ?_)
    have Lq := Le.of_below (Fz := Fz) (M := (Ins b3 (Ins b2 M))) hR
    replace LL := LL.trans Lq
    replace LR := LR.trans Lq
    replace hM := hM.mono Lq
    replace hF := hF.mono Lq
    replace h0 := h0.mono Lq
    replace hn5 := hn5.mono Lq
    replace hn3 := hn3.mono Lq
    replace B2 := B2.below hR
    replace B3 := B3.below hR
    refine gG (dflt := (0 : Int)) (s) rfl yu174 yX rfl rfl hn22.row (by first | rfl | omega) (by first | omega | (simp; omega) | simp) (fun b24 o24 us24 hul24 hu24 hc24 => ?_)
    obtain ⟨xs24, xa24, rfl, hn24⟩ := hu24
    obtain ⟨oxa24, _⟩ := hn24.one
    exact zB ⟨rfl, yB _, _, rfl, ⟨b24, o24, _, _, rfl, hc24, hn24⟩⟩
   refine zP (fun v w => ∃ b o xs25 xa25, v = .pointer (some ⟨b, o + 1, none⟩) ∧ (∀ (q : Nat) (u : Value), [.bool xs25, xa25][q]? = some u → w.cell? ⟨b, o + q, none⟩ = some u) ∧ ZQ (Ins b3 (Ins b2 M)) w (n0) (l.getD s 0) xs25 xa25) (fun _ _ _ ⟨b, o, xs25, xa25, e, hc, h⟩ r => ⟨b, o, xs25, xa25, e, fun q u hq => jH r (hc q u hq), h.mono (Fz := fun _ => False) (Le.of_below r)⟩) (fun wq hR hst => ?_) ?_
   ·refine yC rfl (fun v24 hp24 => ?_)
    obtain ⟨b24, o24, xs24, xa24, rfl, hc24, hn24⟩ := hp24; obtain ⟨oxa24, _⟩ := hn24.one
    refine zE ?_
    have Lq := Le.of_below (Fz := Fz) (M := (Ins b3 (Ins b2 M))) hR
    replace LL := LL.trans Lq
    replace LR := LR.trans Lq
    replace hM := hM.mono Lq
    replace hF := hF.mono Lq
    replace h0 := h0.mono Lq
    replace hn5 := hn5.mono Lq
    replace hn3 := hn3.mono Lq
    replace B2 := B2.below hR
    replace B3 := B3.below hR
    refine yT 1 rfl yu31 rfl rfl xU rfl rfl ?_
    exact zB ⟨rfl, yB _, _, rfl, ⟨_, _, _, _, rfl, hc24, hn24⟩⟩
   refine zP (fun v w => ∃ ys, IsNat (Ins b3 (Ins b2 M)) w v ys ∧ ys.length ≤ n0 ∧ val ys = (l.getD s 0).natAbs) (fun _ _ _ ⟨ys, h, k⟩ r => ⟨ys, xP _ _ _ h r, k⟩) (fun wq hR hst => ?_) ?_
   ·refine yC rfl (fun v25 hp25 => ?_)
    obtain ⟨b25, o25, xs25, xa25, rfl, hc25, hn25⟩ := hp25; obtain ⟨oxa25, _⟩ := hn25.one
    refine zE ?_
    have Lq := Le.of_below (Fz := Fz) (M := (Ins b3 (Ins b2 M))) hR
    replace LL := LL.trans Lq
    replace LR := LR.trans Lq
    replace hM := hM.mono Lq
    replace hF := hF.mono Lq
    replace h0 := h0.mono Lq
    replace hn5 := hn5.mono Lq
    replace hn3 := hn3.mono Lq
    replace B2 := B2.below hR
    replace B3 := B3.below hR
    refine xM rfl yS rfl (hc25 1 _ rfl) ?_
    exact zB ⟨rfl, yB _, _, rfl, hn25.abs⟩
   refine zP (fun v w => IsNat (Ins b3 (Ins b2 M)) w v (limbs ((qB (l.take s)).natAbs * (l.getD s 0).natAbs)) ∧ (limbs (l.getD s 0).natAbs).length ≤ n0) (fun _ _ _ ⟨h, k⟩ r => ⟨xP _ _ _ h r, k⟩) (fun wq hR hst => ?_) ?_
   ·refine zH rfl (yC rfl (fun v26 hp26 => ?_))
    obtain ⟨ys, hn26, hyl, hyv⟩ := hp26
    refine zE ?_
    have Lq := Le.of_below (Fz := Fz) (M := (Ins b3 (Ins b2 M))) hR
    replace LL := LL.trans Lq
    replace LR := LR.trans Lq
    replace hM := hM.mono Lq
    replace hF := hF.mono Lq
    replace h0 := h0.mono Lq
    replace hn5 := hn5.mono Lq
    replace hn3 := hn3.mono Lq
    replace B2 := B2.below hR
    replace B3 := B3.below hR
    refine zI rfl bod108 rfl rfl ?_
    refine (rmul_c (M := (Ins b3 (Ins b2 M))) hn3.num hn26 (by have := hn3.len; have : s * n0 ≤ 2 * n0 := Nat.mul_le_mul_right _ (by omega); omega) (by omega) hM).mono ?_
    rintro v27 w6 ⟨hB27, hf27⟩
    have hM27 := hM; have hS27 := LL.size
    have Lw6 := Le.of_below (Fz := Fz) (M := (Ins b3 (Ins b2 M))) hB27
    replace LL := LL.trans Lw6
    replace LR := LR.trans Lw6
    replace hM := hM.mono Lw6
    replace hF := hF.mono Lw6
    replace h0 := h0.mono Lw6
    replace hn5 := hn5.mono Lw6
    replace hn3 := hn3.mono Lw6
    replace hn26 := hn26.mono Lw6
    replace B2 := B2.below hB27
    replace B3 := B3.below hB27
    rw [zY, hyv] at hf27
    have hyl2 : (limbs (l.getD s 0).natAbs).length ≤ n0 := by rw [← hyv]; exact Nat.le_trans (yI ys hn26.lt) hyl
    have hn27 := hf27.nat hM27; replace hf27 := hf27.less hS27
    exact zB ⟨rfl, hB27, _, rfl, ⟨hn27, hyl2⟩⟩
   refine xR (fun wq5 hR5 hpost5 => ?_)
   refine zJ rfl rfl (zJ rfl rfl (zJ rfl rfl (zJ rfl rfl (zJ rfl rfl (zJ rfl rfl (zJ rfl rfl (zJ rfl rfl (zH rfl (zH rfl (yC rfl (fun v14 hp14 => ?_)))))))))))
   obtain ⟨xa14, rfl, hn14⟩ := hp14; obtain ⟨oxa14, _⟩ := hn14.one
   refine zH rfl (yC rfl (fun v16 hp16 => ?_))
   obtain ⟨b16, o16, xs16, xa16, rfl, hc16, hn16⟩ := hp16; obtain ⟨oxa16, _⟩ := hn16.one
   refine yC rfl (fun v17 hp17 => ?_)
   obtain ⟨b17, o17, xs17, xa17, rfl, hc17, hn17⟩ := hp17; obtain ⟨oxa17, _⟩ := hn17.one
   refine yC rfl (fun v18 hp18 => ?_)
   obtain ⟨s18, rfl, hsg18⟩ := hp18
   refine yC rfl (fun v19 hp19 => ?_)
   obtain ⟨s19, rfl, hsg19⟩ := hp19
   refine zH rfl (zH rfl (yC rfl (fun v22 hp22 => ?_)))
   obtain ⟨xa22, rfl, hn22⟩ := hp22; obtain ⟨oxa22, _⟩ := hn22.one
   refine zH rfl (yC rfl (fun v24 hp24 => ?_))
   obtain ⟨b24, o24, xs24, xa24, rfl, hc24, hn24⟩ := hp24; obtain ⟨oxa24, _⟩ := hn24.one
   refine yC rfl (fun v25 hp25 => ?_)
   obtain ⟨b25, o25, xs25, xa25, rfl, hc25, hn25⟩ := hp25; obtain ⟨oxa25, _⟩ := hn25.one
   refine yC rfl (fun v26 hp26 => ?_)
   obtain ⟨ys, hn26, hyl, hyv⟩ := hp26
   refine yC rfl (fun v27 hp27 => ?_)
   obtain ⟨hn27, hyl2⟩ := hp27
   refine zE ?_
   simp only [List.drop_succ_cons, List.drop_zero, List.drop_nil, List.toList_toArray]
   have Lwq5 := Le.of_below (Fz := Fz) (M := (Ins b3 (Ins b2 M))) hR5
   replace LL := LL.trans Lwq5
   replace LR := LR.trans Lwq5
   replace hM := hM.mono Lwq5
   replace hF := hF.mono Lwq5
   replace h0 := h0.mono Lwq5
   replace hn5 := hn5.mono Lwq5
   replace hn3 := hn3.mono Lwq5
   replace B2 := B2.below hR5
   replace B3 := B3.below hR5
   refine jF rfl kG rfl rfl (yO (gF rfl) (yO (gF (by first | rfl | exact yD (by assumption) | exact yG (by assumption) | assumption)) xS)) rfl ?_
   have hz28 : ZQ (Ins b3 (Ins b2 M)) wq5 (s * n0 + 2 + n0) (qB (l.take s) * l.getD s 0) (xs3 != s19) v27 := ⟨_, hn27, yZ (by have a1 := xT hn3.len; have a2 := xT hyl2; exact gV a1 a2), by rw [hn3.sgn]; exact zv_prod hsg19⟩
   have hsn : s * n0 ≤ 2 * n0 := Nat.mul_le_mul_right _ (by omega)
   refine zI rfl aF rfl rfl ?_
   refine (qQ (M := (Ins b3 (Ins b2 M))) hz28 (by omega) hM).mono ?_
   rintro v29 w7 ⟨hB29, xs29, xa29, rfl, hn29⟩
   have Lw7 := Le.of_below (Fz := Fz) (M := (Ins b3 (Ins b2 M))) hB29
   replace LL := LL.trans Lw7
   replace LR := LR.trans Lw7
   replace hM := hM.mono Lw7
   replace hF := hF.mono Lw7
   replace h0 := h0.mono Lw7
   replace hn5 := hn5.mono Lw7
   replace hn3 := hn3.mono Lw7
   replace hn16 := hn16.mono Lw7
   replace hn24 := hn24.mono Lw7
   replace hn26 := hn26.mono Lw7
   replace hn27 := hn27.mono Lw7
   replace hz28 := hz28.mono Lw7
   replace B2 := B2.below hB29
   replace B3 := B3.below hB29
   obtain ⟨oxa29, _⟩ := hn29.one
   refine yK rfl rfl yX B3 rfl rfl (xC rfl (xC (by first | rfl | exact yD (by assumption) | exact yG (by assumption) | assumption) gD)) rfl (fun w8 Cw8 B3 => ?_)
   have Lw8 := Le.of_chg (M := (Ins b3 (Ins b2 M))) Cw8 zS nF3
   replace LL := LL.trans Lw8
   replace LR := LR.trans Lw8
   replace hM := hM.mono Lw8
   replace hF := hF.mono Lw8
   replace h0 := h0.mono Lw8
   replace hn5 := hn5.mono Lw8
   replace hn3 := hn3.mono Lw8
   replace hn16 := hn16.mono Lw8
   replace hn24 := hn24.mono Lw8
   replace hn26 := hn26.mono Lw8
   replace hn27 := hn27.mono Lw8
   replace hz28 := hz28.mono Lw8
   replace hn29 := hn29.mono Lw8
   replace B2 := B2.other Cw8 ne2_3
   try simp only [List.set_cons_zero, List.set_cons_succ, List.take_succ_cons, List.take_zero, List.drop_succ_cons, List.drop_zero, List.drop_nil, List.cons_append, List.nil_append, List.append_nil] at B3
   refine zB (zC (zA rfl rfl (yR rfl rfl rfl (by omega) (zD rfl rfl (zB ?_)))))
   refine ⟨rfl, s + 1, (zV rfl (by rw [Int.natCast_add]; rfl) (zG rfl (zG rfl (zG rfl yF)))), ?_, ?_⟩
   have e2 : (s + 1) * n0 + 2 = s * n0 + 2 + n0 := by rw [Nat.add_mul, Nat.one_mul]; omega
   exact ⟨LR, by omega, B2, _, _, B3, by rw [prod_take (by omega), e2]; exact hn29⟩
   omega
  ·refine xF (xG (zF (zC (yE rfl xV yX rfl B3 rfl rfl (yK rfl rfl yX B2 rfl rfl (xC rfl (xC (by first | rfl | exact yD (by assumption) | exact yG (by assumption) | assumption) gD)) rfl (fun w9 Cw9 B2 => ?_))))))
   have Lw9 := Le.of_chg (M := (Ins b3 (Ins b2 M))) Cw9 (.inr zS) nF2
   replace LL := LL.trans Lw9
   replace LR := LR.trans Lw9
   replace hM := hM.mono Lw9
   replace hF := hF.mono Lw9
   replace h0 := h0.mono Lw9
   replace hn5 := hn5.mono Lw9
   replace hn3 := hn3.mono Lw9
   replace B3 := B3.other Cw9 ne2_3.symm
   try simp only [List.set_cons_zero, List.set_cons_succ, List.take_succ_cons, List.take_zero, List.drop_succ_cons, List.drop_zero, List.drop_nil, List.cons_append, List.nil_append, List.append_nil] at B2
   refine zB (zZ ?_)
   refine zN ⟨[_], ⟨⟨_, rfl, xI xV yX B2 rfl rfl⟩, trivial⟩, ?_⟩
   dsimp only [zW]
   obtain rfl : s = l.length := by omega
   rw [List.take_length] at hn3
   have hsn : l.length * n0 ≤ 2 * n0 := Nat.mul_le_mul_right _ (by omega)
   subst hFz
   exact ⟨LL.below (Nat.le_refl _), _, _, rfl, (hn3.less (fun k c => zO (zO c))).up (by omega)⟩
end Go.Proofs.YtfkejnlohkgbgaaGreatDoor
set_option maxRecDepth 100000
namespace Go.Proofs.YtfkejnlohkgbgaaGreatDoor
open Go.SL Go.RowKit Go.Proofs Tryz
variable {M : Nat → Prop} {w : World}
theorem tz_even {t : Nat} (h0 : t ≠ 0) (h : t % 2 = 0) : tz t = tz (t / 2) + 1 := by
  conv => lhs; rw [tz]
  rw [dif_neg (by omega)]
theorem tz_odd {t : Nat} (h : t % 2 = 1) : tz t = 0 := by rw [tz, dif_pos (.inl h)]
theorem tz_mul : ∀ (k m : Nat), m ≠ 0 → tz (2 ^ k * m) = k + tz m
  | 0, m, h => by simp
  | k + 1, m, h => by
    have hp : 2 ^ k * m ≠ 0 := Nat.mul_ne_zero (Nat.pos_iff_ne_zero.1 (Nat.pow_pos (by omega))) h
    have e : 2 ^ (k + 1) * m = 2 * (2 ^ k * m) := by rw [Nat.pow_succ, Nat.mul_comm (2 ^ k) 2, Nat.mul_assoc]
    rw [e, tz_even (by omega) (by omega), Nat.mul_div_cancel_left _ (by omega), tz_mul k m h]; omega
def od (x : Nat) : Nat := x / 2 ^ tz x
theorem cH {x : Nat} (h : x ≠ 0) : x = 2 ^ tz x * od x ∧ od x % 2 = 1 := cC x h
theorem aG (x : Nat) : od x ≤ x := Nat.div_le_self _ _
theorem tz_low {x r : Nat} (hx : x ≠ 0) (hx2 : x < 4294967296) : tz (x + 4294967296 * r) = tz x := by
  obtain ⟨h1, h2⟩ := cH hx
  have hk := dU (n := 32) hx (Nat.lt_of_lt_of_eq hx2 (by decide))
  obtain ⟨i, hi⟩ : ∃ i, 32 = tz x + (i + 1) := ⟨32 - tz x - 1, by omega⟩
  have e : x + 4294967296 * r = 2 ^ tz x * (od x + 2 * (2 ^ i * r)) := by
    have : (4294967296 : Nat) = 2 ^ tz x * (2 ^ i * 2) := by rw [← Nat.pow_succ, ← Nat.pow_add, ← hi]
    rw [this, Nat.mul_add, ← h1]; congr 1
    simp only [Nat.mul_assoc, Nat.mul_left_comm, Nat.mul_comm]
  rw [e]; generalize 2 ^ i * r = q
  rw [tz_mul _ _ (by omega), tz_odd (t := od x + 2 * q) (by omega)]; rfl
theorem val_low : ∀ (s : Nat) (xs : List Nat), (∀ j, j < s → xs.getD j 0 = 0) → s < xs.length → ∃ r, val xs = 2 ^ (32 * s) * (xs.getD s 0 + 4294967296 * r)
  | 0, x :: xs, _, _ => ⟨val xs, by simp [val]⟩
  | s + 1, x :: xs, h, hl => by
    obtain ⟨r, hr⟩ := val_low s xs (fun j hj => by have := h (j + 1) (by omega); simpa using this) (by simpa using hl)
    have h0 : x = 0 := by have := h 0 (by omega); simpa using this
    refine ⟨r, ?_⟩
    have e : 2 ^ (32 * (s + 1)) = 4294967296 * 2 ^ (32 * s) := by rw [Nat.mul_add, Nat.pow_add, Nat.mul_comm]
    rw [val, h0, hr, e, Nat.mul_assoc]; simp
theorem tz_limbs {xs : List Nat} {s : Nat} (hlt : ∀ x ∈ xs, x < 4294967296) (h : ∀ j, j < s → xs.getD j 0 = 0) (hs : s < xs.length) (h0 : xs.getD s 0 ≠ 0) : tz (val xs) = 32 * s + tz (xs.getD s 0) := by
  obtain ⟨r, hr⟩ := val_low s xs h hs
  rw [hr, tz_mul _ _ (by omega), tz_low h0 (qF hlt s)]
theorem val_zero_all {xs : List Nat} (h : ∀ j, j < xs.length → xs.getD j 0 = 0) : val xs = 0 := by
  have := bV (xs := xs) (n := 0) (fun j _ => by
    rcases Nat.lt_or_ge j xs.length with c | c
    · exact h j c
    · exact gC c)
  simpa [val] using this.symm
theorem gcd_od {x y : Nat} (hx : x ≠ 0) (hy : y ≠ 0) : Nat.gcd x y = Nat.gcd (od x) (od y) * 2 ^ min (tz x) (tz y) := by
  obtain ⟨h1, h2⟩ := cH hx; obtain ⟨k1, k2⟩ := cH hy
  rcases Nat.le_total (tz x) (tz y) with h | h
  · obtain ⟨i, hi⟩ : ∃ i, tz y = tz x + i := ⟨tz y - tz x, by omega⟩
    rw [Nat.min_eq_left h]
    conv => lhs; rw [h1, k1, hi, Nat.pow_add, Nat.mul_assoc, Nat.gcd_mul_left, uN h2]
    rw [Nat.mul_comm]
  · obtain ⟨i, hi⟩ : ∃ i, tz x = tz y + i := ⟨tz x - tz y, by omega⟩
    rw [Nat.min_eq_right h]
    conv => lhs; rw [h1, k1, hi, Nat.pow_add, Nat.mul_assoc, Nat.gcd_mul_left, Nat.gcd_comm, uN k2, Nat.gcd_comm]
    rw [Nat.mul_comm]
def GI (G A B : Nat) : Prop := B ≠ 0 ∧ (A ≠ 0 → Nat.gcd (od A) (od B) = G) ∧ (A = 0 → B = G)
theorem gi_step {G A B : Nat} (h : GI G A B) (hA : A ≠ 0) : (od B ≤ od A → GI G (od A - od B) (od B) ∧ od A - od B + od B < A + B) ∧ (od A ≤ od B → GI G (od B - od A) (od A) ∧ od B - od A + od A < A + B) := by
  have hg := h.2.1 hA
  obtain ⟨a1, a2⟩ := cH hA; obtain ⟨b1, b2⟩ := cH h.1
  have la := aG A
  have lb := aG B
  have key : ∀ a b : Nat, a % 2 = 1 → b % 2 = 1 → Nat.gcd a b = G → b ≤ a → GI G (a - b) b := fun a b ha hb hab hle => by
    refine ⟨by omega, fun h0 => ?_, fun h0 => ?_⟩
    · obtain ⟨c1, c2⟩ := cH h0
      have ob : od b = b := by unfold od; rw [tz_odd hb]; simp
      rw [ob, Nat.gcd_comm, ← uN (k := tz (a - b)) hb, ← c1, Nat.gcd_comm]
      have := Nat.gcd_sub_self_left (m := b) (n := a) (by omega)
      rw [this]; exact hab
    · obtain rfl : a = b := by omega
      rw [Nat.gcd_self] at hab; exact hab
  exact ⟨fun hle => ⟨key _ _ a2 b2 hg hle, by omega⟩, fun hle => ⟨key _ _ b2 a2 (by rw [Nat.gcd_comm]; exact hg) hle, by omega⟩⟩
theorem cntN_id {n m : Nat} (h : n ≤ m) : kR ((n : Nat) : Int) ((m : Nat) : Int) = n := by unfold kR; omega
theorem cntN_min {a b : Nat} (h : min a b ≤ 65536) : kR (min ((a : Nat) : Int) ((b : Nat) : Int)) 65536 = min a b := by unfold kR; omega
theorem ops_rem32 {P : Program} {r : Option Nat} {N : Nat} {all : Array Oper} {K : Pd} {D : List Deferred} {E : Env} {w : World} {rest : List Oper} {d : Nat} {x y : Operand} {tx ty t : TypeId} {pos : String} {af : Array Edge} {a b : Nat} (hd : Nat.blt d N = true)
    (hx : ev E x = some (.int .u32 (a : Int))) (hy : ev E y = some (.int .u32 (b : Int))) (hb : 0 < b)
    (h : Ops P r N all K rest D ((d, .int .u32 ((a % b : Nat) : Int)) :: E) w) : Ops P r N all K (⟨some d, .binOp .rem tx x y ty, t, pos, af, none⟩ :: rest) D E w :=
  cG hd (.inr rfl) hx hy (by omega) (by rw [Int.tmod_eq_emod_of_nonneg (by omega)]; rfl) h
theorem tz_bound {x n : Nat} (h0 : x ≠ 0) (h : (limbs x).length ≤ n) : tz x < 32 * n := dU h0 (by have := xT h; rwa [show (4294967296 : Nat) = 2 ^ 32 by decide, ← Nat.pow_mul] at this)
theorem plain7_c {a b : Nat} (ha : a < 18446744073709551616) (hb : b < 18446744073709551616) (hM : OkM M w) :
    CallsV prog 168 [.int .u64 (a : Int), .int .u64 (b : Int)] w fun r w' => Below w.heap.size w w' ∧ r = .int .u64 ((Nat.gcd a b : Nat) : Int) := by
 obtain ⟨Fz, hFz, hF, LL⟩ := fz0 M w
 have hM0 := hM
 refine zQ func168 rfl ntmps168 rfl ?_
 refine zF (zC (zD rfl rfl (zB (zF (yA ?_)))))
 refine xN (σ := Nat × Nat) [] (fun s => [(0, .int .u64 ((s.1 : Nat) : Int)), (1, .int .u64 ((s.2 : Nat) : Int))]) (fun s w1 => Le Fz M w M w1 ∧ s.1 < 18446744073709551616 ∧ s.2 < 18446744073709551616 ∧ Nat.gcd s.1 s.2 = Nat.gcd a b) (fun s => s.2) ((a, b)) (zG rfl (zG rfl yF)) ?_ (fun s w1 hJ => ?_)
 · dsimp only
   exact ⟨Le.refl _ _ _, ha, hb, rfl⟩
 ·obtain ⟨p, q⟩ := s
  dsimp only at hJ ⊢
  obtain ⟨LR, hp, hq, hg⟩ := hJ
  replace LL := LL.trans LR
  refine zF (zF (zC (zA rfl rfl (qV rfl rfl rfl (zB ?_)))))
  refine zX rfl (fun hc0 => ?_) (fun hc0 => ?_)
  ·refine yH (yA ?_)
   refine xQ (R := Rb) (R' := Rb) (st := none) jR 5 [0, 1, 5, 6, 7, 8, 9, 10] (by decide +kernel) xO xY (xX _) (fun _ _ _ h => by cases h) ?_
   refine zK (fun _ _ _ => zJ rfl rfl (zE (zA rfl rfl (on0 rfl)))) ?_
   refine zK (fun _ _ _ => zJ rfl rfl (zE (zA rfl rfl (on0 rfl)))) ?_
   refine zK (fun _ _ _ => zJ rfl rfl (zE (zA rfl rfl (on0 rfl)))) ?_
   apply zK
   ·intro wq hR hst
    refine zH rfl (zH rfl (zE ?_))
    exact ops_remu rfl rfl rfl (by omega) (on0 rfl)
   refine zK (fun _ _ _ => zH rfl (zE (zD rfl rfl (on0 rfl)))) ?_
   refine xR (fun wq2 hR2 hpost2 => ?_)
   refine zH rfl (zJ rfl rfl (zJ rfl rfl (zJ rfl rfl (zH rfl (zH rfl (zH rfl (zH rfl (zE ?_))))))))
   simp only [List.drop_succ_cons, List.drop_zero, List.drop_nil, List.toList_toArray]
   replace LR := ub1 hR2 LR
   refine zD rfl rfl (zB ?_)
   refine ⟨rfl, (q, p % q), (zV rfl (rfl) (zV rfl (rfl) yF)), ?_, ?_⟩
   dsimp only
   have hlt := Nat.mod_lt p (show 0 < q by omega)
   exact ⟨LR, hq, by omega, by rw [← hg, Nat.gcd_comm, ← Nat.gcd_rec, Nat.gcd_comm]⟩
   dsimp only
   exact Nat.mod_lt p (by omega)
  ·refine xF (xG (zF (zC (zA rfl rfl (zD rfl rfl (zB (zZ ?_)))))))
   refine zN ⟨[_], ⟨rfl, trivial⟩, ?_⟩
   dsimp only [zW]
   obtain rfl : q = 0 := by omega
   rw [Nat.gcd_zero_right] at hg
   subst hFz
   exact ⟨LL.below (Nat.le_refl _), by rw [hg]⟩
theorem twos_c {v : Value} {xs : List Nat} (h : IsNat M w v xs) (h0 : val xs ≠ 0) (hl : xs.length ≤ 1000000) (hM : OkM M w) :
    CallsV prog 226 [v] w fun r w' => Below w.heap.size w w' ∧ r = .int .i64 ((tz (val xs) : Nat) : Int) := by
 obtain ⟨Fz, hFz, hF, LL⟩ := fz0 M w
 have hM0 := hM
 refine zQ func226 rfl ntmps226 rfl ?_
 refine zF (zC (zD rfl rfl (zB (zF (zC (zD rfl rfl (zB (zF (zF (zC (zD rfl rfl (zB (yA ?_)))))))))))))
 refine xN (σ := Nat) [(0, _)] (fun s => [(3, .int .i64 ((32 * s : Nat) : Int)), (4, .int .i64 ((s : Nat) : Int))]) (fun s w1 => Le Fz M w M w1 ∧ s ≤ xs.length ∧ ∀ j, j < s → xs.getD j 0 = 0) (fun s => xs.length - s) (0) (zG rfl (zG rfl (zG rfl yF))) ?_ (fun s w1 hJ => ?_)
 · exact ⟨Le.refl _ _ _, by omega, fun j hj => by omega⟩
 ·obtain ⟨LR, hs, hz⟩ := hJ
  obtain ⟨LL, h⟩ := up2 LR LL h
  refine zF (zF (zC (zA rfl rfl (zA rfl rfl ?_))))
  first | refine yM rfl yu29 rfl (IsNat.slc (by assumption)) ?_ | refine yQ rfl yu29 rfl ?_
  refine jG rfl rfl rfl (zA rfl rfl (gZ (d := 10) rfl (fun hg3_4 => ?_) (fun hg3_4 => ?_)))
  ·have hsl : s < xs.length := by omega
   refine zM rfl rfl (zA rfl rfl (zM rfl rfl (zA rfl rfl (zM rfl rfl (jW (s) rfl yu29 yV rfl rfl (by assumption) (by omega) (by omega) (fun b13 o13 hc13 hb13 => ?_))))))
   refine zM rfl rfl (xM rfl jD rfl hc13 (zM rfl rfl (gI rfl rfl rfl (xA rfl rfl rfl (zB ?_)))))
   refine zX rfl (fun hc0 => ?_) (fun hc0 => ?_)
   ·refine yH (zF (yA (zC (zA rfl rfl (yR rfl rfl rfl (by omega) (zD rfl rfl (zB (zC (zA rfl rfl (yR rfl rfl rfl (by omega) (zD rfl rfl (zB ?_))))))))))))
    refine ⟨rfl, s + 1, (zV rfl (by first | rfl | (show Value.int .i64 _ = Value.int .i64 _; congr 1; omega)) (zV rfl (by rw [Int.natCast_add]; rfl) (zG rfl yF))), ?_, ?_⟩
    exact ⟨LR, by omega, fun j hj => by
      rcases Nat.lt_or_ge j s with c | c
      · exact hz j c
      · obtain rfl : j = s := by omega
        omega⟩
    omega
   ·have hnz : xs.getD s 0 ≠ 0 := fun c => hc0 (by rw [c]; rfl)
    have hsl2 : s < xs.length := hsl
    have htl := tz_limbs h.lt hz hsl hnz
    have hxb := h.lim s
    refine xF (xG (zF (zF (zC (zA rfl rfl (zA rfl rfl (uI rfl rfl rfl (by omega) (jW (s) rfl yu29 yV rfl rfl (by assumption) (by omega) (by omega) (fun b24 o24 hc24 hb24 => ?_)))))))))
    refine xM rfl jD rfl hc24 (zD rfl rfl (zB (yA ?_)))
    refine xN (σ := Nat × Nat) [] (fun s => [(3, .int .i64 ((s.1 : Nat) : Int)), (5, .int .u32 ((s.2 : Nat) : Int))]) (fun s w2 => Le Fz M w1 M w2 ∧ s.2 ≠ 0 ∧ s.2 < 4294967296 ∧ s.1 + tz s.2 = tz (val xs) ∧ s.1 + s.2 ≤ 4294967296 + 32 * 1000000) (fun s => s.2) ((32 * s, xs.getD s 0)) (zG rfl (zG rfl yF)) ?_ (fun s w2 hJ => ?_)
    · dsimp only
      exact ⟨Le.refl _ _ _, hnz, hxb, by rw [htl], by omega⟩
    ·obtain ⟨n, t⟩ := s
     dsimp only at hJ ⊢
     obtain ⟨LR2, ht0, htb, hnt, hnb⟩ := hJ
     obtain ⟨LL, h⟩ := up2 LR2 LL h
     refine zF (zF (zC (zA rfl rfl (ops_rem32 (b := 2) rfl rfl rfl (by omega) (gI rfl rfl rfl (zB ?_))))))
     refine zX rfl (fun hc1 => ?_) (fun hc1 => ?_)
     ·refine yH (zF (yA (zC (zA rfl rfl (yR rfl rfl rfl (by omega) (zD rfl rfl (zB (zC (zA rfl rfl (ops_quo32 (b := 2) rfl rfl rfl (by omega) (by omega) (zD rfl rfl (zB ?_))))))))))))
      refine ⟨rfl, (n + 1, t / 2), (zV rfl (by rw [Int.natCast_add]; rfl) (zV rfl (rfl) yF)), ?_, ?_⟩
      dsimp only
      have := tz_even ht0 (by omega)
      exact ⟨LR2, by omega, by omega, by omega, by omega⟩
      dsimp only
      omega
     ·refine xF (xG (zF (zC (zA rfl rfl (zD rfl rfl (zB (zZ ?_)))))))
      refine zN ⟨[_], ⟨rfl, trivial⟩, ?_⟩
      dsimp only [zW]
      have := tz_odd (t := t) (by omega)
      subst hFz
      exact ⟨LL.below (Nat.le_refl _), by rw [← hnt, this, Nat.add_zero]⟩
  ·exact absurd (val_zero_all fun j hj => hz j (by omega)) h0
theorem gcd4_c {v u : Value} {xs ys : List Nat} (h1 : IsNat M w v xs) (h2 : IsNat M w u ys) (hl1 : xs.length ≤ 2000) (hl2 : ys.length ≤ 2000) (hM : OkM M w) :
    CallsV prog 169 [v, u] w fun r w' => Below w.heap.size w w' ∧ IsNat M w' r (limbs (Nat.gcd (val xs) (val ys))) := by
 obtain ⟨Fz, hFz, hF, LL⟩ := fz0 M w
 have hxl := yI xs h1.lt
 have hyl := yI ys h2.lt
 have hM0 := hM
 refine zQ func169 rfl ntmps169 rfl ?_
 refine zF (zC (zD rfl rfl (zB (zF (zC (zA rfl rfl (zI rfl aB rfl rfl ?_)))))))
 refine (qA h1 (by omega) hM).mono ?_
 rintro v7 w1 ⟨hB7, hf7⟩
 have hM7 := hM
 have hS7 := LL.size
 obtain ⟨LL, hM, h2⟩ := ub3 hB7 LL hM h2
 have hn7 := hf7.nat hM7
 refine zA rfl rfl (zI rfl aB rfl rfl ?_)
 refine (qA h2 (by omega) hM).mono ?_
 rintro v9 w2 ⟨hB9, hf9⟩
 have hM9 := hM
 have hS9 := LL.size
 obtain ⟨LL, hM, hn7⟩ := ub3 hB9 LL hM hn7
 have hn9 := hf9.nat hM9
 refine zD rfl rfl (zD rfl rfl (zB (zF (zF (zC (zA rfl rfl ?_))))))
 first | refine yM rfl yu29 rfl hn7.slc ?_ | refine yQ rfl yu29 rfl ?_
 refine gI rfl rfl rfl (zA rfl rfl (gZ (d := 13) rfl (fun hg2_3 => ?_) (fun hg2_3 => ?_)))
 ·have hx0 : val xs = 0 := xH.1 (by omega)
  refine zU rfl rfl rfl rfl (zU rfl rfl rfl rfl (zU rfl rfl rfl rfl (xA rfl rfl rfl (zB (uF rfl (zF (zC (zA rfl rfl (zA rfl rfl (yP rfl yu255 xU rfl rfl rfl (eP (by first | rfl | exact yD (by assumption) | exact yG (by assumption) | assumption) (by first | rfl | exact yD (by assumption) | exact yG (by assumption) | assumption)) rfl (fun w3 b20 N20 => ?_)))))))))))
  have hBw3 := N20.below
  have nM20 := hM.new N20
  have B20 := N20.blk
  obtain ⟨LL, hM, hn7, hn9⟩ := ub4 hBw3 LL hM hn7 hn9
  have hn20 := cW B20 nM20 hn7 hn9
  refine zI rfl bod225 rfl rfl ?_
  refine (radd_c hn20 (by intro q hq; rcases List.mem_cons.1 hq with rfl | hq; omega; rcases List.mem_cons.1 hq with rfl | hq; omega; cases hq) (by simp) hM).mono ?_
  rintro v21 w4 ⟨hB21, hf21⟩
  have hM21 := hM
  have hS21 := LL.size
  replace LL := ub1 hB21 LL
  simp only [List.map_cons, List.map_nil, List.sum_cons, List.sum_nil, Nat.add_zero, zY] at hf21
  have hn21 := hf21.nat hM21
  refine zD rfl rfl (zB (zZ ?_))
  refine zN ⟨[_], ⟨rfl, trivial⟩, ?_⟩
  dsimp only [zW]
  have e : Nat.gcd (val xs) (val ys) = val xs + val ys := by rw [hx0]; simp
  rw [e]
  subst hFz
  exact ⟨LL.below (Nat.le_refl _), hn21⟩
 ·have hx0 : val xs ≠ 0 := fun c => hg2_3 (by rw [c, xJ]; rfl)
  refine zM rfl rfl (zA rfl rfl (zM rfl rfl ?_))
  first | refine yM rfl yu29 rfl hn9.slc ?_ | refine yQ rfl yu29 rfl ?_
  refine zM rfl rfl (gI rfl rfl rfl (xA rfl rfl rfl (zB ?_)))
  refine zX rfl (fun hc0 => ?_) (fun hc0 => ?_)
  ·have hy0 : val ys = 0 := xH.1 (by omega)
   refine zF (zC (zA rfl rfl (zA rfl rfl (yP rfl yu255 xU rfl rfl rfl (eP (by first | rfl | exact yD (by assumption) | exact yG (by assumption) | assumption) (by first | rfl | exact yD (by assumption) | exact yG (by assumption) | assumption)) rfl (fun w5 b20 N20 => ?_)))))
   have hBw5 := N20.below
   have nM20 := hM.new N20
   have B20 := N20.blk
   obtain ⟨LL, hM, hn7, hn9⟩ := ub4 hBw5 LL hM hn7 hn9
   have hn20 := cW B20 nM20 hn7 hn9
   refine zI rfl bod225 rfl rfl ?_
   refine (radd_c hn20 (by intro q hq; rcases List.mem_cons.1 hq with rfl | hq; omega; rcases List.mem_cons.1 hq with rfl | hq; omega; cases hq) (by simp) hM).mono ?_
   rintro v21 w6 ⟨hB21, hf21⟩
   have hM21 := hM
   have hS21 := LL.size
   replace LL := ub1 hB21 LL
   simp only [List.map_cons, List.map_nil, List.sum_cons, List.sum_nil, Nat.add_zero, zY] at hf21
   have hn21 := hf21.nat hM21
   refine zD rfl rfl (zB (zZ ?_))
   refine zN ⟨[_], ⟨rfl, trivial⟩, ?_⟩
   dsimp only [zW]
   have e : Nat.gcd (val xs) (val ys) = val xs + val ys := by rw [hy0]; simp
   rw [e]
   subst hFz
   exact ⟨LL.below (Nat.le_refl _), hn21⟩
  ·have hy0 : val ys ≠ 0 := fun c => hc0 (by rw [c, xJ]; rfl)
   have hxl2 : (limbs (val xs)).length ≤ 2000 := by omega
   have hyl2 : (limbs (val ys)).length ≤ 2000 := by omega
   refine yH (zF (zC (zA rfl rfl (zI rfl bod226 rfl rfl ?_))))
   refine (twos_c hn7 (by rw [zY]; exact hx0) (by omega) hM).mono ?_
   rintro v23 w7 ⟨hB23, rfl⟩
   obtain ⟨LL, hM, hn7, hn9⟩ := ub4 hB23 LL hM hn7 hn9
   rw [zY]
   refine zA rfl rfl (zI rfl bod226 rfl rfl ?_)
   refine (twos_c hn9 (by rw [zY]; exact hy0) (by omega) hM).mono ?_
   rintro v25 w8 ⟨hB25, rfl⟩
   obtain ⟨LL, hM, hn7, hn9⟩ := ub4 hB25 LL hM hn7 hn9
   rw [zY]
   refine cF rfl rfl rfl (zD rfl rfl (zB (zF (yA ?_))))
   refine xN (σ := Value × Value × Nat × Nat) [(5, _)] (fun s => [(0, s.1), (1, s.2.1)]) (fun s w9 => Le Fz M w8 M w9 ∧ IsNat M w9 s.1 (limbs s.2.2.1) ∧ IsNat M w9 s.2.1 (limbs s.2.2.2) ∧ (limbs s.2.2.1).length ≤ 2000 ∧ (limbs s.2.2.2).length ≤ 2000 ∧ GI (Nat.gcd (od (val xs)) (od (val ys))) s.2.2.1 s.2.2.2) (fun s => s.2.2.1 + s.2.2.2) ((v7, v9, val xs, val ys)) (zG rfl (zG rfl (zG rfl yF))) ?_ (fun s w9 hJ => ?_)
   · dsimp only
     exact ⟨Le.refl _ _ _, hn7, hn9, hxl2, hyl2, hy0, fun _ => rfl, fun c => absurd c hx0⟩
   ·obtain ⟨a, b, A, B⟩ := s
    dsimp only at hJ ⊢
    obtain ⟨LR, ha, hb, hal, hbl, hG⟩ := hJ
    obtain ⟨LL, hM⟩ := up2 LR LL hM
    refine zF (zF (zC (zA rfl rfl ?_)))
    first | refine yM rfl yu29 rfl (IsNat.slc (by assumption)) ?_ | refine yQ rfl yu29 rfl ?_
    refine qV rfl rfl rfl (zB ?_)
    refine zX rfl (fun hc1 => ?_) (fun hc1 => ?_)
    ·have hA0 : A ≠ 0 := fun c => by rw [c, xJ] at hc1; simp at hc1
     refine yH (yA (zF (zC (zA rfl rfl (zA rfl rfl (zI rfl bod226 rfl rfl ?_))))))
     refine (twos_c ha (by rw [zY]; exact hA0) (by omega) hM).mono ?_
     rintro v32 w10 ⟨hB32, rfl⟩
     obtain ⟨LL, LR, hM, ha, hb⟩ := ub5 hB32 LL LR hM ha hb
     rw [zY]
     refine zI rfl bod227 rfl rfl ?_
     refine (rdown_c ha (by omega) hM).mono ?_
     rintro v33 w11 ⟨hB33, hf33⟩
     have hM33 := hM
     have hS33 := LL.size
     obtain ⟨LL, LR, hM, hb⟩ := ub4 hB33 LL LR hM hb
     rw [show (65536 : Int) = ((65536 : Nat) : Int) from rfl, cntN_id (by have := tz_bound hA0 hal; omega), zY, show A / 2 ^ tz A = od A from rfl] at hf33
     have hn33 := hf33.nat hM33
     refine zD rfl rfl (zB (zF (zC (zA rfl rfl (zA rfl rfl (zI rfl bod226 rfl rfl ?_))))))
     refine (twos_c hb (by rw [zY]; exact hG.1) (by omega) hM).mono ?_
     rintro v36 w12 ⟨hB36, rfl⟩
     obtain ⟨LL, LR, hM, hb, hn33⟩ := ub5 hB36 LL LR hM hb hn33
     rw [zY]
     refine zI rfl bod227 rfl rfl ?_
     refine (rdown_c hb (by omega) hM).mono ?_
     rintro v37 w13 ⟨hB37, hf37⟩
     have hM37 := hM
     have hS37 := LL.size
     obtain ⟨LR, hM, hn33⟩ := ub3 hB37 LR hM hn33
     rw [show (65536 : Int) = ((65536 : Nat) : Int) from rfl, cntN_id (by have := tz_bound hG.1 hbl; omega), zY, show B / 2 ^ tz B = od B from rfl] at hf37
     have hn37 := hf37.nat hM37
     refine zD rfl rfl (zB (zF (zF (zC (zA rfl rfl (zA rfl rfl (zI rfl bod228 rfl rfl ?_)))))))
     refine (rcmp_c hn33 hn37 (by have := yN (aG A); omega) (by have := yN (aG B); omega) hM).mono ?_
     rintro v40 w14 ⟨hB40, rfl⟩
     obtain ⟨LR, hM, hn33, hn37⟩ := ub4 hB40 LR hM hn33 hn37
     rw [zY, zY]
     refine jG rfl rfl rfl (zB ?_)
     refine zX rfl (fun hc2 => ?_) (fun hc2 => ?_)
     ·have hlt : od A < od B := by have := hc2; unfold dT at this; split at this <;> grind
      refine zC (zA rfl rfl (zA rfl rfl (zD rfl rfl (zD rfl rfl (zB (zC (zA rfl rfl (zA rfl rfl (zI rfl dP rfl rfl ?_)))))))))
      refine (dK (by assumption) (by assumption) (by have := yN (aG A); have := yN (aG B); omega) (by have := yN (aG A); have := yN (aG B); omega) hM).mono ?_
      rintro v47 w15 ⟨hB47, q47, rfl, hf47⟩
      have hMx := hM
      obtain ⟨LR, hn33⟩ := ub2 hB47 LR hn33
      rw [zY, zY] at hf47
      have hn47 := hf47.nat hMx
      refine zA rfl rfl (zT rfl rfl rfl (zT rfl rfl rfl (zD rfl rfl (zB ?_))))
      refine ⟨rfl, (q47, v33, od B - od A, od A), (zV rfl (rfl) (zV rfl (rfl) (zG rfl yF))), ?_, ?_⟩
      dsimp only
      have hl3 := yN (show od B - od A ≤ B from Nat.le_trans (Nat.sub_le _ _) (aG _))
      have hl4 := yN (aG A)
      exact ⟨LR, by simpa using hn47, hn33, by omega, by omega, (gi_step hG hA0).2 (Nat.le_of_lt hlt) |>.1⟩
      dsimp only
      exact (gi_step hG hA0).2 (Nat.le_of_lt hlt) |>.2
     ·have hge : od B ≤ od A := by have := hc2; unfold dT at this; split at this <;> grind
      refine yH (zC (zA rfl rfl (zA rfl rfl (zI rfl dP rfl rfl ?_))))
      refine (dK (by assumption) (by assumption) (by have := yN (aG A); have := yN (aG B); omega) (by have := yN (aG A); have := yN (aG B); omega) hM).mono ?_
      rintro v47 w16 ⟨hB47, q47, rfl, hf47⟩
      have hMx := hM
      obtain ⟨LR, hn37⟩ := ub2 hB47 LR hn37
      rw [zY, zY] at hf47
      have hn47 := hf47.nat hMx
      refine zA rfl rfl (zT rfl rfl rfl (zT rfl rfl rfl (zD rfl rfl (zB ?_))))
      refine ⟨rfl, (q47, v37, od A - od B, od B), (zV rfl (rfl) (zV rfl (rfl) (zG rfl yF))), ?_, ?_⟩
      dsimp only
      have hl3 := yN (show od A - od B ≤ A from Nat.le_trans (Nat.sub_le _ _) (aG _))
      have hl4 := yN (aG B)
      exact ⟨LR, by simpa using hn47, hn37, by omega, by omega, (gi_step hG hA0).1 hge |>.1⟩
      dsimp only
      exact (gi_step hG hA0).1 hge |>.2
    ·refine xF (xG (zF (zC (zA rfl rfl (zA rfl rfl (zI rfl bod187 rfl rfl ?_))))))
     refine (rup_c hb (by omega) hM).mono ?_
     rintro v52 w17 ⟨hB52, hf52⟩
     have hM52 := hM
     have hS52 := LL.size
     replace LL := ub1 hB52 LL
     rw [cntN_min (by have := tz_bound hx0 hxl2; omega), zY] at hf52
     have hn52 := hf52.nat hM52
     refine zD rfl rfl (zB (zZ ?_))
     refine zN ⟨[_], ⟨rfl, trivial⟩, ?_⟩
     dsimp only [zW]
     have hA0 : A = 0 := xH.1 (by omega)
     rw [hG.2.2 hA0, ← gcd_od hx0 hy0] at hn52
     subst hFz
     exact ⟨LL.below (Nat.le_refl _), hn52⟩
end Go.Proofs.YtfkejnlohkgbgaaGreatDoor
set_option maxRecDepth 100000
namespace Go.Proofs.YtfkejnlohkgbgaaGreatDoor
open Go.SL Go.RowKit Go.Proofs Tryz
variable {M : Nat → Prop} {w : World}
theorem limb_val {xs : List Nat} (h : ∀ x ∈ xs, x < 4294967296) (j : Nat) : xs.getD j 0 = val xs / 2 ^ (32 * j) % 2 ^ 32 := by
  have e : (2 : Nat) ^ (32 * j) = 4294967296 ^ j := by rw [Nat.pow_mul]
  rw [e, ← val_drop h j]
  rcases Nat.lt_or_ge j xs.length with c | c
  · rw [kJ c, show (2 : Nat) ^ 32 = 4294967296 by decide, Nat.add_mul_mod_self_left]
    exact (Nat.mod_eq_of_lt (qF h j)).symm
  · rw [List.drop_of_length_le c, gC c]; rfl
theorem tb (x i : Nat) : x.testBit i = decide (x / 2 ^ i % 2 = 1) := Nat.testBit_eq_decide_div_mod_eq
theorem bit_of {xs : List Nat} (h : ∀ x ∈ xs, x < 4294967296) (i : Nat) : xs.getD (i / 32) 0 / 2 ^ (i % 32) % 2 = val xs / 2 ^ i % 2 := by
  have hk : i % 32 < 32 := Nat.mod_lt _ (by omega)
  have e : 32 * (i / 32) + i % 32 = i := Nat.div_add_mod i 32
  have h1 : (xs.getD (i / 32) 0).testBit (i % 32) = (val xs).testBit i := by
    rw [limb_val h, Nat.testBit_mod_two_pow, Nat.testBit_div_two_pow, Nat.add_comm (i % 32), e]; simp [hk]
  rw [tb, tb] at h1
  have h2 := decide_eq_decide.1 h1
  have a1 := Nat.mod_two_eq_zero_or_one (xs.getD (i / 32) 0 / 2 ^ (i % 32))
  have a2 := Nat.mod_two_eq_zero_or_one (val xs / 2 ^ i)
  generalize xs.getD (i / 32) 0 / 2 ^ (i % 32) % 2 = p at *
  generalize val xs / 2 ^ i % 2 = q at *
  omega
theorem or_bit {zs : List Nat} {i c : Nat} (h : ∀ z ∈ zs, z < 4294967296) (hv : val zs = c * 2 ^ (i + 1)) : zs.getD (i / 32) 0 ||| 2 ^ (i % 32) = zs.getD (i / 32) 0 + 2 ^ (i % 32) := by
  have hk : i % 32 < 32 := Nat.mod_lt _ (by omega)
  have e : 32 * (i / 32) + i % 32 = i := Nat.div_add_mod i 32
  obtain ⟨q, hq⟩ : ∃ q, 32 = i % 32 + 1 + q := ⟨32 - (i % 32 + 1), by omega⟩
  have h1 : zs.getD (i / 32) 0 = 2 ^ (i % 32 + 1) * (c % 2 ^ q) := by
    rw [limb_val h, hv]
    have : c * 2 ^ (i + 1) = 2 ^ (32 * (i / 32)) * (2 ^ (i % 32 + 1) * c) := by
      rw [← Nat.mul_assoc, ← Nat.pow_add, show 32 * (i / 32) + (i % 32 + 1) = i + 1 by omega, Nat.mul_comm]
    rw [this, Nat.mul_div_cancel_left _ (Nat.pow_pos (by omega))]
    rw [show (2 : Nat) ^ 32 = 2 ^ (i % 32 + 1) * 2 ^ q by rw [← Nat.pow_add, ← hq], Nat.mul_mod_mul_left]
  rw [h1]
  have := Nat.shiftLeft_add_eq_or_of_lt (b := 2 ^ (i % 32)) (i := i % 32 + 1) (Nat.pow_lt_pow_right (by omega) (by omega)) (c % 2 ^ q)
  rw [Nat.shiftLeft_eq, Nat.mul_comm] at this
  exact this.symm
theorem set_bit {zs : List Nat} {i : Nat} (hj : i / 32 < zs.length) : val (zs.set (i / 32) (zs.getD (i / 32) 0 + 2 ^ (i % 32))) = val zs + 2 ^ i := by
  have hv := aT (zs := zs) (j := i / 32) (zs.getD (i / 32) 0 + 2 ^ (i % 32)) hj
  have e : (4294967296 : Nat) ^ (i / 32) * 2 ^ (i % 32) = 2 ^ i := by
    rw [show (4294967296 : Nat) = 2 ^ 32 by decide, ← Nat.pow_mul, ← Nat.pow_add, Nat.div_add_mod i 32]
  rw [Nat.mul_add, e] at hv
  omega
theorem or_lt32 {a k : Nat} (ha : a < 4294967296) (hk : k < 32) : a ||| 2 ^ k < 4294967296 := Nat.or_lt_two_pow (n := 32) ha (Nat.pow_lt_pow_right (by omega) hk)
structure DI (X Y V R t : Nat) : Prop where
  eq : X = V * Y + 2 ^ t * R + X % 2 ^ t
  lt : R < Y
  dv : ∃ c, V = c * 2 ^ t
theorem di_step {X Y V R t i : Nat} (h : DI X Y V R t) (ht : t = i + 1) (b : Nat) (hb : X / 2 ^ i % 2 = b) : (Y ≤ 2 * R + b → DI X Y (V + 2 ^ i) (2 * R + b - Y) i) ∧ (2 * R + b < Y → DI X Y V (2 * R + b) i) := by
  subst ht
  obtain ⟨c, hc⟩ := h.dv
  have hm : X % 2 ^ (i + 1) = 2 ^ i * b + X % 2 ^ i := by
    rw [Nat.pow_succ, Nat.mod_mul, hb]; omega
  have hE := h.eq
  rw [hm, Nat.pow_succ] at hE
  have hlt := h.lt
  constructor
  · intro hle
    refine ⟨?_, by have := Nat.mod_two_eq_zero_or_one (X / 2 ^ i); omega, ⟨2 * c + 1, by rw [hc, Nat.pow_succ, Nat.add_mul, Nat.one_mul]; congr 1; rw [Nat.mul_comm 2 c, Nat.mul_assoc, Nat.mul_comm 2]⟩⟩
    obtain ⟨d, hd⟩ : ∃ d, 2 * R + b = Y + d := ⟨2 * R + b - Y, by omega⟩
    rw [hd, Nat.add_sub_cancel_left, Nat.add_mul]
    have e1 : 2 ^ i * (2 * R + b) = 2 ^ i * Y + 2 ^ i * d := by rw [hd, Nat.mul_add]
    have e2 : 2 ^ i * 2 * R = 2 ^ i * (2 * R) := by rw [Nat.mul_assoc]
    rw [Nat.mul_add] at e1
    rw [e2] at hE
    omega
  · intro hl
    refine ⟨?_, hl, ⟨2 * c, by rw [hc, Nat.pow_succ, Nat.mul_comm 2 c, Nat.mul_assoc, Nat.mul_comm 2]⟩⟩
    rw [Nat.mul_add]
    have e2 : 2 ^ i * 2 * R = 2 ^ i * (2 * R) := by rw [Nat.mul_assoc]
    rw [e2] at hE
    omega
theorem di_start {xs : List Nat} {Y f : Nat} (h : ∀ x ∈ xs, x < 4294967296) (hf : xs.length - ((limbs Y).length) + 1 ≤ f ∨ xs.length < (limbs Y).length) (hY : Y ≠ 0) : DI (val xs) Y 0 (val (xs.drop f)) (32 * f) := by
  have e : (2 : Nat) ^ (32 * f) = 4294967296 ^ f := by rw [Nat.pow_mul]
  refine ⟨?_, ?_, ⟨0, by simp⟩⟩
  · rw [val_drop h f, e, Nat.zero_mul, Nat.zero_add]; exact (Nat.div_add_mod _ _).symm
  · have h1 := gO (xs.drop f) (fun x hx => h x (List.mem_of_mem_drop hx))
    rw [List.length_drop] at h1
    have hl : (limbs Y).length ≠ 0 := fun c => hY (xH.1 c)
    have h2 : 4294967296 ^ ((limbs Y).length - 1) ≤ Y := Classical.byContradiction fun c => by
      have := yZ (Nat.lt_of_not_le c); omega
    exact Nat.lt_of_lt_of_le h1 (Nat.le_trans (Nat.pow_le_pow_right (by omega) (by omega)) h2)
theorem di_end {X Y V R : Nat} (h : DI X Y V R 0) : V = X / Y ∧ R = X % Y := by
  have hE := h.eq
  rw [Nat.pow_zero, Nat.one_mul, Nat.mod_one, Nat.add_zero] at hE
  have := (Nat.div_mod_unique (a := X) (b := Y) (c := R) (d := V) (by have := h.lt; omega)).2 ⟨by rw [Nat.mul_comm]; omega, h.lt⟩
  exact ⟨this.1.symm, this.2.symm⟩
theorem div3_c {v u : Value} {xs ys : List Nat} (h1 : IsNat M w v xs) (h2 : IsNat M w u ys) (hl1 : xs.length ≤ 100000) (hl2 : ys.length ≤ 100000) (hy0 : val ys ≠ 0) (hM : OkM M w) :
    CallsV prog 170 [v, u] w fun r w' => Below w.heap.size w w' ∧ ∃ q s, r = .tuple #[q, s, .int .i64 0] ∧ IsNat M w' q (limbs (val xs / val ys)) ∧ IsNat M w' s (limbs (val xs % val ys)) := by
 obtain ⟨Fz, hFz, hF, LL⟩ := fz0 M w
 have hyl := yI ys h2.lt
 have hxl := yI xs h1.lt
 have hylp : (limbs (val ys)).length ≠ 0 := fun c => hy0 (xH.1 c)
 have lenY2 : (limbs (2 * val ys)).length ≤ ys.length + 1 := yZ (by have := gO ys h2.lt; rw [Nat.pow_succ]; omega)
 have hM0 := hM
 refine zQ func170 rfl ntmps170 rfl ?_
 refine zF (zC (zD rfl rfl (zD rfl rfl (zD rfl rfl (zB (zF (zF (zC (zA rfl rfl (zI rfl aB rfl rfl ?_))))))))))
 refine (qA h2 (by omega) hM).mono ?_
 rintro v14 w1 ⟨hB14, hf14⟩
 have hM14 := hM
 have hS14 := LL.size
 obtain ⟨LL, hM, hF, h1, h2⟩ := ub5 hB14 LL hM hF h1 h2
 have hn14 := hf14.nat hM14
 first | refine yM rfl yu29 rfl hn14.slc ?_ | refine yQ rfl yu29 rfl ?_
 refine gI rfl rfl rfl (zB ?_)
 refine zX rfl (fun hp => absurd hp (by omega)) (fun hc0 => ?_)
 refine yH (zF (zC (zA rfl rfl ?_)))
 first | refine yM rfl yu29 rfl (IsNat.slc (by assumption)) ?_ | refine yQ rfl yu29 rfl ?_
 refine kH (xs.length) (xs.length) rfl yu29 yV rfl rfl rfl (by omega) (by omega) (by omega) (by omega) (by omega) (fun w2 b19 N19 => ?_)
 obtain ⟨_, nF19, nM19, Lw2, B19⟩ := nz hF hM N19
 obtain ⟨LL, hM, hF, h1, h2⟩ := up5 Lw2 LL hM hF h1 h2
 replace B19 : Blk w2 b19 107 ((List.replicate xs.length 0).map lw) := by simpa [lw] using B19
 refine zD rfl rfl (zB (zF (zC (zA rfl rfl ?_))))
 first | refine yM rfl yu29 rfl (IsNat.slc (by assumption)) ?_ | refine yQ rfl yu29 rfl ?_
 refine zA rfl rfl (zI rfl aB rfl rfl ?_)
 refine (qA h2 (by omega) hM).mono ?_
 rintro v23 w3 ⟨hB23, hf23⟩
 have hM23 := hM
 have hS23 := LL.size
 obtain ⟨LL, hM, hF, h1, h2, B19⟩ := ub6 hB23 LL hM hF h1 h2 B19
 have hn23 := hf23.nat hM23
 first | refine yM rfl yu29 rfl hn23.slc ?_ | refine yQ rfl yu29 rfl ?_
 refine jL rfl rfl rfl (by omega) (yR rfl rfl rfl (by omega) (qZ rfl rfl rfl (zD rfl rfl ?_)))
 obtain ⟨f, hf⟩ : ∃ f : Nat, f = xs.length + 1 - (limbs (val ys)).length := ⟨_, rfl⟩
 have hfi : max (0 : Int) (((xs.length : Nat) : Int) - ((limbs (val ys)).length : Nat) + 1) = (f : Int) := by omega
 rw [hfi]
 have hfl : f ≤ xs.length := by omega
 have hst := di_start (f := f) h1.lt (by omega) hy0
 refine zB (zF (zC (yP rfl yu29 yV rfl rfl rfl (by simp) rfl (fun w4 b28 N28 => ?_))))
 have nF28 := hF.new N28
 have nM28 := hM.new N28
 have hBw4 := N28.below
 have Lw4 := Le.of_new_mo (Fz := Fz) (M := (Ins b19 M)) (v := Value.slice (some ⟨b28, 0, none⟩) 0 0) N28 rfl
 obtain ⟨B19, ne19_28⟩ := bn B19 N28
 obtain ⟨LL, hM, hF, h1, h2⟩ := up5 Lw4 LL hM hF h1 h2
 have Of : ∀ k, (Value.slice (some ⟨b28, 0, none⟩) 0 0).ownBlock = some k → ¬ Fz k := jU nF28
 have Om : ∀ k, (Value.slice (some ⟨b28, 0, none⟩) 0 0).ownBlock = some k → ¬ (Ins b19 M) k := jU nM28
 have Ow := kT (n := 0) (c := 0) N28.blk rfl (Nat.le_refl _) (by omega)
 refine zA rfl rfl (zA rfl rfl (gH (M := (Mo (Value.slice (some ⟨b28, 0, none⟩) 0 0) (Ins b19 M))) f xs.length rfl yu29 yV rfl h1.slc ⟨_, rfl⟩ rfl trivial hfl (Nat.le_refl _) (fun v31 hv31 => ?_)))
 have hn31 : IsNat (Mo (Value.slice (some ⟨b28, 0, none⟩) 0 0) (Ins b19 M)) w4 v31 (xs.drop f) := by have := h1.sub (l := f) (m := xs.length) (Nat.le_refl _) hv31; rwa [List.take_of_length_le (by simp)] at this
 refine jX rfl yu29 yV rfl rfl rfl Ow hn31.slc (eA _) (by simp only [List.length_drop]; omega) (by simp only [List.length_drop]; omega) (fun v32 w5 A32 G32 S32 => ?_)
 have Lw5 := Le.of_grown (Fz := Fz) (M := (Ins b19 M)) G32 S32 A32 Of
 have Omo32 := Om
 replace Of := jP (w' := w5) Of hF S32
 replace Om := jO (w' := w5) Om (fun k hk => hM k (.inr hk)) S32
 replace B19 := B19.grown G32 (fun h => Omo32 _ h zS)
 obtain ⟨LL, hM, h1, h2, hn31⟩ := up5 Lw5 LL hM h1 h2 hn31
 clear Ow; have Ow := A32
 refine zI rfl aB rfl rfl ?_
 refine (qA (xs := xs.drop f) ⟨by simpa using qY Ow (fun k hk c => Om k hk c) (by simp only [List.length_drop, List.length_nil]; omega), hn31.lt⟩ (by simp only [List.length_drop]; omega) (fun k hk => hM k (.inr hk))).mono ?_
 rintro v33 w6 ⟨hB33, hf33⟩
 have hM33 : OkM (Ins b19 M) _ := fun k hk => hM k (.inr hk)
 obtain ⟨LL, hM, h1, h2, B19⟩ := ub5 hB33 LL hM h1 h2 B19
 replace Ow := xK Ow hB33
 have hn33 := hf33.nat hM33
 refine zD rfl rfl (zB (zF (zF (zC ?_))))
 have Lo := Le.mo_out (Fz := Fz) (v := v32) (M := (Ins b19 M)) (w := w6)
 obtain ⟨LL, hM, h1, h2⟩ := up4 Lo LL hM h1 h2
 clear Lo Ow Of Om
 refine zA rfl rfl (ops_mul rfl rfl rfl (by omega) (jL rfl rfl rfl (by omega) (zD rfl rfl (zB (yA ?_)))))
 refine xN (σ := Nat × Value × Nat × List Nat) [(0, _), (1, _), (7, _)] (fun s => [(9, s.2.1), (10, .int .i64 (((s.1 : Nat) : Int) - 1))]) (fun s w7 => Le Fz (Ins b19 M) w6 (Ins b19 M) w7 ∧ s.1 ≤ 32 * xs.length ∧ Blk w7 b19 107 (s.2.2.2.map lw) ∧ s.2.2.2.length = xs.length ∧ (∀ z ∈ s.2.2.2, z < 4294967296) ∧ IsNat (Ins b19 M) w7 s.2.1 (limbs s.2.2.1) ∧ DI (val xs) (val ys) (val s.2.2.2) s.2.2.1 s.1) (fun s => s.1) ((32 * f, v33, val (xs.drop f), List.replicate xs.length 0)) (zG rfl (zV rfl (by congr 1) (zG rfl (zG rfl (zG rfl yF))))) ?_ (fun s w7 hJ => ?_)
 · dsimp only
   exact ⟨Le.refl _ _ _, by omega, B19, by simp, by intro z hz; have := (List.mem_replicate.1 hz).2; omega, hn33, by rw [uX]; exact hst⟩
 ·obtain ⟨t, r9, s2, zs⟩ := s
  dsimp only at hJ ⊢
  obtain ⟨LR, ht, B19, hzl, hzlt, hr, hDI⟩ := hJ
  have hs2l := yN (Nat.le_of_lt hDI.lt)
  obtain ⟨LL, hM, h1, h2⟩ := up4 LR LL hM h1 h2
  refine zF (zF (zC (zA rfl rfl (gU rfl rfl rfl (zB ?_)))))
  refine zX rfl (fun hc1 => ?_) (fun hc1 => ?_)
  ·obtain ⟨i, rfl⟩ : ∃ i, t = i + 1 := ⟨t - 1, by omega⟩
   have hii : ((i + 1 : Nat) : Int) - 1 = (i : Int) := by omega
   simp only [hii]
   have hiz : (i : Int) / 32 = ((i / 32 : Nat) : Int) := by omega
   have hbit := bit_of h1.lt i
   have hbx := h1.lim (i / 32)
   have hki : i % 32 < 32 := Nat.mod_lt _ (by omega)
   obtain ⟨cv, hcv⟩ := hDI.dv
   have horb0 := or_bit hzlt hcv
   have hp2 : 2 ^ (i % 32) < 4294967296 := show 2 ^ (i % 32) < 2 ^ 32 from Nat.pow_lt_pow_right (by omega) hki
   have horb : zs.getD (i / 32) 0 ||| 1 * 2 ^ (i % 32) % 4294967296 = zs.getD (i / 32) 0 + 2 ^ (i % 32) := by rw [Nat.one_mul, Nat.mod_eq_of_lt hp2]; exact horb0
   have horlt : zs.getD (i / 32) 0 + 2 ^ (i % 32) < 4294967296 := by rw [← horb0]; exact or_lt32 (qF hzlt _) hki
   have hsb := set_bit (zs := zs) (i := i) (by omega)
   have hs1 := di_step hDI rfl 1
   have hs0 := di_step hDI rfl 0
   refine yH (zF (yA (zF (zC (zA rfl rfl (zI rfl bod187 rfl rfl ?_))))))
   refine (rup_c hr (by omega) hM).mono ?_
   rintro v42 w8 ⟨hB42, hf42⟩
   have hM42 := hM
   have hS42 := LL.size
   obtain ⟨LL, LR, hM, h1, h2, B19⟩ := ub6 hB42 LL LR hM h1 h2 B19
   rw [show kR 1 65536 = 1 by decide, zY, Nat.pow_one] at hf42
   have hn42 := hf42.nat hM42
   refine zD rfl rfl (zB (zF (zF (zC (zA rfl rfl (zA rfl rfl (uI rfl rfl rfl (by omega) (jW (i / 32) rfl yu29 yV rfl rfl h1 hiz (by omega) (fun b46 o46 hc46 hb46 => ?_)))))))))
   refine xM rfl jD rfl hc46 (zA rfl rfl (kU rfl rfl rfl (by omega) (xW (a := i % 32) rfl yu3 yu179 rfl (by omega) ?_)))
   refine jI (b := ((i % 32 : Nat) : Int)) rfl rfl rfl (by simp only [IntKind.bits]; omega) ?_
   simp only [Int.toNat_natCast]
   refine bH rfl rfl rfl (by simp only [IntKind.bits]; exact Nat.lt_of_le_of_lt (Nat.div_le_self _ _) hbx) (by simp only [IntKind.bits]; omega) (.inr rfl) (gI rfl rfl rfl (zB ?_))
   refine zX rfl (fun hc2 => ?_) (fun hc2 => ?_)
   ·have hb1 : val xs / 2 ^ i % 2 = 1 := by rw [← hbit]; have := hc2; rw [Nat.and_one_is_mod] at this; have := Nat.mod_two_eq_zero_or_one (xs.getD (i / 32) 0 / 2 ^ (i % 32)); grind
    refine zC (zA rfl rfl (yP rfl yu29 yV rfl rfl rfl (by simp [Value.oneCell', lw]) rfl (fun w9 b55 N55 => ?_)))
    have hBw9 := N55.below
    have nM55 := hM.new N55
    have B55 := N55.blk
    obtain ⟨LL, LR, hM, h2, hn42, B19⟩ := ub6 hBw9 LL LR hM h2 hn42 B19
    have hn55 : IsNat (Ins b19 M) w9 (.slice (some ⟨b55, 0, none⟩) 1 1) [1] := aI (xs := [1]) B55 nM55 rfl (by simp) (by simp)
    refine yP rfl yu255 xU rfl rfl rfl (eP (by first | rfl | exact yD (by assumption) | exact yG (by assumption) | assumption) (by first | rfl | exact yD (by assumption) | exact yG (by assumption) | assumption)) rfl (fun w10 b56 N56 => ?_)
    have hBw10 := N56.below
    have nM56 := hM.new N56
    have B56 := N56.blk
    obtain ⟨LL, LR, hM, h2, hn42, hn55, B19⟩ := ub7 hBw10 LL LR hM h2 hn42 hn55 B19
    have hn56 := cW B56 nM56 hn42 hn55
    refine zI rfl bod225 rfl rfl ?_
    refine (radd_c hn56 (by intro q hq; rcases List.mem_cons.1 hq with rfl | hq; have := yN (show s2 * 2 ≤ 2 * val ys by have := hDI.lt; omega); have := lenY2; omega; rcases List.mem_cons.1 hq with rfl | hq; simp; cases hq) (by simp) hM).mono ?_
    rintro v57 w11 ⟨hB57, hf57⟩
    have hM57 := hM
    have hS57 := LL.size
    obtain ⟨LR, hM, h2, B19⟩ := ub4 hB57 LR hM h2 B19
    simp only [List.map_cons, List.map_nil, List.sum_cons, List.sum_nil, Nat.add_zero, zY, show val [1] = 1 by decide] at hf57
    have hn57 := hf57.nat hM57
    refine zD rfl rfl (zB (zF (zC (zA rfl rfl (zA rfl rfl (zI rfl dP rfl rfl ?_))))))
    refine (dK (by assumption) h2 (by have := yN (show s2 * 2 + 1 ≤ 2 * val ys by have := hDI.lt; omega); have := yN (show s2 * 2 ≤ 2 * val ys by have := hDI.lt; omega); have := lenY2; omega) (by omega) hM).mono ?_
    rintro v61 w12 ⟨hB61, q61, rfl, hf61⟩
    have hMx := hM
    obtain ⟨LR, hn57, B19⟩ := ub3 hB61 LR hn57 B19
    rw [zY]
    rw [zY] at hf61
    have hn61 := hf61.nat hMx
    refine zA rfl rfl (zT rfl rfl rfl (zT rfl rfl rfl (zD rfl rfl (zD rfl rfl (zB (zF (zC (zA rfl rfl (gI rfl rfl rfl (zB ?_))))))))))
    refine zX rfl (fun hc3 => ?_) (fun hc3 => ?_)
    ·have hge : val ys ≤ s2 * 2 + 1 := by have h := hc3; split at h <;> omega
     refine zF (zC (zA rfl rfl (zD rfl rfl (zB (zC (zA rfl rfl (zA rfl rfl (uI rfl rfl rfl (by omega) (zA rfl rfl (zA rfl rfl (uI rfl rfl rfl (by omega) (qT (i / 32) rfl yu29 yV rfl rfl hiz (by omega) (xM rfl jD rfl (bL (ex := []) (by rw [List.append_nil]; exact B19) (by omega)) (zA rfl rfl ?_))))))))))))))
     refine kU rfl rfl rfl (by omega) (xW (a := i % 32) rfl yu3 yu179 rfl (by omega) ?_)
     refine qN (b := ((i % 32 : Nat) : Int)) (a := 1) (m := 4294967296) rfl rfl rfl (by simp only [IntKind.bits]; omega) rfl (.inr rfl) ?_
     simp only [Int.toNat_natCast]
     refine uJ rfl rfl rfl (by simp only [IntKind.bits]; exact Nat.lt_of_lt_of_eq (qF hzlt _) (by decide)) (by simp only [IntKind.bits]; exact Nat.lt_of_lt_of_eq (Nat.mod_lt _ (by omega)) (by decide)) (.inr rfl) (qT (i / 32) rfl yu29 yV rfl rfl hiz (by omega) (jM (i := i / 32) rfl rfl yV B19 rfl (by simp; omega) (fun w13 Cw13 Bw13 => ?_)))
     have Lw13 := Le.of_chg (M := (Ins b19 M)) Cw13 zS nF19
     obtain ⟨LR, hn61⟩ := up2 Lw13 LR hn61
     clear B19; have B19 := Bw13; clear Bw13; rw [show Value.int .u32 ((zs.getD (i / 32) 0 ||| 1 * 2 ^ (i % 32) % 4294967296 : Nat) : Int) = lw (zs.getD (i / 32) 0 + 2 ^ (i % 32)) from by rw [horb]; rfl, ← List.map_set] at B19
     refine zB (zC (zA rfl rfl (jL rfl rfl rfl (by omega) (zD rfl rfl (zB ?_)))))
     refine ⟨rfl, (i, q61, s2 * 2 + 1 - val ys, zs.set (i / 32) (zs.getD (i / 32) 0 + 2 ^ (i % 32))), (zV rfl (rfl) (zV rfl (rfl) (zG rfl (zG rfl (zG rfl yF))))), ?_, ?_⟩
     dsimp only
     have hR2 := yN (Nat.le_of_lt hDI.lt)
     exact ⟨LR, by omega, B19, by simp [hzl], kM hzlt horlt, hn61, by rw [hsb, Nat.mul_comm s2 2]; exact (hs1 hb1).1 (by omega)⟩
     dsimp only
     omega
    ·have hge : s2 * 2 + 1 < val ys := by have h := hc3; split at h <;> omega
     refine yH (zC (zA rfl rfl (jL rfl rfl rfl (by omega) (zD rfl rfl (zB ?_)))))
     refine ⟨rfl, (i, v57, s2 * 2 + 1, zs), (zV rfl (rfl) (zV rfl (rfl) (zG rfl (zG rfl (zG rfl yF))))), ?_, ?_⟩
     dsimp only
     have hR2 := yN (Nat.le_of_lt hDI.lt)
     exact ⟨LR, by omega, B19, by simp [hzl], hzlt, hn57, by rw [Nat.mul_comm s2 2]; exact (hs1 hb1).2 (by omega)⟩
     dsimp only
     omega
   ·have hb1 : val xs / 2 ^ i % 2 = 0 := by rw [← hbit]; have := hc2; rw [Nat.and_one_is_mod] at this; have := Nat.mod_two_eq_zero_or_one (xs.getD (i / 32) 0 / 2 ^ (i % 32)); grind
    refine yH (zF (zC (zA rfl rfl (zA rfl rfl (zI rfl dP rfl rfl ?_)))))
    refine (dK (by assumption) h2 (by have := yN (show s2 * 2 + 1 ≤ 2 * val ys by have := hDI.lt; omega); have := yN (show s2 * 2 ≤ 2 * val ys by have := hDI.lt; omega); have := lenY2; omega) (by omega) hM).mono ?_
    rintro v61 w14 ⟨hB61, q61, rfl, hf61⟩
    have hMx := hM
    obtain ⟨LR, hn42, B19⟩ := ub3 hB61 LR hn42 B19
    rw [zY]
    rw [zY] at hf61
    have hn61 := hf61.nat hMx
    refine zA rfl rfl (zT rfl rfl rfl (zT rfl rfl rfl (zD rfl rfl (zD rfl rfl (zB (zF (zC (zA rfl rfl (gI rfl rfl rfl (zB ?_))))))))))
    refine zX rfl (fun hc4 => ?_) (fun hc4 => ?_)
    ·have hge : val ys ≤ s2 * 2 := by have h := hc4; split at h <;> omega
     refine zF (zC (zA rfl rfl (zD rfl rfl (zB (zC (zA rfl rfl (zA rfl rfl (uI rfl rfl rfl (by omega) (zA rfl rfl (zA rfl rfl (uI rfl rfl rfl (by omega) (qT (i / 32) rfl yu29 yV rfl rfl hiz (by omega) (xM rfl jD rfl (bL (ex := []) (by rw [List.append_nil]; exact B19) (by omega)) (zA rfl rfl ?_))))))))))))))
     refine kU rfl rfl rfl (by omega) (xW (a := i % 32) rfl yu3 yu179 rfl (by omega) ?_)
     refine qN (b := ((i % 32 : Nat) : Int)) (a := 1) (m := 4294967296) rfl rfl rfl (by simp only [IntKind.bits]; omega) rfl (.inr rfl) ?_
     simp only [Int.toNat_natCast]
     refine uJ rfl rfl rfl (by simp only [IntKind.bits]; exact Nat.lt_of_lt_of_eq (qF hzlt _) (by decide)) (by simp only [IntKind.bits]; exact Nat.lt_of_lt_of_eq (Nat.mod_lt _ (by omega)) (by decide)) (.inr rfl) (qT (i / 32) rfl yu29 yV rfl rfl hiz (by omega) (jM (i := i / 32) rfl rfl yV B19 rfl (by simp; omega) (fun w15 Cw15 Bw15 => ?_)))
     have Lw15 := Le.of_chg (M := (Ins b19 M)) Cw15 zS nF19
     obtain ⟨LR, hn61⟩ := up2 Lw15 LR hn61
     clear B19; have B19 := Bw15; clear Bw15; rw [show Value.int .u32 ((zs.getD (i / 32) 0 ||| 1 * 2 ^ (i % 32) % 4294967296 : Nat) : Int) = lw (zs.getD (i / 32) 0 + 2 ^ (i % 32)) from by rw [horb]; rfl, ← List.map_set] at B19
     refine zB (zC (zA rfl rfl (jL rfl rfl rfl (by omega) (zD rfl rfl (zB ?_)))))
     refine ⟨rfl, (i, q61, s2 * 2 - val ys, zs.set (i / 32) (zs.getD (i / 32) 0 + 2 ^ (i % 32))), (zV rfl (rfl) (zV rfl (rfl) (zG rfl (zG rfl (zG rfl yF))))), ?_, ?_⟩
     dsimp only
     have hR2 := yN (Nat.le_of_lt hDI.lt)
     exact ⟨LR, by omega, B19, by simp [hzl], kM hzlt horlt, hn61, by rw [hsb, Nat.mul_comm s2 2]; exact (hs0 hb1).1 (by omega)⟩
     dsimp only
     omega
    ·have hge : s2 * 2 < val ys := by have h := hc4; split at h <;> omega
     refine yH (zC (zA rfl rfl (jL rfl rfl rfl (by omega) (zD rfl rfl (zB ?_)))))
     refine ⟨rfl, (i, v42, s2 * 2, zs), (zV rfl (rfl) (zV rfl (rfl) (zG rfl (zG rfl (zG rfl yF))))), ?_, ?_⟩
     dsimp only
     have hR2 := yN (Nat.le_of_lt hDI.lt)
     exact ⟨LR, by omega, B19, by simp [hzl], hzlt, hn42, by rw [Nat.mul_comm s2 2]; exact (hs0 hb1).2 (by omega)⟩
     dsimp only
     omega
  ·refine xF (xG (zF (zC (zA rfl rfl (zI rfl aB rfl rfl ?_)))))
   have hq : IsNat (fun _ => False) w7 (.slice (some ⟨b19, 0, none⟩) xs.length xs.length) zs := by have := aI (M := fun _ => False) (xs := zs) B19 (fun c => c) rfl (by omega) hzlt; rw [hzl] at this; exact this
   have hMq := hM
   refine (qA (xs := zs) hq (by omega) (fun _ c => c.elim)).mono ?_
   rintro v82 w16 ⟨hB82, hf82⟩
   obtain ⟨LL, hM, hr⟩ := ub3 hB82 LL hM hr
   have hn82 := hf82.nat hMq
   refine zA rfl rfl (zI rfl aB rfl rfl ?_)
   refine (qA hr (by omega) hM).mono ?_
   rintro v84 w17 ⟨hB84, hf84⟩
   have hM84 := hM
   have hS84 := LL.size
   obtain ⟨LL, hn82⟩ := ub2 hB84 LL hn82
   have hn84 := hf84.nat hM84
   refine zD rfl rfl (zD rfl rfl (zD rfl rfl (zB (zZ ?_))))
   refine zN ⟨[_, _, _], ⟨rfl, rfl, rfl, trivial⟩, ?_⟩
   dsimp only [zW]
   have ht0 : t = 0 := by omega
   subst ht0
   obtain ⟨e1, e2⟩ := di_end hDI
   rw [e1] at hn82; rw [zY, e2] at hn84
   subst hFz
   exact ⟨LL.below (Nat.le_refl _), _, _, rfl, hn82.less fun k c => zO c, hn84.less fun k c => zO c⟩
end Go.Proofs.YtfkejnlohkgbgaaGreatDoor
set_option maxRecDepth 100000
namespace Go.Proofs.YtfkejnlohkgbgaaGreatDoor
open Go.SL Go.RowKit Go.Proofs Tryz
variable {M : Nat → Prop} {w : World}
theorem rc_mk {n m : Nat} {q : Rat} {s : Bool} {a d : Value} (h : ZC M w n q.num s a) (hd : IsNat M w d (limbs q.den)) (hl : (limbs q.den).length ≤ m) : RC M w (max n m) q s a d :=
  ⟨h.sgn, h.num, hd, ⟨Nat.le_trans h.len (by omega), Nat.le_trans hl (by omega)⟩⟩
theorem RC.relen {n m : Nat} {q : Rat} {s : Bool} {a d : Value} (h : RC M w n q s a d) (hl : aY q m) : RC M w m q s a d := ⟨h.sgn, h.num, h.den, hl⟩
theorem one_den (n : Nat) : (limbs ((n : Nat) : Rat).den) = [1] := by rw [show ((n : Nat) : Rat).den = 1 from rfl, uL]
theorem num_eq {z : Int} {k : Nat} (hk : k ≠ 0) : zv (decide (z < 0)) (limbs (z.natAbs / Nat.gcd z.natAbs k)) = (mkRat z k).num := by
  have h := cJ (z := z) hk
  rw [← h.1, ← h.2.1]; exact gY _
theorem small_mk {z : Int} {k : Nat} (hk : k ≠ 0) : (limbs (z.natAbs / Nat.gcd z.natAbs k)).length ≤ (limbs z.natAbs).length ∧ (limbs (k / Nat.gcd z.natAbs k)).length ≤ (limbs k).length := ⟨yN (Nat.div_le_self _ _), yN (Nat.div_le_self _ _)⟩
theorem bM {k : Nat} (hk : k < 9223372036854775808) (hM : OkM M w) :
    CallsV prog 21 [.int .i64 ((k : Nat) : Int)] w fun r w' => Below w.heap.size w w' ∧ ∃ xsr xar xdr, r = .agg #[.bool xsr, xar, xdr] ∧ RC M w' (2) (((k : Nat) : Rat)) xsr xar xdr := by
 obtain ⟨Fz, hFz, hF, LL⟩ := fz0 M w
 have hM0 := hM
 refine zQ func21 rfl ntmps21 rfl ?_
 refine zF (zC (yU rfl yY (fun w1 b2 N2 => ?_)))
 obtain ⟨_, nF2, nM2, Lw1, B2⟩ := nza hF hM N2
 obtain ⟨LL, hM⟩ := up2 Lw1 LL hM
 refine zB (zF (zC (zA rfl rfl (zI rfl bod79 rfl rfl ?_))))
 refine (i5of_c (k := k)  (by omega) hM).mono ?_
 rintro v4 w2 ⟨hB4, xs4, xa4, rfl, hn4⟩
 obtain ⟨LL, hM, B2⟩ := ub3 hB4 LL hM B2
 obtain ⟨oxa4, _⟩ := hn4.one
 refine yP rfl yu29 yV rfl rfl rfl (by simp [Value.oneCell', lw]) rfl (fun w3 b5 N5 => ?_)
 have hBw3 := N5.below
 have nM5 := hM.new N5
 have B5 := N5.blk
 obtain ⟨LL, hn4, B2⟩ := ub3 hBw3 LL hn4 B2
 have hn5 : IsNat (Ins b2 M) w3 (.slice (some ⟨b5, 0, none⟩) 1 1) [1] := aI (xs := [1]) B5 nM5 rfl (by simp) (by simp)
 refine jF rfl cR rfl rfl (yO (rfl) (yO (gF (by first | rfl | assumption)) xS)) rfl (yK rfl rfl yY B2 rfl rfl (xC rfl (xC (by first | rfl | assumption) (xC (by first | rfl | assumption) gD))) rfl (fun w4 Cw4 B2 => ?_))
 have Lw4 := Le.of_chg (M := (Ins b2 M)) Cw4 zS nF2
 obtain ⟨LL, hn4, hn5⟩ := up3 Lw4 LL hn4 hn5
 refine zB (zZ ?_)
 refine zN ⟨[_], ⟨⟨_, rfl, xI xE yY B2 rfl rfl⟩, trivial⟩, ?_⟩
 dsimp only [zW]
 subst hFz
 exact ⟨LL.below (Nat.le_refl _), _, _, _, rfl, (((RC.up (rc_mk (q := ((k : Nat) : Rat)) hn4 (m := 2) (by rw [one_den]; exact hn5) (by rw [one_den]; simp)) (m := 2) (by omega))).less (fun k c => zO c)).up (by omega)⟩
theorem r7new_c {z : Int} {n0 : Nat} {xs0 : Bool} {xa0 : Value} {k : Nat} {n1 : Nat} {xa1 : Value} (h0 : ZQ M w n0 z xs0 xa0) (h1 : NQ M w n1 k xa1) (hl0 : n0 ≤ 2000) (hl1 : n1 ≤ 2000) (hM : OkM M w) :
    CallsV prog 107 [.agg #[.bool xs0, xa0], xa1] w fun r w' => Below w.heap.size w w' ∧ ∃ xsr xar xdr, r = .tuple #[.agg #[.bool xsr, xar, xdr], .int .i64 (if k = 0 then 30 else 0)] ∧ RC M w' (max n0 n1 + 2) (mkRat z k) xsr xar xdr := by
 obtain ⟨Fz, hFz, hF, LL⟩ := fz0 M w
 obtain ⟨oxa0, _⟩ := h0.one
 obtain ⟨oxa1, _⟩ := h1.one
 obtain ⟨ds, hd, hdl, hdk⟩ := h1.ex
 have hdk2 := yI ds hd.lt
 rw [hdk] at hdk2
 have hM0 := hM
 refine zQ func107 rfl ntmps107 rfl ?_
 refine zF (zC (xL rfl rfl (fun w1 b2 N2 => ?_)))
 obtain ⟨_, nF2, nM2, Lw1, B2⟩ := nza hF hM N2
 obtain ⟨LL, hM, hF, h0, hd⟩ := up5 Lw1 LL hM hF h0 hd
 refine yU rfl yY (fun w2 b4 N4 => ?_)
 obtain ⟨hBw2, nF4, nM4, Lw2, B4⟩ := nza hF hM N4
 obtain ⟨B2, ne2_4⟩ := bn B2 N4
 obtain ⟨LL, hM, h0, hd⟩ := up4 Lw2 LL hM h0 hd
 refine zD rfl rfl (zB (zF (zF (zC (zA rfl rfl (zI rfl aB rfl rfl ?_))))))
 refine (qA hd (by omega) hM).mono ?_
 rintro v19 w3 ⟨hB19, hf19⟩
 have hM19 := hM
 have hS19 := LL.size
 obtain ⟨LL, hM, h0, hd, B2, B4⟩ := ub6 hB19 LL hM h0 hd B2 B4
 have hn19 := hf19.nat hM19
 first | refine yM rfl yu29 rfl hn19.slc ?_ | refine yQ rfl yu29 rfl ?_
 refine gI rfl rfl rfl (zB ?_)
 refine zX rfl (fun hc0 => ?_) (fun hc0 => ?_)
 ·have hk0 : k = 0 := by rw [← hdk]; exact xH.1 (by omega)
  have hif : (if k = 0 then (30 : Int) else 0) = 30 := if_pos hk0
  have hmk : mkRat z k = ((0 : Nat) : Rat) := by rw [hk0, Rat.mkRat_zero]; rfl
  refine zF (zC (zI rfl dD rfl rfl ?_))
  refine (bM (k := 0)  (by omega) hM).mono ?_
  rintro v22 w4 ⟨hB22, xs22, xa22, xd22, rfl, hn22⟩
  obtain ⟨LL, B4⟩ := ub2 hB22 LL B4
  obtain ⟨oxa22, oxd22, _⟩ := hn22.one
  refine yK rfl rfl yY B4 rfl rfl (xC rfl (xC (by first | rfl | exact yD (by assumption) | exact yG (by assumption) | assumption) (xC (by first | rfl | exact yD (by assumption) | exact yG (by assumption) | assumption) gD))) rfl (fun w5 Cw5 B4 => ?_)
  have Lw5 := Le.of_chg (M := (Ins b4 (Ins b2 M))) Cw5 zS nF4
  obtain ⟨LL, hn22⟩ := up2 Lw5 LL hn22
  refine zD rfl rfl (zB (zZ ?_))
  refine zN ⟨[_, _], ⟨⟨_, rfl, xI xE yY B4 rfl rfl⟩, rfl, trivial⟩, ?_⟩
  dsimp only [zW]
  rw [hif, hmk]
  subst hFz
  exact ⟨LL.below (Nat.le_refl _), _, _, _, rfl, (hn22.less (fun k c => zO (zO c))).up (by omega)⟩
 ·have hk0 : k ≠ 0 := fun c => hc0 (by rw [← hdk] at c; rw [c, xJ]; rfl)
  have hif : (if k = 0 then (30 : Int) else 0) = 0 := if_neg hk0
  have hmt := cJ (z := z) hk0
  have hsm := small_mk (z := z) hk0
  have hg0 : Nat.gcd z.natAbs k ≠ 0 := fun c => hk0 (Nat.eq_zero_of_gcd_eq_zero_right c)
  have hgl := yN (Nat.gcd_le_right z.natAbs (Nat.pos_of_ne_zero hk0))
  refine yH (zF (zC (yE rfl xV yX rfl B2 rfl rfl (zI rfl aF rfl rfl ?_))))
  refine (qQ h0 (by omega) hM).mono ?_
  rintro v24 w6 ⟨hB24, xs24, xa24, rfl, hn24⟩
  obtain ⟨LL, hM, h0, hd, B2, B4⟩ := ub6 hB24 LL hM h0 hd B2 B4
  obtain ⟨oxa24, _⟩ := hn24.one
  refine yK rfl rfl yX B2 rfl rfl (xC rfl (xC (by first | rfl | exact yD (by assumption) | exact yG (by assumption) | assumption) gD)) rfl (fun w7 Cw7 B2 => ?_)
  have Lw7 := Le.of_chg (M := (Ins b4 (Ins b2 M))) Cw7 (.inr zS) nF2
  obtain ⟨LL, hM, h0, hd, hn24⟩ := up5 Lw7 LL hM h0 hd hn24
  replace B4 := B4.other Cw7 ne2_4.symm
  refine zB (zF (zC (zL 1 rfl yu31 rfl rfl xU rfl rfl (zR rfl yS rfl B2 rfl (zI rfl bod167 rfl rfl ?_)))))
  refine (rsmall_c hn24.num (by have := hn24.len; omega) hM).mono ?_
  rintro v28 w8 ⟨hB28, rfl⟩
  obtain ⟨LL, hM, h0, hd, hn24, B2, B4⟩ := ub7 hB28 LL hM h0 hd hn24 B2 B4
  simp only [zY]
  refine zA rfl rfl (zT rfl rfl rfl (zT rfl rfl rfl (zD rfl rfl (zD rfl rfl (zB (zF (zC (zA rfl rfl (zI rfl bod167 rfl rfl ?_)))))))))
  refine (rsmall_c hd (by omega) hM).mono ?_
  rintro v33 w9 ⟨hB33, rfl⟩
  obtain ⟨LL, hM, h0, hd, hn24, B2, B4⟩ := ub7 hB33 LL hM h0 hd hn24 B2 B4
  simp only [hdk]
  refine zA rfl rfl (zT rfl rfl rfl (zT rfl rfl rfl (zD rfl rfl (zD rfl rfl (zB (zF (zF (zC (zA rfl rfl (zA rfl rfl (gZ (d := 37) rfl (fun hg6_1 => ?_) (fun hg6_1 => ?_))))))))))))
  ·refine zM rfl rfl (zA rfl rfl (xA rfl rfl rfl (zB ?_)))
   refine zX rfl (fun hc1 => ?_) (fun hc1 => ?_)
   ·have ea : kL z.natAbs = z.natAbs := if_pos hg6_1
    have ek : kL k = k := if_pos hc1
    rw [ea, ek]
    refine zF (zC (zA rfl rfl (zA rfl rfl (zI rfl bod168 rfl rfl ?_))))
    refine (plain7_c (a := z.natAbs) (b := k) hg6_1 hc1 hM).mono ?_
    rintro v42 w10 ⟨hB42, rfl⟩
    obtain ⟨LL, hM, h0, hn24, B2, B4⟩ := ub6 hB42 LL hM h0 hn24 B2 B4
    refine zD rfl rfl (zB (zF ?_))
    refine xQ (R := Rb) (R' := Rb) (st := none) jR 11 [1, 2, 4, 5, 50, 53] (by decide +kernel) xO xY (xX _) (fun _ _ _ h => by cases h) ?_
    refine zK (fun _ _ _ => zJ rfl rfl (zE (zL 0 rfl yu31 rfl rfl sz4 rfl rfl (on0 rfl)))) ?_
    refine zK (fun _ hR _ => zH rfl (zE (zR rfl qR rfl (B2.below hR) rfl (on0 rfl)))) ?_
    refine zK (fun _ _ _ => zJ rfl rfl (zE (zA rfl rfl (on0 rfl)))) ?_
    refine zK (fun _ _ _ => zJ rfl rfl (zE (zA rfl rfl (on0 rfl)))) ?_
    apply zK
    ·intro wq hR hst
     refine zH rfl (zH rfl (zE ?_))
     exact ops_quou rfl rfl rfl (by omega) (by omega) (on0 rfl)
    refine zP (fun v w => IsNat (Ins b4 (Ins b2 M)) w v (limbs (z.natAbs / Nat.gcd z.natAbs k))) xP (fun wq hR hst => ?_) ?_
    ·refine zH rfl (zE ?_)
     obtain ⟨LL, hM⟩ := ub2 hR LL hM
     refine zI rfl bod148 rfl rfl ?_
     refine (rof_c (n := z.natAbs / Nat.gcd z.natAbs k) (Nat.lt_of_le_of_lt (Nat.div_le_self _ _) hg6_1) hM).mono ?_
     rintro v48 w11 ⟨hB48, hf48⟩
     have hM48 := hM
     have hS48 := LL.size
     have hn48 := hf48.nat hM48
     exact zB ⟨rfl, hB48, _, rfl, hn48⟩
    refine zP (vZQ (Ins b4 (Ins b2 M)) (n0) ((mkRat z k).num)) eQ (fun wq hR hst => ?_) ?_
    ·refine zH rfl (yC rfl (fun v48 hp48 => ?_))
     have hn48 := hp48
     refine zE ?_
     replace hn24 := ub1 hR hn24
     exact jF rfl kG rfl rfl (yO (gF rfl) (yO (gF (by first | rfl | exact yD (by assumption) | exact yG (by assumption) | assumption)) xS)) rfl (zB ⟨rfl, yB _, _, rfl, ⟨_, _, rfl, (ZQ.mk ⟨_, hn48, Nat.le_trans hsm.1 hn24.len, by rw [hn24.sgn]; exact num_eq hk0⟩)⟩⟩)
    refine zP (vZC (Ins b4 (Ins b2 M)) (n0) (((mkRat z k).num))) eR (fun wq hR hst => ?_) ?_
    ·refine yC rfl (fun v49 hp49 => ?_)
     obtain ⟨xs49, xa49, rfl, hn49⟩ := hp49
     refine zE ?_
     replace hM := ub1 hR hM
     refine zI rfl aF rfl rfl ?_
     refine (qQ hn49 (by omega) hM).mono ?_
     rintro v50 w12 ⟨hB50, xs50, xa50, rfl, hn50⟩
     exact zB ⟨rfl, hB50, _, rfl, ⟨_, _, rfl, hn50⟩⟩
    refine zK (fun _ _ _ => zJ rfl rfl (zE (zA rfl rfl (on0 rfl)))) ?_
    refine zK (fun _ _ _ => zJ rfl rfl (zE (zA rfl rfl (on0 rfl)))) ?_
    apply zK
    ·intro wq hR hst
     refine zH rfl (zH rfl (zE ?_))
     exact ops_quou rfl rfl rfl (by omega) (by omega) (on0 rfl)
    refine xR (fun wq8 hR8 hpost8 => ?_)
    refine zJ rfl rfl (zJ rfl rfl (zJ rfl rfl (zJ rfl rfl (yC rfl (fun v50 hp50 => ?_)))))
    obtain ⟨xs50, xa50, rfl, hn50⟩ := hp50; obtain ⟨oxa50, _⟩ := hn50.one
    refine zH rfl (zE ?_)
    simp only [List.drop_succ_cons, List.drop_zero, List.drop_nil, List.toList_toArray]
    obtain ⟨LL, hM, B4⟩ := ub3 hR8 LL hM B4
    refine zI rfl bod148 rfl rfl ?_
    refine (rof_c (n := k / Nat.gcd z.natAbs k) (Nat.lt_of_le_of_lt (Nat.div_le_self _ _) hc1) hM).mono ?_
    rintro v54 w13 ⟨hB54, hf54⟩
    have hM54 := hM
    have hS54 := LL.size
    obtain ⟨LL, hn50, B4⟩ := ub3 hB54 LL hn50 B4
    have hn54 := hf54.nat hM54
    refine jF rfl cR rfl rfl (yO (rfl) (yO (gF (by first | rfl | exact yD (by assumption) | exact yG (by assumption) | assumption)) xS)) rfl (yK rfl rfl yY B4 rfl rfl (xC rfl (xC (by first | rfl | exact yD (by assumption) | exact yG (by assumption) | assumption) (xC (by first | rfl | exact yD (by assumption) | exact yG (by assumption) | assumption) gD))) rfl (fun w14 Cw14 B4 => ?_))
    have Lw14 := Le.of_chg (M := (Ins b4 (Ins b2 M))) Cw14 zS nF4
    obtain ⟨LL, hn50, hn54⟩ := up3 Lw14 LL hn50 hn54
    refine zD rfl rfl (zB (zZ ?_))
    refine zN ⟨[_, _], ⟨⟨_, rfl, xI xE yY B4 rfl rfl⟩, rfl, trivial⟩, ?_⟩
    dsimp only [zW]
    rw [hif]
    subst hFz
    exact ⟨LL.below (Nat.le_refl _), _, _, _, rfl, (((RC.mk hn50.sgn hn50.num (by rw [hmt.2.2]; exact hn54) ⟨Nat.le_trans hn50.len (by omega), by rw [hmt.2.2]; omega⟩ : RC _ _ (max n0 n1 + 1) (mkRat z k) _ _ _)).less (fun k c => zO (zO c))).up (by omega)⟩
   ·refine yH (zF (zC (zL 1 rfl yu31 rfl rfl xU rfl rfl (zR rfl yS rfl B2 rfl (zA rfl rfl (zI rfl bod169 rfl rfl ?_))))))
    refine (gcd4_c hn24.num hd (by have := hn24.len; omega) (by omega) hM).mono ?_
    rintro v59 w15 ⟨hB59, hn59⟩
    obtain ⟨LL, hM, hd, hn24, B2, B4⟩ := ub6 hB59 LL hM hd hn24 B2 B4
    rw [zY, hdk] at hn59
    refine zD rfl rfl (zB (zF (zC (zL 1 rfl yu31 rfl rfl xU rfl rfl (zR rfl yS rfl B2 rfl (zA rfl rfl (zI rfl bod170 rfl rfl ?_)))))))
    refine (div3_c hn24.num hn59 (by have := hn24.len; omega) (by omega) (by rw [zY]; exact hg0) hM).mono ?_
    rintro v64 w16 ⟨hB64, q64, s64, rfl, hn64, hm64⟩
    obtain ⟨LL, hM, hd, hn24, hn59, B2, B4⟩ := ub7 hB64 LL hM hd hn24 hn59 B2 B4
    simp only [zY] at hn64
    refine zA rfl rfl (zT rfl rfl rfl (zT rfl rfl rfl (zT rfl rfl rfl (zD rfl rfl (zD rfl rfl (zD rfl rfl (zB (zF (zC (zA rfl rfl (zA rfl rfl (zI rfl bod170 rfl rfl ?_))))))))))))
    refine (div3_c hd hn59 (by omega) (by omega) (by rw [zY]; exact hg0) hM).mono ?_
    rintro v71 w17 ⟨hB71, q71, s71, rfl, hn71, hm71⟩
    obtain ⟨LL, hM, hn24, hn64, B2, B4⟩ := ub6 hB71 LL hM hn24 hn64 B2 B4
    simp only [zY, hdk] at hn71
    refine zA rfl rfl (zT rfl rfl rfl (zT rfl rfl rfl (zT rfl rfl rfl (zD rfl rfl (zD rfl rfl (zD rfl rfl (zB (zF (zC (zL 0 rfl yu31 rfl rfl sz4 rfl rfl (zR rfl qR rfl B2 rfl (zA rfl rfl (jF rfl kG rfl rfl (yO (gF rfl) (yO (gF (by first | rfl | exact yD (by assumption) | exact yG (by assumption) | assumption)) xS)) rfl (zI rfl aF rfl rfl ?_))))))))))))))
    refine (qQ ((ZQ.mk ⟨_, hn64, Nat.le_trans hsm.1 hn24.len, by rw [hn24.sgn]; exact num_eq hk0⟩ : ZQ _ _ n0 (mkRat z k).num _ _)) (by omega) hM).mono ?_
    rintro v79 w18 ⟨hB79, xs79, xa79, rfl, hn79⟩
    obtain ⟨LL, hn71, B4⟩ := ub3 hB79 LL hn71 B4
    obtain ⟨oxa79, _⟩ := hn79.one
    refine zA rfl rfl (jF rfl cR rfl rfl (yO (rfl) (yO (gF (by first | rfl | exact yD (by assumption) | exact yG (by assumption) | assumption)) xS)) rfl (yK rfl rfl yY B4 rfl rfl (xC rfl (xC (by first | rfl | exact yD (by assumption) | exact yG (by assumption) | assumption) (xC (by first | rfl | exact yD (by assumption) | exact yG (by assumption) | assumption) gD))) rfl (fun w19 Cw19 B4 => ?_)))
    have Lw19 := Le.of_chg (M := (Ins b4 (Ins b2 M))) Cw19 zS nF4
    obtain ⟨LL, hn71, hn79⟩ := up3 Lw19 LL hn71 hn79
    refine zD rfl rfl (zB (zZ ?_))
    refine zN ⟨[_, _], ⟨⟨_, rfl, xI xE yY B4 rfl rfl⟩, rfl, trivial⟩, ?_⟩
    dsimp only [zW]
    rw [hif]
    subst hFz
    exact ⟨LL.below (Nat.le_refl _), _, _, _, rfl, (((RC.mk hn79.sgn hn79.num (by rw [hmt.2.2]; exact hn71) ⟨Nat.le_trans hn79.len (by omega), by rw [hmt.2.2]; omega⟩ : RC _ _ (max n0 n1 + 1) (mkRat z k) _ _ _)).less (fun k c => zO (zO c))).up (by omega)⟩
  ·refine zU rfl rfl rfl rfl (xA rfl rfl rfl (zB (gQ rfl (yH (zF (zC (zL 1 rfl yu31 rfl rfl xU rfl rfl (zR rfl yS rfl B2 rfl (zA rfl rfl (zI rfl bod169 rfl rfl ?_))))))))))
   refine (gcd4_c hn24.num hd (by have := hn24.len; omega) (by omega) hM).mono ?_
   rintro v59 w20 ⟨hB59, hn59⟩
   obtain ⟨LL, hM, hd, hn24, B2, B4⟩ := ub6 hB59 LL hM hd hn24 B2 B4
   rw [zY, hdk] at hn59
   refine zD rfl rfl (zB (zF (zC (zL 1 rfl yu31 rfl rfl xU rfl rfl (zR rfl yS rfl B2 rfl (zA rfl rfl (zI rfl bod170 rfl rfl ?_)))))))
   refine (div3_c hn24.num hn59 (by have := hn24.len; omega) (by omega) (by rw [zY]; exact hg0) hM).mono ?_
   rintro v64 w21 ⟨hB64, q64, s64, rfl, hn64, hm64⟩
   obtain ⟨LL, hM, hd, hn24, hn59, B2, B4⟩ := ub7 hB64 LL hM hd hn24 hn59 B2 B4
   simp only [zY] at hn64
   refine zA rfl rfl (zT rfl rfl rfl (zT rfl rfl rfl (zT rfl rfl rfl (zD rfl rfl (zD rfl rfl (zD rfl rfl (zB (zF (zC (zA rfl rfl (zA rfl rfl (zI rfl bod170 rfl rfl ?_))))))))))))
   refine (div3_c hd hn59 (by omega) (by omega) (by rw [zY]; exact hg0) hM).mono ?_
   rintro v71 w22 ⟨hB71, q71, s71, rfl, hn71, hm71⟩
   obtain ⟨LL, hM, hn24, hn64, B2, B4⟩ := ub6 hB71 LL hM hn24 hn64 B2 B4
   simp only [zY, hdk] at hn71
   refine zA rfl rfl (zT rfl rfl rfl (zT rfl rfl rfl (zT rfl rfl rfl (zD rfl rfl (zD rfl rfl (zD rfl rfl (zB (zF (zC (zL 0 rfl yu31 rfl rfl sz4 rfl rfl (zR rfl qR rfl B2 rfl (zA rfl rfl (jF rfl kG rfl rfl (yO (gF rfl) (yO (gF (by first | rfl | exact yD (by assumption) | exact yG (by assumption) | assumption)) xS)) rfl (zI rfl aF rfl rfl ?_))))))))))))))
   refine (qQ ((ZQ.mk ⟨_, hn64, Nat.le_trans hsm.1 hn24.len, by rw [hn24.sgn]; exact num_eq hk0⟩ : ZQ _ _ n0 (mkRat z k).num _ _)) (by omega) hM).mono ?_
   rintro v79 w23 ⟨hB79, xs79, xa79, rfl, hn79⟩
   obtain ⟨LL, hn71, B4⟩ := ub3 hB79 LL hn71 B4
   obtain ⟨oxa79, _⟩ := hn79.one
   refine zA rfl rfl (jF rfl cR rfl rfl (yO (rfl) (yO (gF (by first | rfl | exact yD (by assumption) | exact yG (by assumption) | assumption)) xS)) rfl (yK rfl rfl yY B4 rfl rfl (xC rfl (xC (by first | rfl | exact yD (by assumption) | exact yG (by assumption) | assumption) (xC (by first | rfl | exact yD (by assumption) | exact yG (by assumption) | assumption) gD))) rfl (fun w24 Cw24 B4 => ?_)))
   have Lw24 := Le.of_chg (M := (Ins b4 (Ins b2 M))) Cw24 zS nF4
   obtain ⟨LL, hn71, hn79⟩ := up3 Lw24 LL hn71 hn79
   refine zD rfl rfl (zB (zZ ?_))
   refine zN ⟨[_, _], ⟨⟨_, rfl, xI xE yY B4 rfl rfl⟩, rfl, trivial⟩, ?_⟩
   dsimp only [zW]
   rw [hif]
   subst hFz
   exact ⟨LL.below (Nat.le_refl _), _, _, _, rfl, (((RC.mk hn79.sgn hn79.num (by rw [hmt.2.2]; exact hn71) ⟨Nat.le_trans hn79.len (by omega), by rw [hmt.2.2]; omega⟩ : RC _ _ (max n0 n1 + 1) (mkRat z k) _ _ _)).less (fun k c => zO (zO c))).up (by omega)⟩
theorem ZQ.of_nat {n k : Nat} {a : Value} (h : NQ M w n k a) : ZQ M w n ((k : Nat) : Int) false a := by
  obtain ⟨xs, h1, h2, h3⟩ := h.ex
  exact ⟨xs, h1, h2, by rw [← h3]; rfl⟩
theorem nmul_q {n m k l : Nat} {a b : Value} (h1 : NQ M w n k a) (h2 : NQ M w m l b) (hn : n ≤ 1000000) (hm : m ≤ 1000000) (hM : OkM M w) :
    CallsV prog 108 [a, b] w fun r w' => Below w.heap.size w w' ∧ ∃ x, r = x ∧ NC M w' (n + m) (k * l) x := by
  obtain ⟨xs, i1, i2, rfl⟩ := h1.ex; obtain ⟨ys, j1, j2, rfl⟩ := h2.ex
  exact (rmul_c i1 j1 (by omega) (by omega) hM).mono fun r w' ⟨hB, hf⟩ => ⟨hB, r, rfl, hf.nat hM, yZ (by
    have a1 := xZ i1.lt i2
    have a2 := xZ j1.lt j2; exact gV a1 a2)⟩
theorem over7_c {k : Nat} {n0 : Nat} {xa0 : Value} (h0 : NQ M w n0 k xa0) (hl0 : n0 ≤ 1000000) (hM : OkM M w) :
    CallsV prog 90 [xa0] w fun r w' => Below w.heap.size w w' ∧ ∃ xsr xar, r = .agg #[.bool xsr, xar] ∧ ZQ M w' (n0) (((k : Nat) : Int)) xsr xar := by
 obtain ⟨Fz, hFz, hF, LL⟩ := fz0 M w
 obtain ⟨oxa0, _⟩ := h0.one
 have hM0 := hM
 refine zQ func90 rfl ntmps90 rfl ?_
 refine zF (zC (yU rfl yX (fun w1 b2 N2 => ?_)))
 obtain ⟨_, nF2, nM2, Lw1, B2⟩ := nza hF hM N2
 obtain ⟨LL, h0⟩ := up2 Lw1 LL h0
 refine zB (zF (zC (zA rfl rfl (kP rfl kG yX rfl (yO (gF (by first | rfl | assumption)) xS) rfl rfl (yK rfl rfl yX B2 rfl rfl (xC rfl (xC (by first | rfl | assumption) gD)) rfl (fun w2 Cw2 B2 => ?_))))))
 have Lw2 := Le.of_chg (M := (Ins b2 M)) Cw2 zS nF2
 obtain ⟨LL, h0⟩ := up2 Lw2 LL h0
 refine zB (zZ ?_)
 refine zN ⟨[_], ⟨⟨_, rfl, xI xV yX B2 rfl rfl⟩, trivial⟩, ?_⟩
 dsimp only [zW]
 subst hFz
 exact ⟨LL.below (Nat.le_refl _), _, _, rfl, (((ZQ.of_nat h0)).less (fun k c => zO c)).up (by omega)⟩
theorem r7norm_c {p : Rat} {n0 : Nat} {xs0 : Bool} {xa0 xd0 : Value} (h0 : QC M w n0 p xs0 xa0 xd0) (hl0 : n0 ≤ 1999) (hM : OkM M w) :
    CallsV prog 82 [.agg #[.bool xs0, xa0, xd0]] w fun r w' => Below w.heap.size w w' ∧ ∃ xsr xar xdr, r = .agg #[.bool xsr, xar, xdr] ∧ RC M w' (n0 + 2) (p) xsr xar xdr := by
 obtain ⟨Fz, hFz, hF, LL⟩ := fz0 M w
 obtain ⟨oxa0, oxd0, _⟩ := h0.one
 obtain ⟨xs, ds, i1, i2, i3, i4, hq⟩ := h0.ex
 have hM0 := hM
 refine zQ func82 rfl ntmps82 rfl ?_
 refine zF (zC (xL rfl rfl (fun w1 b1 N1 => ?_)))
 obtain ⟨_, nF1, nM1, Lw1, B1⟩ := nza hF hM N1
 obtain ⟨LL, hM, hF, i1, i2⟩ := up5 Lw1 LL hM hF i1 i2
 refine yU rfl yY (fun w2 b2 N2 => ?_)
 obtain ⟨hBw2, nF2, nM2, Lw2, B2⟩ := nza hF hM N2
 obtain ⟨B1, ne1_2⟩ := bn B1 N2
 obtain ⟨LL, hM, hF, i1, i2⟩ := up5 Lw2 LL hM hF i1 i2
 refine zB (zF (zC (zL 0 rfl yu33 rfl rfl yX rfl rfl (yE rfl xV yX rfl B1 rfl rfl (zL 2 rfl yu33 rfl rfl xU rfl rfl (zR rfl yS rfl B1 rfl (zI rfl bod107 rfl rfl ?_)))))))
 refine (r7new_c ((ZQ.mk ⟨xs, i1, i3, rfl⟩ : ZQ _ _ n0 (zv xs0 xs) _ _)) ((NQ.mk ⟨ds, i2, i4, rfl⟩ : NQ _ _ n0 (val ds) _)) (by omega) (by omega) hM).mono ?_
 rintro v10 w3 ⟨hB10, xs10, xa10, xd10, rfl, hn10⟩
 obtain ⟨LL, hM, hF, B1, B2⟩ := ub5 hB10 LL hM hF B1 B2
 obtain ⟨oxa10, oxd10, _⟩ := hn10.one
 refine zA rfl rfl (zT rfl rfl rfl (zT rfl rfl rfl (yU rfl yY (fun w4 b3 N3 => ?_))))
 obtain ⟨hBw4, nF3, nM3, Lw4, B3⟩ := nza hF hM N3
 have lt1_3 := B1.lt
 have ne1_3 := N3.ne lt1_3
 obtain ⟨B2, ne2_3⟩ := bn B2 N3
 obtain ⟨LL, hn10⟩ := up2 Lw4 LL hn10
 refine yK rfl rfl yY B3 rfl rfl (xC rfl (xC (by first | rfl | assumption) (xC (by first | rfl | assumption) gD))) rfl (fun w5 Cw5 B3 => ?_)
 have Lw5 := Le.of_chg (M := (Ins b3 (Ins b2 (Ins b1 M)))) Cw5 zS nF3
 obtain ⟨LL, hn10⟩ := up2 Lw5 LL hn10
 replace B2 := B2.other Cw5 ne2_3
 refine zD rfl rfl (zB (zF (zC (yE rfl xE yY rfl B3 rfl rfl (yK rfl rfl yY B2 rfl rfl (xC rfl (xC (by first | rfl | assumption) (xC (by first | rfl | assumption) gD))) rfl (fun w6 Cw6 B2 => ?_))))))
 have Lw6 := Le.of_chg (M := (Ins b3 (Ins b2 (Ins b1 M)))) Cw6 (.inr zS) nF2
 obtain ⟨LL, hn10⟩ := up2 Lw6 LL hn10
 refine zB (zZ ?_)
 refine zN ⟨[_], ⟨⟨_, rfl, xI xE yY B2 rfl rfl⟩, trivial⟩, ?_⟩
 dsimp only [zW]
 rw [hq] at hn10
 subst hFz
 exact ⟨LL.below (Nat.le_refl _), _, _, _, rfl, (hn10.less (fun k c => zO (zO (zO c)))).up (by omega)⟩
end Go.Proofs.YtfkejnlohkgbgaaGreatDoor
set_option maxRecDepth 100000
namespace Go.Proofs.YtfkejnlohkgbgaaGreatDoor
open Go.SL Go.RowKit Go.Proofs Tryz
variable {M : Nat → Prop} {w : World}
theorem RC.ofneg {n m : Nat} {q : Rat} {s : Bool} {a d : Value} (h : ZC M w n (-(q.num)) s a) (k : NC M w m q.den d) : RC M w (max n m) (-q) s a d := by
  have e1 : (-q).num = -(q.num) := Rat.neg_num q
  have e2 : (-q).den = q.den := Rat.neg_den q
  exact ⟨by rw [e1]; exact h.sgn, by rw [e1]; exact h.num, by rw [e2]; exact k.num, by unfold aY; rw [e1, e2]; exact ⟨Nat.le_trans h.len (by omega), Nat.le_trans k.len (by omega)⟩⟩
theorem prod2 (x y : Int) : qB [x, y] = x * y := by simp [qB]
theorem add_eq (p q : Rat) : mkRat ([qB [p.num, ((q.den : Nat) : Int)], qB [q.num, ((p.den : Nat) : Int)]].sum) (p.den * q.den) = p + q := by
  conv => rhs; rw [← Rat.mkRat_self p, ← Rat.mkRat_self q]
  rw [Rat.mkRat_add_mkRat _ _ p.den_nz q.den_nz, prod2, prod2]; simp
def eS (l : List Rat) : Rat := l.foldl (· + ·) 0
theorem sumR_take {l : List Rat} {s : Nat} (h : s < l.length) : eS (l.take (s + 1)) = eS (l.take s) + l.getD s 0 := by
  rw [(qL (0 : Rat) h).1, eS, List.foldl_append]; rfl
theorem cmp_eq (p q : Rat) : (qB [p.num, ((q.den : Nat) : Int)] - qB [q.num, ((p.den : Nat) : Int)]).sign = kK p q := by rw [prod2, prod2]; exact cmpR_eq p q
theorem rl2 {bb : Nat} {ty : TypeId} {n m : Nat} {p q : Rat} {s t : Bool} {a d b e : Value} (hk : KBlk M w bb ty [.bool s, a, d, .bool t, b, e]) (h1 : QC M w n p s a d) (h2 : QC M w m q t b e) : QL M w (max n m) [p, q] (.slice (some ⟨bb, 0, none⟩) 2 2) :=
  ⟨row_blk (l := [p, q]) hk (by simp) (by simp) ((Elems.nil.snoc (us := [.bool s, a, d]) rfl ⟨_, _, _, rfl, h1.up (by omega)⟩).snoc (us := [.bool t, b, e]) rfl ⟨_, _, _, rfl, h2.up (by omega)⟩)⟩
theorem r7neg_c {p : Rat} {n0 : Nat} {xs0 : Bool} {xa0 xd0 : Value} (h0 : QC M w n0 p xs0 xa0 xd0) (hl0 : n0 ≤ 1990) (hM : OkM M w) :
    CallsV prog 80 [.agg #[.bool xs0, xa0, xd0]] w fun r w' => Below w.heap.size w w' ∧ ∃ xsr xar xdr, r = .agg #[.bool xsr, xar, xdr] ∧ RC M w' (n0 + 2) (-p) xsr xar xdr := by
 obtain ⟨Fz, hFz, hF, LL⟩ := fz0 M w
 obtain ⟨oxa0, oxd0, _⟩ := h0.one
 have hM0 := hM
 refine zQ func80 rfl ntmps80 rfl ?_
 refine zF (zC (xL rfl rfl (fun w1 b1 N1 => ?_)))
 obtain ⟨_, nF1, nM1, Lw1, B1⟩ := nza hF hM N1
 obtain ⟨LL, hM, hF, h0⟩ := up4 Lw1 LL hM hF h0
 refine yU rfl yY (fun w2 b2 N2 => ?_)
 obtain ⟨hBw2, nF2, nM2, Lw2, B2⟩ := nza hF hM N2
 obtain ⟨B1, ne1_2⟩ := bn B1 N2
 obtain ⟨LL, hM, h0⟩ := up3 Lw2 LL hM h0
 refine zB (zF (zC (yE rfl xE yY rfl B1 rfl rfl (zI rfl bod82 rfl rfl ?_))))
 refine (r7norm_c h0 (by omega) hM).mono ?_
 rintro v4 w3 ⟨hB4, xs4, xa4, xd4, rfl, hn4⟩
 obtain ⟨LL, hM, h0, B1, B2⟩ := ub5 hB4 LL hM h0 B1 B2
 obtain ⟨oxa4, oxd4, _⟩ := hn4.one
 refine yK rfl rfl yY B1 rfl rfl (xC rfl (xC (by first | rfl | assumption) (xC (by first | rfl | assumption) gD))) rfl (fun w4 Cw4 B1 => ?_)
 have Lw4 := Le.of_chg (M := (Ins b2 (Ins b1 M))) Cw4 (.inr zS) nF1
 obtain ⟨LL, hM, h0, hn4⟩ := up4 Lw4 LL hM h0 hn4
 replace B2 := B2.other Cw4 ne1_2.symm
 refine zB (zF ?_)
 refine xQ (R := Rb) (R' := Rb) (st := none) jR 5 [2, 7, 9] (by decide +kernel) xO xY (xX _) (fun _ _ _ h => by cases h) ?_
 refine zK (fun _ _ _ => zJ rfl rfl (zE (zL 0 rfl yu33 rfl rfl yX rfl rfl (on0 rfl)))) ?_
 refine zK (fun _ hR _ => zH rfl (zE (yE rfl xV yX rfl (B1.below hR) rfl rfl (on0 rfl)))) ?_
 refine zP (vZC (Ins b2 (Ins b1 M)) ((n0 + 2)) (-p.num)) eR (fun wq hR hst => ?_) ?_
 ·refine zH rfl (zE ?_)
  obtain ⟨hM, hn4⟩ := ub2 hR hM hn4
  refine zI rfl bod149 rfl rfl ?_
  refine (i5neg_c hn4.z.gen (by omega) hM).mono ?_
  rintro v7 w5 ⟨hB7, xs7, xa7, rfl, hn7⟩
  exact zB ⟨rfl, hB7, _, rfl, ⟨_, _, rfl, hn7⟩⟩
 refine zK (fun _ _ _ => zJ rfl rfl (zE (zL 2 rfl yu33 rfl rfl xU rfl rfl (on0 rfl)))) ?_
 refine zK (fun _ hR _ => zH rfl (zE (zR rfl yS rfl (B1.below hR) rfl (on0 rfl)))) ?_
 refine xR (fun wq2 hR2 hpost2 => ?_)
 refine zJ rfl rfl (yC rfl (fun v7 hp7 => ?_))
 obtain ⟨xs7, xa7, rfl, hn7⟩ := hp7; obtain ⟨oxa7, _⟩ := hn7.one
 refine zH rfl (zE ?_)
 simp only [List.drop_succ_cons, List.drop_zero, List.drop_nil, List.toList_toArray]
 obtain ⟨LL, hn4, B2⟩ := ub3 hR2 LL hn4 B2
 refine jF rfl cR rfl rfl (yO (rfl) (yO (gF (by first | rfl | assumption)) xS)) rfl (yK rfl rfl yY B2 rfl rfl (xC rfl (xC (by first | rfl | assumption) (xC (by first | rfl | assumption) gD))) rfl (fun w6 Cw6 B2 => ?_))
 have Lw6 := Le.of_chg (M := (Ins b2 (Ins b1 M))) Cw6 zS nF2
 obtain ⟨LL, hn4, hn7⟩ := up3 Lw6 LL hn4 hn7
 refine zB (zZ ?_)
 refine zN ⟨[_], ⟨⟨_, rfl, xI xE yY B2 rfl rfl⟩, trivial⟩, ?_⟩
 dsimp only [zW]
 subst hFz
 exact ⟨LL.below (Nat.le_refl _), _, _, _, rfl, (((RC.ofneg hn7 hn4.d)).less (fun k c => zO (zO c))).up (by omega)⟩
theorem r7two_c {p : Rat} {n0 : Nat} {xs0 : Bool} {xa0 xd0 : Value} {q : Rat} {n1 : Nat} {xs1 : Bool} {xa1 xd1 : Value} (h0 : RC M w n0 p xs0 xa0 xd0) (h1 : RC M w n1 q xs1 xa1 xd1) (hl0 : n0 ≤ 990) (hl1 : n1 ≤ 990) (hM : OkM M w) :
    CallsV prog 81 [.agg #[.bool xs0, xa0, xd0], .agg #[.bool xs1, xa1, xd1]] w fun r w' => Below w.heap.size w w' ∧ ∃ xsr xar xdr, r = .agg #[.bool xsr, xar, xdr] ∧ RC M w' (n0 + n1 + 1) (p + q) xsr xar xdr := by
 obtain ⟨Fz, hFz, hF, LL⟩ := fz0 M w
 obtain ⟨oxa0, oxd0, _⟩ := h0.one
 obtain ⟨oxa1, oxd1, _⟩ := h1.one
 have hM0 := hM
 refine zQ func81 rfl ntmps81 rfl ?_
 refine zF (zC (xL rfl rfl (fun w1 b2 N2 => ?_)))
 obtain ⟨_, nF2, nM2, Lw1, B2⟩ := nza hF hM N2
 obtain ⟨LL, hM, hF, h0, h1⟩ := up5 Lw1 LL hM hF h0 h1
 refine xL rfl rfl (fun w2 b3 N3 => ?_)
 obtain ⟨hBw2, nF3, nM3, Lw2, B3⟩ := nza hF hM N3
 obtain ⟨B2, ne2_3⟩ := bn B2 N3
 obtain ⟨LL, hM, hF, h0, h1⟩ := up5 Lw2 LL hM hF h0 h1
 refine yU rfl yY (fun w3 b4 N4 => ?_)
 obtain ⟨hBw3, nF4, nM4, Lw3, B4⟩ := nza hF hM N4
 obtain ⟨B2, ne2_4⟩ := bn B2 N4
 obtain ⟨B3, ne3_4⟩ := bn B3 N4
 obtain ⟨LL, hM, hF, h0, h1⟩ := up5 Lw3 LL hM hF h0 h1
 refine zB (zF ?_)
 refine SL.wp_drawS (R := Rg 25) (R' := Rh [(25, (.agg #[(.bool false), (.slice none 0 0), (.slice none 0 0)]), 33)] 25 26) (Pr := PrA) (st := some (26, fC 25 (.agg #[(.bool false), (.slice none 0 0), (.slice none 0 0)]) 33, PostB 25 (fun b w => ∃ xs5 xa5 xd5, Blk w.1 b 33 [.bool xs5, xa5, xd5] ∧ RC (Mg (Ins b4 (Ins b3 (Ins b2 M))) w.2) w.1 (max ((max ((2 * (max n0 n1) + 2)) (2 * (max n1 n0) + 2)) + 2) (n0 + n1) + 2) (mkRat (([qB ([p.num, ((q.den : Nat) : Int)]), qB ([q.num, ((p.den : Nat) : Int)])]).sum) (p.den * q.den)) xs5 xa5 xd5))) g0 jR 27 [4, 5, 31] (by decide +kernel) rg_trans rh_rg (rg_drew _) (fun _ _ _ h => by cases h; exact ⟨by decide, preB0, preB_mono rfl, postB_mono (fun b x y hb ⟨xs5, xa5, xd5, B, h0⟩ hl r => ⟨xs5, xa5, xd5, B.below hl, h0.mono r.le⟩), _, rfl⟩) prA0 prA_mono ?_
 apply gW rfl
 ·intro xq hR hst hPr
  obtain ⟨wq, gq⟩ := xq
  refine qW rfl rfl ?_
  refine xD ?_; dsimp only
  have Lq : Le Fz (Ins b4 (Ins b3 (Ins b2 M))) w3 (Mg (Ins b4 (Ins b3 (Ins b2 M))) gq) wq := hR.le0
  exact zL 0 rfl yu33 rfl rfl yX rfl rfl (zB ⟨rfl, gq, gK rfl rfl (Below.refl _ _), _, rfl, rfl⟩)
 apply gW rfl
 ·intro xq hR hst hPr
  obtain ⟨wq, gq⟩ := xq
  refine qH rfl ?_
  refine xD ?_; dsimp only
  have Lq : Le Fz (Ins b4 (Ins b3 (Ins b2 M))) w3 (Mg (Ins b4 (Ins b3 (Ins b2 M))) gq) wq := hR.le0
  replace B2 := B2.rg hR
  exact yE rfl xV yX rfl B2 rfl rfl (zB ⟨rfl, gq, gK rfl rfl (Below.refl _ _), _, rfl, rfl⟩)
 apply gW rfl
 ·intro xq hR hst hPr
  obtain ⟨wq, gq⟩ := xq
  refine qW rfl rfl ?_
  refine xD ?_; dsimp only
  have Lq : Le Fz (Ins b4 (Ins b3 (Ins b2 M))) w3 (Mg (Ins b4 (Ins b3 (Ins b2 M))) gq) wq := hR.le0
  exact zL 2 rfl yu33 rfl rfl xU rfl rfl (zB ⟨rfl, gq, gK rfl rfl (Below.refl _ _), _, rfl, rfl⟩)
 apply gW rfl
 ·intro xq hR hst hPr
  obtain ⟨wq, gq⟩ := xq
  refine qH rfl ?_
  refine xD ?_; dsimp only
  have Lq : Le Fz (Ins b4 (Ins b3 (Ins b2 M))) w3 (Mg (Ins b4 (Ins b3 (Ins b2 M))) gq) wq := hR.le0
  replace B3 := B3.rg hR
  exact zR rfl yS rfl B3 rfl (zB ⟨rfl, gq, gK rfl rfl (Below.refl _ _), _, rfl, rfl⟩)
 refine jE rfl (fun v w => ∃ xs12 xa12, v = .agg #[.bool xs12, xa12] ∧ ZQ (Mg (Ins b4 (Ins b3 (Ins b2 M))) w.2) w.1 (n1) (((q.den : Nat) : Int)) xs12 xa12) (fun _ _ _ ⟨xs12, xa12, e, h0⟩ r => ⟨xs12, xa12, e, h0.mono (r.le)⟩) (fun xq hR hst hPr => ?_) ?_
 ·obtain ⟨wq, gq⟩ := xq
  refine qH rfl ?_
  refine xD ?_; dsimp only
  have Lq : Le Fz (Ins b4 (Ins b3 (Ins b2 M))) w3 (Mg (Ins b4 (Ins b3 (Ins b2 M))) gq) wq := hR.le0
  obtain ⟨hM, h1⟩ := up2 Lq hM h1
  refine zI rfl bod90 rfl rfl ?_
  refine (over7_c h1.d.gen (by omega) hM).mono ?_
  rintro v12 w4 ⟨hB12, xs12, xa12, rfl, hn12⟩
  exact zB ⟨rfl, gq, gK rfl rfl hB12, _, rfl, ⟨_, _, rfl, hn12⟩⟩
 refine jE rfl (fun v w => ∃ bb xs13 xa13 xs13b xa13b, v = .slice (some ⟨bb, 0, none⟩) 2 2 ∧ KBlk (Mg (Ins b4 (Ins b3 (Ins b2 M))) w.2) w.1 bb 31 [.bool xs13, xa13, .bool xs13b, xa13b] ∧ ZC (Mg (Ins b4 (Ins b3 (Ins b2 M))) w.2) w.1 (n0) (p.num) xs13 xa13 ∧ ZQ (Mg (Ins b4 (Ins b3 (Ins b2 M))) w.2) w.1 (n1) (((q.den : Nat) : Int)) xs13b xa13b) (fun _ _ _ ⟨bb, xs13, xa13, xs13b, xa13b, e, hk, h0, h1⟩ r => ⟨bb, xs13, xa13, xs13b, xa13b, e, hk.mono (r.le), h0.mono (r.le), h1.mono (r.le)⟩) (fun xq hR hst hPr => ?_) ?_
 ·obtain ⟨wq, gq⟩ := xq
  refine qH rfl ?_
  refine jT rfl (fun v12 hp12 => ?_)
  obtain ⟨xs12, xa12, rfl, hn12⟩ := hp12
  refine xD ?_; dsimp only
  have Lq : Le Fz (Ins b4 (Ins b3 (Ins b2 M))) w3 (Mg (Ins b4 (Ins b3 (Ins b2 M))) gq) wq := hR.le0
  obtain ⟨hM, h0⟩ := up2 Lq hM h0
  refine jA rfl yu174 yX rfl rfl rfl rfl (yO rfl (yO rfl xS)) rfl rfl rfl (fun w5 b13 N13 => ?_)
  have hBw5 := N13.below
  have nM13 := hM.new N13
  have B13 := N13.blk
  obtain ⟨h0, hn12⟩ := ub2 hBw5 h0 hn12
  have hB13 := hBw5
  exact zB ⟨rfl, gq, gK rfl rfl hB13, _, rfl, ⟨b13, _, _, _, _, rfl, KBlk.mk B13 nM13, h0.z, hn12⟩⟩
 refine jE rfl (fun v w => ∃ xs14 xa14, v = .agg #[.bool xs14, xa14] ∧ ZC (Mg (Ins b4 (Ins b3 (Ins b2 M))) w.2) w.1 (2 * (max n0 n1) + 2) (qB ([p.num, ((q.den : Nat) : Int)])) xs14 xa14) (fun _ _ _ ⟨xs14, xa14, e, h0⟩ r => ⟨xs14, xa14, e, h0.mono (r.le)⟩) (fun xq hR hst hPr => ?_) ?_
 ·obtain ⟨wq, gq⟩ := xq
  refine jT rfl (fun v13 hp13 => ?_)
  obtain ⟨bb13, xs13, xa13, xs13b, xa13b, rfl, hk13, hn13, hnb13⟩ := hp13; obtain ⟨oxa13, _⟩ := hn13.one
  refine xD ?_; dsimp only
  have Lq : Le Fz (Ins b4 (Ins b3 (Ins b2 M))) w3 (Mg (Ins b4 (Ins b3 (Ins b2 M))) gq) wq := hR.le0
  replace hM := hM.mono Lq
  refine zI rfl bod89 rfl rfl ?_
  refine (i5mul_c (zl2 hk13 hn13.gen hnb13) (by omega) (by first | omega | simp) hM).mono ?_
  rintro v14 w6 ⟨hB14, xs14, xa14, rfl, hn14⟩
  exact zB ⟨rfl, gq, gK rfl rfl hB14, _, rfl, ⟨_, _, rfl, hn14⟩⟩
 apply gW rfl
 ·intro xq hR hst hPr
  obtain ⟨wq, gq⟩ := xq
  refine qW rfl rfl ?_
  refine xD ?_; dsimp only
  have Lq : Le Fz (Ins b4 (Ins b3 (Ins b2 M))) w3 (Mg (Ins b4 (Ins b3 (Ins b2 M))) gq) wq := hR.le0
  exact zL 0 rfl yu33 rfl rfl yX rfl rfl (zB ⟨rfl, gq, gK rfl rfl (Below.refl _ _), _, rfl, rfl⟩)
 apply gW rfl
 ·intro xq hR hst hPr
  obtain ⟨wq, gq⟩ := xq
  refine qH rfl ?_
  refine xD ?_; dsimp only
  have Lq : Le Fz (Ins b4 (Ins b3 (Ins b2 M))) w3 (Mg (Ins b4 (Ins b3 (Ins b2 M))) gq) wq := hR.le0
  replace B3 := B3.rg hR
  exact yE rfl xV yX rfl B3 rfl rfl (zB ⟨rfl, gq, gK rfl rfl (Below.refl _ _), _, rfl, rfl⟩)
 apply gW rfl
 ·intro xq hR hst hPr
  obtain ⟨wq, gq⟩ := xq
  refine qW rfl rfl ?_
  refine xD ?_; dsimp only
  have Lq : Le Fz (Ins b4 (Ins b3 (Ins b2 M))) w3 (Mg (Ins b4 (Ins b3 (Ins b2 M))) gq) wq := hR.le0
  exact zL 2 rfl yu33 rfl rfl xU rfl rfl (zB ⟨rfl, gq, gK rfl rfl (Below.refl _ _), _, rfl, rfl⟩)
 apply gW rfl
 ·intro xq hR hst hPr
  obtain ⟨wq, gq⟩ := xq
  refine qH rfl ?_
  refine xD ?_; dsimp only
  have Lq : Le Fz (Ins b4 (Ins b3 (Ins b2 M))) w3 (Mg (Ins b4 (Ins b3 (Ins b2 M))) gq) wq := hR.le0
  replace B2 := B2.rg hR
  exact zR rfl yS rfl B2 rfl (zB ⟨rfl, gq, gK rfl rfl (Below.refl _ _), _, rfl, rfl⟩)
 refine jE rfl (fun v w => ∃ xs19 xa19, v = .agg #[.bool xs19, xa19] ∧ ZQ (Mg (Ins b4 (Ins b3 (Ins b2 M))) w.2) w.1 (n0) (((p.den : Nat) : Int)) xs19 xa19) (fun _ _ _ ⟨xs19, xa19, e, h0⟩ r => ⟨xs19, xa19, e, h0.mono (r.le)⟩) (fun xq hR hst hPr => ?_) ?_
 ·obtain ⟨wq, gq⟩ := xq
  refine qH rfl ?_
  refine xD ?_; dsimp only
  have Lq : Le Fz (Ins b4 (Ins b3 (Ins b2 M))) w3 (Mg (Ins b4 (Ins b3 (Ins b2 M))) gq) wq := hR.le0
  obtain ⟨hM, h0⟩ := up2 Lq hM h0
  refine zI rfl bod90 rfl rfl ?_
  refine (over7_c h0.d.gen (by omega) hM).mono ?_
  rintro v19 w7 ⟨hB19, xs19, xa19, rfl, hn19⟩
  exact zB ⟨rfl, gq, gK rfl rfl hB19, _, rfl, ⟨_, _, rfl, hn19⟩⟩
 refine jE rfl (fun v w => ∃ bb xs20 xa20 xs20b xa20b, v = .slice (some ⟨bb, 0, none⟩) 2 2 ∧ KBlk (Mg (Ins b4 (Ins b3 (Ins b2 M))) w.2) w.1 bb 31 [.bool xs20, xa20, .bool xs20b, xa20b] ∧ ZC (Mg (Ins b4 (Ins b3 (Ins b2 M))) w.2) w.1 (n1) (q.num) xs20 xa20 ∧ ZQ (Mg (Ins b4 (Ins b3 (Ins b2 M))) w.2) w.1 (n0) (((p.den : Nat) : Int)) xs20b xa20b) (fun _ _ _ ⟨bb, xs20, xa20, xs20b, xa20b, e, hk, h0, h1⟩ r => ⟨bb, xs20, xa20, xs20b, xa20b, e, hk.mono (r.le), h0.mono (r.le), h1.mono (r.le)⟩) (fun xq hR hst hPr => ?_) ?_
 ·obtain ⟨wq, gq⟩ := xq
  refine qH rfl ?_
  refine jT rfl (fun v19 hp19 => ?_)
  obtain ⟨xs19, xa19, rfl, hn19⟩ := hp19
  refine xD ?_; dsimp only
  have Lq : Le Fz (Ins b4 (Ins b3 (Ins b2 M))) w3 (Mg (Ins b4 (Ins b3 (Ins b2 M))) gq) wq := hR.le0
  obtain ⟨hM, h1⟩ := up2 Lq hM h1
  refine jA rfl yu174 yX rfl rfl rfl rfl (yO rfl (yO rfl xS)) rfl rfl rfl (fun w8 b20 N20 => ?_)
  have hBw8 := N20.below
  have nM20 := hM.new N20
  have B20 := N20.blk
  obtain ⟨h1, hn19⟩ := ub2 hBw8 h1 hn19
  have hB20 := hBw8
  exact zB ⟨rfl, gq, gK rfl rfl hB20, _, rfl, ⟨b20, _, _, _, _, rfl, KBlk.mk B20 nM20, h1.z, hn19⟩⟩
 refine jE rfl (fun v w => ∃ xs21 xa21, v = .agg #[.bool xs21, xa21] ∧ ZC (Mg (Ins b4 (Ins b3 (Ins b2 M))) w.2) w.1 (2 * (max n1 n0) + 2) (qB ([q.num, ((p.den : Nat) : Int)])) xs21 xa21) (fun _ _ _ ⟨xs21, xa21, e, h0⟩ r => ⟨xs21, xa21, e, h0.mono (r.le)⟩) (fun xq hR hst hPr => ?_) ?_
 ·obtain ⟨wq, gq⟩ := xq
  refine jT rfl (fun v20 hp20 => ?_)
  obtain ⟨bb20, xs20, xa20, xs20b, xa20b, rfl, hk20, hn20, hnb20⟩ := hp20; obtain ⟨oxa20, _⟩ := hn20.one
  refine xD ?_; dsimp only
  have Lq : Le Fz (Ins b4 (Ins b3 (Ins b2 M))) w3 (Mg (Ins b4 (Ins b3 (Ins b2 M))) gq) wq := hR.le0
  replace hM := hM.mono Lq
  refine zI rfl bod89 rfl rfl ?_
  refine (i5mul_c (zl2 hk20 hn20.gen hnb20) (by omega) (by first | omega | simp) hM).mono ?_
  rintro v21 w9 ⟨hB21, xs21, xa21, rfl, hn21⟩
  exact zB ⟨rfl, gq, gK rfl rfl hB21, _, rfl, ⟨_, _, rfl, hn21⟩⟩
 refine jE rfl (fun v w => ∃ bb xs22 xa22 xs22b xa22b, v = .slice (some ⟨bb, 0, none⟩) 2 2 ∧ KBlk (Mg (Ins b4 (Ins b3 (Ins b2 M))) w.2) w.1 bb 31 [.bool xs22, xa22, .bool xs22b, xa22b] ∧ ZC (Mg (Ins b4 (Ins b3 (Ins b2 M))) w.2) w.1 (2 * (max n0 n1) + 2) (qB ([p.num, ((q.den : Nat) : Int)])) xs22 xa22 ∧ ZC (Mg (Ins b4 (Ins b3 (Ins b2 M))) w.2) w.1 (2 * (max n1 n0) + 2) (qB ([q.num, ((p.den : Nat) : Int)])) xs22b xa22b) (fun _ _ _ ⟨bb, xs22, xa22, xs22b, xa22b, e, hk, h0, h1⟩ r => ⟨bb, xs22, xa22, xs22b, xa22b, e, hk.mono (r.le), h0.mono (r.le), h1.mono (r.le)⟩) (fun xq hR hst hPr => ?_) ?_
 ·obtain ⟨wq, gq⟩ := xq
  refine jT rfl (fun v14 hp14 => ?_)
  obtain ⟨xs14, xa14, rfl, hn14⟩ := hp14
  refine jT rfl (fun v21 hp21 => ?_)
  obtain ⟨xs21, xa21, rfl, hn21⟩ := hp21
  refine xD ?_; dsimp only
  have Lq : Le Fz (Ins b4 (Ins b3 (Ins b2 M))) w3 (Mg (Ins b4 (Ins b3 (Ins b2 M))) gq) wq := hR.le0
  replace hM := hM.mono Lq
  refine jA rfl yu174 yX rfl rfl rfl rfl (yO rfl (yO rfl xS)) rfl rfl rfl (fun w10 b22 N22 => ?_)
  have hBw10 := N22.below
  have nM22 := hM.new N22
  have B22 := N22.blk
  obtain ⟨hn14, hn21⟩ := ub2 hBw10 hn14 hn21
  have hB22 := hBw10
  exact zB ⟨rfl, gq, gK rfl rfl hB22, _, rfl, ⟨b22, _, _, _, _, rfl, KBlk.mk B22 nM22, hn14, hn21⟩⟩
 refine jE rfl (fun v w => ∃ xs23 xa23, v = .agg #[.bool xs23, xa23] ∧ ZC (Mg (Ins b4 (Ins b3 (Ins b2 M))) w.2) w.1 ((max ((2 * (max n0 n1) + 2)) (2 * (max n1 n0) + 2)) + 2) (([qB ([p.num, ((q.den : Nat) : Int)]), qB ([q.num, ((p.den : Nat) : Int)])]).sum) xs23 xa23) (fun _ _ _ ⟨xs23, xa23, e, h0⟩ r => ⟨xs23, xa23, e, h0.mono (r.le)⟩) (fun xq hR hst hPr => ?_) ?_
 ·obtain ⟨wq, gq⟩ := xq
  refine jT rfl (fun v22 hp22 => ?_)
  obtain ⟨bb22, xs22, xa22, xs22b, xa22b, rfl, hk22, hn22, hnb22⟩ := hp22; obtain ⟨oxa22, _⟩ := hn22.one
  refine xD ?_; dsimp only
  have Lq : Le Fz (Ins b4 (Ins b3 (Ins b2 M))) w3 (Mg (Ins b4 (Ins b3 (Ins b2 M))) gq) wq := hR.le0
  replace hM := hM.mono Lq
  refine zI rfl bod150 rfl rfl ?_
  refine (i5add_c (zl2 hk22 hn22.gen hnb22.gen) (by omega) (by first | omega | simp) hM).mono ?_
  rintro v23 w11 ⟨hB23, xs23, xa23, rfl, hn23⟩
  exact zB ⟨rfl, gq, gK rfl rfl hB23, _, rfl, ⟨_, _, rfl, hn23⟩⟩
 apply gW rfl
 ·intro xq hR hst hPr
  obtain ⟨wq, gq⟩ := xq
  refine qW rfl rfl ?_
  refine xD ?_; dsimp only
  have Lq : Le Fz (Ins b4 (Ins b3 (Ins b2 M))) w3 (Mg (Ins b4 (Ins b3 (Ins b2 M))) gq) wq := hR.le0
  exact zL 2 rfl yu33 rfl rfl xU rfl rfl (zB ⟨rfl, gq, gK rfl rfl (Below.refl _ _), _, rfl, rfl⟩)
 apply gW rfl
 ·intro xq hR hst hPr
  obtain ⟨wq, gq⟩ := xq
  refine qH rfl ?_
  refine xD ?_; dsimp only
  have Lq : Le Fz (Ins b4 (Ins b3 (Ins b2 M))) w3 (Mg (Ins b4 (Ins b3 (Ins b2 M))) gq) wq := hR.le0
  replace B2 := B2.rg hR
  exact zR rfl yS rfl B2 rfl (zB ⟨rfl, gq, gK rfl rfl (Below.refl _ _), _, rfl, rfl⟩)
 apply gW rfl
 ·intro xq hR hst hPr
  obtain ⟨wq, gq⟩ := xq
  refine qW rfl rfl ?_
  refine xD ?_; dsimp only
  have Lq : Le Fz (Ins b4 (Ins b3 (Ins b2 M))) w3 (Mg (Ins b4 (Ins b3 (Ins b2 M))) gq) wq := hR.le0
  exact zL 2 rfl yu33 rfl rfl xU rfl rfl (zB ⟨rfl, gq, gK rfl rfl (Below.refl _ _), _, rfl, rfl⟩)
 apply gW rfl
 ·intro xq hR hst hPr
  obtain ⟨wq, gq⟩ := xq
  refine qH rfl ?_
  refine xD ?_; dsimp only
  have Lq : Le Fz (Ins b4 (Ins b3 (Ins b2 M))) w3 (Mg (Ins b4 (Ins b3 (Ins b2 M))) gq) wq := hR.le0
  replace B3 := B3.rg hR
  exact zR rfl yS rfl B3 rfl (zB ⟨rfl, gq, gK rfl rfl (Below.refl _ _), _, rfl, rfl⟩)
 refine jE rfl (fun v w => ∃ xa28, v = xa28 ∧ NC (Mg (Ins b4 (Ins b3 (Ins b2 M))) w.2) w.1 (n0 + n1) (p.den * q.den) xa28) (fun _ _ _ ⟨xa28, e, h0⟩ r => ⟨xa28, e, h0.mono (r.le)⟩) (fun xq hR hst hPr => ?_) ?_
 ·obtain ⟨wq, gq⟩ := xq
  refine qH rfl ?_
  refine qH rfl ?_
  refine xD ?_; dsimp only
  have Lq : Le Fz (Ins b4 (Ins b3 (Ins b2 M))) w3 (Mg (Ins b4 (Ins b3 (Ins b2 M))) gq) wq := hR.le0
  obtain ⟨hM, h0, h1⟩ := up3 Lq hM h0 h1
  refine zI rfl bod108 rfl rfl ?_
  refine (nmul_q h0.d.gen h1.d.gen (by omega) (by omega) hM).mono ?_
  rintro v28 w12 ⟨hB28, xa28, rfl, hn28⟩
  exact zB ⟨rfl, gq, gK rfl rfl hB28, _, rfl, ⟨_, rfl, hn28⟩⟩
 refine jE rfl (fun v w => ∃ xs29 xa29 xd29, v = .tuple #[.agg #[.bool xs29, xa29, xd29], .int .i64 (if (p.den * q.den) = 0 then 30 else 0)] ∧ RC (Mg (Ins b4 (Ins b3 (Ins b2 M))) w.2) w.1 (max ((max ((2 * (max n0 n1) + 2)) (2 * (max n1 n0) + 2)) + 2) (n0 + n1) + 2) (mkRat (([qB ([p.num, ((q.den : Nat) : Int)]), qB ([q.num, ((p.den : Nat) : Int)])]).sum) (p.den * q.den)) xs29 xa29 xd29) (fun _ _ _ ⟨xs29, xa29, xd29, e, h0⟩ r => ⟨xs29, xa29, xd29, e, h0.mono (r.le)⟩) (fun xq hR hst hPr => ?_) ?_
 ·obtain ⟨wq, gq⟩ := xq
  refine jT rfl (fun v23 hp23 => ?_)
  obtain ⟨xs23, xa23, rfl, hn23⟩ := hp23
  refine jT rfl (fun v28 hp28 => ?_)
  obtain ⟨xa28, rfl, hn28⟩ := hp28
  refine xD ?_; dsimp only
  have Lq : Le Fz (Ins b4 (Ins b3 (Ins b2 M))) w3 (Mg (Ins b4 (Ins b3 (Ins b2 M))) gq) wq := hR.le0
  replace hM := hM.mono Lq
  refine zI rfl bod107 rfl rfl ?_
  refine (r7new_c hn23.gen hn28.gen (by omega) (by omega) hM).mono ?_
  rintro v29 w13 ⟨hB29, xs29, xa29, xd29, rfl, hn29⟩
  exact zB ⟨rfl, gq, gK rfl rfl hB29, _, rfl, ⟨_, _, _, rfl, hn29⟩⟩
 refine jE rfl (fun v w => ∃ xs7 xa7 xd7, v = .tuple #[.agg #[.bool xs7, xa7, xd7], .int .i64 (if (p.den * q.den) = 0 then 30 else 0)] ∧ RC (Mg (Ins b4 (Ins b3 (Ins b2 M))) w.2) w.1 (max ((max ((2 * (max n0 n1) + 2)) (2 * (max n1 n0) + 2)) + 2) (n0 + n1) + 2) (mkRat (([qB ([p.num, ((q.den : Nat) : Int)]), qB ([q.num, ((p.den : Nat) : Int)])]).sum) (p.den * q.den)) xs7 xa7 xd7) (fun _ _ _ ⟨xs7, xa7, xd7, e, h0⟩ r => ⟨xs7, xa7, xd7, e, h0.mono (r.le)⟩) (fun xq hR hst hPr => ?_) ?_
 ·obtain ⟨wq, gq⟩ := xq
  refine jT rfl (fun v29 hp29 => ?_)
  obtain ⟨xs29, xa29, xd29, rfl, hn29⟩ := hp29
  refine xD ?_; dsimp only
  have Lq : Le Fz (Ins b4 (Ins b3 (Ins b2 M))) w3 (Mg (Ins b4 (Ins b3 (Ins b2 M))) gq) wq := hR.le0
  exact zA rfl rfl (zB ⟨rfl, gq, gK rfl rfl (Below.refl _ _), _, rfl, ⟨_, _, _, rfl, hn29⟩⟩)
 refine jE rfl (fun v w => ∃ xs30 xa30 xd30, v = .agg #[.bool xs30, xa30, xd30] ∧ RC (Mg (Ins b4 (Ins b3 (Ins b2 M))) w.2) w.1 (max ((max ((2 * (max n0 n1) + 2)) (2 * (max n1 n0) + 2)) + 2) (n0 + n1) + 2) (mkRat (([qB ([p.num, ((q.den : Nat) : Int)]), qB ([q.num, ((p.den : Nat) : Int)])]).sum) (p.den * q.den)) xs30 xa30 xd30) (fun _ _ _ ⟨xs30, xa30, xd30, e, h0⟩ r => ⟨xs30, xa30, xd30, e, h0.mono (r.le)⟩) (fun xq hR hst hPr => ?_) ?_
 ·obtain ⟨wq, gq⟩ := xq
  refine jT rfl (fun v7 hp7 => ?_)
  obtain ⟨xs7, xa7, xd7, rfl, hn7⟩ := hp7
  refine xD ?_; dsimp only
  have Lq : Le Fz (Ins b4 (Ins b3 (Ins b2 M))) w3 (Mg (Ins b4 (Ins b3 (Ins b2 M))) gq) wq := hR.le0
  exact zT rfl rfl rfl (zB ⟨rfl, gq, gK rfl rfl (Below.refl _ _), _, rfl, ⟨_, _, _, rfl, hn7⟩⟩)
 refine jE rfl (ExS (.int .i64 (if (p.den * q.den) = 0 then 30 else 0))) (fun _ _ _ h _ => h) (fun xq hR hst hPr => ?_) ?_
 ·obtain ⟨wq, gq⟩ := xq
  refine jT rfl (fun v7 hp7 => ?_)
  obtain ⟨xs7, xa7, xd7, rfl, hn7⟩ := hp7
  refine xD ?_; dsimp only
  have Lq : Le Fz (Ins b4 (Ins b3 (Ins b2 M))) w3 (Mg (Ins b4 (Ins b3 (Ins b2 M))) gq) wq := hR.le0
  exact zT rfl rfl rfl (zB ⟨rfl, gq, gK rfl rfl (Below.refl _ _), _, rfl, rfl⟩)
 refine jE rfl (Pb 25) pb_mono (fun xq hR hst hPr => ?_) ?_
 ·obtain ⟨wq, gq⟩ := xq; refine xD ?_; dsimp only
  exact yU rfl yY (fun w14 b5 N5 => (zB ⟨rfl, _, rh_new rfl hPr N5, _, rfl, pb_new⟩))
 refine drsS_eff rfl (fun xq hR hpre => ?_) ?_
 ·obtain ⟨wq, gq⟩ := xq
  refine jT rfl (fun v5 hp5 => ?_)
  obtain ⟨b5, rfl, hg5⟩ := hp5; dsimp only at hg5
  refine jT rfl (fun v30 hp30 => ?_)
  obtain ⟨xs30, xa30, xd30, rfl, hn30⟩ := hp30; obtain ⟨oxa30, oxd30, _⟩ := hn30.one
  refine xD ?_; dsimp only
  have ge5 := hR.ge hg5
  have nF5 : ¬ Fz b5 := fun c => Nat.not_lt.2 ge5 (hF _ c)
  have nM5 : ¬ (Ins b4 (Ins b3 (Ins b2 M))) b5 := fun c => Nat.not_lt.2 ge5 (hM _ c)
  have ne2_5 : b2 ≠ b5 := by have := B2.lt; omega
  have ne3_5 : b3 ≠ b5 := by have := B3.lt; omega
  have ne4_5 : b4 ≠ b5 := by have := B4.lt; omega
  have Lq : Le Fz (Ins b4 (Ins b3 (Ins b2 M))) w3 (Ins b5 (Mg (Ins b4 (Ins b3 (Ins b2 M))) gq)) wq := hR.le0.trans (Le.less (Mg.ins hg5))
  have B5 := hpre b5 hg5; rw [agg_cells] at B5
  replace hn30 := hn30.less (Mg.ins hg5)
  refine yK rfl rfl yY B5 rfl rfl (xC rfl (xC (by first | rfl | assumption) (xC (by first | rfl | assumption) gD))) rfl (fun w15 Cw15 B5 => ?_)
  have Lw15 := Le.of_chg (M := (Ins b5 (Mg (Ins b4 (Ins b3 (Ins b2 M))) gq))) Cw15 zS nF5
  replace hn30 := hn30.mono Lw15
  exact zB ⟨rfl, gq, rh_chg rfl hg5 Cw15, b5, hg5, _, _, _, B5, (hn30).mono (Fz := fun _ => False) (Le.less (fun k c => .inr c))⟩
 refine drsS_nil (fun xq hR hpost => ?_)
 obtain ⟨wq1, gq⟩ := xq
 refine qW rfl rfl ?_
 refine jT rfl (fun v5 hp5 => ?_)
 obtain ⟨b5, rfl, hg5⟩ := hp5; dsimp only at hg5
 refine qH rfl ?_
 refine xD ?_; dsimp only
 simp only [List.drop_succ_cons, List.drop_zero, List.drop_nil, List.toList_toArray]
 obtain ⟨bx, hgx, hQ⟩ := hpost _ _ _ rfl; dsimp only at hgx; obtain rfl : b5 = bx := by rw [hg5] at hgx; exact Option.some.inj hgx
 obtain ⟨xs5, xa5, xd5, B5, hn5⟩ := hQ; dsimp only at B5
 have ge5 := hR.ge hg5
 have nF5 : ¬ Fz b5 := fun c => Nat.not_lt.2 ge5 (hF _ c)
 have nM5 : ¬ (Ins b4 (Ins b3 (Ins b2 M))) b5 := fun c => Nat.not_lt.2 ge5 (hM _ c)
 have ne2_5 : b2 ≠ b5 := by have := B2.lt; omega
 have ne3_5 : b3 ≠ b5 := by have := B3.lt; omega
 have ne4_5 : b4 ≠ b5 := by have := B4.lt; omega
 have hsub : ∀ k, (Ins b5 (Ins b4 (Ins b3 (Ins b2 M)))) k → Mg (Ins b4 (Ins b3 (Ins b2 M))) gq k := (ins_sub (.inl ⟨_, hg5⟩) Mg.base)
 have Lq : Le Fz (Ins b4 (Ins b3 (Ins b2 M))) w3 (Ins b5 (Ins b4 (Ins b3 (Ins b2 M)))) wq1 := hR.le0.trans (Le.less hsub)
 obtain ⟨LL, h0, h1⟩ := up3 Lq LL h0 h1
 replace B4 := B4.rg hR
 replace hn5 : _ := hn5.less hsub
 obtain ⟨oxa5, oxd5, _⟩ := hn5.one
 refine zD rfl rfl (zB (zF (zC (yE rfl xE yY rfl B5 rfl rfl (yK rfl rfl yY B4 rfl rfl (xC rfl (xC (by first | rfl | assumption) (xC (by first | rfl | assumption) gD))) rfl (fun w16 Cw16 B4 => ?_))))))
 have Lw16 := Le.of_chg (M := (Ins b5 (Ins b4 (Ins b3 (Ins b2 M))))) Cw16 (.inr zS) nF4
 obtain ⟨LL, h0, h1, hn5⟩ := up4 Lw16 LL h0 h1 hn5
 refine zB (zZ ?_)
 refine zN ⟨[_], ⟨⟨_, rfl, xI xE yY B4 rfl rfl⟩, trivial⟩, ?_⟩
 dsimp only [zW]
 rw [add_eq] at hn5
 replace hn5 := RC.relen hn5 (rlen_add h0.len h1.len)
 subst hFz
 exact ⟨LL.below (Nat.le_refl _), _, _, _, rfl, (hn5.less (fun k c => zO (zO (zO (zO c))))).up (by omega)⟩
theorem r7add_c {l : List Rat} {n0 : Nat} {xa0 : Value} (h0 : QL M w n0 l xa0) (hl0 : n0 ≤ 970) (hlen : l.length ≤ 2) (hM : OkM M w) :
    CallsV prog 23 [xa0] w fun r w' => Below w.heap.size w w' ∧ ∃ xsr xar xdr, r = .agg #[.bool xsr, xar, xdr] ∧ RC M w' (2 * n0 + 8) (eS l) xsr xar xdr := by
 obtain ⟨Fz, hFz, hF, LL⟩ := fz0 M w
 obtain ⟨oxa0, _⟩ := h0.one
 have hM0 := hM
 refine zQ func23 rfl ntmps23 rfl ?_
 refine zF (zC (yU rfl yY (fun w1 b2 N2 => ?_)))
 obtain ⟨_, nF2, nM2, Lw1, B2⟩ := nza hF hM N2
 obtain ⟨LL, hM, hF, h0⟩ := up4 Lw1 LL hM hF h0
 refine zB (zF (zC (zI rfl dD rfl rfl ?_)))
 refine (bM (k := 0)  (by omega) hM).mono ?_
 rintro v5 w2 ⟨hB5, xs5, xa5, xd5, rfl, hn5⟩
 obtain ⟨LL, hM, hF, h0, B2⟩ := ub5 hB5 LL hM hF h0 B2
 obtain ⟨oxa5, oxd5, _⟩ := hn5.one
 refine yU rfl yY (fun w3 b3 N3 => ?_)
 obtain ⟨hBw3, nF3, nM3, Lw3, B3⟩ := nza hF hM N3
 obtain ⟨B2, ne2_3⟩ := bn B2 N3
 obtain ⟨LL, hM, h0, hn5⟩ := up4 Lw3 LL hM h0 hn5
 refine yK rfl rfl yY B3 rfl rfl (xC rfl (xC (by first | rfl | assumption) (xC (by first | rfl | assumption) gD))) rfl (fun w4 Cw4 B3 => ?_)
 have Lw4 := Le.of_chg (M := (Ins b3 (Ins b2 M))) Cw4 zS nF3
 obtain ⟨LL, hM, h0, hn5⟩ := up4 Lw4 LL hM h0 hn5
 replace B2 := B2.other Cw4 ne2_3
 refine zB (zF (zF (zC (zD rfl rfl (zB (yA ?_))))))
 refine xN (σ := Nat) [(0, _), (2, _), (3, _)] (fun s => [(4, .int .i64 ((s : Nat) : Int))]) (fun s w5 => Le Fz (Ins b3 (Ins b2 M)) w4 (Ins b3 (Ins b2 M)) w5 ∧ s ≤ l.length ∧ Blk w5 b2 33 [.bool false, .slice none 0 0, .slice none 0 0] ∧ ∃ xs3 xa3 xd3, Blk w5 b3 33 [.bool xs3, xa3, xd3] ∧ RC (Ins b3 (Ins b2 M)) w5 (s * (n0 + 3) + 2) (eS (l.take s)) xs3 xa3 xd3) (fun s => l.length - s) (0) (zG rfl (zG rfl (zG rfl (zG rfl yF)))) ?_ (fun s w5 hJ => ?_)
 · exact ⟨Le.refl _ _ _, by omega, B2, _, _, _, B3, by simpa [eS] using hn5.up (by omega)⟩
 ·obtain ⟨LR, hk, B2, xs3, xa3, xd3, B3, hn3⟩ := hJ
  obtain ⟨oxa3, oxd3, _⟩ := hn3.one
  have hsn : s * (n0 + 3) ≤ 2 * (n0 + 3) := Nat.mul_le_mul_right _ (by omega)
  have hsn1 : s ≤ 1 → s * (n0 + 3) ≤ n0 + 3 := fun c => by have := Nat.mul_le_mul_right (n0 + 3) c; omega
  have hst : (s + 1) * (n0 + 3) = s * (n0 + 3) + (n0 + 3) := by rw [Nat.add_mul, Nat.one_mul]
  obtain ⟨LL, hM, h0⟩ := up3 LR LL hM h0
  refine zF (zF (zC (zA rfl rfl (zA rfl rfl (gB rfl yu22 rfl h0.row (jG rfl rfl rfl (zB ?_)))))))
  refine zX rfl (fun hc0 => ?_) (fun hc0 => ?_)
  ·refine yH (zF (yA ?_))
   refine xQ (R := Rb) (R' := Rb) (st := none) jR 6 [0, 2, 3, 4, 6, 7, 8, 9, 12, 13, 14, 15, 16, 17] (by decide +kernel) xO xY (xX _) (fun _ _ _ h => by cases h) ?_
   refine zK (fun _ hR _ => zJ rfl rfl (zE (yE rfl xE yY rfl (B3.below hR) rfl rfl (on0 rfl)))) ?_
   refine zP (fun v w => ∃ xa13, v = xa13 ∧ QL (Ins b3 (Ins b2 M)) w (n0) (l) xa13) (fun _ _ _ ⟨xa13, e, h0⟩ r => ⟨xa13, e, h0.mono (Fz := fun _ => False) (Le.of_below r)⟩) (fun wq hR hst => ?_) ?_
   ·refine zJ rfl rfl (zE ?_)
    replace h0 := ub1 hR h0
    exact zA rfl rfl (zB ⟨rfl, yB _, _, rfl, ⟨_, rfl, h0⟩⟩)
   refine zK (fun _ _ _ => zJ rfl rfl (zE (zA rfl rfl (on0 rfl)))) ?_
   refine zP (fun v w => ∃ b o xs15 xa15 xd15, v = .pointer (some ⟨b, o, none⟩) ∧ (∀ (q : Nat) (u : Value), [.bool xs15, xa15, xd15][q]? = some u → w.cell? ⟨b, o + q, none⟩ = some u) ∧ QC (Ins b3 (Ins b2 M)) w (n0) (l.getD s 0) xs15 xa15 xd15) (fun _ _ _ ⟨b, o, xs15, xa15, xd15, e, hc, h⟩ r => ⟨b, o, xs15, xa15, xd15, e, fun q u hq => jH r (hc q u hq), h.mono (Fz := fun _ => False) (Le.of_below r)⟩) (fun wq hR hst => ?_) ?_
   ·refine yC rfl (fun v13 hp13 => ?_)
    obtain ⟨xa13, rfl, hn13⟩ := hp13
    refine zH rfl (zE ?_)
    refine gG (dflt := (0 : Rat)) (s) rfl yu22 yY rfl rfl hn13.row (by first | rfl | omega) (by first | omega | (simp; omega) | simp) (fun b15 o15 us15 hul15 hu15 hc15 => ?_)
    obtain ⟨xs15, xa15, xd15, rfl, hn15⟩ := hu15
    exact zB ⟨rfl, yB _, _, rfl, ⟨b15, o15, _, _, _, rfl, hc15, hn15⟩⟩
   refine zP (vQC (Ins b3 (Ins b2 M)) (n0) (l.getD s 0)) cM (fun wq hR hst => ?_) ?_
   ·refine yC rfl (fun v15 hp15 => ?_)
    obtain ⟨b15, o15, xs15, xa15, xd15, rfl, hc15, hn15⟩ := hp15
    refine zE ?_
    exact jZ rfl xE yY rfl hc15 rfl (zB ⟨rfl, yB _, _, rfl, ⟨_, _, _, rfl, hn15⟩⟩)
   refine zP (vRC (Ins b3 (Ins b2 M)) (n0 + 2) ((l.getD s 0))) cQ (fun wq hR hst => ?_) ?_
   ·refine yC rfl (fun v16 hp16 => ?_)
    obtain ⟨xs16, xa16, xd16, rfl, hn16⟩ := hp16
    refine zE ?_
    replace hM := ub1 hR hM
    refine zI rfl bod82 rfl rfl ?_
    refine (r7norm_c hn16 (by omega) hM).mono ?_
    rintro v17 w6 ⟨hB17, xs17, xa17, xd17, rfl, hn17⟩
    exact zB ⟨rfl, hB17, _, rfl, ⟨_, _, _, rfl, hn17⟩⟩
   refine xR (fun wq5 hR5 hpost5 => ?_)
   refine zJ rfl rfl (zJ rfl rfl (zJ rfl rfl (zJ rfl rfl (zJ rfl rfl (zJ rfl rfl (zJ rfl rfl (zJ rfl rfl (zH rfl (yC rfl (fun v13 hp13 => ?_))))))))))
   obtain ⟨xa13, rfl, hn13⟩ := hp13; obtain ⟨oxa13, _⟩ := hn13.one
   refine zH rfl (yC rfl (fun v15 hp15 => ?_))
   obtain ⟨b15, o15, xs15, xa15, xd15, rfl, hc15, hn15⟩ := hp15; obtain ⟨oxa15, oxd15, _⟩ := hn15.one
   refine yC rfl (fun v16 hp16 => ?_)
   obtain ⟨xs16, xa16, xd16, rfl, hn16⟩ := hp16; obtain ⟨oxa16, oxd16, _⟩ := hn16.one
   refine yC rfl (fun v17 hp17 => ?_)
   obtain ⟨xs17, xa17, xd17, rfl, hn17⟩ := hp17; obtain ⟨oxa17, oxd17, _⟩ := hn17.one
   refine zE ?_
   simp only [List.drop_succ_cons, List.drop_zero, List.drop_nil, List.toList_toArray]
   obtain ⟨LR, hM, hn3, B2, B3⟩ := ub5 hR5 LR hM hn3 B2 B3
   refine zI rfl bod81 rfl rfl ?_
   refine (r7two_c hn3 hn17 (by omega) (by omega) hM).mono ?_
   rintro v18 w7 ⟨hB18, xs18, xa18, xd18, rfl, hn18⟩
   obtain ⟨LR, B2, B3⟩ := ub3 hB18 LR B2 B3
   obtain ⟨oxa18, oxd18, _⟩ := hn18.one
   refine yK rfl rfl yY B3 rfl rfl (xC rfl (xC (by first | rfl | assumption) (xC (by first | rfl | assumption) gD))) rfl (fun w8 Cw8 B3 => ?_)
   have Lw8 := Le.of_chg (M := (Ins b3 (Ins b2 M))) Cw8 zS nF3
   obtain ⟨LR, hn18⟩ := up2 Lw8 LR hn18
   replace B2 := B2.other Cw8 ne2_3
   refine zB (zC (zA rfl rfl (yR rfl rfl rfl (by omega) (zD rfl rfl (zB ?_)))))
   refine ⟨rfl, s + 1, (zV rfl (by rw [Int.natCast_add]; rfl) (zG rfl (zG rfl (zG rfl yF)))), ?_, ?_⟩
   exact ⟨LR, by omega, B2, _, _, _, B3, by rw [sumR_take (by omega)]; exact hn18.up (by omega)⟩
   omega
  ·refine xF (xG (zF (zC (yE rfl xE yY rfl B3 rfl rfl (yK rfl rfl yY B2 rfl rfl (xC rfl (xC (by first | rfl | assumption) (xC (by first | rfl | assumption) gD))) rfl (fun w9 Cw9 B2 => ?_))))))
   have Lw9 := Le.of_chg (M := (Ins b3 (Ins b2 M))) Cw9 (.inr zS) nF2
   obtain ⟨LL, hn3⟩ := up2 Lw9 LL hn3
   refine zB (zZ ?_)
   refine zN ⟨[_], ⟨⟨_, rfl, xI xE yY B2 rfl rfl⟩, trivial⟩, ?_⟩
   dsimp only [zW]
   obtain rfl : s = l.length := by omega
   rw [List.take_length] at hn3
   subst hFz
   exact ⟨LL.below (Nat.le_refl _), _, _, _, rfl, (hn3.less (fun k c => zO (zO c))).up (by omega)⟩
theorem r7add2 {bb : Nat} {ty : TypeId} {n m : Nat} {p q : Rat} {s t : Bool} {a d b e : Value} (hk : KBlk M w bb ty [.bool s, a, d, .bool t, b, e]) (h1 : QC M w n p s a d) (h2 : QC M w m q t b e) (hn : n ≤ 970) (hm : m ≤ 970) (hM : OkM M w) : CallsV prog 23 [.slice (some ⟨bb, 0, none⟩) 2 2] w fun r w' => Below w.heap.size w w' ∧ RV M (n + m + 3) (p + q) r w' :=
  (r7add_c (rl2 hk h1 h2) (by omega) (by simp) hM).mono fun r w' ⟨hB, x, y, z, e, h⟩ => ⟨hB, x, y, z, e, by
    have e2 : eS [p, q] = p + q := by simp [eS, Rat.zero_add]
    rw [e2] at h
    exact RC.relen h (rlen_mono (rlen_add h1.rlen h2.rlen) (by omega))⟩
theorem r7sub_c {p : Rat} {n0 : Nat} {xs0 : Bool} {xa0 xd0 : Value} {q : Rat} {n1 : Nat} {xs1 : Bool} {xa1 xd1 : Value} (h0 : QC M w n0 p xs0 xa0 xd0) (h1 : QC M w n1 q xs1 xa1 xd1) (hl0 : n0 ≤ 960) (hl1 : n1 ≤ 960) (hM : OkM M w) :
    CallsV prog 22 [.agg #[.bool xs0, xa0, xd0], .agg #[.bool xs1, xa1, xd1]] w fun r w' => Below w.heap.size w w' ∧ ∃ xsr xar xdr, r = .agg #[.bool xsr, xar, xdr] ∧ RC M w' (n0 + n1 + 5) (p - q) xsr xar xdr := by
 obtain ⟨Fz, hFz, hF, LL⟩ := fz0 M w
 obtain ⟨oxa0, oxd0, _⟩ := h0.one
 obtain ⟨oxa1, oxd1, _⟩ := h1.one
 have hM0 := hM
 refine zQ func22 rfl ntmps22 rfl ?_
 refine zF (zC (xL rfl rfl (fun w1 b2 N2 => ?_)))
 obtain ⟨_, nF2, nM2, Lw1, B2⟩ := nza hF hM N2
 obtain ⟨LL, hM, hF, h0, h1⟩ := up5 Lw1 LL hM hF h0 h1
 refine xL rfl rfl (fun w2 b3 N3 => ?_)
 obtain ⟨hBw2, nF3, nM3, Lw2, B3⟩ := nza hF hM N3
 obtain ⟨B2, ne2_3⟩ := bn B2 N3
 obtain ⟨LL, hM, hF, h0, h1⟩ := up5 Lw2 LL hM hF h0 h1
 refine yU rfl yY (fun w3 b4 N4 => ?_)
 obtain ⟨hBw3, nF4, nM4, Lw3, B4⟩ := nza hF hM N4
 obtain ⟨B2, ne2_4⟩ := bn B2 N4
 obtain ⟨B3, ne3_4⟩ := bn B3 N4
 obtain ⟨LL, hM, h0, h1⟩ := up4 Lw3 LL hM h0 h1
 refine zB (zF ?_)
 refine xQ (R := Rb) (R' := Rb) (st := none) jR 3 [4, 5, 7] (by decide +kernel) xO xY (xX _) (fun _ _ _ h => by cases h) ?_
 refine zK (fun _ hR _ => zJ rfl rfl (zE (yE rfl xE yY rfl (B2.below hR) rfl rfl (on0 rfl)))) ?_
 refine zK (fun _ hR _ => zJ rfl rfl (zE (yE rfl xE yY rfl (B3.below hR) rfl rfl (on0 rfl)))) ?_
 refine zP (vRC (Ins b4 (Ins b3 (Ins b2 M))) (n1 + 2) (-q)) cQ (fun wq hR hst => ?_) ?_
 ·refine zH rfl (zE ?_)
  obtain ⟨hM, h1⟩ := ub2 hR hM h1
  refine zI rfl bod80 rfl rfl ?_
  refine (r7neg_c h1 (by omega) hM).mono ?_
  rintro v7 w4 ⟨hB7, xs7, xa7, xd7, rfl, hn7⟩
  exact zB ⟨rfl, hB7, _, rfl, ⟨_, _, _, rfl, hn7⟩⟩
 refine xR (fun wq1 hR1 hpost1 => ?_)
 refine zJ rfl rfl (zH rfl (yC rfl (fun v7 hp7 => ?_)))
 obtain ⟨xs7, xa7, xd7, rfl, hn7⟩ := hp7; obtain ⟨oxa7, oxd7, _⟩ := hn7.one
 refine zE ?_
 simp only [List.drop_succ_cons, List.drop_zero, List.drop_nil, List.toList_toArray]
 obtain ⟨LL, hM, h0, B4⟩ := ub4 hR1 LL hM h0 B4
 refine jA rfl yu22 yY rfl rfl rfl rfl (yO rfl (yO rfl xS)) rfl rfl rfl (fun w5 b8 N8 => ?_)
 have hBw5 := N8.below
 have nM8 := hM.new N8
 have B8 := N8.blk
 obtain ⟨LL, hM, h0, hn7, B4⟩ := ub5 hBw5 LL hM h0 hn7 B4
 refine zI rfl bod23 rfl rfl ?_
 refine (r7add2 (KBlk.mk B8 nM8) h0 hn7.gen (by omega) (by omega) hM).mono ?_
 rintro v9 w6 ⟨hB9, xs9, xa9, xd9, rfl, hn9⟩
 obtain ⟨LL, B4⟩ := ub2 hB9 LL B4
 obtain ⟨oxa9, oxd9, _⟩ := hn9.one
 refine yK rfl rfl yY B4 rfl rfl (xC rfl (xC (by first | rfl | assumption) (xC (by first | rfl | assumption) gD))) rfl (fun w7 Cw7 B4 => ?_)
 have Lw7 := Le.of_chg (M := (Ins b4 (Ins b3 (Ins b2 M)))) Cw7 zS nF4
 obtain ⟨LL, hn9⟩ := up2 Lw7 LL hn9
 refine zB (zZ ?_)
 refine zN ⟨[_], ⟨⟨_, rfl, xI xE yY B4 rfl rfl⟩, trivial⟩, ?_⟩
 dsimp only [zW]
 rw [Rat.sub_eq_add_neg]
 subst hFz
 exact ⟨LL.below (Nat.le_refl _), _, _, _, rfl, (hn9.less (fun k c => zO (zO (zO c)))).up (by omega)⟩
theorem r7cmp_c {p : Rat} {n0 : Nat} {xs0 : Bool} {xa0 xd0 : Value} {q : Rat} {n1 : Nat} {xs1 : Bool} {xa1 xd1 : Value} (h0 : QC M w n0 p xs0 xa0 xd0) (h1 : QC M w n1 q xs1 xa1 xd1) (hl0 : n0 ≤ 1990) (hl1 : n1 ≤ 1990) (hM : OkM M w) :
    CallsV prog 33 [.agg #[.bool xs0, xa0, xd0], .agg #[.bool xs1, xa1, xd1]] w fun r w' => Below w.heap.size w w' ∧ r = .int .i64 (kK p q) := by
 obtain ⟨Fz, hFz, hF, LL⟩ := fz0 M w
 obtain ⟨oxa0, oxd0, _⟩ := h0.one
 obtain ⟨oxa1, oxd1, _⟩ := h1.one
 have hM0 := hM
 refine zQ func33 rfl ntmps33 rfl ?_
 refine zF (zC (xL rfl rfl (fun w1 b2 N2 => ?_)))
 obtain ⟨_, nF2, nM2, Lw1, B2⟩ := nza hF hM N2
 obtain ⟨LL, hM, hF, h0, h1⟩ := up5 Lw1 LL hM hF h0 h1
 refine xL rfl rfl (fun w2 b3 N3 => ?_)
 obtain ⟨hBw2, nF3, nM3, Lw2, B3⟩ := nza hF hM N3
 obtain ⟨B2, ne2_3⟩ := bn B2 N3
 obtain ⟨LL, hM, h0, h1⟩ := up4 Lw2 LL hM h0 h1
 refine zD rfl rfl (zB (zF ?_))
 refine xQ (R := Rb) (R' := Rb) (st := none) jR 3 [2, 3, 4, 6, 7] (by decide +kernel) xO xY (xX _) (fun _ _ _ h => by cases h) ?_
 refine zK (fun _ hR _ => zJ rfl rfl (zE (yE rfl xE yY rfl (B2.below hR) rfl rfl (on0 rfl)))) ?_
 refine zP (vRC (Ins b3 (Ins b2 M)) (n0 + 2) (p)) cQ (fun wq hR hst => ?_) ?_
 ·refine zH rfl (zE ?_)
  obtain ⟨hM, h0⟩ := ub2 hR hM h0
  refine zI rfl bod82 rfl rfl ?_
  refine (r7norm_c h0 (by omega) hM).mono ?_
  rintro v6 w3 ⟨hB6, xs6, xa6, xd6, rfl, hn6⟩
  exact zB ⟨rfl, hB6, _, rfl, ⟨_, _, _, rfl, hn6⟩⟩
 refine zK (fun _ hR _ => zJ rfl rfl (zE (yE rfl xE yY rfl (B3.below hR) rfl rfl (on0 rfl)))) ?_
 refine xR (fun wq1 hR1 hpost1 => ?_)
 refine zJ rfl rfl (zJ rfl rfl (zJ rfl rfl (yC rfl (fun v6 hp6 => ?_))))
 obtain ⟨xs6, xa6, xd6, rfl, hn6⟩ := hp6; obtain ⟨oxa6, oxd6, _⟩ := hn6.one
 refine zH rfl (zE ?_)
 simp only [List.drop_succ_cons, List.drop_zero, List.drop_nil, List.toList_toArray]
 obtain ⟨LL, hM, h0, h1, B2, B3⟩ := ub6 hR1 LL hM h0 h1 B2 B3
 refine zI rfl bod82 rfl rfl ?_
 refine (r7norm_c h1 (by omega) hM).mono ?_
 rintro v8 w4 ⟨hB8, xs8, xa8, xd8, rfl, hn8⟩
 obtain ⟨LL, hM, h0, h1, hn6, B2, B3⟩ := ub7 hB8 LL hM h0 h1 hn6 B2 B3
 obtain ⟨oxa8, oxd8, _⟩ := hn8.one
 refine yK rfl rfl yY B2 rfl rfl (xC rfl (xC (by first | rfl | assumption) (xC (by first | rfl | assumption) gD))) rfl (fun w5 Cw5 B2 => ?_)
 have Lw5 := Le.of_chg (M := (Ins b3 (Ins b2 M))) Cw5 (.inr zS) nF2
 obtain ⟨LL, hM, h0, h1, hn6, hn8⟩ := up6 Lw5 LL hM h0 h1 hn6 hn8
 replace B3 := B3.other Cw5 ne2_3.symm
 refine yK rfl rfl yY B3 rfl rfl (xC rfl (xC (by first | rfl | assumption) (xC (by first | rfl | assumption) gD))) rfl (fun w6 Cw6 B3 => ?_)
 have Lw6 := Le.of_chg (M := (Ins b3 (Ins b2 M))) Cw6 zS nF3
 obtain ⟨LL, hM, h0, h1, hn6, hn8⟩ := up6 Lw6 LL hM h0 h1 hn6 hn8
 replace B2 := B2.other Cw6 ne2_3
 refine zB (zF ?_)
 refine xQ (R := Rb) (R' := Rb) (st := none) jR 12 [4, 15, 17, 20] (by decide +kernel) xO xY (xX _) (fun _ _ _ h => by cases h) ?_
 refine zK (fun _ _ _ => zJ rfl rfl (zE (zL 0 rfl yu33 rfl rfl yX rfl rfl (on0 rfl)))) ?_
 refine zK (fun _ hR _ => zH rfl (zE (yE rfl xV yX rfl (B2.below hR) rfl rfl (on0 rfl)))) ?_
 refine zK (fun _ _ _ => zJ rfl rfl (zE (zL 2 rfl yu33 rfl rfl xU rfl rfl (on0 rfl)))) ?_
 refine zK (fun _ hR _ => zH rfl (zE (zR rfl yS rfl (B3.below hR) rfl (on0 rfl)))) ?_
 refine zP (vZQ (Ins b3 (Ins b2 M)) ((n1 + 2)) (((q.den : Nat) : Int))) eQ (fun wq hR hst => ?_) ?_
 ·refine zH rfl (zE ?_)
  obtain ⟨hM, hn8⟩ := ub2 hR hM hn8
  refine zI rfl bod90 rfl rfl ?_
  refine (over7_c hn8.d.gen (by omega) hM).mono ?_
  rintro v13 w7 ⟨hB13, xs13, xa13, rfl, hn13⟩
  exact zB ⟨rfl, hB13, _, rfl, ⟨_, _, rfl, hn13⟩⟩
 refine zP (fun v w => ∃ bb xs14 xa14 xs14b xa14b, v = .slice (some ⟨bb, 0, none⟩) 2 2 ∧ KBlk (Ins b3 (Ins b2 M)) w bb 31 [.bool xs14, xa14, .bool xs14b, xa14b] ∧ ZC (Ins b3 (Ins b2 M)) w (n0 + 2) (p.num) xs14 xa14 ∧ ZQ (Ins b3 (Ins b2 M)) w ((n1 + 2)) (((q.den : Nat) : Int)) xs14b xa14b) (fun _ _ _ ⟨bb, xs14, xa14, xs14b, xa14b, e, hk, h0, h1⟩ r => ⟨bb, xs14, xa14, xs14b, xa14b, e, hk.mono (Fz := fun _ => False) (Le.of_below r), h0.mono (Fz := fun _ => False) (Le.of_below r), h1.mono (Fz := fun _ => False) (Le.of_below r)⟩) (fun wq hR hst => ?_) ?_
 ·refine zH rfl (yC rfl (fun v13 hp13 => ?_))
  obtain ⟨xs13, xa13, rfl, hn13⟩ := hp13
  refine zE ?_
  obtain ⟨hM, hn6⟩ := ub2 hR hM hn6
  refine jA rfl yu174 yX rfl rfl rfl rfl (yO rfl (yO rfl xS)) rfl rfl rfl (fun w8 b14 N14 => ?_)
  have hBw8 := N14.below
  have nM14 := hM.new N14
  have B14 := N14.blk
  obtain ⟨hn6, hn13⟩ := ub2 hBw8 hn6 hn13
  have hB14 := hBw8
  exact zB ⟨rfl, hB14, _, rfl, ⟨b14, _, _, _, _, rfl, KBlk.mk B14 nM14, hn6.z, hn13⟩⟩
 refine zP (vZC (Ins b3 (Ins b2 M)) (2 * (max ((n0 + 2)) ((n1 + 2))) + 2) (qB ([p.num, ((q.den : Nat) : Int)]))) eR (fun wq hR hst => ?_) ?_
 ·refine yC rfl (fun v14 hp14 => ?_)
  obtain ⟨bb14, xs14, xa14, xs14b, xa14b, rfl, hk14, hn14, hnb14⟩ := hp14; obtain ⟨oxa14, _⟩ := hn14.one
  refine zE ?_
  replace hM := ub1 hR hM
  refine zI rfl bod89 rfl rfl ?_
  refine (i5mul_c (zl2 hk14 hn14.gen hnb14) (by omega) (by first | omega | simp) hM).mono ?_
  rintro v15 w9 ⟨hB15, xs15, xa15, rfl, hn15⟩
  exact zB ⟨rfl, hB15, _, rfl, ⟨_, _, rfl, hn15⟩⟩
 refine zK (fun _ _ _ => zJ rfl rfl (zE (zL 0 rfl yu33 rfl rfl yX rfl rfl (on0 rfl)))) ?_
 refine zK (fun _ hR _ => zH rfl (zE (yE rfl xV yX rfl (B3.below hR) rfl rfl (on0 rfl)))) ?_
 refine zK (fun _ _ _ => zJ rfl rfl (zE (zL 2 rfl yu33 rfl rfl xU rfl rfl (on0 rfl)))) ?_
 refine zK (fun _ hR _ => zH rfl (zE (zR rfl yS rfl (B2.below hR) rfl (on0 rfl)))) ?_
 refine zP (vZQ (Ins b3 (Ins b2 M)) ((n0 + 2)) (((p.den : Nat) : Int))) eQ (fun wq hR hst => ?_) ?_
 ·refine zH rfl (zE ?_)
  obtain ⟨hM, hn6⟩ := ub2 hR hM hn6
  refine zI rfl bod90 rfl rfl ?_
  refine (over7_c hn6.d.gen (by omega) hM).mono ?_
  rintro v20 w10 ⟨hB20, xs20, xa20, rfl, hn20⟩
  exact zB ⟨rfl, hB20, _, rfl, ⟨_, _, rfl, hn20⟩⟩
 refine xR (fun wq2 hR2 hpost2 => ?_)
 refine zJ rfl rfl (yC rfl (fun v15 hp15 => ?_))
 obtain ⟨xs15, xa15, rfl, hn15⟩ := hp15
 refine zH rfl (yC rfl (fun v20 hp20 => ?_))
 obtain ⟨xs20, xa20, rfl, hn20⟩ := hp20
 refine zE ?_
 simp only [List.drop_succ_cons, List.drop_zero, List.drop_nil, List.toList_toArray]
 obtain ⟨LL, hM, hn8⟩ := ub3 hR2 LL hM hn8
 refine jA rfl yu174 yX rfl rfl rfl rfl (yO rfl (yO rfl xS)) rfl rfl rfl (fun w11 b21 N21 => ?_)
 have hBw11 := N21.below
 have nM21 := hM.new N21
 have B21 := N21.blk
 obtain ⟨LL, hM, hn8, hn15, hn20⟩ := ub5 hBw11 LL hM hn8 hn15 hn20
 refine zI rfl bod89 rfl rfl ?_
 refine (i5mul_c (zl2 ((KBlk.mk B21 nM21)) hn8.z.gen hn20) (by omega) (by first | omega | simp) hM).mono ?_
 rintro v22 w12 ⟨hB22, xs22, xa22, rfl, hn22⟩
 obtain ⟨LL, hM, hn15⟩ := ub3 hB22 LL hM hn15
 refine zI rfl bod88 rfl rfl ?_
 refine (i5sub_c hn15.gen hn22.gen (by omega) (by omega) hM).mono ?_
 rintro v23 w13 ⟨hB23, xs23, xa23, rfl, hn23⟩
 obtain ⟨LL, hM⟩ := ub2 hB23 LL hM
 refine zI rfl bod87 rfl rfl ?_
 refine (i5sign_c hn23.gen (by omega) hM).mono ?_
 rintro v24 w14 ⟨hB24, rfl⟩
 replace LL := ub1 hB24 LL
 refine zD rfl rfl (zB (zZ ?_))
 refine zN ⟨[_], ⟨rfl, trivial⟩, ?_⟩
 dsimp only [zW]
 rw [cmp_eq]
 subst hFz
 exact ⟨LL.below (Nat.le_refl _), rfl⟩
theorem r7same_c {p : Rat} {n0 : Nat} {xs0 : Bool} {xa0 xd0 : Value} {q : Rat} {n1 : Nat} {xs1 : Bool} {xa1 xd1 : Value} (h0 : QC M w n0 p xs0 xa0 xd0) (h1 : QC M w n1 q xs1 xa1 xd1) (hl0 : n0 ≤ 1990) (hl1 : n1 ≤ 1990) (hM : OkM M w) :
    CallsV prog 58 [.agg #[.bool xs0, xa0, xd0], .agg #[.bool xs1, xa1, xd1]] w fun r w' => Below w.heap.size w w' ∧ r = .bool (decide (kK p q = 0)) := by
 obtain ⟨Fz, hFz, hF, LL⟩ := fz0 M w
 have hM0 := hM
 refine zQ func58 rfl ntmps58 rfl ?_
 refine zF (zC (xL rfl rfl (fun w1 b2 N2 => ?_)))
 obtain ⟨_, nF2, nM2, Lw1, B2⟩ := nza hF hM N2
 obtain ⟨LL, hM, hF, h0, h1⟩ := up5 Lw1 LL hM hF h0 h1
 refine xL rfl rfl (fun w2 b3 N3 => ?_)
 obtain ⟨hBw2, nF3, nM3, Lw2, B3⟩ := nza hF hM N3
 obtain ⟨B2, ne2_3⟩ := bn B2 N3
 obtain ⟨LL, hM, h0, h1⟩ := up4 Lw2 LL hM h0 h1
 refine zD rfl rfl (zB (zF (zC (yE rfl xE yY rfl B2 rfl rfl (yE rfl xE yY rfl B3 rfl rfl (zI rfl bod33 rfl rfl ?_))))))
 refine (r7cmp_c h0 h1 (by omega) (by omega) hM).mono ?_
 rintro v7 w3 ⟨hB7, rfl⟩
 replace LL := ub1 hB7 LL
 refine gI rfl rfl rfl (zD rfl rfl (zB (zZ ?_)))
 refine zN ⟨[_], ⟨rfl, trivial⟩, ?_⟩
 dsimp only [zW]
 subst hFz
 exact ⟨LL.below (Nat.le_refl _), rfl⟩
end Go.Proofs.YtfkejnlohkgbgaaGreatDoor
set_option maxRecDepth 100000
namespace Go.Proofs.YtfkejnlohkgbgaaGreatDoor
open Go.SL Go.RowKit Go.Proofs Tryz
variable {M : Nat → Prop} {w : World}
theorem getD_mem {α : Type} {l : List α} {s : Nat} (d : α) (h : s < l.length) : l.getD s d ∈ l := by rw [List.getD_eq_getElem?_getD, List.getElem?_eq_getElem h]; exact List.getElem_mem h
end Go.Proofs.YtfkejnlohkgbgaaGreatDoor
namespace Go.Proofs.YtfkejnlohkgbgaaGreatDoor
open Go Go.SL Go.RowKit Tryz
variable {Fz M M' : Nat → Prop} {w w' : World}
end Go.Proofs.YtfkejnlohkgbgaaGreatDoor
