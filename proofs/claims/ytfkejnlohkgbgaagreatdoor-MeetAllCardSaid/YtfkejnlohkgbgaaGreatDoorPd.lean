/- Lemmas and walks of functions; no statement. -/
import Derived.Test.YtfkejnlohkgbgaaGreatDoorPc
set_option linter.unusedVariables false
set_option linter.unusedSimpArgs false
set_option maxRecDepth 100000
namespace Go.Proofs.YtfkejnlohkgbgaaGreatDoor
open Go.SL Go.RowKit Go.Proofs Tryz
variable {M : Nat → Prop} {w : World}
def hP (M : Nat → Prop) (q : Rat) : VP := fun v w => ∃ b a d, v = .pointer (some ⟨b, 0, none⟩) ∧ KBlk M w b 167 [.bool (decide ((q).num < 0)), a, d] ∧ IsNat M w a (limbs q.num.natAbs) ∧ IsNat M w d (limbs q.den)
theorem rptr_mono {M : Nat → Prop} {q : Rat} : ∀ v w w', hP M q v w → Rb w w' → hP M q v w' := fun _ _ _ ⟨b, a, d, h1, h2, h3, h4⟩ r => ⟨b, a, d, h1, h2.mono (lb r), jQ _ _ _ h3 r, jQ _ _ _ h4 r⟩
theorem bX {s : Bool} {v u : Value} {xs ds : List Nat} (hT : Tab M w) (hv : IsNat M w v xs) (hu : IsNat M w u ds) (hl1 : xs.length ≤ 10000000) (hl2 : ds.length ≤ 10000000) (hM : OkM M w) :
    CallsV prog 140 [.agg #[.bool s, v, u]] w fun r w' => Bel w.heap.size w w' ∧ ∃ b a d, r = .pointer (some ⟨b, 0, none⟩) ∧ w.heap.size ≤ b ∧ Blk w' b 167 [.bool (decide ((mkRat (zv s xs) (val ds)).num < 0)), a, d] ∧ IsNat M w' a (limbs (mkRat (zv s xs) (val ds)).num.natAbs) ∧ IsNat M w' d (limbs (mkRat (zv s xs) (val ds)).den) := by
 refine ci M func140 ntmps140 fun Fz hFz hF LL => ?_
 refine zH (zB (yG rfl rfl (fun w1 b1 N1 => ?_)))
 obtain ⟨hBw1, nF1, nM1, Lw1, B1⟩ := nza hF hM N1
 obtain ⟨LL, hM, hF, hT, hv, hu⟩ := up6 Lw1 LL hM hF hT hv hu
 refine zF rfl rfl (zD (zH (zB (zM rfl yV yM rfl B1 rfl rfl (xM rfl plc167 rfl rfl (zX (rfl) xD) rfl (yG rfl rfl (fun w2 b6 N6 => ?_)))))))
 obtain ⟨_, nF6, nM6, Lw2, B6⟩ := nza hF hM N6
 have lt1_6 := B1.lt
 have ne1_6 := N6.ne lt1_6
 obtain ⟨LL, hM, hT, hv, hu⟩ := up5 Lw2 LL hM hT hv hu
 refine zF rfl rfl (zD (zH (zB (zA rfl rfl (zI rfl (bo func191) rfl rfl ?_)))))
 refine (rnorm_c (Fz := NB _ b6) (M := (Ins b6 (Ins b1 M))) hT B6 hv hu (by omega) (by omega) zQ kS bR hM).mono ?_
 rintro v8 w3 ⟨rfl, Lqw3, a8, d8, B6b, hn8, hm8⟩
 have Lw3 := Lqw3.refz nF6
 replace LL := LL.trans Lw3
 clear B6; have B6 := B6b
 refine zD (zH (zB (zA rfl rfl (zF rfl rfl (zD (zW ?_))))))
 refine lv1 ⟨rfl, trivial⟩ ?_
 have hsz := N6.at_
 have hs1 := hBw1.size
 subst hFz
 exact ⟨LL.b, b6, _, _, rfl, by omega, B6, hn8.less fun k c => zJ (zJ c), hm8.less fun k c => zJ (zJ c)⟩
theorem rnrm_c {s : Bool} {v u : Value} {xs ds : List Nat} (hT : Tab M w) (hv : IsNat M w v xs) (hu : IsNat M w u ds) (hl1 : xs.length ≤ 10000000) (hl2 : ds.length ≤ 10000000) (hM : OkM M w) :
    CallsV prog 126 [.agg #[.bool s, v, u]] w fun r w' => Bel w.heap.size w w' ∧ ∃ a d, r = .agg #[.bool (decide ((mkRat (zv s xs) (val ds)).num < 0)), a, d] ∧ IsNat M w' a (limbs (mkRat (zv s xs) (val ds)).num.natAbs) ∧ IsNat M w' d (limbs (mkRat (zv s xs) (val ds)).den) := by
 refine ci M func126 ntmps126 fun Fz hFz hF LL => ?_
 refine zH (zB (yG rfl rfl (fun w1 b1 N1 => ?_)))
 obtain ⟨_, nF1, nM1, Lw1, B1⟩ := nza hF hM N1
 obtain ⟨LL, hM, hF, hT, hv, hu⟩ := up6 Lw1 LL hM hF hT hv hu
 refine yI rfl yM (fun w2 b2 N2 => ?_)
 obtain ⟨hBw2, nF2, nM2, Lw2, B2⟩ := nza hF hM N2
 obtain ⟨B1, ne1_2⟩ := bn B1 N2
 obtain ⟨LL, hM, hT, hv, hu⟩ := up5 Lw2 LL hM hT hv hu
 refine zD (zH (zB (zM rfl yV yM rfl B1 rfl rfl (zI rfl (bo func140) rfl rfl ?_))))
 refine (bX (s := s) hT hv hu hl1 hl2 hM).mono ?_
 rintro v4 w3 ⟨hB4, b4, a4, d4, rfl, hz4, B4, hn4, hm4⟩
 have hk4 : KBlk (Ins b2 (Ins b1 M)) w3 b4 167 _ := ⟨B4, fun c => by have := hM _ c; omega⟩
 obtain ⟨LL, B2⟩ := ub2 hB4 LL B2
 refine yJ rfl rfl (yY 0 rfl yu167 rfl rfl yM rfl rfl (zM rfl yV yM rfl hk4.blk rfl rfl (zV rfl rfl yM B2 rfl rfl (zU (zU (zU xY))) rfl (fun w4 Cw4 B2 => ?_))))
 obtain ⟨LL, hn4, hm4⟩ := up3 (lc LL Cw4 zQ nF2) LL hn4 hm4
 refine zD (zW ?_)
 refine lv1 ⟨⟨_, rfl, yQ yV yM B2 rfl rfl⟩, trivial⟩ ?_
 subst hFz
 exact ⟨LL.b, _, _, rfl, hn4.less (fun k c => zJ (zJ c)), hm4.less (fun k c => zJ (zJ c))⟩
theorem bD {s : Bool} {xs ds : List Nat} (h1 : ∀ x ∈ xs, x < 4294967296) (h2 : ∀ x ∈ ds, x < 4294967296) : (limbs (mkRat (zv s xs) (val ds)).num.natAbs).length ≤ xs.length ∧ (limbs (mkRat (zv s xs) (val ds)).den).length ≤ ds.length + 1 := by
  by_cases hd : val ds = 0
  · rw [hd]; simp [xQ, qK]
  · have h := dK (z := zv s xs) hd
    rw [uQ] at h
    rw [h.2.1, h.2.2]
    exact ⟨Nat.le_trans (yS (Nat.div_le_self _ _)) (yN xs h1), Nat.le_succ_of_le (Nat.le_trans (yS (Nat.div_le_self _ _)) (yN ds h2))⟩
theorem rsgn_c {s : Bool} {v u : Value} {xs ds : List Nat} (hT : Tab M w) (hv : IsNat M w v xs) (hu : IsNat M w u ds) (hl1 : xs.length ≤ 10000000) (hl2 : ds.length ≤ 10000000) (hM : OkM M w) :
    CallsV prog 138 [.agg #[.bool s, v, u]] w fun r w' => Bel w.heap.size w w' ∧ r = .int .i64 (mkRat (zv s xs) (val ds)).num.sign := by
 refine ci M func138 ntmps138 fun Fz hFz hF LL => ?_
 refine zH (zB (yG rfl rfl (fun w1 b1 N1 => ?_)))
 obtain ⟨_, nF1, nM1, Lw1, B1⟩ := nza hF hM N1
 obtain ⟨LL, hM, hT, hv, hu⟩ := up5 Lw1 LL hM hT hv hu
 refine zF rfl rfl (zD (zH (zB (zM rfl yV yM rfl B1 rfl rfl (zI rfl (bo func140) rfl rfl ?_)))))
 refine (bX (s := s) hT hv hu hl1 hl2 hM).mono ?_
 rintro v4 w2 ⟨hB4, b4, a4, d4, rfl, hz4, B4, hn4, hm4⟩
 have hk4 : KBlk (Ins b1 M) w2 b4 167 _ := ⟨B4, fun c => by have := hM _ c; omega⟩
 obtain ⟨LL, hM, hv, hu⟩ := ub4 hB4 LL hM hv hu
 refine yJ rfl rfl (yY 0 rfl yu167 rfl rfl yM rfl rfl (yY 0 rfl yu33 rfl rfl xE rfl rfl (zM rfl xX xE rfl hk4.blk rfl rfl (zI rfl (bo func189) rfl rfl ?_))))
 refine (isgn_c hn4 (by have := hv.len; have := bD (s := s) hv.lt hu.lt; omega) hM).mono ?_
 rintro v9 w3 ⟨hB9, rfl⟩
 replace LL := ub1 hB9 LL
 rw [gR]
 refine zF rfl rfl (zD (zW ?_))
 refine lv1 ⟨rfl, trivial⟩ ?_
 subst hFz
 exact ⟨LL.b, rfl⟩
theorem rnew_c {s : Bool} {v u : Value} {xs ds : List Nat} (hT : Tab M w) (hv : IsNat M w v xs) (hu : IsNat M w u ds) (hl1 : xs.length ≤ 10000000) (hl2 : ds.length ≤ 10000000) (hM : OkM M w) :
    CallsV prog 158 [.agg #[.bool s, v], u] w fun r w' => Bel w.heap.size w w' ∧ ∃ a d, r = .tuple #[.agg #[.bool (decide ((mkRat (zv s xs) (val ds)).num < 0)), a, d], .int .i64 (if val ds = 0 then 30 else 0)] ∧ IsNat M w' a (limbs (mkRat (zv s xs) (val ds)).num.natAbs) ∧ IsNat M w' d (limbs (mkRat (zv s xs) (val ds)).den) := by
 refine ci M func158 ntmps158 fun Fz hFz hF LL => ?_
 refine zH (zB (yG rfl rfl (fun w1 b2 N2 => ?_)))
 obtain ⟨_, nF2, nM2, Lw1, B2⟩ := nza hF hM N2
 obtain ⟨LL, hM, hF, hT, hv, hu⟩ := up6 Lw1 LL hM hF hT hv hu
 refine yI rfl yM (fun w2 b4 N4 => ?_)
 obtain ⟨hBw2, nF4, nM4, Lw2, B4⟩ := nza hF hM N4
 obtain ⟨B2, ne2_4⟩ := bn B2 N4
 obtain ⟨LL, hM, hF, hT, hv, hu⟩ := up6 Lw2 LL hM hF hT hv hu
 refine zF rfl rfl (zD (zH (zB (zM rfl xX xE rfl B2 rfl rfl (zA rfl rfl (xM rfl fC rfl rfl (zX (rfl) (zX (gS (by first | rfl | exact yX (by assumption) | exact yZ (by assumption) | assumption)) xD)) rfl (xM rfl plc167 rfl rfl (zX (rfl) xD) rfl (yG rfl rfl (fun w3 b11 N11 => ?_)))))))))
 obtain ⟨hBw3, nF11, nM11, Lw3, B11⟩ := nza hF hM N11
 have lt2_11 := B2.lt
 have ne2_11 := N11.ne lt2_11
 obtain ⟨B4, ne4_11⟩ := bn B4 N11
 obtain ⟨LL, hM, hT, hv, hu⟩ := up5 Lw3 LL hM hT hv hu
 refine zF rfl rfl (zD (zH (zH (zB (zA rfl rfl (zI rfl (bo func191) rfl rfl ?_))))))
 refine (rnorm_c (Fz := NB _ b11) (M := (Ins b11 (Ins b4 (Ins b2 M)))) hT B11 hv hu (by omega) (by omega) zQ kS bR hM).mono ?_
 rintro v13 w4 ⟨rfl, Lqw4, a13, d13, B11b, hn13, hm13⟩
 have Lw4 := Lqw4.refz nF11
 replace LL := LL.trans Lw4
 replace B4 := B4.nb Lqw4 ne4_11
 clear B11; have B11 := B11b
 refine gX rfl rfl (zD ?_)
 refine qI rfl (fun hc0 => ?_) (fun hc0 => ?_)
 ·have hd0 : val ds = 0 := by simpa using hc0
  refine zH (zB (zA rfl rfl (yJ rfl rfl (zL 0 rfl yu167 rfl rfl yM rfl rfl (zM rfl yV yM rfl B11 rfl rfl (zV rfl rfl yM B4 rfl rfl (zU (zU (zU xY))) rfl (fun w5 Cw5 B4 => ?_)))))))
  obtain ⟨LL, hn13, hm13⟩ := up3 (lc LL Cw5 (.inr zQ) nF4) LL hn13 hm13
  refine zF rfl rfl (zD (zW ?_))
  refine xL ⟨[_, _], ⟨⟨_, rfl, yQ yV yM B4 rfl rfl⟩, rfl, trivial⟩, ?_⟩
  dsimp only [xW]
  subst hFz
  exact ⟨LL.b, _, _, by rw [if_pos hd0]; rfl, hn13.less (fun k c => zJ (zJ (zJ c))), hm13.less (fun k c => zJ (zJ (zJ c)))⟩
 ·have hd0 : val ds ≠ 0 := by simpa using hc0
  refine yH (zH (zB (zA rfl rfl (yJ rfl rfl (zL 0 rfl yu167 rfl rfl yM rfl rfl (zM rfl yV yM rfl B11 rfl rfl (zV rfl rfl yM B4 rfl rfl (zU (zU (zU xY))) rfl (fun w6 Cw6 B4 => ?_))))))))
  obtain ⟨LL, hn13, hm13⟩ := up3 (lc LL Cw6 (.inr zQ) nF4) LL hn13 hm13
  refine zF rfl rfl (zD (zW ?_))
  refine xL ⟨[_, _], ⟨⟨_, rfl, yQ yV yM B4 rfl rfl⟩, rfl, trivial⟩, ?_⟩
  dsimp only [xW]
  subst hFz
  exact ⟨LL.b, _, _, by rw [if_neg hd0]; rfl, hn13.less (fun k c => zJ (zJ (zJ c))), hm13.less (fun k c => zJ (zJ (zJ c)))⟩
end Go.Proofs.YtfkejnlohkgbgaaGreatDoor
set_option maxRecDepth 100000
namespace Go.Proofs.YtfkejnlohkgbgaaGreatDoor
open Go.SL Go.RowKit Go.Proofs Tryz
variable {M : Nat → Prop} {w : World}
theorem rneg_c {s : Bool} {v u : Value} {xs ds : List Nat} (hT : Tab M w) (hv : IsNat M w v xs) (hu : IsNat M w u ds) (hl1 : xs.length ≤ 10000000) (hl2 : ds.length ≤ 10000000) (hM : OkM M w) :
    CallsV prog 139 [.agg #[.bool s, v, u]] w fun r w' => Bel w.heap.size w w' ∧ ∃ a d, r = .agg #[.bool (decide ((-mkRat (zv s xs) (val ds)).num < 0)), a, d] ∧ IsNat M w' a (limbs (-mkRat (zv s xs) (val ds)).num.natAbs) ∧ IsNat M w' d (limbs (-mkRat (zv s xs) (val ds)).den) := by
 have hnl := bD (s := s) hv.lt hu.lt
 refine ci M func139 ntmps139 fun Fz hFz hF LL => ?_
 refine zH (zB (yG rfl rfl (fun w1 b1 N1 => ?_)))
 obtain ⟨_, nF1, nM1, Lw1, B1⟩ := nza hF hM N1
 obtain ⟨LL, hM, hF, hT, hv, hu⟩ := up6 Lw1 LL hM hF hT hv hu
 refine yI rfl yM (fun w2 b2 N2 => ?_)
 obtain ⟨hBw2, nF2, nM2, Lw2, B2⟩ := nza hF hM N2
 obtain ⟨B1, ne1_2⟩ := bn B1 N2
 obtain ⟨LL, hM, hF, hT, hv, hu⟩ := up6 Lw2 LL hM hF hT hv hu
 refine zD (zH (zB (zM rfl yV yM rfl B1 rfl rfl (zI rfl (bo func140) rfl rfl ?_))))
 refine (bX (s := s) hT hv hu hl1 hl2 hM).mono ?_
 rintro v5 w3 ⟨hB5, b5, a5, d5, rfl, hz5, B5, hn5, hm5⟩
 have nF5 : ¬ Fz b5 := fun c => by have := hF _ c; omega
 have nM5 : ¬ (Ins b2 (Ins b1 M)) b5 := fun c => by have := hM _ c; omega
 have Lw3 := Le.of_below_ins (Fz := Fz) (M := (Ins b2 (Ins b1 M))) (b := b5) hB5 hz5 B5.lt
 have ne1_5 : b1 ≠ b5 := by have := B1.lt; omega
 have ne2_5 : b2 ≠ b5 := by have := B2.lt; omega
 replace B2 := B2.below hB5
 obtain ⟨LL, hM⟩ := up2 Lw3 LL hM
 have hx5 := rat_ins hn5 hn5 hm5 B5
 replace hm5 := rat_ins hm5 hn5 hm5 B5
 replace hn5 := hx5
 clear hx5
 refine zF rfl rfl (zD (zH (zB (zA rfl rfl (zA rfl rfl (yJ rfl rfl (zL 0 rfl yu167 rfl rfl yM rfl rfl (zL 0 rfl yu33 rfl rfl xE rfl rfl (zM rfl xX xE rfl B5 rfl rfl (zI rfl (bo func190) rfl rfl ?_))))))))))
 refine (ineg_c hn5 (by omega) hM).mono ?_
 rintro v12 w4 ⟨hB12, q12, rfl, hn12⟩
 obtain ⟨LL, hm5, B2, B5⟩ := ub4 hB12 LL hm5 B2 B5
 rw [gR]; rw [gR] at hn12
 refine yJ rfl rfl (zL 0 rfl yu167 rfl rfl yM rfl rfl (zL 0 rfl yu33 rfl rfl xE rfl rfl (zV rfl rfl xE B5 rfl rfl (zU (zU xY)) rfl (fun w5 Cw5 B5 => ?_))))
 obtain ⟨LL, hm5, hn12⟩ := up3 (lc LL Cw5 zQ nF5) LL hm5 hn12
 replace B2 := B2.other Cw5 ne2_5
 refine zD (zH (zB (zA rfl rfl (yJ rfl rfl (zL 0 rfl yu167 rfl rfl yM rfl rfl (zM rfl yV yM rfl B5 rfl rfl (zV rfl rfl yM B2 rfl rfl (zU (zU (zU xY))) rfl (fun w6 Cw6 B2 => ?_))))))))
 obtain ⟨LL, hm5, hn12⟩ := up3 (lc LL Cw6 (.inr zQ) nF2) LL hm5 hn12
 refine zD (zW ?_)
 refine lv1 ⟨⟨_, rfl, yQ yV yM B2 rfl rfl⟩, trivial⟩ ?_
 rw [Rat.neg_num, Rat.neg_den]
 subst hFz
 exact ⟨LL.b, _, _, rfl, hn12.less (fun k c => zJ (zJ (zJ c))), hm5.less (fun k c => zJ (zJ (zJ c)))⟩
theorem rmulp_c {Fz M : Nat → Prop} {w : World} {bn ba : Nat} {p q : Rat} {v u v2 u2 : Value} (hT : Tab M w) (Bn : Blk w bn 167 [.bool (decide (p.num < 0)), v, u]) (hv : IsNat M w v (limbs p.num.natAbs)) (hu : IsNat M w u (limbs p.den)) (hka : KBlk M w ba 167 [.bool (decide (q.num < 0)), v2, u2]) (hvq : IsNat M w v2 (limbs q.num.natAbs)) (huq : IsNat M w u2 (limbs q.den))
    (hl1 : (limbs p.num.natAbs).length ≤ 400000) (hl2 : (limbs p.den).length ≤ 400000) (hl3 : (limbs q.num.natAbs).length ≤ 400000) (hl4 : (limbs q.den).length ≤ 400000) (hmn : M bn) (nFn : ¬ Fz bn) (hF : FOk Fz w) (hM : OkM M w) :
    CallsV prog 212 [.pointer (some ⟨bn, 0, none⟩), .pointer (some ⟨ba, 0, none⟩)] w fun r w' => Le Fz M w M w' ∧ ∃ a d, Blk w' bn 167 [.bool (decide ((p * q).num < 0)), a, d] ∧ IsNat M w' a (limbs (p * q).num.natAbs) ∧ IsNat M w' d (limbs (p * q).den) := by
 have Ba := hka.blk
 have nea_n : ba ≠ bn := fun e => hka.not (e ▸ hmn)
 have hzd : ∀ n, zv false (limbs n) = ((n : Nat) : Int) := fun n => by simp [zv, yF]
 obtain ⟨K, hK⟩ : ∃ K : Nat, K = 400000 := ⟨_, rfl⟩
 rw [← hK] at hl1 hl2 hl3 hl4
 have hz1 : kH [(decide (p.num < 0), limbs p.num.natAbs), (decide (q.num < 0), limbs q.num.natAbs)] = p.num * q.num := by unfold kH; simp only [List.foldl_cons, List.foldl_nil, gR, Int.one_mul]
 have hmk : mkRat (p.num * q.num) (p.den * q.den) = p * q := by
   conv => rhs; rw [← Rat.mkRat_self p, ← Rat.mkRat_self q]
   rw [Rat.mkRat_mul_mkRat]
 have LL := Le.refl Fz M w
 refine jP func212 rfl ntmps212 rfl ?_
 refine zH ?_
 refine bU (R := Rs (· = bn)) (R' := Rb) (st := some (28, (fun w => Blk w bn 167 [.bool (decide (p.num < 0)), v, u]), (fun w => ∃ a, Blk w bn 167 [.bool (decide (p.num * q.num < 0)), a, u] ∧ IsNat M w a (limbs (p.num * q.num).natAbs)))) mixed 29 [0, 5, 28] (qV (by decide +kernel)) bM eQ (cM _) (fun _ _ _ h => by cases h; exact ⟨by decide, Bn, fun _ _ h r => h.below r, fun _ _ ⟨a, h1, h2⟩ r => ⟨a, h1.below r, jQ _ _ _ h2 r⟩, _, rfl⟩) ?_
 apply yO rfl
 ·intro wq hR hst
  refine zP rfl rfl (zC ?_)
  have Lq := lqb (M := M) hR hmn nFn
  replace Ba := Ba.rs hR nea_n
  exact zA rfl rfl (on0 rfl)
 apply yO rfl
 ·intro wq hR hst
  refine zP rfl rfl (zC ?_)
  have Lq := lqb (M := M) hR hmn nFn
  replace Ba := Ba.rs hR nea_n
  exact zA rfl rfl (on0 rfl)
 apply yO rfl
 ·intro wq hR hst
  refine zP rfl rfl (zC ?_)
  have Lq := lqb (M := M) hR hmn nFn
  replace Ba := Ba.rs hR nea_n
  exact zA rfl rfl (on0 rfl)
 apply yO rfl
 ·intro wq hR hst
  refine zK rfl (zC ?_)
  have Lq := lqb (M := M) hR hmn nFn
  replace Ba := Ba.rs hR nea_n
  exact yJ rfl rfl (on0 rfl)
 apply yO rfl
 ·intro wq hR hst
  refine zK rfl (zC ?_)
  have Lq := lqb (M := M) hR hmn nFn
  replace Ba := Ba.rs hR nea_n
  exact zL 0 rfl yu167 rfl rfl yM rfl rfl (on0 rfl)
 apply yO rfl
 ·intro wq hR hst
  refine zK rfl (zC ?_)
  have Lq := lqb (M := M) hR hmn nFn
  replace Ba := Ba.rs hR nea_n
  exact zL 0 rfl yu33 rfl rfl xE rfl rfl (on0 rfl)
 apply yO rfl
 ·intro wq hR hst
  refine zK rfl (zC ?_)
  have Lq := lqb (M := M) hR hmn nFn
  replace Ba := Ba.rs hR nea_n
  replace Bn := (hst.2 (by decide +kernel))
  exact zM rfl xX xE rfl Bn rfl rfl (on0 rfl)
 apply yO rfl
 ·intro wq hR hst
  refine zP rfl rfl (zC ?_)
  have Lq := lqb (M := M) hR hmn nFn
  replace Ba := Ba.rs hR nea_n
  exact zA rfl rfl (on0 rfl)
 apply yO rfl
 ·intro wq hR hst
  refine zK rfl (zC ?_)
  have Lq := lqb (M := M) hR hmn nFn
  replace Ba := Ba.rs hR nea_n
  exact yJ rfl rfl (on0 rfl)
 apply yO rfl
 ·intro wq hR hst
  refine zK rfl (zC ?_)
  have Lq := lqb (M := M) hR hmn nFn
  replace Ba := Ba.rs hR nea_n
  exact zL 0 rfl yu167 rfl rfl yM rfl rfl (on0 rfl)
 apply yO rfl
 ·intro wq hR hst
  refine zK rfl (zC ?_)
  have Lq := lqb (M := M) hR hmn nFn
  replace Ba := Ba.rs hR nea_n
  exact zL 0 rfl yu33 rfl rfl xE rfl rfl (on0 rfl)
 apply yO rfl
 ·intro wq hR hst
  refine zK rfl (zC ?_)
  have Lq := lqb (M := M) hR hmn nFn
  replace Ba := Ba.rs hR nea_n
  exact zM rfl xX xE rfl Ba rfl rfl (on0 rfl)
 refine qG rfl (fun v w => IsInts M w v [(decide (p.num < 0), limbs p.num.natAbs), (decide (q.num < 0), limbs q.num.natAbs)]) (fun _ _ _ h r => h.mono (Fz := fun _ => False) (Le.of_rs r (by rintro _ rfl; exact hmn) (fun _ _ h => h))) (fun wq hR hst => ?_) ?_
 ·refine zK rfl (zK rfl (zC ?_))
  have Lq := lqb (M := M) hR hmn nFn
  obtain ⟨hM, hv, hvq⟩ := up3 Lq hM hv hvq
  replace Ba := Ba.rs hR nea_n
  refine xA rfl yu174 xE rfl rfl rfl rfl (zX rfl (zX rfl xD)) rfl rfl rfl (fun w1 b16 N16 => ?_)
  have hBw1 := N16.below
  have nM16 := hM.new N16
  have B16 := N16.blk
  obtain ⟨hv, hvq, Ba⟩ := ub3 hBw1 hv hvq Ba
  have hn16 : IsInts M w1 (.slice (some ⟨b16, 0, none⟩) 2 2) [(decide (p.num < 0), limbs p.num.natAbs), (decide (q.num < 0), limbs q.num.natAbs)] := eU B16 nM16 hv hvq
  have hB16 := hBw1
  exact on1 hB16 rfl hn16
 refine qG rfl (fun v w => ∃ c, v = .agg #[.bool (decide (p.num * q.num < 0)), c] ∧ IsNat M w c (limbs (p.num * q.num).natAbs)) (fun _ _ _ ⟨q, h1, h2⟩ r => ⟨q, h1, h2.rs r (by rintro _ rfl; exact hmn)⟩) (fun wq hR hst => ?_) ?_
 ·refine yD rfl (fun v16 hn16 => ?_)
  refine zC ?_
  have Lq := lqb (M := M) hR hmn nFn
  replace hM := hM.mono Lq
  replace Ba := Ba.rs hR nea_n
  refine zI rfl (bo func146) rfl rfl ?_
  refine (dL (L := 400000) hn16 (by intro x hx; rcases List.mem_cons.1 hx with rfl | hx; exact jR _; rcases List.mem_cons.1 hx with rfl | hx; exact jR _; cases hx) (by intro x hx; rcases List.mem_cons.1 hx with rfl | hx; dsimp only; omega; rcases List.mem_cons.1 hx with rfl | hx; dsimp only; omega; cases hx) ⟨by simp, by omega⟩ hM).mono ?_
  rintro v17 w2 ⟨hB17, q17, rfl, hn17⟩
  replace Ba := Ba.below hB17
  rw [hz1]; rw [hz1] at hn17
  exact on1 hB17 rfl ⟨_, rfl, hn17⟩
 apply yO rfl
 ·intro wq hR hst
  refine zP rfl rfl (zC ?_)
  have Lq := lqb (M := M) hR hmn nFn
  replace Ba := Ba.rs hR nea_n
  exact zA rfl rfl (on0 rfl)
 apply yO rfl
 ·intro wq hR hst
  refine zK rfl (zC ?_)
  have Lq := lqb (M := M) hR hmn nFn
  replace Ba := Ba.rs hR nea_n
  exact yJ rfl rfl (on0 rfl)
 apply yO rfl
 ·intro wq hR hst
  refine zK rfl (zC ?_)
  have Lq := lqb (M := M) hR hmn nFn
  replace Ba := Ba.rs hR nea_n
  exact zL 0 rfl yu167 rfl rfl yM rfl rfl (on0 rfl)
 apply yO rfl
 ·intro wq hR hst
  refine zK rfl (zC ?_)
  have Lq := lqb (M := M) hR hmn nFn
  replace Ba := Ba.rs hR nea_n
  exact zL 2 rfl yu33 rfl rfl xV rfl rfl (on0 rfl)
 apply yO rfl
 ·intro wq hR hst
  refine zK rfl (zC ?_)
  have Lq := lqb (M := M) hR hmn nFn
  replace Ba := Ba.rs hR nea_n
  replace Bn := (hst.2 (by decide +kernel))
  exact zT rfl yU rfl Bn rfl (on0 rfl)
 apply yO rfl
 ·intro wq hR hst
  refine zP rfl rfl (zC ?_)
  have Lq := lqb (M := M) hR hmn nFn
  replace Ba := Ba.rs hR nea_n
  exact zA rfl rfl (on0 rfl)
 apply yO rfl
 ·intro wq hR hst
  refine zK rfl (zC ?_)
  have Lq := lqb (M := M) hR hmn nFn
  replace Ba := Ba.rs hR nea_n
  exact yJ rfl rfl (on0 rfl)
 apply yO rfl
 ·intro wq hR hst
  refine zK rfl (zC ?_)
  have Lq := lqb (M := M) hR hmn nFn
  replace Ba := Ba.rs hR nea_n
  exact zL 0 rfl yu167 rfl rfl yM rfl rfl (on0 rfl)
 apply yO rfl
 ·intro wq hR hst
  refine zK rfl (zC ?_)
  have Lq := lqb (M := M) hR hmn nFn
  replace Ba := Ba.rs hR nea_n
  exact zL 2 rfl yu33 rfl rfl xV rfl rfl (on0 rfl)
 apply yO rfl
 ·intro wq hR hst
  refine zK rfl (zC ?_)
  have Lq := lqb (M := M) hR hmn nFn
  replace Ba := Ba.rs hR nea_n
  exact zT rfl yU rfl Ba rfl (on0 rfl)
 refine qG rfl (fun v w => IsNat M w v (limbs (p.den * q.den))) (fun _ _ _ h r => h.rs r (by rintro _ rfl; exact hmn)) (fun wq hR hst => ?_) ?_
 ·refine zK rfl (zK rfl (zC ?_))
  obtain ⟨LL, hM, hu, huq⟩ := up4 (lqc LL hR hmn nFn) LL hM hu huq
  replace Ba := Ba.rs hR nea_n
  refine zI rfl (bo func159) rfl rfl ?_
  refine (mul_c hu huq (by omega) (by omega) hM).mono ?_
  rintro v28 w3 ⟨hB28, hf28⟩
  have hM28 := hM
  have hS28 := LL.size
  replace Ba := Ba.below hB28
  rw [yF, yF] at hf28
  have hn28 := hf28.nat hM28
  exact on1 hB28 rfl hn28
 apply yO rfl
 ·intro wq hR hst
  refine zK rfl (zC ?_)
  have Lq := lqb (M := M) hR hmn nFn
  replace Ba := Ba.rs hR nea_n
  exact yJ rfl rfl (on0 rfl)
 apply yO rfl
 ·intro wq hR hst
  refine zK rfl (zC ?_)
  have Lq := lqb (M := M) hR hmn nFn
  replace Ba := Ba.rs hR nea_n
  exact zL 0 rfl yu167 rfl rfl yM rfl rfl (on0 rfl)
 apply yO rfl
 ·intro wq hR hst
  refine zK rfl (zC ?_)
  have Lq := lqb (M := M) hR hmn nFn
  replace Ba := Ba.rs hR nea_n
  exact zL 0 rfl yu33 rfl rfl xE rfl rfl (on0 rfl)
 refine dM rfl (fun wq hR hp => ?_) ?_
 ·refine zK rfl (yD rfl (fun v17 hn17 => ?_))
  refine zC ?_
  have Lq := lqb (M := M) hR hmn nFn
  replace Ba := Ba.rs hR nea_n
  replace Bn := hp
  obtain ⟨q17, rfl, hn17x⟩ := hn17
  refine zV rfl rfl xE Bn rfl rfl (zU (zU xY)) rfl (fun w4 Cw4 Bn => ?_)
  replace Ba := Ba.other Cw4 nea_n
  try simp only [List.set_cons_zero, List.set_cons_succ, List.take_succ_cons, List.take_zero, List.drop_succ_cons, List.drop_zero, List.drop_nil, List.cons_append, List.nil_append, List.append_nil] at Bn
  exact zD ⟨rfl, cN Cw4, _, Bn, hn17x.rs (cN Cw4) (by rintro _ rfl; exact hmn)⟩
 refine xI (fun wq0 hR0 hpost0 => ?_)
 refine zP rfl rfl (zK rfl (yD rfl (fun v28 hn28 => ?_)))
 refine zC ?_
 simp only [jC, jB, jA, xZ]
 obtain ⟨LL, hM, hT⟩ := up3 (lqc LL hR0 hmn nFn) LL hM hT
 replace Ba := Ba.rs hR0 nea_n
 obtain ⟨a45, Bn, hn45⟩ := hpost0 _ _ _ rfl
 refine yJ rfl rfl (zL 0 rfl yu167 rfl rfl yM rfl rfl (zL 2 rfl yu33 rfl rfl xV rfl rfl (jM (i := 2) rfl rfl xV Bn (by first | rfl | exact yZ (by assumption) | assumption | exact yX (by assumption)) (by simp) (fun w5 Cw5 Bn => ?_))))
 obtain ⟨LL, hM, hT, hn28, hn45⟩ := up5 (lc LL Cw5 hmn nFn) LL hM hT hn28 hn45
 replace Ba := Ba.other Cw5 nea_n
 refine zD (zB (zA rfl rfl (zI rfl (bo func191) rfl rfl ?_)))
 refine (rnorm_c (Fz := NB _ bn) (M := M) hT Bn hn45 hn28 (by have := kD (xJ hl1) (xJ hl3); rw [Int.natAbs_mul]; omega) (by have := kD (xJ hl2) (xJ hl4); omega) hmn kS bR hM).mono ?_
 rintro v36 w6 ⟨rfl, Lqw6, a36, d36, Bn2, hn36, hm36⟩
 have Lw6 := Lqw6.refz nFn
 replace LL := LL.trans Lw6
 replace Ba := Ba.nb Lqw6 nea_n
 clear Bn; have Bn := Bn2
 rw [gR, yF, hmk] at Bn hn36 hm36
 refine zD ?_
 refine xL ⟨[], trivial, ?_⟩
 dsimp only [xW]
 exact ⟨LL, _, _, Bn, hn36, hm36⟩
end Go.Proofs.YtfkejnlohkgbgaaGreatDoor
set_option maxRecDepth 100000
namespace Go.Proofs.YtfkejnlohkgbgaaGreatDoor
open Go.SL Go.RowKit Go.Proofs Tryz
variable {M : Nat → Prop} {w : World}
theorem raddp_c {Fz M : Nat → Prop} {w : World} {bn ba : Nat} {p q : Rat} {v u v2 u2 : Value} (hT : Tab M w) (Bn : Blk w bn 167 [.bool (decide (p.num < 0)), v, u]) (hv : IsNat M w v (limbs p.num.natAbs)) (hu : IsNat M w u (limbs p.den)) (hka : KBlk M w ba 167 [.bool (decide (q.num < 0)), v2, u2]) (hvq : IsNat M w v2 (limbs q.num.natAbs)) (huq : IsNat M w u2 (limbs q.den))
    (hl1 : (limbs p.num.natAbs).length ≤ 400000) (hl2 : (limbs p.den).length ≤ 400000) (hl3 : (limbs q.num.natAbs).length ≤ 400000) (hl4 : (limbs q.den).length ≤ 400000) (hmn : M bn) (nFn : ¬ Fz bn) (hF : FOk Fz w) (hM : OkM M w) :
    CallsV prog 214 [.pointer (some ⟨bn, 0, none⟩), .pointer (some ⟨ba, 0, none⟩)] w fun r w' => Le Fz M w M w' ∧ ∃ a d, Blk w' bn 167 [.bool (decide ((p + q).num < 0)), a, d] ∧ IsNat M w' a (limbs (p + q).num.natAbs) ∧ IsNat M w' d (limbs (p + q).den) := by
 have Ba := hka.blk
 have nea_n : ba ≠ bn := fun e => hka.not (e ▸ hmn)
 have hzd : ∀ n, zv false (limbs n) = ((n : Nat) : Int) := fun n => by simp [zv, yF]
 obtain ⟨K, hK⟩ : ∃ K : Nat, K = 400000 := ⟨_, rfl⟩
 rw [← hK] at hl1 hl2 hl3 hl4
 have hz1 : kH [(decide (p.num < 0), limbs p.num.natAbs), (false, limbs q.den)] = p.num * q.den := by unfold kH; simp only [List.foldl_cons, List.foldl_nil, gR, hzd, Int.one_mul]
 have hz2 : kH [(decide (q.num < 0), limbs q.num.natAbs), (false, limbs p.den)] = q.num * p.den := by unfold kH; simp only [List.foldl_cons, List.foldl_nil, gR, hzd, Int.one_mul]
 have hz3 : eF [(decide (p.num * q.den < 0), limbs (p.num * q.den).natAbs), (decide (q.num * p.den < 0), limbs (q.num * p.den).natAbs)] = p.num * q.den + q.num * p.den := by unfold eF; simp only [List.map_cons, List.map_nil, gR, List.sum_cons, List.sum_nil]; omega
 have hle1 : (limbs (p.num * q.den).natAbs).length ≤ 900000 := by have := kD (xJ hl1) (xJ hl4); rw [Int.natAbs_mul, Int.natAbs_natCast]; omega
 have hle2 : (limbs (q.num * p.den).natAbs).length ≤ 900000 := by have := kD (xJ hl3) (xJ hl2); rw [Int.natAbs_mul, Int.natAbs_natCast]; omega
 have hle3 : (limbs (p.num * q.den + q.num * p.den).natAbs).length ≤ 10000000 := by
   obtain ⟨J, hJ⟩ : ∃ J : Nat, J = 900000 := ⟨_, rfl⟩
   rw [← hJ] at hle1 hle2
   have := xT (Nat.lt_of_le_of_lt (Int.natAbs_add_le _ _) (aQ (xJ hle1) (xJ hle2)))
   omega
 have hmk : mkRat (p.num * q.den + q.num * p.den) (p.den * q.den) = p + q := by
   conv => rhs; rw [← Rat.mkRat_self p, ← Rat.mkRat_self q]
   rw [Rat.mkRat_add_mkRat _ _ p.den_nz q.den_nz]
 have LL := Le.refl Fz M w
 refine jP func214 rfl ntmps214 rfl ?_
 refine zH ?_
 refine wd mixed 29 [0, 1, 4, 32] (qV (by decide +kernel)) ?_
 apply zN
 ·intro wq hR hst
  refine zP rfl rfl (zC ?_)
  replace Bn := Bn.below hR
  replace Ba := Ba.below hR
  refine zA rfl rfl ?_
  exact on0 rfl
 apply zN
 ·intro wq hR hst
  refine zP rfl rfl (zC ?_)
  replace Bn := Bn.below hR
  replace Ba := Ba.below hR
  refine zA rfl rfl ?_
  exact on0 rfl
 apply zN
 ·intro wq hR hst
  refine zK rfl (zC ?_)
  replace Bn := Bn.below hR
  replace Ba := Ba.below hR
  refine yJ rfl rfl ?_
  exact on0 rfl
 apply zN
 ·intro wq hR hst
  refine zK rfl (zC ?_)
  replace Bn := Bn.below hR
  replace Ba := Ba.below hR
  refine zL 0 rfl yu167 rfl rfl yM rfl rfl ?_
  exact on0 rfl
 apply zN
 ·intro wq hR hst
  refine zK rfl (zC ?_)
  replace Bn := Bn.below hR
  replace Ba := Ba.below hR
  refine zL 0 rfl yu33 rfl rfl xE rfl rfl ?_
  exact on0 rfl
 apply zN
 ·intro wq hR hst
  refine zK rfl (zC ?_)
  replace Bn := Bn.below hR
  replace Ba := Ba.below hR
  refine zM rfl xX xE rfl Bn rfl rfl ?_
  exact on0 rfl
 apply zN
 ·intro wq hR hst
  refine zP rfl rfl (zC ?_)
  replace Bn := Bn.below hR
  replace Ba := Ba.below hR
  refine zA rfl rfl ?_
  exact on0 rfl
 apply zN
 ·intro wq hR hst
  refine zK rfl (zC ?_)
  replace Bn := Bn.below hR
  replace Ba := Ba.below hR
  refine yJ rfl rfl ?_
  exact on0 rfl
 apply zN
 ·intro wq hR hst
  refine zK rfl (zC ?_)
  replace Bn := Bn.below hR
  replace Ba := Ba.below hR
  refine zL 0 rfl yu167 rfl rfl yM rfl rfl ?_
  exact on0 rfl
 apply zN
 ·intro wq hR hst
  refine zK rfl (zC ?_)
  replace Bn := Bn.below hR
  replace Ba := Ba.below hR
  refine zL 2 rfl yu33 rfl rfl xV rfl rfl ?_
  exact on0 rfl
 apply zN
 ·intro wq hR hst
  refine zK rfl (zC ?_)
  replace Bn := Bn.below hR
  replace Ba := Ba.below hR
  refine zT rfl yU rfl Ba rfl ?_
  exact on0 rfl
 apply zN
 ·intro wq hR hst
  refine zK rfl (zC ?_)
  obtain ⟨LL, hM, hF, hT, hv, hu, hvq, huq, Bn, Ba⟩ := eV hR LL hM hF hT hv hu hvq huq Bn Ba
  refine zI rfl (bo func147) rfl rfl ?_
  refine (whole_c (by assumption) hM).mono ?_
  rintro v15 w1 ⟨hB15, rfl⟩
  replace Bn := Bn.below hB15
  replace Ba := Ba.below hB15
  exact on1 hB15 rfl rfl
 refine zS (fun v w => IsInts M w v [(decide (p.num < 0), limbs p.num.natAbs), (false, limbs q.den)]) cI (fun wq hR hst => ?_) ?_
 ·refine zK rfl (zK rfl (zC ?_))
  obtain ⟨hM, hv, huq, Bn, Ba⟩ := ub5 hR hM hv huq Bn Ba
  refine xA rfl yu174 xE rfl rfl rfl rfl (zX rfl (zX rfl xD)) rfl rfl rfl (fun w2 b16 N16 => ?_)
  have hBw2 := N16.below
  have nM16 := hM.new N16
  have B16 := N16.blk
  obtain ⟨hv, huq, Bn, Ba⟩ := ub4 hBw2 hv huq Bn Ba
  have hn16 : IsInts M w2 (.slice (some ⟨b16, 0, none⟩) 2 2) [(decide (p.num < 0), limbs p.num.natAbs), (false, limbs q.den)] := eU B16 nM16 hv huq
  have hB16 := hBw2
  exact on1 hB16 rfl hn16
 refine dv (fun v w => ∃ c, v = .agg #[.bool (decide (p.num * q.den < 0)), c] ∧ IsNat M w c (limbs (p.num * q.den).natAbs)) (fun wq hR hst => ?_) ?_
 ·refine yD rfl (fun v16 hn16 => ?_)
  refine zC ?_
  obtain ⟨hM, Bn, Ba⟩ := ub3 hR hM Bn Ba
  refine zI rfl (bo func146) rfl rfl ?_
  refine (dL (L := 400000) hn16 (by intro x hx; rcases List.mem_cons.1 hx with rfl | hx; exact jR _; rcases List.mem_cons.1 hx with rfl | hx; exact jR _; cases hx) (by intro x hx; rcases List.mem_cons.1 hx with rfl | hx; dsimp only; omega; rcases List.mem_cons.1 hx with rfl | hx; dsimp only; omega; cases hx) ⟨by simp, by omega⟩ hM).mono ?_
  rintro v17 w3 ⟨hB17, q17, rfl, hn17⟩
  replace Bn := Bn.below hB17
  replace Ba := Ba.below hB17
  rw [hz1]; rw [hz1] at hn17
  exact on1 hB17 rfl ⟨_, rfl, hn17⟩
 apply zN
 ·intro wq hR hst
  refine zP rfl rfl (zC ?_)
  replace Bn := Bn.below hR
  replace Ba := Ba.below hR
  refine zA rfl rfl ?_
  exact on0 rfl
 apply zN
 ·intro wq hR hst
  refine zK rfl (zC ?_)
  replace Bn := Bn.below hR
  replace Ba := Ba.below hR
  refine yJ rfl rfl ?_
  exact on0 rfl
 apply zN
 ·intro wq hR hst
  refine zK rfl (zC ?_)
  replace Bn := Bn.below hR
  replace Ba := Ba.below hR
  refine zL 0 rfl yu167 rfl rfl yM rfl rfl ?_
  exact on0 rfl
 apply zN
 ·intro wq hR hst
  refine zK rfl (zC ?_)
  replace Bn := Bn.below hR
  replace Ba := Ba.below hR
  refine zL 0 rfl yu33 rfl rfl xE rfl rfl ?_
  exact on0 rfl
 apply zN
 ·intro wq hR hst
  refine zK rfl (zC ?_)
  replace Bn := Bn.below hR
  replace Ba := Ba.below hR
  refine zM rfl xX xE rfl Ba rfl rfl ?_
  exact on0 rfl
 apply zN
 ·intro wq hR hst
  refine zP rfl rfl (zC ?_)
  replace Bn := Bn.below hR
  replace Ba := Ba.below hR
  refine zA rfl rfl ?_
  exact on0 rfl
 apply zN
 ·intro wq hR hst
  refine zK rfl (zC ?_)
  replace Bn := Bn.below hR
  replace Ba := Ba.below hR
  refine yJ rfl rfl ?_
  exact on0 rfl
 apply zN
 ·intro wq hR hst
  refine zK rfl (zC ?_)
  replace Bn := Bn.below hR
  replace Ba := Ba.below hR
  refine zL 0 rfl yu167 rfl rfl yM rfl rfl ?_
  exact on0 rfl
 apply zN
 ·intro wq hR hst
  refine zK rfl (zC ?_)
  replace Bn := Bn.below hR
  replace Ba := Ba.below hR
  refine zL 2 rfl yu33 rfl rfl xV rfl rfl ?_
  exact on0 rfl
 apply zN
 ·intro wq hR hst
  refine zK rfl (zC ?_)
  replace Bn := Bn.below hR
  replace Ba := Ba.below hR
  refine zT rfl yU rfl Bn rfl ?_
  exact on0 rfl
 apply zN
 ·intro wq hR hst
  refine zK rfl (zC ?_)
  obtain ⟨LL, hM, hF, hT, hv, hu, hvq, huq, Bn, Ba⟩ := eV hR LL hM hF hT hv hu hvq huq Bn Ba
  refine zI rfl (bo func147) rfl rfl ?_
  refine (whole_c (by assumption) hM).mono ?_
  rintro v28 w4 ⟨hB28, rfl⟩
  replace Bn := Bn.below hB28
  replace Ba := Ba.below hB28
  exact on1 hB28 rfl rfl
 refine zS (fun v w => IsInts M w v [(decide (q.num < 0), limbs q.num.natAbs), (false, limbs p.den)]) cI (fun wq hR hst => ?_) ?_
 ·refine zK rfl (zK rfl (zC ?_))
  obtain ⟨hM, hu, hvq, Bn, Ba⟩ := ub5 hR hM hu hvq Bn Ba
  refine xA rfl yu174 xE rfl rfl rfl rfl (zX rfl (zX rfl xD)) rfl rfl rfl (fun w5 b29 N29 => ?_)
  have hBw5 := N29.below
  have nM29 := hM.new N29
  have B29 := N29.blk
  obtain ⟨hu, hvq, Bn, Ba⟩ := ub4 hBw5 hu hvq Bn Ba
  have hn29 : IsInts M w5 (.slice (some ⟨b29, 0, none⟩) 2 2) [(decide (q.num < 0), limbs q.num.natAbs), (false, limbs p.den)] := eU B29 nM29 hvq hu
  have hB29 := hBw5
  exact on1 hB29 rfl hn29
 refine dv (fun v w => ∃ c, v = .agg #[.bool (decide (q.num * p.den < 0)), c] ∧ IsNat M w c (limbs (q.num * p.den).natAbs)) (fun wq hR hst => ?_) ?_
 ·refine yD rfl (fun v29 hn29 => ?_)
  refine zC ?_
  obtain ⟨hM, Bn, Ba⟩ := ub3 hR hM Bn Ba
  refine zI rfl (bo func146) rfl rfl ?_
  refine (dL (L := 400000) hn29 (by intro x hx; rcases List.mem_cons.1 hx with rfl | hx; exact jR _; rcases List.mem_cons.1 hx with rfl | hx; exact jR _; cases hx) (by intro x hx; rcases List.mem_cons.1 hx with rfl | hx; dsimp only; omega; rcases List.mem_cons.1 hx with rfl | hx; dsimp only; omega; cases hx) ⟨by simp, by omega⟩ hM).mono ?_
  rintro v30 w6 ⟨hB30, q30, rfl, hn30⟩
  replace Bn := Bn.below hB30
  replace Ba := Ba.below hB30
  rw [hz2]; rw [hz2] at hn30
  exact on1 hB30 rfl ⟨_, rfl, hn30⟩
 refine zS (fun v w => IsInts M w v [(decide (p.num * q.den < 0), limbs (p.num * q.den).natAbs), (decide (q.num * p.den < 0), limbs (q.num * p.den).natAbs)]) cI (fun wq hR hst => ?_) ?_
 ·refine yD rfl (fun v17 hn17 => ?_)
  refine yD rfl (fun v30 hn30 => ?_)
  refine zC ?_
  obtain ⟨hM, Bn, Ba⟩ := ub3 hR hM Bn Ba
  obtain ⟨q17, rfl, hn17x⟩ := hn17
  obtain ⟨q30, rfl, hn30x⟩ := hn30
  refine xA rfl yu174 xE rfl rfl rfl rfl (zX rfl (zX rfl xD)) rfl rfl rfl (fun w7 b31 N31 => ?_)
  have hBw7 := N31.below
  have nM31 := hM.new N31
  have B31 := N31.blk
  obtain ⟨hn17x, hn30x, Bn, Ba⟩ := ub4 hBw7 hn17x hn30x Bn Ba
  have hn31 : IsInts M w7 (.slice (some ⟨b31, 0, none⟩) 2 2) [(decide (p.num * q.den < 0), limbs (p.num * q.den).natAbs), (decide (q.num * p.den < 0), limbs (q.num * p.den).natAbs)] := eU B31 nM31 hn17x hn30x
  have hB31 := hBw7
  exact on1 hB31 rfl hn31
 refine dv (fun v w => ∃ c, v = .agg #[.bool (decide (p.num * q.den + q.num * p.den < 0)), c] ∧ IsNat M w c (limbs (p.num * q.den + q.num * p.den).natAbs)) (fun wq hR hst => ?_) ?_
 ·refine yD rfl (fun v31 hn31 => ?_)
  refine zC ?_
  obtain ⟨hM, Bn, Ba⟩ := ub3 hR hM Bn Ba
  refine zI rfl (bo func193) rfl rfl ?_
  refine (iadds_c (L := 900000) hn31 (by intro x hx; rcases List.mem_cons.1 hx with rfl | hx; exact jR _; rcases List.mem_cons.1 hx with rfl | hx; exact jR _; cases hx) (by intro x hx; rcases List.mem_cons.1 hx with rfl | hx; exact hle1; rcases List.mem_cons.1 hx with rfl | hx; exact hle2; cases hx) (by simp) hM).mono ?_
  rintro v32 w8 ⟨hB32, q32, rfl, hn32⟩
  replace Bn := Bn.below hB32
  replace Ba := Ba.below hB32
  rw [hz3]; rw [hz3] at hn32
  exact on1 hB32 rfl ⟨_, rfl, hn32⟩
 refine xI (fun wq0 hR0 hpost0 => ?_)
 refine zP rfl rfl (zP rfl rfl (zK rfl (yD rfl (fun v32 hn32 => ?_))))
 refine zC ?_
 simp only [jC, jB, jA, xZ]
 obtain ⟨LL, hM, hF, hT, hv, hu, hvq, huq, Bn, Ba⟩ := eV hR0 LL hM hF hT hv hu hvq huq Bn Ba
 obtain ⟨q32, rfl, hn32x⟩ := hn32
 refine yJ rfl rfl (zL 0 rfl yu167 rfl rfl yM rfl rfl (zL 0 rfl yu33 rfl rfl xE rfl rfl (zV rfl rfl xE Bn rfl rfl (zU (zU xY)) rfl (fun w9 Cw9 Bn => ?_))))
 obtain ⟨LL, hM, hF, hT, hv, hu, hvq, huq, hn32x⟩ := up9 (lc LL Cw9 hmn nFn) LL hM hF hT hv hu hvq huq hn32x
 replace Ba := Ba.other Cw9 nea_n
 try simp only [List.set_cons_zero, List.set_cons_succ, List.take_succ_cons, List.take_zero, List.drop_succ_cons, List.drop_zero, List.drop_nil, List.cons_append, List.nil_append, List.append_nil] at Bn
 refine zD (zH ?_)
 refine wd mixed 12 [0, 36, 47] (by decide +kernel) ?_
 apply zN
 ·intro wq hR hst
  refine zP rfl rfl (zC ?_)
  obtain ⟨hn32x, Bn, Ba⟩ := ub3 hR hn32x Bn Ba
  refine zA rfl rfl ?_
  exact on0 rfl
 apply zN
 ·intro wq hR hst
  refine zP rfl rfl (zC ?_)
  obtain ⟨hn32x, Bn, Ba⟩ := ub3 hR hn32x Bn Ba
  refine zA rfl rfl ?_
  exact on0 rfl
 apply zN
 ·intro wq hR hst
  refine zK rfl (zC ?_)
  obtain ⟨hn32x, Bn, Ba⟩ := ub3 hR hn32x Bn Ba
  refine yJ rfl rfl ?_
  exact on0 rfl
 apply zN
 ·intro wq hR hst
  refine zK rfl (zC ?_)
  obtain ⟨hn32x, Bn, Ba⟩ := ub3 hR hn32x Bn Ba
  refine zL 0 rfl yu167 rfl rfl yM rfl rfl ?_
  exact on0 rfl
 apply zN
 ·intro wq hR hst
  refine zK rfl (zC ?_)
  obtain ⟨hn32x, Bn, Ba⟩ := ub3 hR hn32x Bn Ba
  refine zL 2 rfl yu33 rfl rfl xV rfl rfl ?_
  exact on0 rfl
 apply zN
 ·intro wq hR hst
  refine zK rfl (zC ?_)
  obtain ⟨hn32x, Bn, Ba⟩ := ub3 hR hn32x Bn Ba
  refine zT rfl yU rfl Bn rfl ?_
  exact on0 rfl
 apply zN
 ·intro wq hR hst
  refine zP rfl rfl (zC ?_)
  obtain ⟨hn32x, Bn, Ba⟩ := ub3 hR hn32x Bn Ba
  refine zA rfl rfl ?_
  exact on0 rfl
 apply zN
 ·intro wq hR hst
  refine zK rfl (zC ?_)
  obtain ⟨hn32x, Bn, Ba⟩ := ub3 hR hn32x Bn Ba
  refine yJ rfl rfl ?_
  exact on0 rfl
 apply zN
 ·intro wq hR hst
  refine zK rfl (zC ?_)
  obtain ⟨hn32x, Bn, Ba⟩ := ub3 hR hn32x Bn Ba
  refine zL 0 rfl yu167 rfl rfl yM rfl rfl ?_
  exact on0 rfl
 apply zN
 ·intro wq hR hst
  refine zK rfl (zC ?_)
  obtain ⟨hn32x, Bn, Ba⟩ := ub3 hR hn32x Bn Ba
  refine zL 2 rfl yu33 rfl rfl xV rfl rfl ?_
  exact on0 rfl
 apply zN
 ·intro wq hR hst
  refine zK rfl (zC ?_)
  obtain ⟨hn32x, Bn, Ba⟩ := ub3 hR hn32x Bn Ba
  refine zT rfl yU rfl Ba rfl ?_
  exact on0 rfl
 refine zS (fun v w => IsNat M w v (limbs (p.den * q.den))) jQ (fun wq hR hst => ?_) ?_
 ·refine zK rfl (zK rfl (zC ?_))
  obtain ⟨LL, hM, hu, huq, hn32x, Bn, Ba⟩ := ub7 hR LL hM hu huq hn32x Bn Ba
  refine zI rfl (bo func159) rfl rfl ?_
  refine (mul_c hu huq (by omega) (by omega) hM).mono ?_
  rintro v47 w10 ⟨hB47, hf47⟩
  have hM47 := hM
  have hS47 := LL.size
  obtain ⟨hn32x, Bn, Ba⟩ := ub3 hB47 hn32x Bn Ba
  rw [yF, yF] at hf47
  have hn47 := hf47.nat hM47
  exact on1 hB47 rfl hn47
 refine xI (fun wq1 hR1 hpost1 => ?_)
 refine zP rfl rfl (zK rfl (yD rfl (fun v47 hn47 => ?_)))
 refine zC ?_
 simp only [jC, jB, jA, xZ]
 obtain ⟨LL, hM, hF, hT, hv, hu, hvq, huq, hn32x, Bn, Ba⟩ := fS hR1 LL hM hF hT hv hu hvq huq hn32x Bn Ba
 refine yJ rfl rfl (zL 0 rfl yu167 rfl rfl yM rfl rfl (zL 2 rfl yu33 rfl rfl xV rfl rfl (jM (i := 2) rfl rfl xV Bn (by first | rfl | exact yZ (by assumption) | assumption | exact yX (by assumption)) (by simp) (fun w11 Cw11 Bn => ?_))))
 obtain ⟨LL, hM, hT, hn32x, hn47⟩ := up5 (lc LL Cw11 hmn nFn) LL hM hT hn32x hn47
 replace Ba := Ba.other Cw11 nea_n
 refine zD (zB (zA rfl rfl (zI rfl (bo func191) rfl rfl ?_)))
 refine (rnorm_c (Fz := NB _ bn) (M := M) hT Bn hn32x hn47 hle3 (by have := kD (xJ hl2) (xJ hl4); omega) hmn kS bR hM).mono ?_
 rintro v52 w12 ⟨rfl, Lqw12, a52, d52, Bn2, hn52, hm52⟩
 have Lw12 := Lqw12.refz nFn
 obtain ⟨LL, hn32x⟩ := up2 Lw12 LL hn32x
 clear Bn; have Bn := Bn2
 replace Ba := Ba.nb Lqw12 nea_n
 rw [gR, yF, hmk] at Bn hn52 hm52
 refine zD ?_
 refine xL ⟨[], trivial, ?_⟩
 dsimp only [xW]
 exact ⟨LL, _, _, Bn, hn52, hm52⟩
end Go.Proofs.YtfkejnlohkgbgaaGreatDoor
set_option maxRecDepth 100000
namespace Go.Proofs.YtfkejnlohkgbgaaGreatDoor
open Go.SL Go.RowKit Go.Proofs Tryz
variable {M : Nat → Prop} {w : World}
abbrev RRt := Bool × List Nat × List Nat
def rq (x : RRt) : Rat := mkRat (zv x.1 x.2.1) (val x.2.2)
def RLR (M : Nat → Prop) : RRt → List Value → World → Prop := fun x vs w => ∃ p, vs = [p] ∧ hP M (rq x) p w
def cX (l : List RRt) : Rat := l.foldl (fun z x => z + rq x) 0
def bN (l : List RRt) : Rat := l.foldl (fun z x => z * rq x) 1
theorem rsum_snoc (l : List RRt) (x : RRt) : cX (l ++ [x]) = cX l + rq x := by simp [cX]
theorem rprod_snoc (l : List RRt) (x : RRt) : bN (l ++ [x]) = bN l * rq x := by simp [bN]
def kP (q : Rat) (A : Nat) : Prop := (limbs q.num.natAbs).length ≤ A ∧ (limbs q.den).length ≤ A
theorem rlen_mk {z : Int} {d A : Nat} (h1 : z.natAbs < 4294967296 ^ A) (h2 : d < 4294967296 ^ A) (hd : d ≠ 0) : kP (mkRat z d) A := by
  have h := dK (z := z) hd
  unfold kP
  rw [h.2.1, h.2.2]
  exact ⟨xT (Nat.lt_of_le_of_lt (Nat.div_le_self _ _) h1), xT (Nat.lt_of_le_of_lt (Nat.div_le_self _ _) h2)⟩
theorem qR {q : Rat} {A B : Nat} (h : kP q A) (hAB : A ≤ B) : kP q B := ⟨Nat.le_trans h.1 hAB, Nat.le_trans h.2 hAB⟩
theorem cY {p q : Rat} {A B : Nat} (h1 : kP p A) (h2 : kP q B) : kP (p + q) (A + B + 1) := by
  have e : p + q = mkRat (p.num * q.den + q.num * p.den) (p.den * q.den) := by
    conv => lhs; rw [← Rat.mkRat_self p, ← Rat.mkRat_self q]
    rw [Rat.mkRat_add_mkRat _ _ p.den_nz q.den_nz]
  rw [e]
  have a1 := xJ h1.1
  have a2 := xJ h1.2
  have a3 := xJ h2.1
  have a4 := xJ h2.2
  refine rlen_mk ?_ ?_ (Nat.mul_ne_zero p.den_nz q.den_nz)
  · refine Nat.lt_of_le_of_lt (Int.natAbs_add_le _ _) (aQ ?_ ?_)
    · rw [Int.natAbs_mul, Int.natAbs_natCast]; exact qB a1 a4
    · rw [Int.natAbs_mul, Int.natAbs_natCast, Nat.add_comm]; exact qB a3 a2
  · exact Nat.lt_of_lt_of_le (qB a2 a4) (Nat.pow_le_pow_right (by omega) (by omega))
theorem rlen_mul {p q : Rat} {A B : Nat} (h1 : kP p A) (h2 : kP q B) : kP (p * q) (A + B) := by
  have e : p * q = mkRat (p.num * q.num) (p.den * q.den) := by
    conv => lhs; rw [← Rat.mkRat_self p, ← Rat.mkRat_self q]
    rw [Rat.mkRat_mul_mkRat]
  rw [e]
  have a1 := xJ h1.1
  have a2 := xJ h1.2
  have a3 := xJ h2.1
  have a4 := xJ h2.2
  refine rlen_mk ?_ (qB a2 a4) (Nat.mul_ne_zero p.den_nz q.den_nz)
  rw [Int.natAbs_mul]; exact qB a1 a3
theorem rlen_neg {p : Rat} {A : Nat} (h : kP p A) : kP (-p) A := by unfold kP; rw [Rat.neg_num, Rat.neg_den, Int.natAbs_neg]; exact h
theorem rlen_of {x : RRt} {L : Nat} (h1 : ∀ y ∈ x.2.1, y < 4294967296) (h2 : ∀ y ∈ x.2.2, y < 4294967296) (h3 : x.2.1.length ≤ L) (h4 : x.2.2.length ≤ L) : kP (rq x) (L + 1) := by
  have := bD (s := x.1) h1 h2
  exact ⟨by unfold rq; omega, by unfold rq; omega⟩
theorem rlen_zero : kP 0 1 := ⟨by simp [xQ], by simp [qK]⟩
theorem rlen_one : kP 1 1 := ⟨by simp [qK], by simp [qK]⟩
theorem rall1_c {M : Nat → Prop} {w0 : World} {b1 : Nat} {v : Value} {l0 : List RRt} (hT : Tab M w0) (B1 : Blk w0 b1 22 [v]) (n1 : ¬ M b1) (h1 : IsRats M w0 v l0) (hl1 : ∀ x ∈ l0, x.2.1.length ≤ 1000000 ∧ x.2.2.length ≤ 1000000) (hM : OkM M w0) :
    IterR prog 269 [.pointer (some ⟨b1, 0, none⟩)] M NoT w0 l0 (RLR M) (fun _ => True) := by
 intro n l w J X hn0 hn hdr hJ hkeep hJd hXd hy
 have B1' := B1
 have h1' := h1
 have hM' := hM
 have hT' := hT
 have hlen := h1.len
 replace B1 := (hkeep _ _ hJ).blk B1 n1
 replace h1 := (hkeep _ _ hJ).rats h1
 replace hM := (hkeep _ _ hJ).okM hM
 replace hT := (hkeep _ _ hJ).tab hT
 refine ci M func269 ntmps269 fun Fz hFz hF LL => ?_
 refine zH (zB (zT rfl flat22 rfl B1 rfl (gQ rfl yu22 rfl h1.row (zA rfl rfl (zD (yC ?_))))))
 refine xP (σ := Nat) [(0, _), (5, _), (6, _)] (fun s => [(7, .int .i64 ((s : Nat) : Int))]) (fun s w1 => J (l0.take s) w1 ∧ n ≤ w1.heap.size ∧ s ≤ l0.length) (fun s => l0.length - s) (0) (zG rfl (zG rfl (zG rfl (zG rfl yE)))) ?_ (fun s w1 hJ => ?_)
 · exact ⟨hJ, hn, by omega⟩
 ·obtain ⟨hJ1, hn1, hs⟩ := hJ
  have hk := hkeep _ _ hJ1
  replace B1 := hk.blk B1' n1
  replace h1 := hk.rats h1'
  replace hM := hk.okM hM'
  replace hT := hk.tab hT'
  clear hF LL
  obtain ⟨Fz, hFz⟩ : ∃ Fz : Nat → Prop, Fz = (· < w1.heap.size) := ⟨_, rfl⟩
  have hF : FOk Fz w1 := by subst hFz; exact fun _ h => h
  have LL := Le.refl Fz M w1
  refine zH (zB (jI rfl rfl rfl (zD (zH ?_))))
  refine yA rfl (fun hc0 => ?_) (fun hc0 => ?_)
  ·have hs2 : s < l0.length := by omega
   have hsl := hl1 (l0.getD s (false, ([] : List Nat), ([] : List Nat))) (by rw [List.getD_eq_getElem?_getD, List.getElem?_eq_getElem hs2]; exact List.getElem_mem _)
   refine yH (zH (yC (zH (zB ?_))))
   refine jL (dflt := (false, ([] : List Nat), ([] : List Nat))) s rfl yu22 yM rfl rfl h1.row rfl (by omega) (fun b9 o9 us9 hul9 hu9 hc9 => ?_)
   obtain ⟨u9, x9, rfl, hn9, hm9⟩ := hu9
   refine jF rfl yV yM rfl hc9 rfl (yI rfl yM (fun w2 b4 N4 => ?_))
   obtain ⟨_, nF4, nM4, Lw2, B4⟩ := nza hF hM N4
   have lt1_4 := B1.lt
   have ne1_4 := N4.ne lt1_4
   obtain ⟨LL, hM, hT, hn9, hm9⟩ := up5 Lw2 LL hM hT hn9 hm9
   refine zV rfl rfl yM B4 rfl rfl (zU (zU (zU xY))) rfl (fun w3 Cw3 B4 => ?_)
   obtain ⟨LL, hM, hT, hn9, hm9⟩ := up5 (lc LL Cw3 zQ nF4) LL hM hT hn9 hm9
   refine zD (zH (zB (zA rfl rfl (zM rfl yV yM rfl B4 rfl rfl (zI rfl (bo func140) rfl rfl ?_)))))
   refine (bX hT hn9 hm9 (by omega) (by omega) hM).mono ?_
   rintro v13 w4 ⟨hB13, b13, a13, d13, rfl, hz13, B13, hn13, hm13⟩
   have hk13 : KBlk (Ins b4 M) w4 b13 167 _ := ⟨B13, fun c => by have := hM _ c; omega⟩
   replace LL := ub1 hB13 LL
   refine kW rfl rfl rfl ?_
   refine (hy _ _ _ _ _ ((qA (false, ([] : List Nat), ([] : List Nat)) hs2).2) (hJd _ _ _ hJ1 (LL.drift_all hFz hn1)) ⟨_, rfl, b13, a13, d13, rfl, hk13.less fun k c => zJ c, hn13.less fun k c => zJ c, hm13.less fun k c => zJ c⟩ (Nat.le_trans hn1 LL.size)).mono ?_
   rintro v14 w5 ⟨hn2, _, hyn⟩
   refine gX rfl rfl (zD ?_)
   refine qI rfl (fun hc1 => ?_) (fun hc1 => ?_)
   ·refine zW ?_
    refine xL ⟨[], trivial, ?_⟩
    dsimp only [xW]
    right
    rcases hyn with ⟨e, _⟩ | ⟨_, h⟩
    · subst e; simp at hc1
    · exact h
   ·refine yH (zB (xC rfl rfl rfl (by omega) (zA rfl rfl (zD ?_))))
    refine ⟨rfl, s + 1, (zZ rfl (rfl) (zG rfl (zG rfl (zG rfl yE)))), ?_, ?_⟩
    exact ⟨by
      rw [(qA (false, ([] : List Nat), ([] : List Nat)) hs2).1]
      rcases hyn with ⟨_, h⟩ | ⟨e, _⟩
      · exact h
      · subst e; simp at hc1, hn2, by omega⟩
    omega
  ·refine xN (xO ?_)
   refine xL ⟨[], trivial, ?_⟩
   dsimp only [xW]
   left
   obtain rfl : s = l0.length := by omega
   rw [List.take_length] at hJ1
   exact ⟨hJ1, trivial⟩
theorem rall_c {v : Value} {l0 : List RRt} (hT : Tab M w) (h1 : IsRats M w v l0) (hl1 : ∀ x ∈ l0, x.2.1.length ≤ 1000000 ∧ x.2.2.length ≤ 1000000) (hM : OkM M w) :
    CallsV prog 211 [v] w fun r w' => Bel w.heap.size w w' ∧ ∃ cap, r = .func (.func 269) #[] cap ∧ IterR prog 269 cap.toList M NoT w' l0 (RLR M) (fun _ => True) := by
 have hvc : v.cells = [v].toArray := by obtain ⟨_, ⟨_, _, ad, cap, rfl, _⟩, _⟩ := h1.row; rfl
 refine ci M func211 ntmps211 fun Fz hFz hF LL => ?_
 refine zH (zB (yG rfl rfl (fun w1 b1 N1 => ?_)))
 obtain ⟨_, nF1, nM1, Lw1, B1⟩ := nz hF hM N1
 obtain ⟨LL, hM, h1, hT⟩ := up4 Lw1 LL hM h1 hT
 rw [hvc] at B1
 refine zF rfl rfl (zD (zH (zB (gC rfl rfl (zF rfl rfl (zD (zW ?_)))))))
 refine lv1 ⟨rfl, trivial⟩ ?_
 subst hFz
 refine ⟨LL.b, _, rfl, ?_⟩
 exact rall1_c (hT.less fun k c => zJ c) B1 (fun c => nM1 c) (h1.less fun k c => zJ c) hl1 (fun k c => hM k (zJ c))
end Go.Proofs.YtfkejnlohkgbgaaGreatDoor
set_option maxRecDepth 100000
namespace Go.Proofs.YtfkejnlohkgbgaaGreatDoor
open Go.SL Go.RowKit Go.Proofs Tryz
variable {M : Nat → Prop} {w : World}
theorem radds_c {v : Value} {l0 : List RRt} {L : Nat} (hT : Tab M w) (h1 : IsRats M w v l0) (hlt : ∀ x ∈ l0, (∀ y ∈ x.2.1, y < 4294967296) ∧ ∀ y ∈ x.2.2, y < 4294967296) (hl1 : ∀ x ∈ l0, x.2.1.length ≤ L ∧ x.2.2.length ≤ L) (hL : (L + 2) * l0.length + 1 ≤ 400000 ∧ L ≤ 1000000) (hM : OkM M w) :
    CallsV prog 163 [v] w fun r w' => Bel w.heap.size w w' ∧ ∃ a d, r = .agg #[.bool (decide ((cX l0).num < 0)), a, d] ∧ IsNat M w' a (limbs (cX l0).num.natAbs) ∧ IsNat M w' d (limbs (cX l0).den) := by
 have hL6 : L ≤ 1000000 := hL.2
 have Mk : Marks M w.heap.size [] w := uN
 refine ci M func163 ntmps163 fun Fz hFz hF LL => ?_
 refine zH (zB (yI rfl yM (fun w1 b2 N2 => ?_)))
 obtain ⟨_, nF2, nM2, Lw1, B2⟩ := nza hF hM N2
 obtain ⟨LL, hM, hF, h1, hT, Mk⟩ := up6 Lw1 LL hM hF h1 hT Mk
 refine zD (zH (zB (zI rfl (bo func77) rfl rfl ?_)))
 refine (rofn_c (n := 0) (by omega) hM).mono ?_
 rintro v5 w2 ⟨hB5, q5, d5, rfl, hn5, hm5⟩
 obtain ⟨LL, hM, hF, h1, hT, Mk, B2⟩ := ub7 hB5 LL hM hF h1 hT Mk B2
 refine xM rfl plc167 rfl rfl (zX (rfl) xD) rfl (yG rfl rfl (fun w3 b7 N7 => ?_))
 obtain ⟨hBw3, nF7, nM7, Lw3, B7⟩ := nza hF hM N7
 obtain ⟨B2, ne2_7⟩ := bn B2 N7
 obtain ⟨LL, hM, hF, h1, hT, Mk, hn5, hm5⟩ := up8 Lw3 LL hM hF h1 hT Mk hn5 hm5
 refine yI rfl sz159 (fun w4 b3 N3 => ?_)
 obtain ⟨hBw4, nF3, nM3, Lw4, B3⟩ := nz hF hM N3
 obtain ⟨B2, ne2_3⟩ := bn B2 N3
 have lt7_3 := B7.lt
 replace B7 := B7.below hBw4
 have ne3_7 : b3 ≠ b7 := by have := N3.at_; omega
 obtain ⟨LL, hM, h1, hT, Mk, hn5, hm5⟩ := up7 Lw4 LL hM h1 hT Mk hn5 hm5
 refine jD rfl rfl sz159 B3 (by first | rfl | exact yZ (by assumption) | assumption | exact yX (by assumption)) (fun w5 Cw5 B3 => ?_)
 obtain ⟨LL, hM, h1, hT, Mk, hn5, hm5⟩ := up7 (lc LL Cw5 zQ nF3) LL hM h1 hT Mk hn5 hm5
 replace B2 := B2.other Cw5 ne2_3
 replace B7 := B7.other Cw5 ne3_7.symm
 refine zD (zH (zH (zB (zA rfl rfl (zI rfl (bo func211) rfl rfl ?_)))))
 refine (rall_c hT h1 (fun x hx => ⟨Nat.le_trans (hl1 x hx).1 hL6, Nat.le_trans (hl1 x hx).2 hL6⟩) hM).mono ?_
 rintro v9 w6 ⟨hB9, cap9, rfl, hit9⟩
 obtain ⟨LL, hM, h1, hT, Mk, hn5, hm5, B2, B7, B3⟩ := eV hB9 LL hM h1 hT Mk hn5 hm5 B2 B7 B3
 refine zD (yC ?_)
 have hm5x : IsNat (Ins b3 (Ins b7 (Ins b2 M))) w6 d5 (limbs (cX []).den) := by rw [show (cX []).den = 1 from rfl, qK]; exact hm5
 have hMS0 := hM
 have hszLL := LL.size
 have Mold0 := Mk.old (Nat.le_refl _)
 refine aJ (M := (Ins b3 (Ins b7 (Ins b2 M)))) (T := NoT) (l0) ((RLR (Ins b3 (Ins b7 (Ins b2 M))))) rfl (bo func269) (hit9) noT (trivial) (fun _ _ _ ⟨_, h, _⟩ => by rw [h]; rfl) rfl [(3, _)] (zG rfl yE) (fun pre w7 => Le Fz (Ins b3 (Ins b7 (Ins b2 M))) w6 (Ins b3 (Ins b7 (Ins b2 M))) w7 ∧ Blk w7 b2 33 [.bool false, .slice none 0 0, .slice none 0 0] ∧ Blk w7 b3 159 [.pointer (some ⟨b7, 0, none⟩)] ∧ ∃ a d, Blk w7 b7 167 [.bool (decide ((cX pre).num < 0)), a, d] ∧ IsNat (Ins b3 (Ins b7 (Ins b2 M))) w7 a (limbs (cX pre).num.natAbs) ∧ IsNat (Ins b3 (Ins b7 (Ins b2 M))) w7 d (limbs (cX pre).den) ∧ kP (cX pre) ((L + 2) * pre.length + 1)) (fun _ _ => False) (fun _ => False) (⟨Le.refl _ _ _, B2, B3, _, _, B7, hn5, hm5x, by exact rlen_zero⟩) (fun pre w h => h.1.keep) (fun pre w1 w2 hJ hd => (by obtain ⟨h1, h2, h3, a, d, h4, h5, h6, h7⟩ := hJ; exact ⟨h1.drift0 hd (Nat.le_refl _), h2.drift hd (fun c => c), h3.drift hd (fun c => c), a, d, h4.drift hd (fun c => c), h5.drift hd noT, h6.drift hd noT, h7⟩)) (fun _ _ _ h _ => h) (fun _ _ h _ => h) (fun _ _ _ _ => trivial) ?_ ?_ (fun _ _ h _ => h.elim) (fun _ h _ => h.elim)
 ·intro pre x vs post l b w7 ρ δ hx hJ hv hnl hnb hl hb hbc
  obtain ⟨LS0, B2, B3, a0, d0, B7, ha0, hd0, hlq⟩ := hJ
  obtain ⟨hM, hT, Mk⟩ := up3 LS0 hM hT Mk
  have RL : Rec (Ins b3 (Ins b7 (Ins b2 M))) w7 l (.loop ρ) := ⟨hl, (jT hMS0 hnl)⟩
  have RB : Rec (Ins b3 (Ins b7 (Ins b2 M))) w7 b δ := ⟨hb, (jT hMS0 hnb)⟩
  have hs1 : w7.heap.size ≤ w7.heap.size := Nat.le_refl _
  obtain ⟨_, rfl, ba, aa, da, rfl, hka, haa, hda⟩ := hv
  have hxm : x ∈ l0 := by rw [hx]; simp
  have hxl := rlen_of (hlt x hxm).1 (hlt x hxm).2 (hl1 x hxm).1 (hl1 x hxm).2
  have hpl : pre.length < l0.length := by rw [hx]; simp
  have hbd := Nat.mul_le_mul_left (L + 2) hpl
  rw [Nat.succ_eq_add_one, Nat.mul_add, Nat.mul_one] at hbd
  have hq1 := hlq.1
  have hq2 := hlq.2
  have hx1 := hxl.1
  have hx2 := hxl.2
  refine zB (zF rfl rfl (zD ?_))
  refine ⟨RL.at_, RB.at_, rfl, fun w8 ρ' δ' hdr hl' hb' hbc' => ?_⟩
  replace LS0 := LS0.drift0 hdr (Nat.le_refl _)
  replace hM := hM.drift hdr
  replace hs1 := Nat.le_trans hs1 hdr.size
  replace hT := hT.drift hdr noT
  replace ha0 := ha0.drift hdr noT
  replace hd0 := hd0.drift hdr noT
  replace hka := hka.drift hdr noT
  replace haa := haa.drift hdr noT
  replace hda := hda.drift hdr noT
  replace RL : Rec (Ins b3 (Ins b7 (Ins b2 M))) w8 l (.loop ρ') := ⟨hl', RL.not⟩
  replace RB : Rec (Ins b3 (Ins b7 (Ins b2 M))) w8 b δ' := ⟨hb', RB.not⟩
  replace B2 := B2.drift hdr (fun c => c)
  replace B3 := B3.drift hdr (fun c => c)
  replace B7 := B7.drift hdr (fun c => c)
  refine yC (zB (zT rfl flat159 rfl B3 rfl (zA rfl rfl (zI rfl (bo func214) rfl rfl ?_))))
  refine (raddp_c (Fz := NB _ b7) (M := (Ins b3 (Ins b7 (Ins b2 M)))) (p := cX pre) (q := rq x) hT B7 ha0 hd0 hka haa hda (by omega) (by omega) (by omega) (by omega) (.inr zQ) kS bR hM).mono ?_
  rintro v13 w9 ⟨Lqw9, a13, d13, B7b, hn13, hm13⟩
  have Lw9 := Lqw9.refz nF7
  obtain ⟨LS0, RL, RB⟩ := up3 Lw9 LS0 RL RB
  replace hs1 := Nat.le_trans hs1 Lw9.size
  replace B2 := B2.nb Lqw9 ne2_7
  replace B3 := B3.nb Lqw9 ne3_7
  clear B7; have B7 := B7b
  refine zD ?_
  refine ⟨RL.at_, RB.at_, hs1, fun _ c => c.elim, ?_⟩
  rw [← rsum_snoc] at B7 hn13 hm13
  refine ⟨LS0, B2, B3, _, _, B7, hn13, hm13, ?_⟩
  rw [List.length_append, List.length_singleton, rsum_snoc, Nat.mul_add, Nat.mul_one]
  exact qR (cY hlq hxl) (by omega)
 ·intro w10 hJ hZ hDd
  obtain ⟨LS0, B2, B3, a0, d0, B7, ha0, hd0, hlq⟩ := hJ
  obtain ⟨LL, Mk⟩ := up2 LS0 LL Mk
  have hdd := hDd _ rfl rfl
  have RD : Rec (Ins b3 (Ins b7 (Ins b2 M))) w10 w6.heap.size (.deferred (some [])) := ⟨hdd, (jT hMS0 (Nat.le_refl _))⟩
  replace Mk := Mk.cons hszLL RD Mold0
  refine zH (zB (zT rfl flat159 rfl B3 rfl (yJ rfl rfl (zL 0 rfl yu167 rfl rfl yM rfl rfl (zM rfl yV yM rfl B7 rfl rfl (zV rfl rfl yM B2 rfl rfl (zU (zU (zU xY))) rfl (fun w11 Cw11 B2 => ?_)))))))
  obtain ⟨LL, LS0, Mk, ha0, hd0⟩ := up5 (lc LL Cw11 (.inr (.inr zQ)) nF2) LL LS0 Mk ha0 hd0
  refine zD (zW ?_)
  refine gB Mk (fun wz hz => ⟨[_], ⟨⟨_, rfl, yQ yV yM (B2.drift hz (fun c => c)) rfl rfl⟩, trivial⟩, ?_⟩)
  dsimp only [xW]
  subst hFz
  exact ⟨SL.Bel.drift (LL.b) hz (Nat.le_refl _), _, _, rfl, (ha0.less fun k c => zJ (zJ (zJ c))).drift hz noT, (hd0.less fun k c => zJ (zJ (zJ c))).drift hz noT⟩
theorem rmuls_c {v : Value} {l0 : List RRt} {L : Nat} (hT : Tab M w) (h1 : IsRats M w v l0) (hlt : ∀ x ∈ l0, (∀ y ∈ x.2.1, y < 4294967296) ∧ ∀ y ∈ x.2.2, y < 4294967296) (hl1 : ∀ x ∈ l0, x.2.1.length ≤ L ∧ x.2.2.length ≤ L) (hL : (L + 2) * l0.length + 1 ≤ 400000 ∧ L ≤ 1000000) (hM : OkM M w) :
    CallsV prog 160 [v] w fun r w' => Bel w.heap.size w w' ∧ ∃ a d, r = .agg #[.bool (decide ((bN l0).num < 0)), a, d] ∧ IsNat M w' a (limbs (bN l0).num.natAbs) ∧ IsNat M w' d (limbs (bN l0).den) := by
 have hL6 : L ≤ 1000000 := hL.2
 have Mk : Marks M w.heap.size [] w := uN
 refine ci M func160 ntmps160 fun Fz hFz hF LL => ?_
 refine zH (zB (yI rfl yM (fun w1 b2 N2 => ?_)))
 obtain ⟨_, nF2, nM2, Lw1, B2⟩ := nza hF hM N2
 obtain ⟨LL, hM, hF, h1, hT, Mk⟩ := up6 Lw1 LL hM hF h1 hT Mk
 refine zD (zH (zB (zI rfl (bo func77) rfl rfl ?_)))
 refine (rofn_c (n := 1) (by omega) hM).mono ?_
 rintro v5 w2 ⟨hB5, q5, d5, rfl, hn5, hm5⟩
 obtain ⟨LL, hM, hF, h1, hT, Mk, B2⟩ := ub7 hB5 LL hM hF h1 hT Mk B2
 refine xM rfl plc167 rfl rfl (zX (rfl) xD) rfl (yG rfl rfl (fun w3 b7 N7 => ?_))
 obtain ⟨hBw3, nF7, nM7, Lw3, B7⟩ := nza hF hM N7
 obtain ⟨B2, ne2_7⟩ := bn B2 N7
 obtain ⟨LL, hM, hF, h1, hT, Mk, hn5, hm5⟩ := up8 Lw3 LL hM hF h1 hT Mk hn5 hm5
 refine yI rfl sz159 (fun w4 b3 N3 => ?_)
 obtain ⟨hBw4, nF3, nM3, Lw4, B3⟩ := nz hF hM N3
 obtain ⟨B2, ne2_3⟩ := bn B2 N3
 have lt7_3 := B7.lt
 replace B7 := B7.below hBw4
 have ne3_7 : b3 ≠ b7 := by have := N3.at_; omega
 obtain ⟨LL, hM, h1, hT, Mk, hn5, hm5⟩ := up7 Lw4 LL hM h1 hT Mk hn5 hm5
 refine jD rfl rfl sz159 B3 (by first | rfl | exact yZ (by assumption) | assumption | exact yX (by assumption)) (fun w5 Cw5 B3 => ?_)
 obtain ⟨LL, hM, h1, hT, Mk, hn5, hm5⟩ := up7 (lc LL Cw5 zQ nF3) LL hM h1 hT Mk hn5 hm5
 replace B2 := B2.other Cw5 ne2_3
 replace B7 := B7.other Cw5 ne3_7.symm
 refine zD (zH (zH (zB (zA rfl rfl (zI rfl (bo func211) rfl rfl ?_)))))
 refine (rall_c hT h1 (fun x hx => ⟨Nat.le_trans (hl1 x hx).1 hL6, Nat.le_trans (hl1 x hx).2 hL6⟩) hM).mono ?_
 rintro v9 w6 ⟨hB9, cap9, rfl, hit9⟩
 obtain ⟨LL, hM, h1, hT, Mk, hn5, hm5, B2, B7, B3⟩ := eV hB9 LL hM h1 hT Mk hn5 hm5 B2 B7 B3
 refine zD (yC ?_)
 have hm5x : IsNat (Ins b3 (Ins b7 (Ins b2 M))) w6 d5 (limbs (bN []).den) := by rw [show (bN []).den = 1 from rfl, qK]; exact hm5
 have hMS0 := hM
 have hszLL := LL.size
 have Mold0 := Mk.old (Nat.le_refl _)
 refine aJ (M := (Ins b3 (Ins b7 (Ins b2 M)))) (T := NoT) (l0) ((RLR (Ins b3 (Ins b7 (Ins b2 M))))) rfl (bo func269) (hit9) noT (trivial) (fun _ _ _ ⟨_, h, _⟩ => by rw [h]; rfl) rfl [(3, _)] (zG rfl yE) (fun pre w7 => Le Fz (Ins b3 (Ins b7 (Ins b2 M))) w6 (Ins b3 (Ins b7 (Ins b2 M))) w7 ∧ Blk w7 b2 33 [.bool false, .slice none 0 0, .slice none 0 0] ∧ Blk w7 b3 159 [.pointer (some ⟨b7, 0, none⟩)] ∧ ∃ a d, Blk w7 b7 167 [.bool (decide ((bN pre).num < 0)), a, d] ∧ IsNat (Ins b3 (Ins b7 (Ins b2 M))) w7 a (limbs (bN pre).num.natAbs) ∧ IsNat (Ins b3 (Ins b7 (Ins b2 M))) w7 d (limbs (bN pre).den) ∧ kP (bN pre) ((L + 2) * pre.length + 1)) (fun _ _ => False) (fun _ => False) (⟨Le.refl _ _ _, B2, B3, _, _, B7, hn5, hm5x, by exact rlen_one⟩) (fun pre w h => h.1.keep) (fun pre w1 w2 hJ hd => (by obtain ⟨h1, h2, h3, a, d, h4, h5, h6, h7⟩ := hJ; exact ⟨h1.drift0 hd (Nat.le_refl _), h2.drift hd (fun c => c), h3.drift hd (fun c => c), a, d, h4.drift hd (fun c => c), h5.drift hd noT, h6.drift hd noT, h7⟩)) (fun _ _ _ h _ => h) (fun _ _ h _ => h) (fun _ _ _ _ => trivial) ?_ ?_ (fun _ _ h _ => h.elim) (fun _ h _ => h.elim)
 ·intro pre x vs post l b w7 ρ δ hx hJ hv hnl hnb hl hb hbc
  obtain ⟨LS0, B2, B3, a0, d0, B7, ha0, hd0, hlq⟩ := hJ
  obtain ⟨hM, hT, Mk⟩ := up3 LS0 hM hT Mk
  have RL : Rec (Ins b3 (Ins b7 (Ins b2 M))) w7 l (.loop ρ) := ⟨hl, (jT hMS0 hnl)⟩
  have RB : Rec (Ins b3 (Ins b7 (Ins b2 M))) w7 b δ := ⟨hb, (jT hMS0 hnb)⟩
  have hs1 : w7.heap.size ≤ w7.heap.size := Nat.le_refl _
  obtain ⟨_, rfl, ba, aa, da, rfl, hka, haa, hda⟩ := hv
  have hxm : x ∈ l0 := by rw [hx]; simp
  have hxl := rlen_of (hlt x hxm).1 (hlt x hxm).2 (hl1 x hxm).1 (hl1 x hxm).2
  have hpl : pre.length < l0.length := by rw [hx]; simp
  have hbd := Nat.mul_le_mul_left (L + 2) hpl
  rw [Nat.succ_eq_add_one, Nat.mul_add, Nat.mul_one] at hbd
  have hq1 := hlq.1
  have hq2 := hlq.2
  have hx1 := hxl.1
  have hx2 := hxl.2
  refine zB (zF rfl rfl (zD ?_))
  refine ⟨RL.at_, RB.at_, rfl, fun w8 ρ' δ' hdr hl' hb' hbc' => ?_⟩
  replace LS0 := LS0.drift0 hdr (Nat.le_refl _)
  replace hM := hM.drift hdr
  replace hs1 := Nat.le_trans hs1 hdr.size
  replace hT := hT.drift hdr noT
  replace ha0 := ha0.drift hdr noT
  replace hd0 := hd0.drift hdr noT
  replace hka := hka.drift hdr noT
  replace haa := haa.drift hdr noT
  replace hda := hda.drift hdr noT
  replace RL : Rec (Ins b3 (Ins b7 (Ins b2 M))) w8 l (.loop ρ') := ⟨hl', RL.not⟩
  replace RB : Rec (Ins b3 (Ins b7 (Ins b2 M))) w8 b δ' := ⟨hb', RB.not⟩
  replace B2 := B2.drift hdr (fun c => c)
  replace B3 := B3.drift hdr (fun c => c)
  replace B7 := B7.drift hdr (fun c => c)
  refine yC (zB (zT rfl flat159 rfl B3 rfl (zA rfl rfl (zI rfl (bo func212) rfl rfl ?_))))
  refine (rmulp_c (Fz := NB _ b7) (M := (Ins b3 (Ins b7 (Ins b2 M)))) (p := bN pre) (q := rq x) hT B7 ha0 hd0 hka haa hda (by omega) (by omega) (by omega) (by omega) (.inr zQ) kS bR hM).mono ?_
  rintro v13 w9 ⟨Lqw9, a13, d13, B7b, hn13, hm13⟩
  have Lw9 := Lqw9.refz nF7
  obtain ⟨LS0, RL, RB⟩ := up3 Lw9 LS0 RL RB
  replace hs1 := Nat.le_trans hs1 Lw9.size
  replace B2 := B2.nb Lqw9 ne2_7
  replace B3 := B3.nb Lqw9 ne3_7
  clear B7; have B7 := B7b
  refine zD ?_
  refine ⟨RL.at_, RB.at_, hs1, fun _ c => c.elim, ?_⟩
  rw [← rprod_snoc] at B7 hn13 hm13
  refine ⟨LS0, B2, B3, _, _, B7, hn13, hm13, ?_⟩
  rw [List.length_append, List.length_singleton, rprod_snoc, Nat.mul_add, Nat.mul_one]
  exact qR (rlen_mul hlq hxl) (by omega)
 ·intro w10 hJ hZ hDd
  obtain ⟨LS0, B2, B3, a0, d0, B7, ha0, hd0, hlq⟩ := hJ
  obtain ⟨LL, Mk⟩ := up2 LS0 LL Mk
  have hdd := hDd _ rfl rfl
  have RD : Rec (Ins b3 (Ins b7 (Ins b2 M))) w10 w6.heap.size (.deferred (some [])) := ⟨hdd, (jT hMS0 (Nat.le_refl _))⟩
  replace Mk := Mk.cons hszLL RD Mold0
  refine zH (zB (zT rfl flat159 rfl B3 rfl (yJ rfl rfl (zL 0 rfl yu167 rfl rfl yM rfl rfl (zM rfl yV yM rfl B7 rfl rfl (zV rfl rfl yM B2 rfl rfl (zU (zU (zU xY))) rfl (fun w11 Cw11 B2 => ?_)))))))
  obtain ⟨LL, LS0, Mk, ha0, hd0⟩ := up5 (lc LL Cw11 (.inr (.inr zQ)) nF2) LL LS0 Mk ha0 hd0
  refine zD (zW ?_)
  refine gB Mk (fun wz hz => ⟨[_], ⟨⟨_, rfl, yQ yV yM (B2.drift hz (fun c => c)) rfl rfl⟩, trivial⟩, ?_⟩)
  dsimp only [xW]
  subst hFz
  exact ⟨SL.Bel.drift (LL.b) hz (Nat.le_refl _), _, _, rfl, (ha0.less fun k c => zJ (zJ (zJ c))).drift hz noT, (hd0.less fun k c => zJ (zJ (zJ c))).drift hz noT⟩
end Go.Proofs.YtfkejnlohkgbgaaGreatDoor
set_option maxRecDepth 100000
namespace Go.Proofs.YtfkejnlohkgbgaaGreatDoor
open Go.SL Go.RowKit Go.Proofs Tryz
variable {M : Nat → Prop} {w : World}
theorem rq_told (q : Rat) : rq (decide (q.num < 0), limbs q.num.natAbs, limbs q.den) = q := by unfold rq; dsimp only; rw [gR, yF, Rat.mkRat_self]
theorem rats2 {b : Nat} {t : TypeId} {s1 s2 : Bool} {v1 d1 v2 d2 : Value} {xs ds ys es : List Nat} (B : Blk w b t [.bool s1, v1, d1, .bool s2, v2, d2]) (hm : ¬ M b) (h1 : IsNat M w v1 xs) (k1 : IsNat M w d1 ds) (h2 : IsNat M w v2 ys) (k2 : IsNat M w d2 es) : IsRats M w (.slice (some ⟨b, 0, none⟩) 2 2) [(s1, xs, ds), (s2, ys, es)] :=
  ⟨_, B.slc hm (sz := 3) (n := 2) (ds := [.bool s1, v1, d1, .bool s2, v2, d2]) rfl (fun j u hj => hj) (by omega) (Nat.le_refl _), fun i a ha => by
    match i with
    | 0 => simp at ha; subst ha; exact ⟨_, rfl, fun q u hq => by
        match q with
        | 0 => simpa using hq
        | 1 => simpa using hq
        | 2 => simpa using hq
        | q + 3 => simp at hq, _, _, rfl, h1, k1⟩
    | 1 => simp at ha; subst ha; exact ⟨[.bool s2, v2, d2], rfl, fun q u hq => by
        match q with
        | 0 => simpa using hq
        | 1 => simpa using hq
        | 2 => simpa using hq
        | q + 3 => simp at hq, _, _, rfl, h2, k2⟩
    | i + 2 => simp at ha⟩
theorem rsub_r {s t : Bool} {v u vb ub : Value} {xs ds ys es : List Nat} (hT : Tab M w) (hv : IsNat M w v xs) (hu : IsNat M w u ds) (hvb : IsNat M w vb ys) (hub : IsNat M w ub es) (hl1 : xs.length ≤ 100000) (hl2 : ds.length ≤ 100000) (hl3 : ys.length ≤ 100000) (hl4 : es.length ≤ 100000) (hM : OkM M w) :
    CallsV prog 98 [.agg #[.bool s, v, u], .agg #[.bool t, vb, ub]] w fun r w' => Bel w.heap.size w w' ∧ ∃ a d, r = .agg #[.bool (decide ((mkRat (zv s xs) (val ds) - mkRat (zv t ys) (val es)).num < 0)), a, d] ∧ IsNat M w' a (limbs (mkRat (zv s xs) (val ds) - mkRat (zv t ys) (val es)).num.natAbs) ∧ IsNat M w' d (limbs (mkRat (zv s xs) (val ds) - mkRat (zv t ys) (val es)).den) := by
 have hnl := bD (s := t) hvb.lt hub.lt
 rw [← Int.natAbs_neg, ← Rat.neg_num] at hnl
 have hdl : (limbs (-mkRat (zv t ys) (val es)).den).length ≤ es.length + 1 := by rw [Rat.neg_den]; exact hnl.2
 have hrs : cX [(s, xs, ds), (decide ((-mkRat (zv t ys) (val es)).num < 0), limbs (-mkRat (zv t ys) (val es)).num.natAbs, limbs (-mkRat (zv t ys) (val es)).den)] = mkRat (zv s xs) (val ds) - mkRat (zv t ys) (val es) := by
   unfold cX; simp only [List.foldl_cons, List.foldl_nil, rq_told, Rat.zero_add]; rw [Rat.sub_eq_add_neg]; rfl
 refine ci M func98 ntmps98 fun Fz hFz hF LL => ?_
 refine zH (zB (yG rfl rfl (fun w1 b2 N2 => ?_)))
 obtain ⟨_, nF2, nM2, Lw1, B2⟩ := nza hF hM N2
 obtain ⟨LL, hM, hF, hT, hv, hu, hvb, hub⟩ := up8 Lw1 LL hM hF hT hv hu hvb hub
 refine yG rfl rfl (fun w2 b3 N3 => ?_)
 obtain ⟨hBw2, nF3, nM3, Lw2, B3⟩ := nza hF hM N3
 obtain ⟨B2, ne2_3⟩ := bn B2 N3
 obtain ⟨LL, hM, hF, hT, hv, hu, hvb, hub⟩ := up8 Lw2 LL hM hF hT hv hu hvb hub
 refine yI rfl yM (fun w3 b4 N4 => ?_)
 obtain ⟨hBw3, nF4, nM4, Lw3, B4⟩ := nza hF hM N4
 obtain ⟨B2, ne2_4⟩ := bn B2 N4
 obtain ⟨B3, ne3_4⟩ := bn B3 N4
 obtain ⟨LL, hM, hT, hv, hu, hvb, hub⟩ := up7 Lw3 LL hM hT hv hu hvb hub
 refine zD (zH ?_)
 refine wd mixed 3 [4, 5, 7] (by decide +kernel) ?_
 refine zN (fun _ hR _ => zP rfl rfl (zC (zM rfl yV yM rfl (B2.below hR) rfl rfl (on0 rfl)))) ?_
 refine zN (fun _ hR _ => zP rfl rfl (zC (zM rfl yV yM rfl (B3.below hR) rfl rfl (on0 rfl)))) ?_
 refine dv (fun v w => ∃ a d, v = .agg #[.bool (decide ((-mkRat (zv t ys) (val es)).num < 0)), a, d] ∧ IsNat (Ins b4 (Ins b3 (Ins b2 M))) w a (limbs (-mkRat (zv t ys) (val es)).num.natAbs) ∧ IsNat (Ins b4 (Ins b3 (Ins b2 M))) w d (limbs (-mkRat (zv t ys) (val es)).den)) (fun wq hR hst => ?_) ?_
 ·refine zK rfl (zC ?_)
  obtain ⟨hM, hT, hvb, hub⟩ := ub4 hR hM hT hvb hub
  refine zI rfl (bo func139) rfl rfl ?_
  refine (rneg_c (s := t) hT hvb hub (by omega) (by omega) hM).mono ?_
  rintro v7 w4 ⟨hB7, a7, d7, rfl, hn7, hm7⟩
  exact on1 hB7 rfl ⟨_, _, rfl, hn7, hm7⟩
 refine xI (fun wq1 hR1 hpost1 => ?_)
 refine zP rfl rfl (zK rfl (yD rfl (fun v7 hn7 => ?_)))
 refine zC ?_
 simp only [jC, jB, jA, xZ]
 obtain ⟨LL, hM, hT, hv, hu, B4⟩ := ub6 hR1 LL hM hT hv hu B4
 obtain ⟨a7, d7, rfl, hn7x, hm7x⟩ := hn7
 refine xA rfl yu22 yM rfl rfl rfl rfl (zX rfl (zX rfl xD)) rfl rfl rfl (fun w5 b8 N8 => ?_)
 have hBw5 := N8.below
 have nM8 := hM.new N8
 have B8 := N8.blk
 obtain ⟨LL, hM, hT, hv, hu, hn7x, hm7x, B4⟩ := ub8 hBw5 LL hM hT hv hu hn7x hm7x B4
 have hn8 : IsRats (Ins b4 (Ins b3 (Ins b2 M))) w5 (.slice (some ⟨b8, 0, none⟩) 2 2) [(s, xs, ds), (decide ((-mkRat (zv t ys) (val es)).num < 0), limbs (-mkRat (zv t ys) (val es)).num.natAbs, limbs (-mkRat (zv t ys) (val es)).den)] := rats2 B8 nM8 hv hu hn7x hm7x
 refine zI rfl (bo func163) rfl rfl ?_
 refine (radds_c (L := 100001) hT hn8 (by intro x hx; rcases List.mem_cons.1 hx with rfl | hx; exact ⟨hv.lt, hu.lt⟩; rcases List.mem_cons.1 hx with rfl | hx; exact ⟨jR _, jR _⟩; cases hx) (by intro x hx; rcases List.mem_cons.1 hx with rfl | hx; exact ⟨Nat.le_succ_of_le hl1, Nat.le_succ_of_le hl2⟩; rcases List.mem_cons.1 hx with rfl | hx; exact ⟨Nat.le_trans hnl.1 (by omega), Nat.le_trans hdl (by omega)⟩; cases hx) (by simp) hM).mono ?_
 rintro v9 w6 ⟨hB9, a9, d9, rfl, hn9, hm9⟩
 obtain ⟨LL, hn7x, hm7x, B4⟩ := ub4 hB9 LL hn7x hm7x B4
 rw [hrs] at hn9 hm9
 refine zV rfl rfl yM B4 rfl rfl (zU (zU (zU xY))) rfl (fun w7 Cw7 B4 => ?_)
 obtain ⟨LL, hn7x, hm7x, hn9, hm9⟩ := up5 (lc LL Cw7 zQ nF4) LL hn7x hm7x hn9 hm9
 refine zD (zW ?_)
 refine lv1 ⟨⟨_, rfl, yQ yV yM B4 rfl rfl⟩, trivial⟩ ?_
 rw [hrs]
 subst hFz
 exact ⟨LL.b, _, _, rfl, hn9.less (fun k c => zJ (zJ (zJ c))), hm9.less (fun k c => zJ (zJ (zJ c)))⟩
end Go.Proofs.YtfkejnlohkgbgaaGreatDoor
set_option maxRecDepth 100000
namespace Go.Proofs.YtfkejnlohkgbgaaGreatDoor
open Go.SL Go.RowKit Go.Proofs Tryz
variable {M : Nat → Prop} {w : World}
theorem rcmp_r {s t : Bool} {v u vb ub : Value} {xs ds ys es : List Nat} (hT : Tab M w) (hv : IsNat M w v xs) (hu : IsNat M w u ds) (hvb : IsNat M w vb ys) (hub : IsNat M w ub es) (hl1 : xs.length ≤ 100000) (hl2 : ds.length ≤ 100000) (hl3 : ys.length ≤ 100000) (hl4 : es.length ≤ 100000) (hM : OkM M w) :
    CallsV prog 78 [.agg #[.bool s, v, u], .agg #[.bool t, vb, ub]] w fun r w' => Bel w.heap.size w w' ∧ r = .int .i64 (bG (mkRat (zv s xs) (val ds)) (mkRat (zv t ys) (val es))) := by
 obtain ⟨Fz, hFz, hF, _⟩ := fz0 M w
 obtain ⟨p, hp⟩ : ∃ p, p = mkRat (zv s xs) (val ds) := ⟨_, rfl⟩
 obtain ⟨q, hq⟩ : ∃ q, q = mkRat (zv t ys) (val es) := ⟨_, rfl⟩
 rw [← hp, ← hq]
 have hl5 := bD (s := s) hv.lt hu.lt
 have hl6 := bD (s := t) hvb.lt hub.lt
 rw [← hp] at hl5; rw [← hq] at hl6
 obtain ⟨hl7, hl8⟩ := hl5; obtain ⟨hl9, hl10⟩ := hl6
 have hzd : ∀ n, zv false (limbs n) = ((n : Nat) : Int) := fun n => by simp [zv, yF]
 have hz1 : kH [(decide (p.num < 0), limbs p.num.natAbs), (false, limbs q.den)] = p.num * q.den := by unfold kH; simp only [List.foldl_cons, List.foldl_nil, gR, hzd, Int.one_mul]
 have hz2 : kH [(decide (q.num < 0), limbs q.num.natAbs), (false, limbs p.den)] = q.num * p.den := by unfold kH; simp only [List.foldl_cons, List.foldl_nil, gR, hzd, Int.one_mul]
 have hle1 : (limbs (p.num * q.den).natAbs).length ≤ 900000 := by have := kD (xJ hl7) (xJ hl10); rw [Int.natAbs_mul, Int.natAbs_natCast]; omega
 have hle2 : (limbs (q.num * p.den).natAbs).length ≤ 900000 := by have := kD (xJ hl9) (xJ hl8); rw [Int.natAbs_mul, Int.natAbs_natCast]; omega
 have LL := Le.refl Fz M w
 refine jP func78 rfl ntmps78 rfl ?_
 refine zH (zB (yG rfl rfl (fun w1 b2 N2 => ?_)))
 obtain ⟨hBw1, nF2, nM2, Lw1, B2⟩ := nza hF hM N2
 obtain ⟨LL, hM, hF, hT, hv, hu, hvb, hub⟩ := up8 Lw1 LL hM hF hT hv hu hvb hub
 refine yG rfl rfl (fun w2 b3 N3 => ?_)
 obtain ⟨hBw2, nF3, nM3, Lw2, B3⟩ := nza hF hM N3
 obtain ⟨B2, ne2_3⟩ := bn B2 N3
 obtain ⟨LL, hM, hF, hT, hv, hu, hvb, hub⟩ := up8 Lw2 LL hM hF hT hv hu hvb hub
 refine zF rfl rfl (zD (zH ?_))
 refine wd mixed 3 [8, 9] (by decide +kernel) ?_
 apply zN
 ·intro wq hR hst
  refine zP rfl rfl (zC ?_)
  replace B2 := B2.below hR
  refine zM rfl yV yM rfl B2 rfl rfl ?_
  exact on0 rfl
 refine zS (fun v w => hP (Ins b3 (Ins b2 M)) p v w) rptr_mono (fun wq hR hst => ?_) ?_
 ·refine zK rfl (zC ?_)
  obtain ⟨hM, hT, hv, hu⟩ := ub4 hR hM hT hv hu
  refine zI rfl (bo func140) rfl rfl ?_
  refine (bX (s := s) hT hv hu (by omega) (by omega) hM).mono ?_
  rintro v8 w3 ⟨hB8, b8, a8, d8, rfl, hz8, B8, hn8, hm8⟩
  have hk8 : KBlk (Ins b3 (Ins b2 M)) w3 b8 167 _ := ⟨B8, fun c => by have := hM _ c; omega⟩
  rw [← hp] at hk8 hn8 hm8
  exact on1 hB8 rfl ⟨b8, a8, d8, rfl, hk8, hn8, hm8⟩
 apply zN
 ·intro wq hR hst
  refine zP rfl rfl (zC ?_)
  replace B3 := B3.below hR
  refine zM rfl yV yM rfl B3 rfl rfl ?_
  exact on0 rfl
 refine xI (fun wq1 hR1 hpost1 => ?_)
 refine yD rfl (fun v8 hn8 => ?_)
 refine zK rfl (zC ?_)
 simp only [jC, jB, jA, xZ]
 obtain ⟨LL, hM, hF, hT, hv, hu, hvb, hub, B2, B3⟩ := eV hR1 LL hM hF hT hv hu hvb hub B2 B3
 obtain ⟨b8, a8, d8, rfl, hk8x, hn8x, hm8x⟩ := hn8
 refine zI rfl (bo func140) rfl rfl ?_
 refine (bX (s := t) hT hvb hub (by omega) (by omega) hM).mono ?_
 rintro v10 w4 ⟨hB10, b10, a10, d10, rfl, hz10, B10, hn10, hm10⟩
 have hk10 : KBlk (Ins b3 (Ins b2 M)) w4 b10 167 _ := ⟨B10, fun c => by have := hM _ c; omega⟩
 obtain ⟨LL, hM, hF, hT, hv, hu, hvb, hub, hk8x, hn8x, hm8x, B2, B3⟩ := fY hB10 LL hM hF hT hv hu hvb hub hk8x hn8x hm8x B2 B3
 rw [← hq] at hk10 hn10 hm10
 refine zF rfl rfl (zF rfl rfl (zD (zH ?_)))
 refine wd mixed 24 [23, 28, 34] (qV (by decide +kernel)) ?_
 apply zN
 ·intro wq hR hst
  refine zP rfl rfl (zC ?_)
  obtain ⟨hk8x, hn8x, hm8x⟩ := ub3 hR hk8x hn8x hm8x
  refine zA rfl rfl ?_
  exact on0 rfl
 apply zN
 ·intro wq hR hst
  refine zK rfl (zC ?_)
  obtain ⟨hk8x, hn8x, hm8x⟩ := ub3 hR hk8x hn8x hm8x
  refine yJ rfl rfl ?_
  exact on0 rfl
 apply zN
 ·intro wq hR hst
  refine zK rfl (zC ?_)
  obtain ⟨hk8x, hn8x, hm8x⟩ := ub3 hR hk8x hn8x hm8x
  refine yY 0 rfl yu167 rfl rfl yM rfl rfl ?_
  exact on0 rfl
 apply zN
 ·intro wq hR hst
  refine zK rfl (zC ?_)
  obtain ⟨hk8x, hn8x, hm8x⟩ := ub3 hR hk8x hn8x hm8x
  refine yY 0 rfl yu33 rfl rfl xE rfl rfl ?_
  exact on0 rfl
 apply zN
 ·intro wq hR hst
  refine zK rfl (zC ?_)
  obtain ⟨hk8x, hn8x, hm8x⟩ := ub3 hR hk8x hn8x hm8x
  refine zM rfl xX xE rfl hk8x.blk rfl rfl ?_
  exact on0 rfl
 apply zN
 ·intro wq hR hst
  refine zP rfl rfl (zC ?_)
  obtain ⟨hk8x, hn8x, hm8x⟩ := ub3 hR hk8x hn8x hm8x
  refine zA rfl rfl ?_
  exact on0 rfl
 apply zN
 ·intro wq hR hst
  refine zK rfl (zC ?_)
  obtain ⟨hk8x, hn8x, hm8x⟩ := ub3 hR hk8x hn8x hm8x
  refine yJ rfl rfl ?_
  exact on0 rfl
 apply zN
 ·intro wq hR hst
  refine zK rfl (zC ?_)
  obtain ⟨hk8x, hn8x, hm8x⟩ := ub3 hR hk8x hn8x hm8x
  refine yY 0 rfl yu167 rfl rfl yM rfl rfl ?_
  exact on0 rfl
 apply zN
 ·intro wq hR hst
  refine zK rfl (zC ?_)
  obtain ⟨hk8x, hn8x, hm8x⟩ := ub3 hR hk8x hn8x hm8x
  refine yY 2 rfl yu33 rfl rfl xV rfl rfl ?_
  exact on0 rfl
 apply zN
 ·intro wq hR hst
  refine zK rfl (zC ?_)
  obtain ⟨hk8x, hn8x, hm8x, hk10⟩ := ub4 hR hk8x hn8x hm8x hk10
  refine zT rfl yU rfl hk10.blk rfl ?_
  exact on0 rfl
 apply zN
 ·intro wq hR hst
  refine zK rfl (zC ?_)
  obtain ⟨LL, hM, hF, hT, hv, hu, hvb, hub, hk8x, hn8x, hm8x, hk10, hn10, hm10, B2, B3⟩ := ub16 hR LL hM hF hT hv hu hvb hub hk8x hn8x hm8x hk10 hn10 hm10 B2 B3
  refine zI rfl (bo func147) rfl rfl ?_
  refine (whole_c (by assumption) hM).mono ?_
  rintro v21 w5 ⟨hB21, rfl⟩
  obtain ⟨hk8x, hn8x, hm8x⟩ := ub3 hB21 hk8x hn8x hm8x
  exact on1 hB21 rfl rfl
 refine zS (fun v w => IsInts (Ins b3 (Ins b2 M)) w v [(decide (p.num < 0), limbs p.num.natAbs), (false, limbs q.den)]) cI (fun wq hR hst => ?_) ?_
 ·refine zK rfl (zK rfl (zC ?_))
  obtain ⟨hM, hk8x, hn8x, hm8x, hm10⟩ := ub5 hR hM hk8x hn8x hm8x hm10
  refine xA rfl yu174 xE rfl rfl rfl rfl (zX rfl (zX rfl xD)) rfl rfl rfl (fun w6 b22 N22 => ?_)
  have hBw6 := N22.below
  have nM22 := hM.new N22
  have B22 := N22.blk
  obtain ⟨hk8x, hn8x, hm8x, hm10⟩ := ub4 hBw6 hk8x hn8x hm8x hm10
  have hn22 : IsInts (Ins b3 (Ins b2 M)) w6 (.slice (some ⟨b22, 0, none⟩) 2 2) [(decide (p.num < 0), limbs p.num.natAbs), (false, limbs q.den)] := eU B22 nM22 hn8x hm10
  have hB22 := hBw6
  exact on1 hB22 rfl hn22
 refine dv (fun v w => ∃ c, v = .agg #[.bool (decide (p.num * q.den < 0)), c] ∧ IsNat (Ins b3 (Ins b2 M)) w c (limbs (p.num * q.den).natAbs)) (fun wq hR hst => ?_) ?_
 ·refine yD rfl (fun v22 hn22 => ?_)
  refine zC ?_
  obtain ⟨hM, hk8x, hn8x, hm8x⟩ := ub4 hR hM hk8x hn8x hm8x
  refine zI rfl (bo func146) rfl rfl ?_
  refine (dL (L := 400000) hn22 (by intro x hx; rcases List.mem_cons.1 hx with rfl | hx; exact jR _; rcases List.mem_cons.1 hx with rfl | hx; exact jR _; cases hx) (by intro x hx; rcases List.mem_cons.1 hx with rfl | hx; dsimp only; omega; rcases List.mem_cons.1 hx with rfl | hx; dsimp only; omega; cases hx) ⟨by simp, by omega⟩ hM).mono ?_
  rintro v23 w7 ⟨hB23, q23, rfl, hn23⟩
  obtain ⟨hk8x, hn8x, hm8x⟩ := ub3 hB23 hk8x hn8x hm8x
  rw [hz1]; rw [hz1] at hn23
  exact on1 hB23 rfl ⟨_, rfl, hn23⟩
 apply zN
 ·intro wq hR hst
  refine zP rfl rfl (zC ?_)
  obtain ⟨hk8x, hn8x, hm8x⟩ := ub3 hR hk8x hn8x hm8x
  refine zA rfl rfl ?_
  exact on0 rfl
 apply zN
 ·intro wq hR hst
  refine zK rfl (zC ?_)
  obtain ⟨hk8x, hn8x, hm8x⟩ := ub3 hR hk8x hn8x hm8x
  refine yJ rfl rfl ?_
  exact on0 rfl
 apply zN
 ·intro wq hR hst
  refine zK rfl (zC ?_)
  obtain ⟨hk8x, hn8x, hm8x⟩ := ub3 hR hk8x hn8x hm8x
  refine yY 0 rfl yu167 rfl rfl yM rfl rfl ?_
  exact on0 rfl
 apply zN
 ·intro wq hR hst
  refine zK rfl (zC ?_)
  obtain ⟨hk8x, hn8x, hm8x⟩ := ub3 hR hk8x hn8x hm8x
  refine yY 0 rfl yu33 rfl rfl xE rfl rfl ?_
  exact on0 rfl
 apply zN
 ·intro wq hR hst
  refine zK rfl (zC ?_)
  obtain ⟨hk8x, hn8x, hm8x, hk10⟩ := ub4 hR hk8x hn8x hm8x hk10
  refine zM rfl xX xE rfl hk10.blk rfl rfl ?_
  exact on0 rfl
 apply zN
 ·intro wq hR hst
  refine zP rfl rfl (zC ?_)
  obtain ⟨hk8x, hn8x, hm8x⟩ := ub3 hR hk8x hn8x hm8x
  refine zA rfl rfl ?_
  exact on0 rfl
 apply zN
 ·intro wq hR hst
  refine zK rfl (zC ?_)
  obtain ⟨hk8x, hn8x, hm8x⟩ := ub3 hR hk8x hn8x hm8x
  refine yJ rfl rfl ?_
  exact on0 rfl
 apply zN
 ·intro wq hR hst
  refine zK rfl (zC ?_)
  obtain ⟨hk8x, hn8x, hm8x⟩ := ub3 hR hk8x hn8x hm8x
  refine yY 0 rfl yu167 rfl rfl yM rfl rfl ?_
  exact on0 rfl
 apply zN
 ·intro wq hR hst
  refine zK rfl (zC ?_)
  obtain ⟨hk8x, hn8x, hm8x⟩ := ub3 hR hk8x hn8x hm8x
  refine yY 2 rfl yu33 rfl rfl xV rfl rfl ?_
  exact on0 rfl
 apply zN
 ·intro wq hR hst
  refine zK rfl (zC ?_)
  obtain ⟨hk8x, hn8x, hm8x⟩ := ub3 hR hk8x hn8x hm8x
  refine zT rfl yU rfl hk8x.blk rfl ?_
  exact on0 rfl
 apply zN
 ·intro wq hR hst
  refine zK rfl (zC ?_)
  obtain ⟨LL, hM, hF, hT, hv, hu, hvb, hub, hk8x, hn8x, hm8x, hk10, hn10, hm10, B2, B3⟩ := ub16 hR LL hM hF hT hv hu hvb hub hk8x hn8x hm8x hk10 hn10 hm10 B2 B3
  refine zI rfl (bo func147) rfl rfl ?_
  refine (whole_c (by assumption) hM).mono ?_
  rintro v34 w8 ⟨hB34, rfl⟩
  obtain ⟨hk8x, hn8x, hm8x⟩ := ub3 hB34 hk8x hn8x hm8x
  exact on1 hB34 rfl rfl
 refine xI (fun wq2 hR2 hpost2 => ?_)
 refine yD rfl (fun v23 hn23 => ?_)
 refine zK rfl (zK rfl (zC ?_))
 simp only [jC, jB, jA, xZ]
 obtain ⟨LL, hM, hk8x, hn8x, hm8x, hn10⟩ := ub6 hR2 LL hM hk8x hn8x hm8x hn10
 obtain ⟨q23, rfl, hn23x⟩ := hn23
 refine xA rfl yu174 xE rfl rfl rfl rfl (zX rfl (zX rfl xD)) rfl rfl rfl (fun w9 b35 N35 => ?_)
 have hBw9 := N35.below
 have nM35 := hM.new N35
 have B35 := N35.blk
 obtain ⟨LL, hM, hk8x, hn8x, hm8x, hn10, hn23x⟩ := ub7 hBw9 LL hM hk8x hn8x hm8x hn10 hn23x
 have hn35 : IsInts (Ins b3 (Ins b2 M)) w9 (.slice (some ⟨b35, 0, none⟩) 2 2) [(decide (q.num < 0), limbs q.num.natAbs), (false, limbs p.den)] := eU B35 nM35 hn10 hm8x
 refine zI rfl (bo func146) rfl rfl ?_
 refine (dL (L := 400000) hn35 (by intro x hx; rcases List.mem_cons.1 hx with rfl | hx; exact jR _; rcases List.mem_cons.1 hx with rfl | hx; exact jR _; cases hx) (by intro x hx; rcases List.mem_cons.1 hx with rfl | hx; dsimp only; omega; rcases List.mem_cons.1 hx with rfl | hx; dsimp only; omega; cases hx) ⟨by simp, by omega⟩ hM).mono ?_
 rintro v36 w10 ⟨hB36, q36, rfl, hn36⟩
 obtain ⟨LL, hM, hk8x, hn8x, hm8x, hn23x⟩ := ub6 hB36 LL hM hk8x hn8x hm8x hn23x
 rw [hz2]; rw [hz2] at hn36
 refine zI rfl (bo func145) rfl rfl ?_
 refine (icmp_c hn23x hn36 hle1 hle2 hM).mono ?_
 rintro v37 w11 ⟨hB37, rfl⟩
 obtain ⟨LL, hk8x, hn8x, hm8x, hn23x⟩ := ub5 hB37 LL hk8x hn8x hm8x hn23x
 rw [gR, gR, cmpR_eq]
 refine zF rfl rfl (zD (zW ?_))
 refine lv1 ⟨rfl, trivial⟩ ?_
 subst hFz
 exact ⟨LL.b, rfl⟩
end Go.Proofs.YtfkejnlohkgbgaaGreatDoor
set_option maxRecDepth 100000
namespace Go.Proofs.YtfkejnlohkgbgaaGreatDoor
open Go.SL Go.RowKit Go.Proofs Tryz
variable {M : Nat → Prop} {w : World}
structure QC (M : Nat → Prop) (w : World) (n : Nat) (q : Rat) (s : Bool) (a d : Value) : Prop where
  ex : ∃ xs ds, IsNat M w a xs ∧ IsNat M w d ds ∧ xs.length ≤ n ∧ ds.length ≤ n ∧ mkRat (zv s xs) (val ds) = q
structure RC (M : Nat → Prop) (w : World) (n : Nat) (q : Rat) (s : Bool) (a d : Value) : Prop where
  sgn : s = decide (q.num < 0)
  num : IsNat M w a (limbs q.num.natAbs)
  den : IsNat M w d (limbs q.den)
  len : kP q n
section
variable {Fz M M' T S : Nat → Prop} {w w' : World} {n m k : Nat} {q : Rat} {s : Bool} {a d : Value}
theorem QC.mono (h : QC M w n q s a d) (l : Le Fz M w M' w') : QC M' w' n q s a d := by
  obtain ⟨xs, ds, h1, h2, h3⟩ := h.ex; exact ⟨xs, ds, h1.mono l, h2.mono l, h3⟩
theorem QC.drift (h : QC M w n q s a d) (x : Drift T k w w') (ht : ∀ k, T k → M k) : QC M w' n q s a d := by
  obtain ⟨xs, ds, h1, h2, h3⟩ := h.ex; exact ⟨xs, ds, h1.drift x ht, h2.drift x ht, h3⟩
theorem QC.less (h : QC M w n q s a d) (hm : ∀ k, M' k → M k) : QC M' w n q s a d := h.mono (Fz := fun _ => False) (Le.less hm)
theorem QC.up (h : QC M w n q s a d) (hm : n ≤ m) : QC M w m q s a d := by
  obtain ⟨xs, ds, h1, h2, h3, h4, h5⟩ := h.ex; exact ⟨xs, ds, h1, h2, by omega, by omega, h5⟩
theorem QC.rlen (h : QC M w n q s a d) : kP q (n + 1) := by
  obtain ⟨xs, ds, h1, h2, h3, h4, rfl⟩ := h.ex
  have := bD (s := s) h1.lt h2.lt
  exact ⟨by omega, by omega⟩
theorem QC.sl (h : QC M w n q s a d) : (∃ x i j, a = .slice x i j) ∧ ∃ x i j, d = .slice x i j := by
  obtain ⟨xs, ds, h1, h2, h3⟩ := h.ex
  obtain ⟨_, _, ad, cap, rfl, _⟩ := h1.slc
  obtain ⟨_, _, ad2, cap2, rfl, _⟩ := h2.slc
  exact ⟨⟨_, _, _, rfl⟩, _, _, _, rfl⟩
theorem QC.one (h : QC M w n q s a d) : a.oneCell' = true ∧ d.oneCell' = true ∧ True := by
  obtain ⟨⟨_, _, _, rfl⟩, _, _, _, rfl⟩ := h.sl; exact ⟨rfl, rfl, trivial⟩
theorem QC.keep {w0 : World} (h : QC M w0 n q s a d) (kp : Keep M w0 w) : QC M w n q s a d := by
  obtain ⟨xs, ds, h1, h2, h3⟩ := h.ex; exact ⟨xs, ds, kp.nat h1, kp.nat h2, h3⟩
theorem RC.mono (h : RC M w n q s a d) (l : Le Fz M w M' w') : RC M' w' n q s a d := ⟨h.sgn, h.num.mono l, h.den.mono l, h.len⟩
theorem RC.drift (h : RC M w n q s a d) (x : Drift T k w w') (ht : ∀ k, T k → M k) : RC M w' n q s a d := ⟨h.sgn, h.num.drift x ht, h.den.drift x ht, h.len⟩
theorem RC.less (h : RC M w n q s a d) (hm : ∀ k, M' k → M k) : RC M' w n q s a d := h.mono (Fz := fun _ => False) (Le.less hm)
theorem RC.up (h : RC M w n q s a d) (hm : n ≤ m) : RC M w m q s a d := ⟨h.sgn, h.num, h.den, qR h.len hm⟩
theorem RC.gen (h : RC M w n q s a d) : QC M w n q s a d := ⟨_, _, h.num, h.den, h.len.1, h.len.2, by rw [h.sgn, gR, yF, Rat.mkRat_self]⟩
theorem RC.one (h : RC M w n q s a d) : a.oneCell' = true ∧ d.oneCell' = true ∧ True := h.gen.one
end
def RV (M : Nat → Prop) (n : Nat) (q : Rat) : VP := fun v w => ∃ s a d, v = .agg #[.bool s, a, d] ∧ RC M w n q s a d
theorem rv_of {n : Nat} {q : Rat} {a d : Value} (h1 : IsNat M w a (limbs q.num.natAbs)) (h2 : IsNat M w d (limbs q.den)) (h3 : kP q n) : RV M n q (.agg #[.bool (decide (q.num < 0)), a, d]) w := ⟨_, _, _, rfl, rfl, h1, h2, h3⟩
theorem rcmp_q {n m : Nat} {p q : Rat} {s t : Bool} {a d b e : Value} (hT : Tab M w) (h1 : QC M w n p s a d) (h2 : QC M w m q t b e) (hn : n ≤ 90000) (hm : m ≤ 90000) (hM : OkM M w) : CallsV prog 78 [.agg #[.bool s, a, d], .agg #[.bool t, b, e]] w fun r w' => Bel w.heap.size w w' ∧ r = .int .i64 (bG p q) := by
  obtain ⟨xs, ds, i1, i2, i3, i4, rfl⟩ := h1.ex
  obtain ⟨ys, es, j1, j2, j3, j4, rfl⟩ := h2.ex
  exact rcmp_r hT i1 i2 j1 j2 (by omega) (by omega) (by omega) (by omega) hM
theorem rsgn_q {n : Nat} {p : Rat} {s : Bool} {a d : Value} (hT : Tab M w) (h1 : QC M w n p s a d) (hn : n ≤ 90000) (hM : OkM M w) : CallsV prog 138 [.agg #[.bool s, a, d]] w fun r w' => Bel w.heap.size w w' ∧ r = .int .i64 (eI p) := by
  obtain ⟨xs, ds, i1, i2, i3, i4, rfl⟩ := h1.ex
  exact rsgn_c hT i1 i2 (by omega) (by omega) hM
theorem rnrm_q {n : Nat} {p : Rat} {s : Bool} {a d : Value} (hT : Tab M w) (h1 : QC M w n p s a d) (hn : n ≤ 90000) (hM : OkM M w) : CallsV prog 126 [.agg #[.bool s, a, d]] w fun r w' => Bel w.heap.size w w' ∧ RV M (n + 1) p r w' := by
  have hl := h1.rlen
  obtain ⟨xs, ds, i1, i2, i3, i4, rfl⟩ := h1.ex
  exact (rnrm_c hT i1 i2 (by omega) (by omega) hM).mono fun r w' ⟨hB, x, y, e, k1, k2⟩ => ⟨hB, by subst e; exact rv_of k1 k2 hl⟩
theorem rsub_q {n m : Nat} {p q : Rat} {s t : Bool} {a d b e : Value} (hT : Tab M w) (h1 : QC M w n p s a d) (h2 : QC M w m q t b e) (hn : n ≤ 90000) (hm : m ≤ 90000) (hM : OkM M w) : CallsV prog 98 [.agg #[.bool s, a, d], .agg #[.bool t, b, e]] w fun r w' => Bel w.heap.size w w' ∧ RV M (n + m + 3) (p - q) r w' := by
  have hl : kP (p - q) (n + m + 3) := by rw [Rat.sub_eq_add_neg]; exact qR (cY h1.rlen (rlen_neg h2.rlen)) (by omega)
  obtain ⟨xs, ds, i1, i2, i3, i4, rfl⟩ := h1.ex
  obtain ⟨ys, es, j1, j2, j3, j4, rfl⟩ := h2.ex
  exact (rsub_r hT i1 i2 j1 j2 (by omega) (by omega) (by omega) (by omega) hM).mono fun r w' ⟨hB, x, y, e, k1, k2⟩ => ⟨hB, by subst e; exact rv_of k1 k2 hl⟩
theorem rofn_q {n : Nat} (hn : n < 9223372036854775808) (hM : OkM M w) : CallsV prog 77 [.int .i64 (n : Int)] w fun r w' => Bel w.heap.size w w' ∧ RV M 2 (n : Rat) r w' := by
  have e0 : ((n : Nat) : Rat).num = (n : Int) := rfl
  have e1 : ((n : Nat) : Rat).den = 1 := rfl
  exact (rofn_c hn hM).mono fun r w' ⟨hB, x, y, e, k1, k2⟩ => ⟨hB, false, x, y, e, by rw [e0]; exact (decide_eq_false (by omega)).symm, by rw [e0]; exact k1, by rw [e1, qK]; exact k2, by
    unfold kP; rw [e0, e1, qK]; exact ⟨xT (by simp; omega), by simp⟩⟩
theorem mem2 {α : Type} {x y : α} {Q : α → Prop} (h1 : Q x) (h2 : Q y) : ∀ z ∈ [x, y], Q z := by
  intro z hz
  rcases List.mem_cons.1 hz with rfl | hz
  · exact h1
  · rcases List.mem_cons.1 hz with rfl | hz
    · exact h2
    · cases hz
theorem radd2_q {bb : Nat} {ty : TypeId} {n m : Nat} {p q : Rat} {s t : Bool} {a d b e : Value} (hT : Tab M w) (hk : KBlk M w bb ty [.bool s, a, d, .bool t, b, e]) (h1 : QC M w n p s a d) (h2 : QC M w m q t b e) (hn : n ≤ 90000) (hm : m ≤ 90000) (hM : OkM M w) : CallsV prog 163 [.slice (some ⟨bb, 0, none⟩) 2 2] w fun r w' => Bel w.heap.size w w' ∧ RV M (n + m + 3) (p + q) r w' := by
  have hl : kP (p + q) (n + m + 3) := qR (cY h1.rlen h2.rlen) (by omega)
  obtain ⟨xs, ds, i1, i2, i3, i4, rfl⟩ := h1.ex
  obtain ⟨ys, es, j1, j2, j3, j4, rfl⟩ := h2.ex
  have hs : cX [(s, xs, ds), (t, ys, es)] = mkRat (zv s xs) (val ds) + mkRat (zv t ys) (val es) := by unfold cX rq; simp only [List.foldl_cons, List.foldl_nil, Rat.zero_add]
  exact (radds_c (L := 90000) hT (rats2 hk.blk hk.not i1 i2 j1 j2) (mem2 ⟨i1.lt, i2.lt⟩ ⟨j1.lt, j2.lt⟩) (mem2 ⟨by dsimp only; omega, by dsimp only; omega⟩ ⟨by dsimp only; omega, by dsimp only; omega⟩) (by simp) hM).mono fun r w' ⟨hB, x, y, e, k1, k2⟩ => ⟨hB, by
    rw [hs] at e k1 k2; subst e; exact rv_of k1 k2 hl⟩
theorem rmul2_q {bb : Nat} {ty : TypeId} {n m : Nat} {p q : Rat} {s t : Bool} {a d b e : Value} (hT : Tab M w) (hk : KBlk M w bb ty [.bool s, a, d, .bool t, b, e]) (h1 : QC M w n p s a d) (h2 : QC M w m q t b e) (hn : n ≤ 90000) (hm : m ≤ 90000) (hM : OkM M w) : CallsV prog 160 [.slice (some ⟨bb, 0, none⟩) 2 2] w fun r w' => Bel w.heap.size w w' ∧ RV M (n + m + 3) (p * q) r w' := by
  have hl : kP (p * q) (n + m + 3) := qR (rlen_mul h1.rlen h2.rlen) (by omega)
  obtain ⟨xs, ds, i1, i2, i3, i4, rfl⟩ := h1.ex
  obtain ⟨ys, es, j1, j2, j3, j4, rfl⟩ := h2.ex
  have hs : bN [(s, xs, ds), (t, ys, es)] = mkRat (zv s xs) (val ds) * mkRat (zv t ys) (val es) := by unfold bN rq; simp only [List.foldl_cons, List.foldl_nil, Rat.one_mul]
  exact (rmuls_c (L := 90000) hT (rats2 hk.blk hk.not i1 i2 j1 j2) (mem2 ⟨i1.lt, i2.lt⟩ ⟨j1.lt, j2.lt⟩) (mem2 ⟨by dsimp only; omega, by dsimp only; omega⟩ ⟨by dsimp only; omega, by dsimp only; omega⟩) (by simp) hM).mono fun r w' ⟨hB, x, y, e, k1, k2⟩ => ⟨hB, by
    rw [hs] at e k1 k2; subst e; exact rv_of k1 k2 hl⟩
end Go.Proofs.YtfkejnlohkgbgaaGreatDoor
namespace Go.Proofs.YtfkejnlohkgbgaaGreatDoor
open Go Go.SL Go.RowKit Tryz
variable {Fz M M' : Nat → Prop} {w w' : World}
instance {n : Nat} {q : Rat} {s : Bool} {a d : Value} : Up Fz M M' w w' (QC M w n q s a d) (QC M' w' n q s a d) := ⟨fun l h => h.mono l⟩
instance {n : Nat} {q : Rat} {s : Bool} {a d : Value} : UpB w w' (QC M w n q s a d) (QC M w' n q s a d) := ⟨fun l h => h.mono (lb l)⟩
instance {n : Nat} {q : Rat} {s : Bool} {a d : Value} : Up Fz M M' w w' (RC M w n q s a d) (RC M' w' n q s a d) := ⟨fun l h => h.mono l⟩
instance {n : Nat} {q : Rat} {s : Bool} {a d : Value} : UpB w w' (RC M w n q s a d) (RC M w' n q s a d) := ⟨fun l h => h.mono (lb l)⟩
abbrev rQC (M : Nat → Prop) (n : Nat) (q : Rat) : VP := fun v w => ∃ b o s a d, v = .pointer (some ⟨b, o, none⟩) ∧ (∀ (i : Nat) (u : Value), [.bool s, a, d][i]? = some u → w.cell? ⟨b, o + i, none⟩ = some u) ∧ QC M w n q s a d
abbrev rQCko (k : Nat) (M : Nat → Prop) (n : Nat) (q : Rat) : VP := fun v w => ∃ b o s a d, v = .pointer (some ⟨b, o + k, none⟩) ∧ (∀ (i : Nat) (u : Value), [.bool s, a, d][i]? = some u → w.cell? ⟨b, o + i, none⟩ = some u) ∧ QC M w n q s a d
abbrev vRC (M : Nat → Prop) (n : Nat) (q : Rat) : VP := fun v w => ∃ s a d, v = .agg #[.bool s, a, d] ∧ RC M w n q s a d
theorem kJ {M : Nat → Prop} {n : Nat} {q : Rat} : ∀ v (w w' : World), vRC M n q v w → Rb w w' → vRC M n q v w' := fun _ _ _ ⟨s, a, d, hq, h0⟩ r => ⟨s, a, d, hq, h0.mono (Fz := fun _ => False) (Le.of_below r)⟩
abbrev vQC (M : Nat → Prop) (n : Nat) (q : Rat) : VP := fun v w => ∃ s a d, v = .agg #[.bool s, a, d] ∧ QC M w n q s a d
theorem vQC_m {M : Nat → Prop} {n : Nat} {q : Rat} : ∀ v (w w' : World), vQC M n q v w → Rb w w' → vQC M n q v w' := fun _ _ _ ⟨s, a, d, hq, h0⟩ r => ⟨s, a, d, hq, h0.mono (Fz := fun _ => False) (Le.of_below r)⟩
end Go.Proofs.YtfkejnlohkgbgaaGreatDoor
set_option maxRecDepth 100000
namespace Go.Proofs.YtfkejnlohkgbgaaGreatDoor
open Go.SL Go.RowKit Go.Proofs Tryz
variable {M : Nat → Prop} {w : World}
theorem quo_eq (p q : Rat) : mkRat (p.num * zv (decide (q.num < 0)) (limbs q.den)) (p.den * q.num.natAbs) = p / q := by
  rw [Rat.mkRat_eq_div]
  have e1 := den_self p
  have e2 := den_self q
  have d1 : (p.den : Rat) ≠ 0 := fun c => p.den_nz (Rat.natCast_inj.1 (show ((p.den : Nat) : Rat) = ((0 : Nat) : Rat) from c))
  have d2 : (q.den : Rat) ≠ 0 := fun c => q.den_nz (Rat.natCast_inj.1 (show ((q.den : Nat) : Rat) = ((0 : Nat) : Rat) from c))
  rw [Rat.intCast_mul, Rat.natCast_mul]
  by_cases h : q.num < 0
  · have f : ((q.num.natAbs : Nat) : Rat) = -(q.num : Rat) := by
      rw [← Rat.intCast_neg, ← Int.natAbs_neg]
      have : (((-q.num).natAbs : Nat) : Int) = -q.num := by omega
      rw [← this]; rfl
    rw [f, decide_eq_true h, zv, if_pos rfl, yF, Rat.intCast_neg]
    have g : (((q.den : Nat) : Int) : Rat) = (q.den : Rat) := rfl
    rw [g]
    have hn : (q.num : Rat) ≠ 0 := by
      intro c
      have : ((q.num : Int) : Rat) = ((0 : Int) : Rat) := c
      have := Rat.intCast_inj.1 this
      omega
    grind
  · have f : ((q.num.natAbs : Nat) : Rat) = (q.num : Rat) := by
      have : ((q.num.natAbs : Nat) : Int) = q.num := by omega
      rw [show ((q.num.natAbs : Nat) : Rat) = (((q.num.natAbs : Nat) : Int) : Rat) from rfl, this]
    rw [f, decide_eq_false h, zv, if_neg (by simp), yF]
    have g : (((q.den : Nat) : Int) : Rat) = (q.den : Rat) := rfl
    rw [g]
    by_cases h0 : q.num = 0
    · have hq : q = 0 := by rw [← Rat.num_eq_zero]; exact h0
      subst hq; simp [Rat.div_def]
    · have hn : (q.num : Rat) ≠ 0 := by
        intro c
        have : ((q.num : Int) : Rat) = ((0 : Int) : Rat) := c
        exact h0 (Rat.intCast_inj.1 this)
      grind
theorem quo_zero (p q : Rat) : (p.den * q.num.natAbs = 0) = (q = 0) := by
  apply propext
  rw [Nat.mul_eq_zero]
  constructor
  · intro h
    rcases h with h | h
    · exact absurd h p.den_nz
    · rw [← Rat.num_eq_zero]; omega
  · intro h; subst h; exact .inr rfl
theorem rlen_quo {p q : Rat} {A B : Nat} (h1 : kP p A) (h2 : kP q B) : kP (p / q) (A + B + 1) := by
  rw [← quo_eq]
  by_cases hq : q = 0
  · subst hq
    have : p.den * (0 : Rat).num.natAbs = 0 := by simp
    rw [this, Rat.mkRat_zero]
    exact qR rlen_zero (by omega)
  · have a1 := xJ h1.1; have a2 := xJ h1.2; have a3 := xJ h2.1; have a4 := xJ h2.2
    refine qR (rlen_mk (A := A + B) ?_ (qB a2 a3) (fun c => hq ((quo_zero p q) ▸ c))) (by omega)
    rw [Int.natAbs_mul, uQ, yF]; exact qB a1 a4
theorem rquo_r {s t : Bool} {v u vb ub : Value} {xs ds ys es : List Nat} (hT : Tab M w) (hv : IsNat M w v xs) (hu : IsNat M w u ds) (hvb : IsNat M w vb ys) (hub : IsNat M w ub es) (hl1 : xs.length ≤ 100000) (hl2 : ds.length ≤ 100000) (hl3 : ys.length ≤ 100000) (hl4 : es.length ≤ 100000) (hM : OkM M w) :
    CallsV prog 94 [.agg #[.bool s, v, u], .agg #[.bool t, vb, ub]] w fun r w' => Bel w.heap.size w w' ∧ ∃ a d, r = .tuple #[.agg #[.bool (decide (((mkRat (zv s xs) (val ds)) / (mkRat (zv t ys) (val es))).num < 0)), a, d], .int .i64 (if (mkRat (zv t ys) (val es)) = 0 then 30 else 0)] ∧ IsNat M w' a (limbs ((mkRat (zv s xs) (val ds)) / (mkRat (zv t ys) (val es))).num.natAbs) ∧ IsNat M w' d (limbs ((mkRat (zv s xs) (val ds)) / (mkRat (zv t ys) (val es))).den) := by
 obtain ⟨Fz, hFz, hF, _⟩ := fz0 M w
 obtain ⟨p, hp⟩ : ∃ p, p = mkRat (zv s xs) (val ds) := ⟨_, rfl⟩
 obtain ⟨q, hq⟩ : ∃ q, q = mkRat (zv t ys) (val es) := ⟨_, rfl⟩
 rw [← hp, ← hq]
 have hl5 := bD (s := s) hv.lt hu.lt
 have hl6 := bD (s := t) hvb.lt hub.lt
 rw [← hp] at hl5; rw [← hq] at hl6
 obtain ⟨hl7, hl8⟩ := hl5; obtain ⟨hl9, hl10⟩ := hl6
 have hzd : ∀ n, zv false (limbs n) = ((n : Nat) : Int) := fun n => by simp [zv, yF]
 have hzq : kH [(decide (p.num < 0), limbs p.num.natAbs), (decide (q.num < 0), limbs q.den)] = p.num * zv (decide (q.num < 0)) (limbs q.den) := by unfold kH; simp only [List.foldl_cons, List.foldl_nil, gR, Int.one_mul]
 have hquo := quo_eq p q
 have hq0 := quo_zero p q
 have hle1 : (limbs (p.num * zv (decide (q.num < 0)) (limbs q.den)).natAbs).length ≤ 900000 := by have := kD (xJ hl7) (xJ hl10); rw [Int.natAbs_mul, uQ, yF]; omega
 have hle2 : (limbs (p.den * q.num.natAbs)).length ≤ 900000 := by have := kD (xJ hl8) (xJ hl9); omega
 have LL := Le.refl Fz M w
 refine jP func94 rfl ntmps94 rfl ?_
 refine zH (zB (yG rfl rfl (fun w1 b2 N2 => ?_)))
 obtain ⟨_, nF2, nM2, Lw1, B2⟩ := nza hF hM N2
 obtain ⟨LL, hM, hF, hT, hv, hu, hvb, hub⟩ := up8 Lw1 LL hM hF hT hv hu hvb hub
 refine yG rfl rfl (fun w2 b3 N3 => ?_)
 obtain ⟨hBw2, nF3, nM3, Lw2, B3⟩ := nza hF hM N3
 obtain ⟨B2, ne2_3⟩ := bn B2 N3
 obtain ⟨LL, hM, hF, hT, hv, hu, hvb, hub⟩ := up8 Lw2 LL hM hF hT hv hu hvb hub
 refine yI rfl yM (fun w3 b4 N4 => ?_)
 obtain ⟨hBw3, nF4, nM4, Lw3, B4⟩ := nza hF hM N4
 obtain ⟨B2, ne2_4⟩ := bn B2 N4
 obtain ⟨B3, ne3_4⟩ := bn B3 N4
 obtain ⟨LL, hM, hT, hv, hu, hvb, hub⟩ := up7 Lw3 LL hM hT hv hu hvb hub
 refine zF rfl rfl (zD (zH ?_))
 refine wd mixed 3 [4, 9, 10] (by decide +kernel) ?_
 refine zN (fun _ hR _ => zP rfl rfl (zC (zM rfl yV yM rfl (B2.below hR) rfl rfl (on0 rfl)))) ?_
 refine zS (fun v w => hP (Ins b4 (Ins b3 (Ins b2 M))) p v w) rptr_mono (fun wq hR hst => ?_) ?_
 ·refine zK rfl (zC ?_)
  obtain ⟨hM, hT, hv, hu⟩ := ub4 hR hM hT hv hu
  refine zI rfl (bo func140) rfl rfl ?_
  refine (bX (s := s) hT hv hu (by omega) (by omega) hM).mono ?_
  rintro v9 w4 ⟨hB9, b9, a9, d9, rfl, hz9, B9, hn9, hm9⟩
  have hk9 : KBlk (Ins b4 (Ins b3 (Ins b2 M))) w4 b9 167 _ := ⟨B9, fun c => by have := hM _ c; omega⟩
  rw [← hp] at hk9 hn9 hm9
  exact on1 hB9 rfl ⟨b9, a9, d9, rfl, hk9, hn9, hm9⟩
 refine zN (fun _ hR _ => zP rfl rfl (zC (zM rfl yV yM rfl (B3.below hR) rfl rfl (on0 rfl)))) ?_
 refine xI (fun wq1 hR1 hpost1 => ?_)
 refine zP rfl rfl (yD rfl (fun v9 hn9 => ?_))
 refine zK rfl (zC ?_)
 simp only [jC, jB, jA, xZ]
 obtain ⟨LL, hM, hT, hvb, hub, B4⟩ := ub6 hR1 LL hM hT hvb hub B4
 obtain ⟨b9, a9, d9, rfl, hk9x, hn9x, hm9x⟩ := hn9
 refine zI rfl (bo func140) rfl rfl ?_
 refine (bX (s := t) hT hvb hub (by omega) (by omega) hM).mono ?_
 rintro v11 w5 ⟨hB11, b11, a11, d11, rfl, hz11, B11, hn11, hm11⟩
 have hk11 : KBlk (Ins b4 (Ins b3 (Ins b2 M))) w5 b11 167 _ := ⟨B11, fun c => by have := hM _ c; omega⟩
 obtain ⟨LL, hM, hT, hk9x, hn9x, hm9x, B4⟩ := ub7 hB11 LL hM hT hk9x hn9x hm9x B4
 rw [← hq] at hk11 hn11 hm11
 refine zF rfl rfl (zF rfl rfl (zD (zH ?_)))
 refine wd mixed 34 [4, 44, 45] (qV (by decide +kernel)) ?_
 apply zN
 ·intro wq hR hst
  refine zP rfl rfl (zC ?_)
  obtain ⟨hk9x, hn9x, hm9x⟩ := ub3 hR hk9x hn9x hm9x
  exact zA rfl rfl (on0 rfl)
 apply zN
 ·intro wq hR hst
  refine zK rfl (zC ?_)
  obtain ⟨hk9x, hn9x, hm9x⟩ := ub3 hR hk9x hn9x hm9x
  exact yJ rfl rfl (on0 rfl)
 apply zN
 ·intro wq hR hst
  refine zK rfl (zC ?_)
  obtain ⟨hk9x, hn9x, hm9x⟩ := ub3 hR hk9x hn9x hm9x
  exact yY 0 rfl yu167 rfl rfl yM rfl rfl (on0 rfl)
 apply zN
 ·intro wq hR hst
  refine zK rfl (zC ?_)
  obtain ⟨hk9x, hn9x, hm9x⟩ := ub3 hR hk9x hn9x hm9x
  exact yY 0 rfl yu33 rfl rfl xE rfl rfl (on0 rfl)
 apply zN
 ·intro wq hR hst
  refine zK rfl (zC ?_)
  obtain ⟨hk9x, hn9x, hm9x⟩ := ub3 hR hk9x hn9x hm9x
  exact zM rfl xX xE rfl hk9x.blk rfl rfl (on0 rfl)
 apply zN
 ·intro wq hR hst
  refine zP rfl rfl (zC ?_)
  obtain ⟨hk9x, hn9x, hm9x⟩ := ub3 hR hk9x hn9x hm9x
  exact zA rfl rfl (on0 rfl)
 apply zN
 ·intro wq hR hst
  refine zK rfl (zC ?_)
  obtain ⟨hk9x, hn9x, hm9x⟩ := ub3 hR hk9x hn9x hm9x
  exact yJ rfl rfl (on0 rfl)
 apply zN
 ·intro wq hR hst
  refine zK rfl (zC ?_)
  obtain ⟨hk9x, hn9x, hm9x⟩ := ub3 hR hk9x hn9x hm9x
  exact yY 0 rfl yu167 rfl rfl yM rfl rfl (on0 rfl)
 apply zN
 ·intro wq hR hst
  refine zK rfl (zC ?_)
  obtain ⟨hk9x, hn9x, hm9x⟩ := ub3 hR hk9x hn9x hm9x
  exact yY 0 rfl yu33 rfl rfl xE rfl rfl (on0 rfl)
 apply zN
 ·intro wq hR hst
  refine zK rfl (zC ?_)
  obtain ⟨hk9x, hn9x, hm9x⟩ := ub3 hR hk9x hn9x hm9x
  exact yY 0 rfl yu31 rfl rfl sz4 rfl rfl (on0 rfl)
 apply zN
 ·intro wq hR hst
  refine zK rfl (zC ?_)
  obtain ⟨hk9x, hn9x, hm9x, hk11⟩ := ub4 hR hk9x hn9x hm9x hk11
  exact zT rfl uP rfl hk11.blk rfl (on0 rfl)
 apply zN
 ·intro wq hR hst
  refine zP rfl rfl (zC ?_)
  obtain ⟨hk9x, hn9x, hm9x⟩ := ub3 hR hk9x hn9x hm9x
  exact zA rfl rfl (on0 rfl)
 apply zN
 ·intro wq hR hst
  refine zK rfl (zC ?_)
  obtain ⟨hk9x, hn9x, hm9x⟩ := ub3 hR hk9x hn9x hm9x
  exact yJ rfl rfl (on0 rfl)
 apply zN
 ·intro wq hR hst
  refine zK rfl (zC ?_)
  obtain ⟨hk9x, hn9x, hm9x⟩ := ub3 hR hk9x hn9x hm9x
  exact yY 0 rfl yu167 rfl rfl yM rfl rfl (on0 rfl)
 apply zN
 ·intro wq hR hst
  refine zK rfl (zC ?_)
  obtain ⟨hk9x, hn9x, hm9x⟩ := ub3 hR hk9x hn9x hm9x
  exact yY 2 rfl yu33 rfl rfl xV rfl rfl (on0 rfl)
 apply zN
 ·intro wq hR hst
  refine zK rfl (zC ?_)
  obtain ⟨hk9x, hn9x, hm9x, hk11⟩ := ub4 hR hk9x hn9x hm9x hk11
  exact zT rfl yU rfl hk11.blk rfl (on0 rfl)
 apply zN
 ·intro wq hR hst
  refine zK rfl (zK rfl (zC ?_))
  obtain ⟨hk9x, hn9x, hm9x⟩ := ub3 hR hk9x hn9x hm9x
  exact xM rfl bA rfl rfl (zX (gS rfl) (zX (gS (by first | rfl | exact yX (by assumption) | exact yZ (by assumption) | assumption)) xD)) rfl (on0 rfl)
 refine zS (fun v w => IsInts (Ins b4 (Ins b3 (Ins b2 M))) w v [(decide (p.num < 0), limbs p.num.natAbs), (decide (q.num < 0), limbs q.den)]) cI (fun wq hR hst => ?_) ?_
 ·refine zK rfl (zK rfl (zC ?_))
  obtain ⟨hM, hk9x, hn9x, hm9x, hm11⟩ := ub5 hR hM hk9x hn9x hm9x hm11
  refine xA rfl yu174 xE rfl rfl rfl rfl (zX rfl (zX rfl xD)) rfl rfl rfl (fun w6 b29 N29 => ?_)
  have hBw6 := N29.below
  have nM29 := hM.new N29
  have B29 := N29.blk
  obtain ⟨hk9x, hn9x, hm9x, hm11⟩ := ub4 hBw6 hk9x hn9x hm9x hm11
  have hn29 : IsInts (Ins b4 (Ins b3 (Ins b2 M))) w6 (.slice (some ⟨b29, 0, none⟩) 2 2) [(decide (p.num < 0), limbs p.num.natAbs), (decide (q.num < 0), limbs q.den)] := eU B29 nM29 hn9x hm11
  have hB29 := hBw6
  exact on1 hB29 rfl hn29
 refine dv (fun v w => ∃ c, v = .agg #[.bool (decide (p.num * zv (decide (q.num < 0)) (limbs q.den) < 0)), c] ∧ IsNat (Ins b4 (Ins b3 (Ins b2 M))) w c (limbs (p.num * zv (decide (q.num < 0)) (limbs q.den)).natAbs)) (fun wq hR hst => ?_) ?_
 ·refine yD rfl (fun v29 hn29 => ?_)
  refine zC ?_
  obtain ⟨hM, hk9x, hn9x, hm9x⟩ := ub4 hR hM hk9x hn9x hm9x
  refine zI rfl (bo func146) rfl rfl ?_
  refine (dL (L := 400000) hn29 (by intro x hx; rcases List.mem_cons.1 hx with rfl | hx; exact jR _; rcases List.mem_cons.1 hx with rfl | hx; exact jR _; cases hx) (by intro x hx; rcases List.mem_cons.1 hx with rfl | hx; dsimp only; omega; rcases List.mem_cons.1 hx with rfl | hx; dsimp only; omega; cases hx) ⟨by simp, by omega⟩ hM).mono ?_
  rintro v30 w7 ⟨hB30, q30, rfl, hn30⟩
  obtain ⟨hk9x, hn9x, hm9x⟩ := ub3 hB30 hk9x hn9x hm9x
  rw [hzq]; rw [hzq] at hn30
  exact on1 hB30 rfl ⟨_, rfl, hn30⟩
 apply zN
 ·intro wq hR hst
  refine zP rfl rfl (zC ?_)
  obtain ⟨hk9x, hn9x, hm9x⟩ := ub3 hR hk9x hn9x hm9x
  exact zA rfl rfl (on0 rfl)
 apply zN
 ·intro wq hR hst
  refine zK rfl (zC ?_)
  obtain ⟨hk9x, hn9x, hm9x⟩ := ub3 hR hk9x hn9x hm9x
  exact yJ rfl rfl (on0 rfl)
 apply zN
 ·intro wq hR hst
  refine zK rfl (zC ?_)
  obtain ⟨hk9x, hn9x, hm9x⟩ := ub3 hR hk9x hn9x hm9x
  exact yY 0 rfl yu167 rfl rfl yM rfl rfl (on0 rfl)
 apply zN
 ·intro wq hR hst
  refine zK rfl (zC ?_)
  obtain ⟨hk9x, hn9x, hm9x⟩ := ub3 hR hk9x hn9x hm9x
  exact yY 2 rfl yu33 rfl rfl xV rfl rfl (on0 rfl)
 apply zN
 ·intro wq hR hst
  refine zK rfl (zC ?_)
  obtain ⟨hk9x, hn9x, hm9x⟩ := ub3 hR hk9x hn9x hm9x
  exact zT rfl yU rfl hk9x.blk rfl (on0 rfl)
 apply zN
 ·intro wq hR hst
  refine zP rfl rfl (zC ?_)
  obtain ⟨hk9x, hn9x, hm9x⟩ := ub3 hR hk9x hn9x hm9x
  exact zA rfl rfl (on0 rfl)
 apply zN
 ·intro wq hR hst
  refine zK rfl (zC ?_)
  obtain ⟨hk9x, hn9x, hm9x⟩ := ub3 hR hk9x hn9x hm9x
  exact yJ rfl rfl (on0 rfl)
 apply zN
 ·intro wq hR hst
  refine zK rfl (zC ?_)
  obtain ⟨hk9x, hn9x, hm9x⟩ := ub3 hR hk9x hn9x hm9x
  exact yY 0 rfl yu167 rfl rfl yM rfl rfl (on0 rfl)
 apply zN
 ·intro wq hR hst
  refine zK rfl (zC ?_)
  obtain ⟨hk9x, hn9x, hm9x⟩ := ub3 hR hk9x hn9x hm9x
  exact yY 0 rfl yu33 rfl rfl xE rfl rfl (on0 rfl)
 apply zN
 ·intro wq hR hst
  refine zK rfl (zC ?_)
  obtain ⟨hk9x, hn9x, hm9x⟩ := ub3 hR hk9x hn9x hm9x
  exact yY 1 rfl yu31 rfl rfl xV rfl rfl (on0 rfl)
 apply zN
 ·intro wq hR hst
  refine zK rfl (zC ?_)
  obtain ⟨hk9x, hn9x, hm9x, hk11⟩ := ub4 hR hk9x hn9x hm9x hk11
  exact zT rfl yU rfl hk11.blk rfl (on0 rfl)
 refine zS (fun v w => IsNat (Ins b4 (Ins b3 (Ins b2 M))) w v (limbs (p.den * q.num.natAbs))) jQ (fun wq hR hst => ?_) ?_
 ·refine zK rfl (zK rfl (zC ?_))
  obtain ⟨LL, hM, hk9x, hn9x, hm9x, hn11⟩ := ub6 hR LL hM hk9x hn9x hm9x hn11
  refine zI rfl (bo func159) rfl rfl ?_
  refine (mul_c hm9x hn11 (by omega) (by omega) hM).mono ?_
  rintro v42 w8 ⟨hB42, hf42⟩
  have hM42 := hM
  have hS42 := LL.size
  obtain ⟨hk9x, hn9x, hm9x⟩ := ub3 hB42 hk9x hn9x hm9x
  rw [yF, yF] at hf42
  have hn42 := hf42.nat hM42
  exact on1 hB42 rfl hn42
 refine dv (fun v w => ∃ a d, v = .tuple #[.agg #[.bool (decide ((p / q).num < 0)), a, d], .int .i64 (if q = 0 then 30 else 0)] ∧ IsNat (Ins b4 (Ins b3 (Ins b2 M))) w a (limbs (p / q).num.natAbs) ∧ IsNat (Ins b4 (Ins b3 (Ins b2 M))) w d (limbs (p / q).den)) (fun wq hR hst => ?_) ?_
 ·refine yD rfl (fun v30 hn30 => ?_)
  refine yD rfl (fun v42 hn42 => ?_)
  refine zC ?_
  obtain ⟨hM, hT, hk9x, hn9x, hm9x⟩ := ub5 hR hM hT hk9x hn9x hm9x
  obtain ⟨q30, rfl, hn30x⟩ := hn30
  refine zI rfl (bo func158) rfl rfl ?_
  refine (rnew_c hT hn30x hn42 (by omega) (by omega) hM).mono ?_
  rintro v43 w9 ⟨hB43, a43, d43, rfl, hn43, hm43⟩
  obtain ⟨hk9x, hn9x, hm9x, hn30x⟩ := ub4 hB43 hk9x hn9x hm9x hn30x
  simp only [gR, yF, hquo, hq0] at hn43 hm43 ⊢
  exact on1 hB43 rfl ⟨_, _, rfl, hn43, hm43⟩
 refine dv (fun v w => ∃ a d, v = .agg #[.bool (decide ((p / q).num < 0)), a, d] ∧ IsNat (Ins b4 (Ins b3 (Ins b2 M))) w a (limbs (p / q).num.natAbs) ∧ IsNat (Ins b4 (Ins b3 (Ins b2 M))) w d (limbs (p / q).den)) (fun wq hR hst => ?_) ?_
 ·refine yD rfl (fun v43 hn43 => ?_)
  refine zC ?_
  obtain ⟨hk9x, hn9x, hm9x⟩ := ub3 hR hk9x hn9x hm9x
  obtain ⟨a, d, rfl, hax, hdx⟩ := hn43
  exact yK rfl rfl rfl (zD ⟨rfl, zY _, _, rfl, ⟨_, _, rfl, hax, hdx⟩⟩)
 refine zS (Ex (.int .i64 (if q = 0 then 30 else 0))) xU (fun wq hR hst => ?_) ?_
 ·refine yD rfl (fun v43 hn43 => ?_)
  refine zC ?_
  obtain ⟨hk9x, hn9x, hm9x⟩ := ub3 hR hk9x hn9x hm9x
  obtain ⟨a, d, rfl, hax, hdx⟩ := hn43
  exact yK rfl rfl rfl (on0 rfl)
 refine xI (fun wq2 hR2 hpost2 => ?_)
 refine zP rfl rfl (yD rfl (fun v44 hn44 => ?_))
 refine zK rfl (zC ?_)
 simp only [jC, jB, jA, xZ]
 obtain ⟨LL, hk9x, hn9x, hm9x, B4⟩ := ub5 hR2 LL hk9x hn9x hm9x B4
 obtain ⟨a44, d44, rfl, hn44x, hm44x⟩ := hn44
 refine zV rfl rfl yM B4 rfl rfl (zU (zU (zU xY))) rfl (fun w10 Cw10 B4 => ?_)
 obtain ⟨LL, hk9x, hn9x, hm9x, hn44x, hm44x⟩ := up6 (lc LL Cw10 zQ nF4) LL hk9x hn9x hm9x hn44x hm44x
 refine zF rfl rfl (zD (zW ?_))
 refine xL ⟨[_, _], ⟨⟨_, rfl, yQ yV yM B4 rfl rfl⟩, rfl, trivial⟩, ?_⟩
 dsimp only [xW]
 subst hFz
 exact ⟨LL.b, _, _, rfl, hn44x.less (fun k c => zJ (zJ (zJ c))), hm44x.less (fun k c => zJ (zJ (zJ c)))⟩
theorem rquo_q {n m : Nat} {p q : Rat} {s t : Bool} {a d b e : Value} (hT : Tab M w) (h1 : QC M w n p s a d) (h2 : QC M w m q t b e) (hn : n ≤ 90000) (hm : m ≤ 90000) (hM : OkM M w) : CallsV prog 94 [.agg #[.bool s, a, d], .agg #[.bool t, b, e]] w fun r w' => Bel w.heap.size w w' ∧ ∃ s2 a2 d2, r = .tuple #[.agg #[.bool s2, a2, d2], .int .i64 (if q = 0 then 30 else 0)] ∧ RC M w' (n + m + 3) (p / q) s2 a2 d2 := by
  have hl : kP (p / q) (n + m + 3) := qR (rlen_quo h1.rlen h2.rlen) (by omega)
  obtain ⟨xs, ds, i1, i2, i3, i4, rfl⟩ := h1.ex
  obtain ⟨ys, es, j1, j2, j3, j4, rfl⟩ := h2.ex
  exact (rquo_r hT i1 i2 j1 j2 (by omega) (by omega) (by omega) (by omega) hM).mono fun r w' ⟨hB, x, y, e, k1, k2⟩ => ⟨hB, _, _, _, e, rfl, k1, k2, hl⟩
end Go.Proofs.YtfkejnlohkgbgaaGreatDoor
set_option maxRecDepth 100000
namespace Go.Proofs.YtfkejnlohkgbgaaGreatDoor
open Go.SL Go.RowKit Go.Proofs Tryz
variable {M : Nat → Prop} {w : World}
structure ZQ (M : Nat → Prop) (w : World) (n : Nat) (q : Int) (s : Bool) (a : Value) : Prop where
  ex : ∃ xs, IsNat M w a xs ∧ xs.length ≤ n ∧ zv s xs = q
section
variable {Fz M M' T S : Nat → Prop} {w w' w0 : World} {n m k : Nat} {q : Int} {s : Bool} {a : Value}
theorem ZQ.mono (h : ZQ M w n q s a) (l : Le Fz M w M' w') : ZQ M' w' n q s a := by obtain ⟨xs, h1, h2⟩ := h.ex; exact ⟨xs, h1.mono l, h2⟩
theorem ZQ.less (h : ZQ M w n q s a) (hm : ∀ k, M' k → M k) : ZQ M' w n q s a := h.mono (Fz := fun _ => False) (Le.less hm)
theorem ZQ.up (h : ZQ M w n q s a) (hm : n ≤ m) : ZQ M w m q s a := by obtain ⟨xs, h1, h2, h3⟩ := h.ex; exact ⟨xs, h1, by omega, h3⟩
theorem ZQ.one (h : ZQ M w n q s a) : a.oneCell' = true ∧ True := by obtain ⟨xs, h1, _⟩ := h.ex; exact ⟨yX h1, trivial⟩
end
structure ZC (M : Nat → Prop) (w : World) (n : Nat) (q : Int) (s : Bool) (a : Value) : Prop where
  sgn : s = decide (q < 0)
  num : IsNat M w a (limbs (q.natAbs))
  len : (limbs (q.natAbs)).length ≤ n
section
variable {Fz M M' T S : Nat → Prop} {w w' w0 : World} {n m k : Nat} {q : Int} {s : Bool} {a : Value}
theorem ZC.mono (h : ZC M w n q s a) (l : Le Fz M w M' w') : ZC M' w' n q s a := ⟨h.sgn, h.num.mono l, h.len⟩
theorem ZC.less (h : ZC M w n q s a) (hm : ∀ k, M' k → M k) : ZC M' w n q s a := h.mono (Fz := fun _ => False) (Le.less hm)
theorem ZC.up (h : ZC M w n q s a) (hm : n ≤ m) : ZC M w m q s a := ⟨h.sgn, h.num, Nat.le_trans h.len hm⟩
theorem ZC.one (h : ZC M w n q s a) : a.oneCell' = true ∧ True := ⟨yX h.num, trivial⟩
theorem ZC.gen (h : ZC M w n q s a) : ZQ M w n q s a := ⟨_, h.num, h.len, by rw [h.sgn]; exact gR q⟩
end
structure NQ (M : Nat → Prop) (w : World) (n : Nat) (q : Nat) (a : Value) : Prop where
  ex : ∃ xs, IsNat M w a xs ∧ xs.length ≤ n ∧ val xs = q
section
variable {Fz M M' T S : Nat → Prop} {w w' w0 : World} {n m k : Nat} {q : Nat}  {a : Value}
theorem NQ.mono (h : NQ M w n q a) (l : Le Fz M w M' w') : NQ M' w' n q a := by obtain ⟨xs, h1, h2⟩ := h.ex; exact ⟨xs, h1.mono l, h2⟩
theorem NQ.one (h : NQ M w n q a) : a.oneCell' = true ∧ True := by obtain ⟨xs, h1, _⟩ := h.ex; exact ⟨yX h1, trivial⟩
end
structure NC (M : Nat → Prop) (w : World) (n : Nat) (q : Nat) (a : Value) : Prop where
  num : IsNat M w a (limbs (q))
  len : (limbs (q)).length ≤ n
section
variable {Fz M M' T S : Nat → Prop} {w w' w0 : World} {n m k : Nat} {q : Nat}  {a : Value}
theorem NC.mono (h : NC M w n q a) (l : Le Fz M w M' w') : NC M' w' n q a := ⟨h.num.mono l, h.len⟩
theorem NC.one (h : NC M w n q a) : a.oneCell' = true ∧ True := ⟨yX h.num, trivial⟩
theorem NC.gen (h : NC M w n q a) : NQ M w n q a := ⟨_, h.num, h.len, yF q⟩
end
theorem RC.z {n : Nat} {q : Rat} {s : Bool} {a d : Value} (h : RC M w n q s a d) : ZC M w n q.num s a := ⟨h.sgn, h.num, h.len.1⟩
theorem RC.d {n : Nat} {q : Rat} {s : Bool} {a d : Value} (h : RC M w n q s a d) : NC M w n q.den d := ⟨h.den, h.len.2⟩
structure PQ (M : Nat → Prop) (w : World) (n : Nat) (q : P2) (s : Bool) (a : Value) (d : Value) (t : Bool) (b : Value) (e : Value) : Prop where
  x : QC M w n q.1 s a d
  y : QC M w n q.2 t b e
section
variable {Fz M M' T S : Nat → Prop} {w w' w0 : World} {n m k : Nat} {q : P2} {p r : Rat} {s : Bool} {t : Bool} {a d b e : Value}
theorem PQ.mono (h : PQ M w n q s a d t b e) (l : Le Fz M w M' w') : PQ M' w' n q s a d t b e := ⟨h.x.mono l, h.y.mono l⟩
theorem PQ.drift (h : PQ M w n q s a d t b e) (x : Drift T k w w') (ht : ∀ k, T k → M k) : PQ M w' n q s a d t b e := ⟨h.x.drift x ht, h.y.drift x ht⟩
theorem PQ.keep (h : PQ M w n q s a d t b e) (kp : Keep M w w') : PQ M w' n q s a d t b e := ⟨h.x.keep kp, h.y.keep kp⟩
theorem PQ.less (h : PQ M w n q s a d t b e) (hm : ∀ k, M' k → M k) : PQ M' w n q s a d t b e := ⟨h.x.less hm, h.y.less hm⟩
theorem PQ.up (h : PQ M w n q s a d t b e) (hm : n ≤ m) : PQ M w m q s a d t b e := ⟨h.x.up hm, h.y.up hm⟩
theorem PQ.one (h : PQ M w n q s a d t b e) : a.oneCell' = true ∧ d.oneCell' = true ∧ b.oneCell' = true ∧ e.oneCell' = true ∧ True := ⟨h.x.one.1, h.x.one.2.1, h.y.one⟩
theorem PQ.mk2 (h1 : QC M w n p s a d) (h2 : QC M w m r t b e) : PQ M w (max n m) (p, r) s a d t b e := ⟨h1.up (by omega), h2.up (by omega)⟩
end
structure PC (M : Nat → Prop) (w : World) (n : Nat) (q : P2) (s : Bool) (a : Value) (d : Value) (t : Bool) (b : Value) (e : Value) : Prop where
  x : RC M w n q.1 s a d
  y : RC M w n q.2 t b e
section
variable {Fz M M' T S : Nat → Prop} {w w' w0 : World} {n m k : Nat} {q : P2} {p r : Rat} {s : Bool} {t : Bool} {a d b e : Value}
theorem PC.mono (h : PC M w n q s a d t b e) (l : Le Fz M w M' w') : PC M' w' n q s a d t b e := ⟨h.x.mono l, h.y.mono l⟩
theorem PC.drift (h : PC M w n q s a d t b e) (x : Drift T k w w') (ht : ∀ k, T k → M k) : PC M w' n q s a d t b e := ⟨h.x.drift x ht, h.y.drift x ht⟩
theorem PC.less (h : PC M w n q s a d t b e) (hm : ∀ k, M' k → M k) : PC M' w n q s a d t b e := ⟨h.x.less hm, h.y.less hm⟩
theorem PC.up (h : PC M w n q s a d t b e) (hm : n ≤ m) : PC M w m q s a d t b e := ⟨h.x.up hm, h.y.up hm⟩
theorem PC.one (h : PC M w n q s a d t b e) : a.oneCell' = true ∧ d.oneCell' = true ∧ b.oneCell' = true ∧ e.oneCell' = true ∧ True := ⟨h.x.one.1, h.x.one.2.1, h.y.one⟩
theorem PC.mk2 (h1 : RC M w n p s a d) (h2 : RC M w m r t b e) : PC M w (max n m) (p, r) s a d t b e := ⟨h1.up (by omega), h2.up (by omega)⟩
theorem PC.gen (h : PC M w n q s a d t b e) : PQ M w n q s a d t b e := ⟨h.x.gen, h.y.gen⟩
end
end Go.Proofs.YtfkejnlohkgbgaaGreatDoor
namespace Go.Proofs.YtfkejnlohkgbgaaGreatDoor
open Go Go.SL Go.RowKit Tryz
variable {Fz M M' : Nat → Prop} {w w' : World}
instance {n : Nat} {q : Int} {s : Bool} {a : Value} : Up Fz M M' w w' (ZQ M w n q s a) (ZQ M' w' n q s a) := ⟨fun l h => h.mono l⟩
instance {n : Nat} {q : Int} {s : Bool} {a : Value} : UpB w w' (ZQ M w n q s a) (ZQ M w' n q s a) := ⟨fun l h => h.mono (lb l)⟩
instance {n : Nat} {q : Int} {s : Bool} {a : Value} : Up Fz M M' w w' (ZC M w n q s a) (ZC M' w' n q s a) := ⟨fun l h => h.mono l⟩
instance {n : Nat} {q : Int} {s : Bool} {a : Value} : UpB w w' (ZC M w n q s a) (ZC M w' n q s a) := ⟨fun l h => h.mono (lb l)⟩
instance {n : Nat} {q : Nat} {a : Value} : Up Fz M M' w w' (NQ M w n q a) (NQ M' w' n q a) := ⟨fun l h => h.mono l⟩
instance {n : Nat} {q : Nat} {a : Value} : UpB w w' (NQ M w n q a) (NQ M w' n q a) := ⟨fun l h => h.mono (lb l)⟩
instance {n : Nat} {q : Nat} {a : Value} : Up Fz M M' w w' (NC M w n q a) (NC M' w' n q a) := ⟨fun l h => h.mono l⟩
instance {n : Nat} {q : Nat} {a : Value} : UpB w w' (NC M w n q a) (NC M w' n q a) := ⟨fun l h => h.mono (lb l)⟩
instance {n : Nat} {q : P2} {s t : Bool} {a d b e : Value} : Up Fz M M' w w' (PQ M w n q s a d t b e) (PQ M' w' n q s a d t b e) := ⟨fun l h => h.mono l⟩
instance {n : Nat} {q : P2} {s t : Bool} {a d b e : Value} : UpB w w' (PQ M w n q s a d t b e) (PQ M w' n q s a d t b e) := ⟨fun l h => h.mono (lb l)⟩
instance {n : Nat} {q : P2} {s t : Bool} {a d b e : Value} : Up Fz M M' w w' (PC M w n q s a d t b e) (PC M' w' n q s a d t b e) := ⟨fun l h => h.mono l⟩
instance {n : Nat} {q : P2} {s t : Bool} {a d b e : Value} : UpB w w' (PC M w n q s a d t b e) (PC M w' n q s a d t b e) := ⟨fun l h => h.mono (lb l)⟩
abbrev rPC (M : Nat → Prop) (n : Nat) (q : P2) : VP := fun v w => ∃ b o s a d t x e, v = .pointer (some ⟨b, o, none⟩) ∧ (∀ (i : Nat) (u : Value), [.bool s, a, d, .bool t, x, e][i]? = some u → w.cell? ⟨b, o + i, none⟩ = some u) ∧ PC M w n q s a d t x e
abbrev rPCko (k : Nat) (M : Nat → Prop) (n : Nat) (q : P2) : VP := fun v w => ∃ b o s a d t x e, v = .pointer (some ⟨b, o + k, none⟩) ∧ (∀ (i : Nat) (u : Value), [.bool s, a, d, .bool t, x, e][i]? = some u → w.cell? ⟨b, o + i, none⟩ = some u) ∧ PC M w n q s a d t x e
abbrev rPQ (M : Nat → Prop) (n : Nat) (q : P2) : VP := fun v w => ∃ b o s a d t x e, v = .pointer (some ⟨b, o, none⟩) ∧ (∀ (i : Nat) (u : Value), [.bool s, a, d, .bool t, x, e][i]? = some u → w.cell? ⟨b, o + i, none⟩ = some u) ∧ PQ M w n q s a d t x e
abbrev rPQko (k : Nat) (M : Nat → Prop) (n : Nat) (q : P2) : VP := fun v w => ∃ b o s a d t x e, v = .pointer (some ⟨b, o + k, none⟩) ∧ (∀ (i : Nat) (u : Value), [.bool s, a, d, .bool t, x, e][i]? = some u → w.cell? ⟨b, o + i, none⟩ = some u) ∧ PQ M w n q s a d t x e
abbrev rZQ (M : Nat → Prop) (n : Nat) (q : Int) : VP := fun v w => ∃ b o s a, v = .pointer (some ⟨b, o, none⟩) ∧ (∀ (i : Nat) (u : Value), [.bool s, a][i]? = some u → w.cell? ⟨b, o + i, none⟩ = some u) ∧ ZQ M w n q s a
abbrev rZQko (k : Nat) (M : Nat → Prop) (n : Nat) (q : Int) : VP := fun v w => ∃ b o s a, v = .pointer (some ⟨b, o + k, none⟩) ∧ (∀ (i : Nat) (u : Value), [.bool s, a][i]? = some u → w.cell? ⟨b, o + i, none⟩ = some u) ∧ ZQ M w n q s a
abbrev vPC (M : Nat → Prop) (n : Nat) (q : P2) : VP := fun v w => ∃ s a d t b e, v = .agg #[.bool s, a, d, .bool t, b, e] ∧ PC M w n q s a d t b e
theorem qZ {M : Nat → Prop} {n : Nat} {q : P2} : ∀ v (w w' : World), vPC M n q v w → Rb w w' → vPC M n q v w' := fun _ _ _ ⟨s, a, d, t, b, e, hq, h0⟩ r => ⟨s, a, d, t, b, e, hq, h0.mono (Fz := fun _ => False) (Le.of_below r)⟩
abbrev vPQ (M : Nat → Prop) (n : Nat) (q : P2) : VP := fun v w => ∃ s a d t b e, v = .agg #[.bool s, a, d, .bool t, b, e] ∧ PQ M w n q s a d t b e
theorem vPQ_m {M : Nat → Prop} {n : Nat} {q : P2} : ∀ v (w w' : World), vPQ M n q v w → Rb w w' → vPQ M n q v w' := fun _ _ _ ⟨s, a, d, t, b, e, hq, h0⟩ r => ⟨s, a, d, t, b, e, hq, h0.mono (Fz := fun _ => False) (Le.of_below r)⟩
abbrev vZC (M : Nat → Prop) (n : Nat) (q : Int) : VP := fun v w => ∃ s a, v = .agg #[.bool s, a] ∧ ZC M w n q s a
theorem fK {M : Nat → Prop} {n : Nat} {q : Int} : ∀ v (w w' : World), vZC M n q v w → Rb w w' → vZC M n q v w' := fun _ _ _ ⟨s, a, hq, h0⟩ r => ⟨s, a, hq, h0.mono (Fz := fun _ => False) (Le.of_below r)⟩
abbrev vZQ (M : Nat → Prop) (n : Nat) (q : Int) : VP := fun v w => ∃ s a, v = .agg #[.bool s, a] ∧ ZQ M w n q s a
theorem vZQ_m {M : Nat → Prop} {n : Nat} {q : Int} : ∀ v (w w' : World), vZQ M n q v w → Rb w w' → vZQ M n q v w' := fun _ _ _ ⟨s, a, hq, h0⟩ r => ⟨s, a, hq, h0.mono (Fz := fun _ => False) (Le.of_below r)⟩
end Go.Proofs.YtfkejnlohkgbgaaGreatDoor
set_option maxRecDepth 100000
namespace Go.Proofs.YtfkejnlohkgbgaaGreatDoor
open Go.SL Go.RowKit Go.Proofs Tryz
variable {M : Nat → Prop} {w : World}
theorem two1_add_c {p : Rat} {n0 : Nat} {xs0 : Bool} {xa0 xd0 : Value} {q : Rat} {n1 : Nat} {xs1 : Bool} {xa1 xd1 : Value} {b2 : Nat} (hT : Tab M w) (h0 : QC M w n0 p xs0 xa0 xd0) (h1 : QC M w n1 q xs1 xa1 xd1) (hl0 : n0 ≤ 20000) (hl1 : n1 ≤ 20000) (hk : KBlk M w b2 36 [.func (.func 163) #[] #[]]) (hM : OkM M w) :
    CallsV prog 270 [.agg #[.bool xs0, xa0, xd0], .agg #[.bool xs1, xa1, xd1], .pointer (some ⟨b2, 0, none⟩)] w fun r w' => Bel w.heap.size w w' ∧ ∃ xsr xar xdr, r = .agg #[.bool xsr, xar, xdr] ∧ RC M w' (n0 + n1 + 3) (p + q) xsr xar xdr := by
 obtain ⟨oxa0, oxd0, _⟩ := h0.one
 obtain ⟨oxa1, oxd1, _⟩ := h1.one
 have B2 := hk.blk
 refine ci M func270 ntmps270 fun Fz hFz hF LL => ?_
 refine zH (zB (yG rfl rfl (fun w1 b3 N3 => ?_)))
 obtain ⟨hBw1, nF3, nM3, Lw1, B3⟩ := nza hF hM N3
 obtain ⟨B2, ne2_3⟩ := bn B2 N3
 obtain ⟨LL, hM, hF, hT, h0, h1⟩ := up6 Lw1 LL hM hF hT h0 h1
 refine yG rfl rfl (fun w2 b4 N4 => ?_)
 obtain ⟨hBw2, nF4, nM4, Lw2, B4⟩ := nza hF hM N4
 obtain ⟨B2, ne2_4⟩ := bn B2 N4
 obtain ⟨B3, ne3_4⟩ := bn B3 N4
 obtain ⟨LL, hM, hF, hT, h0, h1⟩ := up6 Lw2 LL hM hF hT h0 h1
 refine yI rfl yM (fun w3 b5 N5 => ?_)
 obtain ⟨hBw3, nF5, nM5, Lw3, B5⟩ := nza hF hM N5
 obtain ⟨B2, ne2_5⟩ := bn B2 N5
 obtain ⟨B3, ne3_5⟩ := bn B3 N5
 obtain ⟨B4, ne4_5⟩ := bn B4 N5
 obtain ⟨LL, hM, hT, h0, h1⟩ := up5 Lw3 LL hM hT h0 h1
 refine zD (zH (zB (zT rfl flat36 rfl B2 rfl (zM rfl yV yM rfl B3 rfl rfl (zM rfl yV yM rfl B4 rfl rfl (xA rfl yu22 yM rfl rfl rfl rfl (zX rfl (zX rfl xD)) rfl rfl rfl (fun w4 b9 N9 => ?_)))))))
 have hBw4 := N9.below
 have nM9 := hM.new N9
 have B9 := N9.blk
 obtain ⟨LL, hM, hT, h0, h1, B5⟩ := ub6 hBw4 LL hM hT h0 h1 B5
 refine zI rfl (bo func163) rfl rfl ?_
 refine (radd2_q hT (KBlk.mk B9 nM9) h0 h1 (by omega) (by omega) hM).mono ?_
 rintro v10 w5 ⟨hB10, xs10, xa10, xd10, rfl, hn10⟩
 obtain ⟨LL, B5⟩ := ub2 hB10 LL B5
 obtain ⟨oxa10, oxd10, _⟩ := hn10.one
 refine zV rfl rfl yM B5 rfl rfl (zU (zU (zU xY))) rfl (fun w6 Cw6 B5 => ?_)
 obtain ⟨LL, hn10⟩ := up2 (lc LL Cw6 zQ nF5) LL hn10
 refine zD (zW ?_)
 refine lv1 ⟨⟨_, rfl, yQ yV yM B5 rfl rfl⟩, trivial⟩ ?_
 subst hFz
 exact ⟨LL.b, _, _, _, rfl, (hn10.less (fun k c => zJ (zJ (zJ c)))).up (by omega)⟩
theorem two_add_c (hM : OkM M w) :
    CallsV prog 213 [.func (.func 163) #[] #[]] w fun r w' => Bel w.heap.size w w' ∧ ∃ b, r = .func (.func 270) #[] #[.pointer (some ⟨b, 0, none⟩)] ∧ KBlk M w' b 36 [.func (.func 163) #[] #[]] := by
 refine ci M func213 ntmps213 fun Fz hFz hF LL => ?_
 refine zH (zB (yG rfl rfl (fun w1 b1 N1 => ?_)))
 obtain ⟨_, nF1, nM1, Lw1, B1⟩ := nz hF hM N1
 replace LL := LL.trans Lw1
 refine zF rfl rfl (zD (zH (zB (gC rfl rfl (zF rfl rfl (zD (zW ?_)))))))
 refine lv1 ⟨rfl, trivial⟩ ?_
 subst hFz
 exact ⟨LL.b, b1, rfl, B1, nM1⟩
theorem two1_mul_c {p : Rat} {n0 : Nat} {xs0 : Bool} {xa0 xd0 : Value} {q : Rat} {n1 : Nat} {xs1 : Bool} {xa1 xd1 : Value} {b2 : Nat} (hT : Tab M w) (h0 : QC M w n0 p xs0 xa0 xd0) (h1 : QC M w n1 q xs1 xa1 xd1) (hl0 : n0 ≤ 20000) (hl1 : n1 ≤ 20000) (hk : KBlk M w b2 36 [.func (.func 160) #[] #[]]) (hM : OkM M w) :
    CallsV prog 270 [.agg #[.bool xs0, xa0, xd0], .agg #[.bool xs1, xa1, xd1], .pointer (some ⟨b2, 0, none⟩)] w fun r w' => Bel w.heap.size w w' ∧ ∃ xsr xar xdr, r = .agg #[.bool xsr, xar, xdr] ∧ RC M w' (n0 + n1 + 3) (p * q) xsr xar xdr := by
 obtain ⟨oxa0, oxd0, _⟩ := h0.one
 obtain ⟨oxa1, oxd1, _⟩ := h1.one
 have B2 := hk.blk
 refine ci M func270 ntmps270 fun Fz hFz hF LL => ?_
 refine zH (zB (yG rfl rfl (fun w1 b3 N3 => ?_)))
 obtain ⟨hBw1, nF3, nM3, Lw1, B3⟩ := nza hF hM N3
 obtain ⟨B2, ne2_3⟩ := bn B2 N3
 obtain ⟨LL, hM, hF, hT, h0, h1⟩ := up6 Lw1 LL hM hF hT h0 h1
 refine yG rfl rfl (fun w2 b4 N4 => ?_)
 obtain ⟨hBw2, nF4, nM4, Lw2, B4⟩ := nza hF hM N4
 obtain ⟨B2, ne2_4⟩ := bn B2 N4
 obtain ⟨B3, ne3_4⟩ := bn B3 N4
 obtain ⟨LL, hM, hF, hT, h0, h1⟩ := up6 Lw2 LL hM hF hT h0 h1
 refine yI rfl yM (fun w3 b5 N5 => ?_)
 obtain ⟨hBw3, nF5, nM5, Lw3, B5⟩ := nza hF hM N5
 obtain ⟨B2, ne2_5⟩ := bn B2 N5
 obtain ⟨B3, ne3_5⟩ := bn B3 N5
 obtain ⟨B4, ne4_5⟩ := bn B4 N5
 obtain ⟨LL, hM, hT, h0, h1⟩ := up5 Lw3 LL hM hT h0 h1
 refine zD (zH (zB (zT rfl flat36 rfl B2 rfl (zM rfl yV yM rfl B3 rfl rfl (zM rfl yV yM rfl B4 rfl rfl (xA rfl yu22 yM rfl rfl rfl rfl (zX rfl (zX rfl xD)) rfl rfl rfl (fun w4 b9 N9 => ?_)))))))
 have hBw4 := N9.below
 have nM9 := hM.new N9
 have B9 := N9.blk
 obtain ⟨LL, hM, hT, h0, h1, B5⟩ := ub6 hBw4 LL hM hT h0 h1 B5
 refine zI rfl (bo func160) rfl rfl ?_
 refine (rmul2_q hT (KBlk.mk B9 nM9) h0 h1 (by omega) (by omega) hM).mono ?_
 rintro v10 w5 ⟨hB10, xs10, xa10, xd10, rfl, hn10⟩
 obtain ⟨LL, B5⟩ := ub2 hB10 LL B5
 obtain ⟨oxa10, oxd10, _⟩ := hn10.one
 refine zV rfl rfl yM B5 rfl rfl (zU (zU (zU xY))) rfl (fun w6 Cw6 B5 => ?_)
 obtain ⟨LL, hn10⟩ := up2 (lc LL Cw6 zQ nF5) LL hn10
 refine zD (zW ?_)
 refine lv1 ⟨⟨_, rfl, yQ yV yM B5 rfl rfl⟩, trivial⟩ ?_
 subst hFz
 exact ⟨LL.b, _, _, _, rfl, (hn10.less (fun k c => zJ (zJ (zJ c)))).up (by omega)⟩
theorem two_mul_c (hM : OkM M w) :
    CallsV prog 213 [.func (.func 160) #[] #[]] w fun r w' => Bel w.heap.size w w' ∧ ∃ b, r = .func (.func 270) #[] #[.pointer (some ⟨b, 0, none⟩)] ∧ KBlk M w' b 36 [.func (.func 160) #[] #[]] := by
 refine ci M func213 ntmps213 fun Fz hFz hF LL => ?_
 refine zH (zB (yG rfl rfl (fun w1 b1 N1 => ?_)))
 obtain ⟨_, nF1, nM1, Lw1, B1⟩ := nz hF hM N1
 replace LL := LL.trans Lw1
 refine zF rfl rfl (zD (zH (zB (gC rfl rfl (zF rfl rfl (zD (zW ?_)))))))
 refine lv1 ⟨rfl, trivial⟩ ?_
 subst hFz
 exact ⟨LL.b, b1, rfl, B1, nM1⟩
theorem parts1_add_c {p : P2} {n0 : Nat} {xs0 xt0 : Bool} {xa0 xd0 xb0 xe0 : Value} {q : P2} {n1 : Nat} {xs1 xt1 : Bool} {xa1 xd1 xb1 xe1 : Value} {b2 bx : Nat} (hT : Tab M w) (h0 : PQ M w n0 p xs0 xa0 xd0 xt0 xb0 xe0) (h1 : PQ M w n1 q xs1 xa1 xd1 xt1 xb1 xe1) (hl0 : n0 ≤ 20000) (hl1 : n1 ≤ 20000) (hkx : KBlk M w bx 36 [.func (.func 163) #[] #[]]) (hk : KBlk M w b2 35 [.func (.func 270) #[] #[.pointer (some ⟨bx, 0, none⟩)]]) (hM : OkM M w) :
    CallsV prog 205 [.agg #[.bool xs0, xa0, xd0, .bool xt0, xb0, xe0], .agg #[.bool xs1, xa1, xd1, .bool xt1, xb1, xe1], .pointer (some ⟨b2, 0, none⟩)] w fun r w' => Bel w.heap.size w w' ∧ ∃ xsr xar xdr xtr xbr xer, r = .agg #[.bool xsr, xar, xdr, .bool xtr, xbr, xer] ∧ PC M w' (n0 + n1 + 3) (addP p q) xsr xar xdr xtr xbr xer := by
 obtain ⟨oxa0, oxd0, oxb0, oxe0, _⟩ := h0.one
 obtain ⟨oxa1, oxd1, oxb1, oxe1, _⟩ := h1.one
 have B2 := hk.blk
 refine ci M func205 ntmps205 fun Fz hFz hF LL => ?_
 refine zH (zB (yG rfl rfl (fun w1 b3 N3 => ?_)))
 obtain ⟨hBw1, nF3, nM3, Lw1, B3⟩ := nza hF hM N3
 obtain ⟨B2, ne2_3⟩ := bn B2 N3
 obtain ⟨LL, hM, hF, hT, h0, h1, hkx⟩ := up7 Lw1 LL hM hF hT h0 h1 hkx
 refine yG rfl rfl (fun w2 b4 N4 => ?_)
 obtain ⟨hBw2, nF4, nM4, Lw2, B4⟩ := nza hF hM N4
 obtain ⟨B2, ne2_4⟩ := bn B2 N4
 obtain ⟨B3, ne3_4⟩ := bn B3 N4
 obtain ⟨LL, hM, hF, hT, h0, h1, hkx⟩ := up7 Lw2 LL hM hF hT h0 h1 hkx
 refine yI rfl yR (fun w3 b5 N5 => ?_)
 obtain ⟨hBw3, nF5, nM5, Lw3, B5⟩ := nza hF hM N5
 obtain ⟨B2, ne2_5⟩ := bn B2 N5
 obtain ⟨B3, ne3_5⟩ := bn B3 N5
 obtain ⟨B4, ne4_5⟩ := bn B4 N5
 obtain ⟨LL, hM, hT, h0, h1, hkx⟩ := up6 Lw3 LL hM hT h0 h1 hkx
 refine zD (zH ?_)
 refine wd mixed 11 [5, 11, 12, 14, 16] (by decide +kernel) ?_
 refine zN (fun _ hR _ => zP rfl rfl (zC (zT rfl eN rfl (B2.below hR) rfl (on0 rfl)))) ?_
 refine zN (fun _ _ _ => zP rfl rfl (zC (zL 0 rfl yu39 rfl rfl yM rfl rfl (on0 rfl)))) ?_
 refine zN (fun _ hR _ => zK rfl (zC (zM rfl yV yM rfl (B3.below hR) rfl rfl (on0 rfl)))) ?_
 refine zN (fun _ _ _ => zP rfl rfl (zC (zL 0 rfl yu39 rfl rfl yM rfl rfl (on0 rfl)))) ?_
 refine zN (fun _ hR _ => zK rfl (zC (zM rfl yV yM rfl (B4.below hR) rfl rfl (on0 rfl)))) ?_
 refine zS (vRC (Ins b5 (Ins b4 (Ins b3 M))) (n0 + n1 + 3) (p.1 + q.1)) kJ (fun wq hR hst => ?_) ?_
 ·refine zK rfl (zK rfl (zK rfl (zC ?_)))
  obtain ⟨hM, hT, h0, h1, hkx⟩ := ub5 hR hM hT h0 h1 hkx
  refine zI rfl (bo func270) rfl rfl ?_
  refine (two1_add_c hT h0.x h1.x (by omega) (by omega) hkx hM).mono ?_
  rintro v11 w4 ⟨hB11, xs11, xa11, xd11, rfl, hn11⟩
  exact on1 hB11 rfl ⟨_, _, _, rfl, hn11⟩
 refine zN (fun _ hR _ => zP rfl rfl (zC (zT rfl eN rfl (B2.below hR) rfl (on0 rfl)))) ?_
 refine zN (fun _ _ _ => zP rfl rfl (zC (zL 3 rfl yu39 rfl rfl yM rfl rfl (on0 rfl)))) ?_
 refine zN (fun _ hR _ => zK rfl (zC (zM rfl yV yM rfl (B3.below hR) rfl rfl (on0 rfl)))) ?_
 refine zN (fun _ _ _ => zP rfl rfl (zC (zL 3 rfl yu39 rfl rfl yM rfl rfl (on0 rfl)))) ?_
 refine zN (fun _ hR _ => zK rfl (zC (zM rfl yV yM rfl (B4.below hR) rfl rfl (on0 rfl)))) ?_
 refine xI (fun wq1 hR1 hpost1 => ?_)
 refine zP rfl rfl (yD rfl (fun v11 hp11 => ?_))
 obtain ⟨xs11, xa11, xd11, rfl, hn11⟩ := hp11; obtain ⟨oxa11, oxd11, _⟩ := hn11.one
 refine zK rfl (zK rfl (zK rfl (zC ?_)))
 simp only [jC, jB, jA, xZ]
 obtain ⟨LL, hM, hT, h0, h1, hkx, B5⟩ := ub7 hR1 LL hM hT h0 h1 hkx B5
 refine zI rfl (bo func270) rfl rfl ?_
 refine (two1_add_c hT h0.y h1.y (by omega) (by omega) hkx hM).mono ?_
 rintro v17 w5 ⟨hB17, xs17, xa17, xd17, rfl, hn17⟩
 obtain ⟨LL, hn11, B5⟩ := ub3 hB17 LL hn11 B5
 obtain ⟨oxa17, oxd17, _⟩ := hn17.one
 refine xM rfl eR rfl rfl (zX (rfl) (zX (rfl) xD)) rfl (zV rfl rfl yR B5 rfl rfl (zU (zU (zU (zU (zU (zU xY)))))) rfl (fun w6 Cw6 B5 => ?_))
 obtain ⟨LL, hn11, hn17⟩ := up3 (lc LL Cw6 zQ nF5) LL hn11 hn17
 refine zD (zW ?_)
 refine lv1 ⟨⟨_, rfl, yQ yL yR B5 rfl rfl⟩, trivial⟩ ?_
 subst hFz
 exact ⟨LL.b, _, _, _, _, _, _, rfl, ((PC.mk2 hn11 hn17).less (fun k c => zJ (zJ (zJ c)))).up (by omega)⟩
theorem parts_add_c {bx : Nat} (hM : OkM M w) :
    CallsV prog 157 [.func (.func 270) #[] #[.pointer (some ⟨bx, 0, none⟩)]] w fun r w' => Bel w.heap.size w w' ∧ ∃ b, r = .func (.func 205) #[] #[.pointer (some ⟨b, 0, none⟩)] ∧ KBlk M w' b 35 [.func (.func 270) #[] #[.pointer (some ⟨bx, 0, none⟩)]] := by
 refine ci M func157 ntmps157 fun Fz hFz hF LL => ?_
 refine zH (zB (yG rfl rfl (fun w1 b1 N1 => ?_)))
 obtain ⟨_, nF1, nM1, Lw1, B1⟩ := nz hF hM N1
 replace LL := LL.trans Lw1
 refine zF rfl rfl (zD (zH (zB (gC rfl rfl (zF rfl rfl (zD (zW ?_)))))))
 refine lv1 ⟨rfl, trivial⟩ ?_
 subst hFz
 exact ⟨LL.b, b1, rfl, B1, nM1⟩
theorem parts1_mul_c {p : P2} {n0 : Nat} {xs0 xt0 : Bool} {xa0 xd0 xb0 xe0 : Value} {q : P2} {n1 : Nat} {xs1 xt1 : Bool} {xa1 xd1 xb1 xe1 : Value} {b2 bx : Nat} (hT : Tab M w) (h0 : PQ M w n0 p xs0 xa0 xd0 xt0 xb0 xe0) (h1 : PQ M w n1 q xs1 xa1 xd1 xt1 xb1 xe1) (hl0 : n0 ≤ 20000) (hl1 : n1 ≤ 20000) (hkx : KBlk M w bx 36 [.func (.func 160) #[] #[]]) (hk : KBlk M w b2 35 [.func (.func 270) #[] #[.pointer (some ⟨bx, 0, none⟩)]]) (hM : OkM M w) :
    CallsV prog 205 [.agg #[.bool xs0, xa0, xd0, .bool xt0, xb0, xe0], .agg #[.bool xs1, xa1, xd1, .bool xt1, xb1, xe1], .pointer (some ⟨b2, 0, none⟩)] w fun r w' => Bel w.heap.size w w' ∧ ∃ xsr xar xdr xtr xbr xer, r = .agg #[.bool xsr, xar, xdr, .bool xtr, xbr, xer] ∧ PC M w' (n0 + n1 + 3) (mulP p q) xsr xar xdr xtr xbr xer := by
 obtain ⟨oxa0, oxd0, oxb0, oxe0, _⟩ := h0.one
 obtain ⟨oxa1, oxd1, oxb1, oxe1, _⟩ := h1.one
 have B2 := hk.blk
 refine ci M func205 ntmps205 fun Fz hFz hF LL => ?_
 refine zH (zB (yG rfl rfl (fun w1 b3 N3 => ?_)))
 obtain ⟨hBw1, nF3, nM3, Lw1, B3⟩ := nza hF hM N3
 obtain ⟨B2, ne2_3⟩ := bn B2 N3
 obtain ⟨LL, hM, hF, hT, h0, h1, hkx⟩ := up7 Lw1 LL hM hF hT h0 h1 hkx
 refine yG rfl rfl (fun w2 b4 N4 => ?_)
 obtain ⟨hBw2, nF4, nM4, Lw2, B4⟩ := nza hF hM N4
 obtain ⟨B2, ne2_4⟩ := bn B2 N4
 obtain ⟨B3, ne3_4⟩ := bn B3 N4
 obtain ⟨LL, hM, hF, hT, h0, h1, hkx⟩ := up7 Lw2 LL hM hF hT h0 h1 hkx
 refine yI rfl yR (fun w3 b5 N5 => ?_)
 obtain ⟨hBw3, nF5, nM5, Lw3, B5⟩ := nza hF hM N5
 obtain ⟨B2, ne2_5⟩ := bn B2 N5
 obtain ⟨B3, ne3_5⟩ := bn B3 N5
 obtain ⟨B4, ne4_5⟩ := bn B4 N5
 obtain ⟨LL, hM, hT, h0, h1, hkx⟩ := up6 Lw3 LL hM hT h0 h1 hkx
 refine zD (zH ?_)
 refine wd mixed 11 [5, 11, 12, 14, 16] (by decide +kernel) ?_
 refine zN (fun _ hR _ => zP rfl rfl (zC (zT rfl eN rfl (B2.below hR) rfl (on0 rfl)))) ?_
 refine zN (fun _ _ _ => zP rfl rfl (zC (zL 0 rfl yu39 rfl rfl yM rfl rfl (on0 rfl)))) ?_
 refine zN (fun _ hR _ => zK rfl (zC (zM rfl yV yM rfl (B3.below hR) rfl rfl (on0 rfl)))) ?_
 refine zN (fun _ _ _ => zP rfl rfl (zC (zL 0 rfl yu39 rfl rfl yM rfl rfl (on0 rfl)))) ?_
 refine zN (fun _ hR _ => zK rfl (zC (zM rfl yV yM rfl (B4.below hR) rfl rfl (on0 rfl)))) ?_
 refine zS (vRC (Ins b5 (Ins b4 (Ins b3 M))) (n0 + n1 + 3) (p.1 * q.1)) kJ (fun wq hR hst => ?_) ?_
 ·refine zK rfl (zK rfl (zK rfl (zC ?_)))
  obtain ⟨hM, hT, h0, h1, hkx⟩ := ub5 hR hM hT h0 h1 hkx
  refine zI rfl (bo func270) rfl rfl ?_
  refine (two1_mul_c hT h0.x h1.x (by omega) (by omega) hkx hM).mono ?_
  rintro v11 w4 ⟨hB11, xs11, xa11, xd11, rfl, hn11⟩
  exact on1 hB11 rfl ⟨_, _, _, rfl, hn11⟩
 refine zN (fun _ hR _ => zP rfl rfl (zC (zT rfl eN rfl (B2.below hR) rfl (on0 rfl)))) ?_
 refine zN (fun _ _ _ => zP rfl rfl (zC (zL 3 rfl yu39 rfl rfl yM rfl rfl (on0 rfl)))) ?_
 refine zN (fun _ hR _ => zK rfl (zC (zM rfl yV yM rfl (B3.below hR) rfl rfl (on0 rfl)))) ?_
 refine zN (fun _ _ _ => zP rfl rfl (zC (zL 3 rfl yu39 rfl rfl yM rfl rfl (on0 rfl)))) ?_
 refine zN (fun _ hR _ => zK rfl (zC (zM rfl yV yM rfl (B4.below hR) rfl rfl (on0 rfl)))) ?_
 refine xI (fun wq1 hR1 hpost1 => ?_)
 refine zP rfl rfl (yD rfl (fun v11 hp11 => ?_))
 obtain ⟨xs11, xa11, xd11, rfl, hn11⟩ := hp11; obtain ⟨oxa11, oxd11, _⟩ := hn11.one
 refine zK rfl (zK rfl (zK rfl (zC ?_)))
 simp only [jC, jB, jA, xZ]
 obtain ⟨LL, hM, hT, h0, h1, hkx, B5⟩ := ub7 hR1 LL hM hT h0 h1 hkx B5
 refine zI rfl (bo func270) rfl rfl ?_
 refine (two1_mul_c hT h0.y h1.y (by omega) (by omega) hkx hM).mono ?_
 rintro v17 w5 ⟨hB17, xs17, xa17, xd17, rfl, hn17⟩
 obtain ⟨LL, hn11, B5⟩ := ub3 hB17 LL hn11 B5
 obtain ⟨oxa17, oxd17, _⟩ := hn17.one
 refine xM rfl eR rfl rfl (zX (rfl) (zX (rfl) xD)) rfl (zV rfl rfl yR B5 rfl rfl (zU (zU (zU (zU (zU (zU xY)))))) rfl (fun w6 Cw6 B5 => ?_))
 obtain ⟨LL, hn11, hn17⟩ := up3 (lc LL Cw6 zQ nF5) LL hn11 hn17
 refine zD (zW ?_)
 refine lv1 ⟨⟨_, rfl, yQ yL yR B5 rfl rfl⟩, trivial⟩ ?_
 subst hFz
 exact ⟨LL.b, _, _, _, _, _, _, rfl, ((PC.mk2 hn11 hn17).less (fun k c => zJ (zJ (zJ c)))).up (by omega)⟩
theorem parts_mul_c {bx : Nat} (hM : OkM M w) :
    CallsV prog 157 [.func (.func 270) #[] #[.pointer (some ⟨bx, 0, none⟩)]] w fun r w' => Bel w.heap.size w w' ∧ ∃ b, r = .func (.func 205) #[] #[.pointer (some ⟨b, 0, none⟩)] ∧ KBlk M w' b 35 [.func (.func 270) #[] #[.pointer (some ⟨bx, 0, none⟩)]] := by
 refine ci M func157 ntmps157 fun Fz hFz hF LL => ?_
 refine zH (zB (yG rfl rfl (fun w1 b1 N1 => ?_)))
 obtain ⟨_, nF1, nM1, Lw1, B1⟩ := nz hF hM N1
 replace LL := LL.trans Lw1
 refine zF rfl rfl (zD (zH (zB (gC rfl rfl (zF rfl rfl (zD (zW ?_)))))))
 refine lv1 ⟨rfl, trivial⟩ ?_
 subst hFz
 exact ⟨LL.b, b1, rfl, B1, nM1⟩
theorem parts1_sub_c {p : P2} {n0 : Nat} {xs0 xt0 : Bool} {xa0 xd0 xb0 xe0 : Value} {q : P2} {n1 : Nat} {xs1 xt1 : Bool} {xa1 xd1 xb1 xe1 : Value} {b2 : Nat} (hT : Tab M w) (h0 : PQ M w n0 p xs0 xa0 xd0 xt0 xb0 xe0) (h1 : PQ M w n1 q xs1 xa1 xd1 xt1 xb1 xe1) (hl0 : n0 ≤ 20000) (hl1 : n1 ≤ 20000) (hk : KBlk M w b2 35 [.func (.func 98) #[] #[]]) (hM : OkM M w) :
    CallsV prog 205 [.agg #[.bool xs0, xa0, xd0, .bool xt0, xb0, xe0], .agg #[.bool xs1, xa1, xd1, .bool xt1, xb1, xe1], .pointer (some ⟨b2, 0, none⟩)] w fun r w' => Bel w.heap.size w w' ∧ ∃ xsr xar xdr xtr xbr xer, r = .agg #[.bool xsr, xar, xdr, .bool xtr, xbr, xer] ∧ PC M w' (n0 + n1 + 3) (jW p q) xsr xar xdr xtr xbr xer := by
 obtain ⟨oxa0, oxd0, oxb0, oxe0, _⟩ := h0.one
 obtain ⟨oxa1, oxd1, oxb1, oxe1, _⟩ := h1.one
 have B2 := hk.blk
 refine ci M func205 ntmps205 fun Fz hFz hF LL => ?_
 refine zH (zB (yG rfl rfl (fun w1 b3 N3 => ?_)))
 obtain ⟨hBw1, nF3, nM3, Lw1, B3⟩ := nza hF hM N3
 obtain ⟨B2, ne2_3⟩ := bn B2 N3
 obtain ⟨LL, hM, hF, hT, h0, h1⟩ := up6 Lw1 LL hM hF hT h0 h1
 refine yG rfl rfl (fun w2 b4 N4 => ?_)
 obtain ⟨hBw2, nF4, nM4, Lw2, B4⟩ := nza hF hM N4
 obtain ⟨B2, ne2_4⟩ := bn B2 N4
 obtain ⟨B3, ne3_4⟩ := bn B3 N4
 obtain ⟨LL, hM, hF, hT, h0, h1⟩ := up6 Lw2 LL hM hF hT h0 h1
 refine yI rfl yR (fun w3 b5 N5 => ?_)
 obtain ⟨hBw3, nF5, nM5, Lw3, B5⟩ := nza hF hM N5
 obtain ⟨B2, ne2_5⟩ := bn B2 N5
 obtain ⟨B3, ne3_5⟩ := bn B3 N5
 obtain ⟨B4, ne4_5⟩ := bn B4 N5
 obtain ⟨LL, hM, hT, h0, h1⟩ := up5 Lw3 LL hM hT h0 h1
 refine zD (zH ?_)
 refine wd mixed 11 [5, 11, 12, 14, 16] (by decide +kernel) ?_
 refine zN (fun _ hR _ => zP rfl rfl (zC (zT rfl eN rfl (B2.below hR) rfl (on0 rfl)))) ?_
 refine zN (fun _ _ _ => zP rfl rfl (zC (zL 0 rfl yu39 rfl rfl yM rfl rfl (on0 rfl)))) ?_
 refine zN (fun _ hR _ => zK rfl (zC (zM rfl yV yM rfl (B3.below hR) rfl rfl (on0 rfl)))) ?_
 refine zN (fun _ _ _ => zP rfl rfl (zC (zL 0 rfl yu39 rfl rfl yM rfl rfl (on0 rfl)))) ?_
 refine zN (fun _ hR _ => zK rfl (zC (zM rfl yV yM rfl (B4.below hR) rfl rfl (on0 rfl)))) ?_
 refine zS (vRC (Ins b5 (Ins b4 (Ins b3 M))) (n0 + n1 + 3) (p.1 - q.1)) kJ (fun wq hR hst => ?_) ?_
 ·refine zK rfl (zK rfl (zK rfl (zC ?_)))
  obtain ⟨hM, hT, h0, h1⟩ := ub4 hR hM hT h0 h1
  refine zI rfl (bo func98) rfl rfl ?_
  refine (rsub_q hT h0.x h1.x (by omega) (by omega) hM).mono ?_
  rintro v11 w4 ⟨hB11, xs11, xa11, xd11, rfl, hn11⟩
  exact on1 hB11 rfl ⟨_, _, _, rfl, hn11⟩
 refine zN (fun _ hR _ => zP rfl rfl (zC (zT rfl eN rfl (B2.below hR) rfl (on0 rfl)))) ?_
 refine zN (fun _ _ _ => zP rfl rfl (zC (zL 3 rfl yu39 rfl rfl yM rfl rfl (on0 rfl)))) ?_
 refine zN (fun _ hR _ => zK rfl (zC (zM rfl yV yM rfl (B3.below hR) rfl rfl (on0 rfl)))) ?_
 refine zN (fun _ _ _ => zP rfl rfl (zC (zL 3 rfl yu39 rfl rfl yM rfl rfl (on0 rfl)))) ?_
 refine zN (fun _ hR _ => zK rfl (zC (zM rfl yV yM rfl (B4.below hR) rfl rfl (on0 rfl)))) ?_
 refine xI (fun wq1 hR1 hpost1 => ?_)
 refine zP rfl rfl (yD rfl (fun v11 hp11 => ?_))
 obtain ⟨xs11, xa11, xd11, rfl, hn11⟩ := hp11; obtain ⟨oxa11, oxd11, _⟩ := hn11.one
 refine zK rfl (zK rfl (zK rfl (zC ?_)))
 simp only [jC, jB, jA, xZ]
 obtain ⟨LL, hM, hT, h0, h1, B5⟩ := ub6 hR1 LL hM hT h0 h1 B5
 refine zI rfl (bo func98) rfl rfl ?_
 refine (rsub_q hT h0.y h1.y (by omega) (by omega) hM).mono ?_
 rintro v17 w5 ⟨hB17, xs17, xa17, xd17, rfl, hn17⟩
 obtain ⟨LL, hn11, B5⟩ := ub3 hB17 LL hn11 B5
 obtain ⟨oxa17, oxd17, _⟩ := hn17.one
 refine xM rfl eR rfl rfl (zX (rfl) (zX (rfl) xD)) rfl (zV rfl rfl yR B5 rfl rfl (zU (zU (zU (zU (zU (zU xY)))))) rfl (fun w6 Cw6 B5 => ?_))
 obtain ⟨LL, hn11, hn17⟩ := up3 (lc LL Cw6 zQ nF5) LL hn11 hn17
 refine zD (zW ?_)
 refine lv1 ⟨⟨_, rfl, yQ yL yR B5 rfl rfl⟩, trivial⟩ ?_
 subst hFz
 exact ⟨LL.b, _, _, _, _, _, _, rfl, ((PC.mk2 hn11 hn17).less (fun k c => zJ (zJ (zJ c)))).up (by omega)⟩
theorem parts_sub_c (hM : OkM M w) :
    CallsV prog 157 [.func (.func 98) #[] #[]] w fun r w' => Bel w.heap.size w w' ∧ ∃ b, r = .func (.func 205) #[] #[.pointer (some ⟨b, 0, none⟩)] ∧ KBlk M w' b 35 [.func (.func 98) #[] #[]] := by
 refine ci M func157 ntmps157 fun Fz hFz hF LL => ?_
 refine zH (zB (yG rfl rfl (fun w1 b1 N1 => ?_)))
 obtain ⟨_, nF1, nM1, Lw1, B1⟩ := nz hF hM N1
 replace LL := LL.trans Lw1
 refine zF rfl rfl (zD (zH (zB (gC rfl rfl (zF rfl rfl (zD (zW ?_)))))))
 refine lv1 ⟨rfl, trivial⟩ ?_
 subst hFz
 exact ⟨LL.b, b1, rfl, B1, nM1⟩
theorem vadd_c {p : P2} {n0 : Nat} {xs0 xt0 : Bool} {xa0 xd0 xb0 xe0 : Value} {q : P2} {n1 : Nat} {xs1 xt1 : Bool} {xa1 xd1 xb1 xe1 : Value} (hT : Tab M w) (h0 : PQ M w n0 p xs0 xa0 xd0 xt0 xb0 xe0) (h1 : PQ M w n1 q xs1 xa1 xd1 xt1 xb1 xe1) (hl0 : n0 ≤ 20000) (hl1 : n1 ≤ 20000) (hM : OkM M w) :
    CallsV prog 161 [.agg #[.bool xs0, xa0, xd0, .bool xt0, xb0, xe0], .agg #[.bool xs1, xa1, xd1, .bool xt1, xb1, xe1]] w fun r w' => Bel w.heap.size w w' ∧ ∃ xsr xar xdr xtr xbr xer, r = .agg #[.bool xsr, xar, xdr, .bool xtr, xbr, xer] ∧ PC M w' (n0 + n1 + 3) (addP p q) xsr xar xdr xtr xbr xer := by
 obtain ⟨oxa0, oxd0, oxb0, oxe0, _⟩ := h0.one
 obtain ⟨oxa1, oxd1, oxb1, oxe1, _⟩ := h1.one
 refine ci M func161 ntmps161 fun Fz hFz hF LL => ?_
 refine zH (zB (yG rfl rfl (fun w1 b2 N2 => ?_)))
 obtain ⟨_, nF2, nM2, Lw1, B2⟩ := nza hF hM N2
 obtain ⟨LL, hM, hF, hT, h0, h1⟩ := up6 Lw1 LL hM hF hT h0 h1
 refine yG rfl rfl (fun w2 b3 N3 => ?_)
 obtain ⟨hBw2, nF3, nM3, Lw2, B3⟩ := nza hF hM N3
 obtain ⟨B2, ne2_3⟩ := bn B2 N3
 obtain ⟨LL, hM, hF, hT, h0, h1⟩ := up6 Lw2 LL hM hF hT h0 h1
 refine yI rfl yR (fun w3 b4 N4 => ?_)
 obtain ⟨hBw3, nF4, nM4, Lw3, B4⟩ := nza hF hM N4
 obtain ⟨B2, ne2_4⟩ := bn B2 N4
 obtain ⟨B3, ne3_4⟩ := bn B3 N4
 obtain ⟨LL, hM, hT, h0, h1⟩ := up5 Lw3 LL hM hT h0 h1
 refine zD (zH ?_)
 refine wd mixed 4 [4, 6, 7, 8] (by decide +kernel) ?_
 refine dv (fun v w => ∃ b, v = .func (.func 270) #[] #[.pointer (some ⟨b, 0, none⟩)] ∧ KBlk (Ins b4 (Ins b3 (Ins b2 M))) w b 36 [.func (.func 163) #[] #[]]) (fun wq hR hst => ?_) ?_
 ·refine zC ?_
  replace hM := ub1 hR hM
  refine zI rfl (bo func213) rfl rfl ?_
  refine (two_add_c hM).mono ?_
  rintro v5 w4 ⟨hB5, bb5, rfl, hk5⟩
  exact on1 hB5 rfl ⟨bb5, rfl, hk5⟩
 refine dv (fun v w => ∃ b c, v = .func (.func 205) #[] #[.pointer (some ⟨b, 0, none⟩)] ∧ KBlk (Ins b4 (Ins b3 (Ins b2 M))) w b 35 [.func (.func 270) #[] #[.pointer (some ⟨c, 0, none⟩)]] ∧ KBlk (Ins b4 (Ins b3 (Ins b2 M))) w c 36 [.func (.func 163) #[] #[]]) (fun wq hR hst => ?_) ?_
 ·refine yD rfl (fun v5 hp5 => ?_)
  obtain ⟨bb5, rfl, hk5⟩ := hp5
  refine zC ?_
  replace hM := ub1 hR hM
  refine zI rfl (bo func157) rfl rfl ?_
  refine (parts_add_c hM).mono ?_
  rintro v6 w5 ⟨hB6, bb6, rfl, hk6⟩
  replace hk5 := ub1 hB6 hk5
  exact on1 hB6 rfl ⟨bb6, bb5, rfl, hk6, hk5⟩
 refine zN (fun _ hR _ => zP rfl rfl (zC (zM rfl yL yR rfl (B2.below hR) rfl rfl (on0 rfl)))) ?_
 refine zN (fun _ hR _ => zP rfl rfl (zC (zM rfl yL yR rfl (B3.below hR) rfl rfl (on0 rfl)))) ?_
 refine xI (fun wq1 hR1 hpost1 => ?_)
 refine zP rfl rfl (yD rfl (fun v6 hp6 => ?_))
 obtain ⟨bb6, bc6, rfl, hk6, hkc6⟩ := hp6
 refine zK rfl (zK rfl (zC ?_))
 simp only [jC, jB, jA, xZ]
 obtain ⟨LL, hM, hT, h0, h1, B4⟩ := ub6 hR1 LL hM hT h0 h1 B4
 refine zI rfl (bo func205) rfl rfl ?_
 refine (parts1_add_c hT h0 h1 (by omega) (by omega) hkc6 hk6 hM).mono ?_
 rintro v9 w6 ⟨hB9, xs9, xa9, xd9, xt9, xb9, xe9, rfl, hn9⟩
 obtain ⟨LL, B4⟩ := ub2 hB9 LL B4
 obtain ⟨oxa9, oxd9, oxb9, oxe9, _⟩ := hn9.one
 refine zV rfl rfl yR B4 rfl rfl (zU (zU (zU (zU (zU (zU xY)))))) rfl (fun w7 Cw7 B4 => ?_)
 obtain ⟨LL, hn9⟩ := up2 (lc LL Cw7 zQ nF4) LL hn9
 refine zD (zW ?_)
 refine lv1 ⟨⟨_, rfl, yQ yL yR B4 rfl rfl⟩, trivial⟩ ?_
 subst hFz
 exact ⟨LL.b, _, _, _, _, _, _, rfl, (hn9.less (fun k c => zJ (zJ (zJ c)))).up (by omega)⟩
theorem eG {p : P2} {n0 : Nat} {xs0 xt0 : Bool} {xa0 xd0 xb0 xe0 : Value} {q : P2} {n1 : Nat} {xs1 xt1 : Bool} {xa1 xd1 xb1 xe1 : Value} (hT : Tab M w) (h0 : PQ M w n0 p xs0 xa0 xd0 xt0 xb0 xe0) (h1 : PQ M w n1 q xs1 xa1 xd1 xt1 xb1 xe1) (hl0 : n0 ≤ 20000) (hl1 : n1 ≤ 20000) (hM : OkM M w) :
    CallsV prog 93 [.agg #[.bool xs0, xa0, xd0, .bool xt0, xb0, xe0], .agg #[.bool xs1, xa1, xd1, .bool xt1, xb1, xe1]] w fun r w' => Bel w.heap.size w w' ∧ ∃ xsr xar xdr xtr xbr xer, r = .agg #[.bool xsr, xar, xdr, .bool xtr, xbr, xer] ∧ PC M w' (n0 + n1 + 3) (jW p q) xsr xar xdr xtr xbr xer := by
 obtain ⟨oxa0, oxd0, oxb0, oxe0, _⟩ := h0.one
 obtain ⟨oxa1, oxd1, oxb1, oxe1, _⟩ := h1.one
 refine ci M func93 ntmps93 fun Fz hFz hF LL => ?_
 refine zH (zB (yG rfl rfl (fun w1 b2 N2 => ?_)))
 obtain ⟨_, nF2, nM2, Lw1, B2⟩ := nza hF hM N2
 obtain ⟨LL, hM, hF, hT, h0, h1⟩ := up6 Lw1 LL hM hF hT h0 h1
 refine yG rfl rfl (fun w2 b3 N3 => ?_)
 obtain ⟨hBw2, nF3, nM3, Lw2, B3⟩ := nza hF hM N3
 obtain ⟨B2, ne2_3⟩ := bn B2 N3
 obtain ⟨LL, hM, hF, hT, h0, h1⟩ := up6 Lw2 LL hM hF hT h0 h1
 refine yI rfl yR (fun w3 b4 N4 => ?_)
 obtain ⟨hBw3, nF4, nM4, Lw3, B4⟩ := nza hF hM N4
 obtain ⟨B2, ne2_4⟩ := bn B2 N4
 obtain ⟨B3, ne3_4⟩ := bn B3 N4
 obtain ⟨LL, hM, hT, h0, h1⟩ := up5 Lw3 LL hM hT h0 h1
 refine zD (zH ?_)
 refine wd mixed 3 [4, 5, 6, 7] (by decide +kernel) ?_
 refine dv (fun v w => ∃ b, v = .func (.func 205) #[] #[.pointer (some ⟨b, 0, none⟩)] ∧ KBlk (Ins b4 (Ins b3 (Ins b2 M))) w b 35 [.func (.func 98) #[] #[]]) (fun wq hR hst => ?_) ?_
 ·refine zC ?_
  replace hM := ub1 hR hM
  refine zI rfl (bo func157) rfl rfl ?_
  refine (parts_sub_c hM).mono ?_
  rintro v5 w4 ⟨hB5, bb5, rfl, hk5⟩
  exact on1 hB5 rfl ⟨bb5, rfl, hk5⟩
 refine zN (fun _ hR _ => zP rfl rfl (zC (zM rfl yL yR rfl (B2.below hR) rfl rfl (on0 rfl)))) ?_
 refine zN (fun _ hR _ => zP rfl rfl (zC (zM rfl yL yR rfl (B3.below hR) rfl rfl (on0 rfl)))) ?_
 refine xI (fun wq1 hR1 hpost1 => ?_)
 refine zP rfl rfl (yD rfl (fun v5 hp5 => ?_))
 obtain ⟨bb5, rfl, hk5⟩ := hp5
 refine zK rfl (zK rfl (zC ?_))
 simp only [jC, jB, jA, xZ]
 obtain ⟨LL, hM, hT, h0, h1, B4⟩ := ub6 hR1 LL hM hT h0 h1 B4
 refine zI rfl (bo func205) rfl rfl ?_
 refine (parts1_sub_c hT h0 h1 (by omega) (by omega) hk5 hM).mono ?_
 rintro v8 w5 ⟨hB8, xs8, xa8, xd8, xt8, xb8, xe8, rfl, hn8⟩
 obtain ⟨LL, B4⟩ := ub2 hB8 LL B4
 obtain ⟨oxa8, oxd8, oxb8, oxe8, _⟩ := hn8.one
 refine zV rfl rfl yR B4 rfl rfl (zU (zU (zU (zU (zU (zU xY)))))) rfl (fun w6 Cw6 B4 => ?_)
 obtain ⟨LL, hn8⟩ := up2 (lc LL Cw6 zQ nF4) LL hn8
 refine zD (zW ?_)
 refine lv1 ⟨⟨_, rfl, yQ yL yR B4 rfl rfl⟩, trivial⟩ ?_
 subst hFz
 exact ⟨LL.b, _, _, _, _, _, _, rfl, (hn8.less (fun k c => zJ (zJ (zJ c)))).up (by omega)⟩
theorem vscale_c {p : P2} {n0 : Nat} {xs0 xt0 : Bool} {xa0 xd0 xb0 xe0 : Value} {q : Rat} {n1 : Nat} {xs1 : Bool} {xa1 xd1 : Value} (hT : Tab M w) (h0 : PQ M w n0 p xs0 xa0 xd0 xt0 xb0 xe0) (h1 : QC M w n1 q xs1 xa1 xd1) (hl0 : n0 ≤ 20000) (hl1 : n1 ≤ 20000) (hM : OkM M w) :
    CallsV prog 162 [.agg #[.bool xs0, xa0, xd0, .bool xt0, xb0, xe0], .agg #[.bool xs1, xa1, xd1]] w fun r w' => Bel w.heap.size w w' ∧ ∃ xsr xar xdr xtr xbr xer, r = .agg #[.bool xsr, xar, xdr, .bool xtr, xbr, xer] ∧ PC M w' (n0 + n1 + 3) (scaleP p q) xsr xar xdr xtr xbr xer := by
 obtain ⟨oxa0, oxd0, oxb0, oxe0, _⟩ := h0.one
 obtain ⟨oxa1, oxd1, _⟩ := h1.one
 refine ci M func162 ntmps162 fun Fz hFz hF LL => ?_
 refine zH (zB (yG rfl rfl (fun w1 b2 N2 => ?_)))
 obtain ⟨_, nF2, nM2, Lw1, B2⟩ := nza hF hM N2
 obtain ⟨LL, hM, hF, hT, h0, h1⟩ := up6 Lw1 LL hM hF hT h0 h1
 refine yG rfl rfl (fun w2 b3 N3 => ?_)
 obtain ⟨hBw2, nF3, nM3, Lw2, B3⟩ := nza hF hM N3
 obtain ⟨B2, ne2_3⟩ := bn B2 N3
 obtain ⟨LL, hM, hF, hT, h0, h1⟩ := up6 Lw2 LL hM hF hT h0 h1
 refine yI rfl yR (fun w3 b4 N4 => ?_)
 obtain ⟨hBw3, nF4, nM4, Lw3, B4⟩ := nza hF hM N4
 obtain ⟨B2, ne2_4⟩ := bn B2 N4
 obtain ⟨B3, ne3_4⟩ := bn B3 N4
 obtain ⟨LL, hM, hT, h0, h1⟩ := up5 Lw3 LL hM hT h0 h1
 refine zD (zH ?_)
 refine wd mixed 6 [4, 6, 7, 10] (by decide +kernel) ?_
 refine dv (fun v w => ∃ b, v = .func (.func 270) #[] #[.pointer (some ⟨b, 0, none⟩)] ∧ KBlk (Ins b4 (Ins b3 (Ins b2 M))) w b 36 [.func (.func 160) #[] #[]]) (fun wq hR hst => ?_) ?_
 ·refine zC ?_
  replace hM := ub1 hR hM
  refine zI rfl (bo func213) rfl rfl ?_
  refine (two_mul_c hM).mono ?_
  rintro v5 w4 ⟨hB5, bb5, rfl, hk5⟩
  exact on1 hB5 rfl ⟨bb5, rfl, hk5⟩
 refine dv (fun v w => ∃ b c, v = .func (.func 205) #[] #[.pointer (some ⟨b, 0, none⟩)] ∧ KBlk (Ins b4 (Ins b3 (Ins b2 M))) w b 35 [.func (.func 270) #[] #[.pointer (some ⟨c, 0, none⟩)]] ∧ KBlk (Ins b4 (Ins b3 (Ins b2 M))) w c 36 [.func (.func 160) #[] #[]]) (fun wq hR hst => ?_) ?_
 ·refine yD rfl (fun v5 hp5 => ?_)
  obtain ⟨bb5, rfl, hk5⟩ := hp5
  refine zC ?_
  replace hM := ub1 hR hM
  refine zI rfl (bo func157) rfl rfl ?_
  refine (parts_mul_c hM).mono ?_
  rintro v6 w5 ⟨hB6, bb6, rfl, hk6⟩
  replace hk5 := ub1 hB6 hk5
  exact on1 hB6 rfl ⟨bb6, bb5, rfl, hk6, hk5⟩
 refine zN (fun _ hR _ => zP rfl rfl (zC (zM rfl yL yR rfl (B2.below hR) rfl rfl (on0 rfl)))) ?_
 refine zN (fun _ hR _ => zP rfl rfl (zC (zM rfl yV yM rfl (B3.below hR) rfl rfl (on0 rfl)))) ?_
 refine zN (fun _ hR _ => zP rfl rfl (zC (zM rfl yV yM rfl (B3.below hR) rfl rfl (on0 rfl)))) ?_
 refine zN (fun _ _ _ => zK rfl (zK rfl (zC (xM rfl eR rfl rfl (zX (rfl) (zX (rfl) xD)) rfl (on0 rfl))))) ?_
 refine xI (fun wq1 hR1 hpost1 => ?_)
 refine zP rfl rfl (yD rfl (fun v6 hp6 => ?_))
 obtain ⟨bb6, bc6, rfl, hk6, hkc6⟩ := hp6
 refine zK rfl (zK rfl (zC ?_))
 simp only [jC, jB, jA, xZ]
 obtain ⟨LL, hM, hT, h0, h1, B4⟩ := ub6 hR1 LL hM hT h0 h1 B4
 refine zI rfl (bo func205) rfl rfl ?_
 refine (parts1_mul_c hT h0 (PQ.mk2 h1 h1) (by omega) (by omega) hkc6 hk6 hM).mono ?_
 rintro v11 w6 ⟨hB11, xs11, xa11, xd11, xt11, xb11, xe11, rfl, hn11⟩
 obtain ⟨LL, B4⟩ := ub2 hB11 LL B4
 obtain ⟨oxa11, oxd11, oxb11, oxe11, _⟩ := hn11.one
 refine zV rfl rfl yR B4 rfl rfl (zU (zU (zU (zU (zU (zU xY)))))) rfl (fun w7 Cw7 B4 => ?_)
 obtain ⟨LL, hn11⟩ := up2 (lc LL Cw7 zQ nF4) LL hn11
 refine zD (zW ?_)
 refine lv1 ⟨⟨_, rfl, yQ yL yR B4 rfl rfl⟩, trivial⟩ ?_
 subst hFz
 exact ⟨LL.b, _, _, _, _, _, _, rfl, (hn11.less (fun k c => zJ (zJ (zJ c)))).up (by omega)⟩
theorem vcross_c {p : P2} {n0 : Nat} {xs0 xt0 : Bool} {xa0 xd0 xb0 xe0 : Value} {q : P2} {n1 : Nat} {xs1 xt1 : Bool} {xa1 xd1 xb1 xe1 : Value} (hT : Tab M w) (h0 : PQ M w n0 p xs0 xa0 xd0 xt0 xb0 xe0) (h1 : PQ M w n1 q xs1 xa1 xd1 xt1 xb1 xe1) (hl0 : n0 ≤ 20000) (hl1 : n1 ≤ 20000) (hM : OkM M w) :
    CallsV prog 95 [.agg #[.bool xs0, xa0, xd0, .bool xt0, xb0, xe0], .agg #[.bool xs1, xa1, xd1, .bool xt1, xb1, xe1]] w fun r w' => Bel w.heap.size w w' ∧ ∃ xsr xar xdr, r = .agg #[.bool xsr, xar, xdr] ∧ RC M w' (2 * n0 + 2 * n1 + 9) (jU p q) xsr xar xdr := by
 obtain ⟨oxa0, oxd0, oxb0, oxe0, _⟩ := h0.one
 obtain ⟨oxa1, oxd1, oxb1, oxe1, _⟩ := h1.one
 refine ci M func95 ntmps95 fun Fz hFz hF LL => ?_
 refine zH (zB (yG rfl rfl (fun w1 b2 N2 => ?_)))
 obtain ⟨_, nF2, nM2, Lw1, B2⟩ := nza hF hM N2
 obtain ⟨LL, hM, hF, hT, h0, h1⟩ := up6 Lw1 LL hM hF hT h0 h1
 refine yG rfl rfl (fun w2 b3 N3 => ?_)
 obtain ⟨hBw2, nF3, nM3, Lw2, B3⟩ := nza hF hM N3
 obtain ⟨B2, ne2_3⟩ := bn B2 N3
 obtain ⟨LL, hM, hF, hT, h0, h1⟩ := up6 Lw2 LL hM hF hT h0 h1
 refine yI rfl yM (fun w3 b4 N4 => ?_)
 obtain ⟨hBw3, nF4, nM4, Lw3, B4⟩ := nza hF hM N4
 obtain ⟨B2, ne2_4⟩ := bn B2 N4
 obtain ⟨B3, ne3_4⟩ := bn B3 N4
 obtain ⟨LL, hM, hT, h0, h1⟩ := up5 Lw3 LL hM hT h0 h1
 refine zD (zH ?_)
 refine wd mixed 11 [4, 10, 15] (by decide +kernel) ?_
 refine zN (fun _ _ _ => zP rfl rfl (zC (zL 0 rfl yu39 rfl rfl yM rfl rfl (on0 rfl)))) ?_
 refine zN (fun _ hR _ => zK rfl (zC (zM rfl yV yM rfl (B2.below hR) rfl rfl (on0 rfl)))) ?_
 refine zN (fun _ _ _ => zP rfl rfl (zC (zL 3 rfl yu39 rfl rfl yM rfl rfl (on0 rfl)))) ?_
 refine zN (fun _ hR _ => zK rfl (zC (zM rfl yV yM rfl (B3.below hR) rfl rfl (on0 rfl)))) ?_
 refine dv (fun v w => ∃ bb xs9 xa9 xd9 xs9b xa9b xd9b, v = .slice (some ⟨bb, 0, none⟩) 2 2 ∧ KBlk (Ins b4 (Ins b3 (Ins b2 M))) w bb 33 [.bool xs9, xa9, xd9, .bool xs9b, xa9b, xd9b] ∧ QC (Ins b4 (Ins b3 (Ins b2 M))) w (n0) (p.1) xs9 xa9 xd9 ∧ QC (Ins b4 (Ins b3 (Ins b2 M))) w (n1) (q.2) xs9b xa9b xd9b) (fun wq hR hst => ?_) ?_
 ·refine zK rfl (zK rfl (zC ?_))
  obtain ⟨hM, h0, h1⟩ := ub3 hR hM h0 h1
  refine xA rfl yu22 yM rfl rfl rfl rfl (zX rfl (zX rfl xD)) rfl rfl rfl (fun w4 b9 N9 => ?_)
  have hBw4 := N9.below
  have nM9 := hM.new N9
  have B9 := N9.blk
  obtain ⟨h0, h1⟩ := ub2 hBw4 h0 h1
  have hB9 := hBw4
  exact on1 hB9 rfl ⟨b9, _, _, _, _, _, _, rfl, KBlk.mk B9 nM9, h0.x, h1.y⟩
 refine zS (vRC (Ins b4 (Ins b3 (Ins b2 M))) (n0 + n1 + 3) (p.1 * q.2)) kJ (fun wq hR hst => ?_) ?_
 ·refine yD rfl (fun v9 hp9 => ?_)
  obtain ⟨bb9, xs9, xa9, xd9, xs9b, xa9b, xd9b, rfl, hk9, hn9, hnb9⟩ := hp9; obtain ⟨oxa9, oxd9, _⟩ := hn9.one
  refine zC ?_
  obtain ⟨hM, hT⟩ := ub2 hR hM hT
  refine zI rfl (bo func160) rfl rfl ?_
  refine (rmul2_q hT hk9 hn9 hnb9 (by omega) (by omega) hM).mono ?_
  rintro v10 w5 ⟨hB10, xs10, xa10, xd10, rfl, hn10⟩
  exact on1 hB10 rfl ⟨_, _, _, rfl, hn10⟩
 refine zN (fun _ _ _ => zP rfl rfl (zC (zL 3 rfl yu39 rfl rfl yM rfl rfl (on0 rfl)))) ?_
 refine zN (fun _ hR _ => zK rfl (zC (zM rfl yV yM rfl (B2.below hR) rfl rfl (on0 rfl)))) ?_
 refine zN (fun _ _ _ => zP rfl rfl (zC (zL 0 rfl yu39 rfl rfl yM rfl rfl (on0 rfl)))) ?_
 refine zN (fun _ hR _ => zK rfl (zC (zM rfl yV yM rfl (B3.below hR) rfl rfl (on0 rfl)))) ?_
 refine dv (fun v w => ∃ bb xs15 xa15 xd15 xs15b xa15b xd15b, v = .slice (some ⟨bb, 0, none⟩) 2 2 ∧ KBlk (Ins b4 (Ins b3 (Ins b2 M))) w bb 33 [.bool xs15, xa15, xd15, .bool xs15b, xa15b, xd15b] ∧ QC (Ins b4 (Ins b3 (Ins b2 M))) w (n0) (p.2) xs15 xa15 xd15 ∧ QC (Ins b4 (Ins b3 (Ins b2 M))) w (n1) (q.1) xs15b xa15b xd15b) (fun wq hR hst => ?_) ?_
 ·refine zK rfl (zK rfl (zC ?_))
  obtain ⟨hM, h0, h1⟩ := ub3 hR hM h0 h1
  refine xA rfl yu22 yM rfl rfl rfl rfl (zX rfl (zX rfl xD)) rfl rfl rfl (fun w6 b15 N15 => ?_)
  have hBw6 := N15.below
  have nM15 := hM.new N15
  have B15 := N15.blk
  obtain ⟨h0, h1⟩ := ub2 hBw6 h0 h1
  have hB15 := hBw6
  exact on1 hB15 rfl ⟨b15, _, _, _, _, _, _, rfl, KBlk.mk B15 nM15, h0.y, h1.x⟩
 refine xI (fun wq1 hR1 hpost1 => ?_)
 refine zP rfl rfl (yD rfl (fun v10 hp10 => ?_))
 obtain ⟨xs10, xa10, xd10, rfl, hn10⟩ := hp10; obtain ⟨oxa10, oxd10, _⟩ := hn10.one
 refine yD rfl (fun v15 hp15 => ?_)
 obtain ⟨bb15, xs15, xa15, xd15, xs15b, xa15b, xd15b, rfl, hk15, hn15, hnb15⟩ := hp15; obtain ⟨oxa15, oxd15, _⟩ := hn15.one; obtain ⟨oxa15b, oxd15b, _⟩ := hnb15.one
 refine zC ?_
 simp only [jC, jB, jA, xZ]
 obtain ⟨LL, hM, hT, B4⟩ := ub4 hR1 LL hM hT B4
 refine zI rfl (bo func160) rfl rfl ?_
 refine (rmul2_q hT hk15 hn15 hnb15 (by omega) (by omega) hM).mono ?_
 rintro v16 w7 ⟨hB16, xs16, xa16, xd16, rfl, hn16⟩
 obtain ⟨LL, hM, hT, hn10, B4⟩ := ub5 hB16 LL hM hT hn10 B4
 obtain ⟨oxa16, oxd16, _⟩ := hn16.one
 refine zI rfl (bo func98) rfl rfl ?_
 refine (rsub_q hT hn10.gen hn16.gen (by omega) (by omega) hM).mono ?_
 rintro v17 w8 ⟨hB17, xs17, xa17, xd17, rfl, hn17⟩
 obtain ⟨LL, B4⟩ := ub2 hB17 LL B4
 obtain ⟨oxa17, oxd17, _⟩ := hn17.one
 refine zV rfl rfl yM B4 rfl rfl (zU (zU (zU xY))) rfl (fun w9 Cw9 B4 => ?_)
 obtain ⟨LL, hn17⟩ := up2 (lc LL Cw9 zQ nF4) LL hn17
 refine zD (zW ?_)
 refine lv1 ⟨⟨_, rfl, yQ yV yM B4 rfl rfl⟩, trivial⟩ ?_
 subst hFz
 exact ⟨LL.b, _, _, _, rfl, (hn17.less (fun k c => zJ (zJ (zJ c)))).up (by omega)⟩
theorem vat_c {p : P2} {n0 : Nat} {xs0 xt0 : Bool} {xa0 xd0 xb0 xe0 : Value} {q : P2} {n1 : Nat} {xs1 xt1 : Bool} {xa1 xd1 xb1 xe1 : Value} {u : Rat} {n2 : Nat} {xs2 : Bool} {xa2 xd2 : Value} (hT : Tab M w) (h0 : PQ M w n0 p xs0 xa0 xd0 xt0 xb0 xe0) (h1 : PQ M w n1 q xs1 xa1 xd1 xt1 xb1 xe1) (h2 : QC M w n2 u xs2 xa2 xd2) (hl0 : n0 ≤ 5000) (hl1 : n1 ≤ 5000) (hl2 : n2 ≤ 5000) (hM : OkM M w) :
    CallsV prog 97 [.agg #[.bool xs0, xa0, xd0, .bool xt0, xb0, xe0], .agg #[.bool xs1, xa1, xd1, .bool xt1, xb1, xe1], .agg #[.bool xs2, xa2, xd2]] w fun r w' => Bel w.heap.size w w' ∧ ∃ xsr xar xdr xtr xbr xer, r = .agg #[.bool xsr, xar, xdr, .bool xtr, xbr, xer] ∧ PC M w' (2 * n0 + n1 + n2 + 9) (atP p q u) xsr xar xdr xtr xbr xer := by
 obtain ⟨oxa0, oxd0, oxb0, oxe0, _⟩ := h0.one
 obtain ⟨oxa1, oxd1, oxb1, oxe1, _⟩ := h1.one
 obtain ⟨oxa2, oxd2, _⟩ := h2.one
 refine ci M func97 ntmps97 fun Fz hFz hF LL => ?_
 refine zH (zB (yG rfl rfl (fun w1 b3 N3 => ?_)))
 obtain ⟨_, nF3, nM3, Lw1, B3⟩ := nza hF hM N3
 obtain ⟨LL, hM, hF, hT, h0, h1, h2⟩ := up7 Lw1 LL hM hF hT h0 h1 h2
 refine yG rfl rfl (fun w2 b4 N4 => ?_)
 obtain ⟨hBw2, nF4, nM4, Lw2, B4⟩ := nza hF hM N4
 obtain ⟨B3, ne3_4⟩ := bn B3 N4
 obtain ⟨LL, hM, hF, hT, h0, h1, h2⟩ := up7 Lw2 LL hM hF hT h0 h1 h2
 refine yG rfl rfl (fun w3 b5 N5 => ?_)
 obtain ⟨hBw3, nF5, nM5, Lw3, B5⟩ := nza hF hM N5
 obtain ⟨B3, ne3_5⟩ := bn B3 N5
 obtain ⟨B4, ne4_5⟩ := bn B4 N5
 obtain ⟨LL, hM, hF, hT, h0, h1, h2⟩ := up7 Lw3 LL hM hF hT h0 h1 h2
 refine yI rfl yR (fun w4 b6 N6 => ?_)
 obtain ⟨hBw4, nF6, nM6, Lw4, B6⟩ := nza hF hM N6
 obtain ⟨B3, ne3_6⟩ := bn B3 N6
 obtain ⟨B4, ne4_6⟩ := bn B4 N6
 obtain ⟨B5, ne5_6⟩ := bn B5 N6
 obtain ⟨LL, hM, hT, h0, h1, h2⟩ := up6 Lw4 LL hM hT h0 h1 h2
 refine zD (zH ?_)
 refine wd mixed 6 [6, 7, 12] (by decide +kernel) ?_
 refine zN (fun _ hR _ => zP rfl rfl (zC (zM rfl yL yR rfl (B3.below hR) rfl rfl (on0 rfl)))) ?_
 refine zN (fun _ hR _ => zP rfl rfl (zC (zM rfl yL yR rfl (B4.below hR) rfl rfl (on0 rfl)))) ?_
 refine zN (fun _ hR _ => zP rfl rfl (zC (zM rfl yL yR rfl (B3.below hR) rfl rfl (on0 rfl)))) ?_
 refine zS (vPC (Ins b6 (Ins b5 (Ins b4 (Ins b3 M)))) (n1 + n0 + 3) (jW q p)) qZ (fun wq hR hst => ?_) ?_
 ·refine zK rfl (zK rfl (zC ?_))
  obtain ⟨hM, hT, h0, h1⟩ := ub4 hR hM hT h0 h1
  refine zI rfl (bo func93) rfl rfl ?_
  refine (eG hT h1 h0 (by omega) (by omega) hM).mono ?_
  rintro v10 w5 ⟨hB10, xs10, xa10, xd10, xt10, xb10, xe10, rfl, hn10⟩
  exact on1 hB10 rfl ⟨_, _, _, _, _, _, rfl, hn10⟩
 refine zN (fun _ hR _ => zP rfl rfl (zC (zM rfl yV yM rfl (B5.below hR) rfl rfl (on0 rfl)))) ?_
 refine zS (vPC (Ins b6 (Ins b5 (Ins b4 (Ins b3 M)))) ((n1 + n0 + 3) + n2 + 3) (scaleP (jW q p) u)) qZ (fun wq hR hst => ?_) ?_
 ·refine yD rfl (fun v10 hp10 => ?_)
  obtain ⟨xs10, xa10, xd10, xt10, xb10, xe10, rfl, hn10⟩ := hp10
  refine zK rfl (zC ?_)
  obtain ⟨hM, hT, h2⟩ := ub3 hR hM hT h2
  refine zI rfl (bo func162) rfl rfl ?_
  refine (vscale_c hT hn10.gen h2 (by omega) (by omega) hM).mono ?_
  rintro v12 w6 ⟨hB12, xs12, xa12, xd12, xt12, xb12, xe12, rfl, hn12⟩
  exact on1 hB12 rfl ⟨_, _, _, _, _, _, rfl, hn12⟩
 refine xI (fun wq1 hR1 hpost1 => ?_)
 refine zP rfl rfl (zK rfl (yD rfl (fun v12 hp12 => ?_)))
 obtain ⟨xs12, xa12, xd12, xt12, xb12, xe12, rfl, hn12⟩ := hp12; obtain ⟨oxa12, oxd12, oxb12, oxe12, _⟩ := hn12.one
 refine zC ?_
 simp only [jC, jB, jA, xZ]
 obtain ⟨LL, hM, hT, h0, B6⟩ := ub5 hR1 LL hM hT h0 B6
 refine zI rfl (bo func161) rfl rfl ?_
 refine (vadd_c hT h0 hn12.gen (by omega) (by omega) hM).mono ?_
 rintro v13 w7 ⟨hB13, xs13, xa13, xd13, xt13, xb13, xe13, rfl, hn13⟩
 obtain ⟨LL, B6⟩ := ub2 hB13 LL B6
 obtain ⟨oxa13, oxd13, oxb13, oxe13, _⟩ := hn13.one
 refine zV rfl rfl yR B6 rfl rfl (zU (zU (zU (zU (zU (zU xY)))))) rfl (fun w8 Cw8 B6 => ?_)
 obtain ⟨LL, hn13⟩ := up2 (lc LL Cw8 zQ nF6) LL hn13
 refine zD (zW ?_)
 refine lv1 ⟨⟨_, rfl, yQ yL yR B6 rfl rfl⟩, trivial⟩ ?_
 subst hFz
 exact ⟨LL.b, _, _, _, _, _, _, rfl, (hn13.less (fun k c => zJ (zJ (zJ (zJ c))))).up (by omega)⟩
theorem vof_c {k : Nat} {l : Nat} (hk : k < 9223372036854775808) (hl : l < 9223372036854775808) (hM : OkM M w) :
    CallsV prog 96 [.int .i64 ((k : Nat) : Int), .int .i64 ((l : Nat) : Int)] w fun r w' => Bel w.heap.size w w' ∧ ∃ xsr xar xdr xtr xbr xer, r = .agg #[.bool xsr, xar, xdr, .bool xtr, xbr, xer] ∧ PC M w' (2) ((((k : Nat) : Rat), ((l : Nat) : Rat))) xsr xar xdr xtr xbr xer := by
 refine ci M func96 ntmps96 fun Fz hFz hF LL => ?_
 refine zH (zB (yI rfl yR (fun w1 b4 N4 => ?_)))
 obtain ⟨_, nF4, nM4, Lw1, B4⟩ := nza hF hM N4
 obtain ⟨LL, hM⟩ := up2 Lw1 LL hM
 refine zD (zH (zB (zA rfl rfl (zI rfl (bo func77) rfl rfl ?_))))
 refine (rofn_q (n := k)  (by omega) hM).mono ?_
 rintro v6 w2 ⟨hB6, xs6, xa6, xd6, rfl, hn6⟩
 obtain ⟨LL, hM, B4⟩ := ub3 hB6 LL hM B4
 obtain ⟨oxa6, oxd6, _⟩ := hn6.one
 refine zA rfl rfl (zI rfl (bo func77) rfl rfl ?_)
 refine (rofn_q (n := l)  (by omega) hM).mono ?_
 rintro v8 w3 ⟨hB8, xs8, xa8, xd8, rfl, hn8⟩
 obtain ⟨LL, hn6, B4⟩ := ub3 hB8 LL hn6 B4
 obtain ⟨oxa8, oxd8, _⟩ := hn8.one
 refine xM rfl eR rfl rfl (zX (rfl) (zX (rfl) xD)) rfl (zV rfl rfl yR B4 rfl rfl (zU (zU (zU (zU (zU (zU xY)))))) rfl (fun w4 Cw4 B4 => ?_))
 obtain ⟨LL, hn6, hn8⟩ := up3 (lc LL Cw4 zQ nF4) LL hn6 hn8
 refine zD (zW ?_)
 refine lv1 ⟨⟨_, rfl, yQ yL yR B4 rfl rfl⟩, trivial⟩ ?_
 subst hFz
 exact ⟨LL.b, _, _, _, _, _, _, rfl, ((PC.mk2 hn6 hn8).less (fun k c => zJ c)).up (by omega)⟩
theorem cL {p : P2} {n0 : Nat} {xs0 xt0 : Bool} {xa0 xd0 xb0 xe0 : Value} {q : P2} {n1 : Nat} {xs1 xt1 : Bool} {xa1 xd1 xb1 xe1 : Value} (hT : Tab M w) (h0 : PQ M w n0 p xs0 xa0 xd0 xt0 xb0 xe0) (h1 : PQ M w n1 q xs1 xa1 xd1 xt1 xb1 xe1) (hl0 : n0 ≤ 20000) (hl1 : n1 ≤ 20000) (hM : OkM M w) :
    CallsV prog 101 [.agg #[.bool xs0, xa0, xd0, .bool xt0, xb0, xe0], .agg #[.bool xs1, xa1, xd1, .bool xt1, xb1, xe1]] w fun r w' => Bel w.heap.size w w' ∧ r = .int .i64 (qO p q) := by
 refine ci M func101 ntmps101 fun Fz hFz hF LL => ?_
 refine zH (zB (yG rfl rfl (fun w1 b2 N2 => ?_)))
 obtain ⟨_, nF2, nM2, Lw1, B2⟩ := nza hF hM N2
 obtain ⟨LL, hM, hF, hT, h0, h1⟩ := up6 Lw1 LL hM hF hT h0 h1
 refine yG rfl rfl (fun w2 b3 N3 => ?_)
 obtain ⟨hBw2, nF3, nM3, Lw2, B3⟩ := nza hF hM N3
 obtain ⟨B2, ne2_3⟩ := bn B2 N3
 obtain ⟨LL, hM, hT, h0, h1⟩ := up5 Lw2 LL hM hT h0 h1
 refine zF rfl rfl (zD (zH (zH (zB (zL 0 rfl yu39 rfl rfl yM rfl rfl (zM rfl yV yM rfl B2 rfl rfl (zL 0 rfl yu39 rfl rfl yM rfl rfl (zM rfl yV yM rfl B3 rfl rfl (zI rfl (bo func78) rfl rfl ?_)))))))))
 refine (rcmp_q hT h0.x h1.x (by omega) (by omega) hM).mono ?_
 rintro v10 w3 ⟨hB10, rfl⟩
 obtain ⟨LL, hM, hT, h0, h1, B2, B3⟩ := ub7 hB10 LL hM hT h0 h1 B2 B3
 refine zF rfl rfl (zD (zH (zB (zA rfl rfl (bO rfl rfl rfl (zD ?_))))))
 refine yA rfl (fun hc0 => ?_) (fun hc0 => ?_)
 ·have hcc : qO p q = bG p.1 q.1 := if_pos hc0
  refine zH (zB (zA rfl rfl (zF rfl rfl (zD (zW ?_)))))
  refine lv1 ⟨rfl, trivial⟩ ?_
  rw [hcc]
  subst hFz
  exact ⟨LL.b, rfl⟩
 ·have hcc : qO p q = bG p.2 q.2 := if_neg hc0
  refine yH (zH (zB (zL 3 rfl yu39 rfl rfl yM rfl rfl (zM rfl yV yM rfl B2 rfl rfl (zL 3 rfl yu39 rfl rfl yM rfl rfl (zM rfl yV yM rfl B3 rfl rfl (zI rfl (bo func78) rfl rfl ?_)))))))
  refine (rcmp_q hT h0.y h1.y (by omega) (by omega) hM).mono ?_
  rintro v18 w4 ⟨hB18, rfl⟩
  replace LL := ub1 hB18 LL
  refine zF rfl rfl (zD (zW ?_))
  refine lv1 ⟨rfl, trivial⟩ ?_
  rw [hcc]
  subst hFz
  exact ⟨LL.b, rfl⟩
theorem vsame_c {p : P2} {n0 : Nat} {xs0 xt0 : Bool} {xa0 xd0 xb0 xe0 : Value} {q : P2} {n1 : Nat} {xs1 xt1 : Bool} {xa1 xd1 xb1 xe1 : Value} (hT : Tab M w) (h0 : PQ M w n0 p xs0 xa0 xd0 xt0 xb0 xe0) (h1 : PQ M w n1 q xs1 xa1 xd1 xt1 xb1 xe1) (hl0 : n0 ≤ 20000) (hl1 : n1 ≤ 20000) (hM : OkM M w) :
    CallsV prog 103 [.agg #[.bool xs0, xa0, xd0, .bool xt0, xb0, xe0], .agg #[.bool xs1, xa1, xd1, .bool xt1, xb1, xe1]] w fun r w' => Bel w.heap.size w w' ∧ r = .bool (decide (qO p q = 0)) := by
 refine ci M func103 ntmps103 fun Fz hFz hF LL => ?_
 refine zH (zB (yG rfl rfl (fun w1 b2 N2 => ?_)))
 obtain ⟨_, nF2, nM2, Lw1, B2⟩ := nza hF hM N2
 obtain ⟨LL, hM, hF, hT, h0, h1⟩ := up6 Lw1 LL hM hF hT h0 h1
 refine yG rfl rfl (fun w2 b3 N3 => ?_)
 obtain ⟨hBw2, nF3, nM3, Lw2, B3⟩ := nza hF hM N3
 obtain ⟨B2, ne2_3⟩ := bn B2 N3
 obtain ⟨LL, hM, hT, h0, h1⟩ := up5 Lw2 LL hM hT h0 h1
 refine zF rfl rfl (zD (zH (zB (zM rfl yL yR rfl B2 rfl rfl (zM rfl yL yR rfl B3 rfl rfl (zI rfl (bo func101) rfl rfl ?_))))))
 refine (cL hT h0 h1 (by omega) (by omega) hM).mono ?_
 rintro v7 w3 ⟨hB7, rfl⟩
 replace LL := ub1 hB7 LL
 refine gN rfl rfl rfl (zF rfl rfl (zD (zW ?_)))
 refine lv1 ⟨rfl, trivial⟩ ?_
 subst hFz
 exact ⟨LL.b, rfl⟩
end Go.Proofs.YtfkejnlohkgbgaaGreatDoor
namespace Go.SL
open Go.RowKit
variable {G : Type}
abbrev VPS (G : Type) := Value → World × G → Prop
def ExS (v : Value) : VPS G := fun u _ => u = v
def bZ (Γ : List (Nat × VPS G)) (E : Env) (x : World × G) (body : Env → Prop) : List Nat → Env → Prop
 | [], F => body F
 | s :: ss, F => match Γ.find? (fun p => Nat.beq p.1 s) with
  | some p => ∀ v, p.2 v x → bZ Γ E x body ss ((s, v) :: F)
  | none => match get E s with
   | some v => bZ Γ E x body ss ((s, v) :: F)
   | none => bZ Γ E x body ss F
def hC (st : Option (Nat × (World × G → Prop) × (World × G → Prop))) (an : List (List Nat)) (i : Nat) (w : World × G) : Prop :=
 match st with
 | none => True
 | some (k, pre, post) => (k ∈ an.getD i [] → post w) ∧ (i ∈ an.getD k [] → pre w)
section draw
variable (P : Program) (r : Option Nat) (N : Nat) (ops : Array Oper) (D : List Deferred) (E : Env) (x0 : World × G) (R : World × G → World × G → Prop) (R' : Nat → World × G → World × G → Prop) (Pr : Nat → World × G → Prop) (st : Option (Nat × (World × G → Prop) × (World × G → Prop)))
def OneOkS (i : Nat) (o : Oper) (Ψ : VPS G) (Γ : List (Nat × VPS G)) : Prop :=
 match o.dst with
 | some d => (∀ k pre post, st = some (k, pre, post) → i ≠ k) ∧ (∀ v w w', Ψ v w → R w w' → Ψ v w') ∧ ∀ w, R x0 w → hC st (kG ops.toList) i w → Pr i w →
   bZ Γ E w (fun F => Ops P r N ops (fun D' E' w' => D' = D ∧ ∃ g', R' i w (w', g') ∧ ∃ v, get E' d = some v ∧ Ψ v (w', g')) [o] D F w.1) (gF ops o) []
 | none => ∃ pre post, st = some (i, pre, post) ∧ ∀ w, R x0 w → pre w →
   bZ Γ E w (fun F => Ops P r N ops (fun D' E' w' => D' = D ∧ ∃ g', R' i w (w', g') ∧ post (w', g')) [o] D F w.1) (gF ops o) []
def gam1S (o : Oper) (Ψ : VPS G) (Γ : List (Nat × VPS G)) : List (Nat × VPS G) := match o.dst with | some d => (d, Ψ) :: Γ | none => Γ
def fI (F : List (Nat × VPS G) → Prop) : List Oper → Nat → List (Nat × VPS G) → Prop
 | [], _, Γ => F Γ
 | o :: rest, i, Γ => ∃ Ψ, OneOkS P r N ops D E x0 R R' Pr st i o Ψ Γ ∧ fI F rest (i + 1) (gam1S o Ψ Γ)
def cO : List Oper → List (VPS G) → List (Nat × VPS G) → List (Nat × VPS G)
 | [], _, Γ => Γ
 | o :: os, [], Γ => Γ
 | o :: os, Ψ :: Ψs, Γ => cO os Ψs (gam1S o Ψ Γ)
variable {P r N ops D E x0 R R' Pr st}
theorem drs_listS {F : List (Nat × VPS G) → Prop} : ∀ (l : List Oper) (i : Nat) (Γ : List (Nat × VPS G)), fI P r N ops D E x0 R R' Pr st F l i Γ →
  ∃ Ψs : List (VPS G), Ψs.length = l.length ∧ F (cO l Ψs Γ) ∧ ∀ (j : Nat) (o : Oper) (Ψ : VPS G), l[j]? = some o → Ψs[j]? = some Ψ → OneOkS P r N ops D E x0 R R' Pr st (i + j) o Ψ (cO (l.take j) (Ψs.take j) Γ)
 | [], i, Γ, h => ⟨[], rfl, h, by simp⟩
 | o :: rest, i, Γ, h => by
  obtain ⟨Ψ, h1, h2⟩ := h
  obtain ⟨Ψs, e1, e2, e3⟩ := drs_listS rest (i + 1) _ h2
  refine ⟨Ψ :: Ψs, by simp [e1], e2, fun j o' Ψ' hj hp => ?_⟩
  cases j with
  | zero => simp at hj hp; subst hj; subst hp; simpa [cO] using h1
  | succ j =>
   have := e3 j o' Ψ' (by simpa using hj) (by simpa using hp)
   have e : i + 1 + j = i + (j + 1) := by omega
   rw [e] at this
   simpa [cO] using this
theorem gam_find_someS : ∀ (l : List Oper) (Ψs : List (VPS G)) (Γ : List (Nat × VPS G)) (s : Nat) (p : Nat × VPS G), Ψs.length = l.length → (cO l Ψs Γ).find? (fun p => Nat.beq p.1 s) = some p →
  (∃ (k : Nat) (o : Oper), l[k]? = some o ∧ o.dst = some s ∧ Ψs[k]? = some p.2) ∨ Γ.find? (fun p => Nat.beq p.1 s) = some p
 | [], Ψs, Γ, s, p, _, h => .inr h
 | o :: os, [], Γ, s, p, hl, h => by simp at hl
 | o :: os, Ψ :: Ψs, Γ, s, p, hl, h => by
  rcases gam_find_someS os Ψs _ s p (by simpa using hl) h with ⟨k, o', h1, h2, h3⟩ | h1
  ·exact .inl ⟨k + 1, o', by simpa using h1, h2, by simpa using h3⟩
  ·unfold gam1S at h1
   cases hd : o.dst with
   | none => rw [hd] at h1; exact .inr h1
   | some d =>
    rw [hd] at h1
    simp only [List.find?_cons] at h1
    cases hb : Nat.beq d s with
    | true =>
     rw [hb] at h1
     have e : d = s := Nat.eq_of_beq_eq_true hb
     simp at h1; subst h1; subst e
     exact .inl ⟨0, o, rfl, hd, rfl⟩
    | false => rw [hb] at h1; exact .inr h1
theorem gam_find_noneS : ∀ (l : List Oper) (Ψs : List (VPS G)) (Γ : List (Nat × VPS G)) (s : Nat), Ψs.length = l.length → (cO l Ψs Γ).find? (fun p => Nat.beq p.1 s) = none →
  (∀ (k : Nat) (o : Oper), l[k]? = some o → o.dst ≠ some s) ∧ Γ.find? (fun p => Nat.beq p.1 s) = none
 | [], Ψs, Γ, s, _, h => ⟨by simp, h⟩
 | o :: os, [], Γ, s, hl, h => by simp at hl
 | o :: os, Ψ :: Ψs, Γ, s, hl, h => by
  obtain ⟨h1, h2⟩ := gam_find_noneS os Ψs _ s (by simpa using hl) h
  unfold gam1S at h2
  cases hd : o.dst with
  | none => rw [hd] at h2; exact ⟨fun k o' hk => by cases k with
                         | zero => simp at hk; subst hk; rw [hd]; simp
                         | succ k => exact h1 k o' (by simpa using hk), h2⟩
  | some d =>
   rw [hd] at h2
   simp only [List.find?_cons] at h2
   cases hb : Nat.beq d s with
   | true => rw [hb] at h2; simp at h2
   | false =>
    rw [hb] at h2
    have hne : d ≠ s := Nat.ne_of_beq_eq_false hb
    exact ⟨fun k o' hk => by cases k with
                 | zero => simp at hk; subst hk; rw [hd]; simpa using hne
                 | succ k => exact h1 k o' (by simpa using hk), h2⟩
theorem kR {Γ : List (Nat × VPS G)} {body : Env → Prop} {a : Act} {w : World × G} (hN : a.tmps.size = N) : ∀ (ss : List Nat) (F : Env), bZ Γ E w body ss F → Has a N F →
    (∀ s ∈ ss, ∀ p, Γ.find? (fun p => Nat.beq p.1 s) = some p → ∃ v, a.tmps[s]? = some v ∧ p.2 v w) →
    (∀ s ∈ ss, Γ.find? (fun p => Nat.beq p.1 s) = none → ∀ v, get E s = some v → a.tmps[s]? = some v) → ∃ F', body F' ∧ Has a N F'
  | [], F, h, ha, _, _ => ⟨F, h, ha⟩
  | s :: ss, F, h, ha, h1, h2 => by
    have hadd : ∀ v, a.tmps[s]? = some v → Has a N ((s, v) :: F) := fun v hv => ⟨ha.size, fun i u hu => by
      unfold get at hu
      cases hb : Nat.beq s i with
      | true => have e : s = i := Nat.eq_of_beq_eq_true hb
                subst e; simp [hb] at hu; subst hu; exact hv
      | false => rw [hb] at hu; exact ha.at_ i u hu⟩
    unfold bZ at h
    cases hf : Γ.find? (fun p => Nat.beq p.1 s) with
    | some p =>
      rw [hf] at h
      obtain ⟨v, hv, hp⟩ := h1 s (by simp) p hf
      exact kR hN ss _ (h v hp) (hadd v hv) (fun s' hs => h1 s' (by simp [hs])) (fun s' hs => h2 s' (by simp [hs]))
    | none =>
      rw [hf] at h
      simp only at h
      cases hg : get E s with
      | some v =>
        rw [hg] at h
        exact kR hN ss _ h (hadd v (h2 s (by simp) hf v hg)) (fun s' hs => h1 s' (by simp [hs])) (fun s' hs => h2 s' (by simp [hs]))
      | none => rw [hg] at h; exact kR hN ss _ h ha (fun s' hs => h1 s' (by simp [hs])) (fun s' hs => h2 s' (by simp [hs]))
theorem wp_drawS {Kn Kr : Pd} {Ke : Nat → Pd} {w : World} (g0 : G) {id : Nat} (hm : P.follows .mixedOrders = true) (m : Nat) (outs : List Nat) (hlook : aW ops m = true)
    (hRt : ∀ a b c, R a b → R b c → R a c) (hRR : ∀ i a b, R' i a b → R a b) (hR0 : R (w, g0) ({ w with drawn := w.drawn + 1 }, g0))
    (hst : ∀ k pre post, st = some (k, pre, post) → k < m ∧ pre ({ w with drawn := w.drawn + 1 }, g0) ∧ (∀ i a b, i ≠ k → pre a → R' i a b → pre b) ∧ (∀ i a b, i ≠ k → post a → R' i a b → post b) ∧ ∃ o, ops[k]? = some o)
    (hPr0 : ∀ i, Pr i ({ w with drawn := w.drawn + 1 }, g0)) (hPr : ∀ i j a b, i ≠ j → Pr i a → R' j a b → Pr i b)
    (h : fI P r N ops D E (w, g0) R R' Pr st (fun Γ => ∀ x', R (w, g0) x' → (∀ k pre post, st = some (k, pre, post) → post x') → bZ Γ E x' (fun F => Ops P r N ops Kn (ops.toList.drop m) D F x'.1) outs []) (ops.toList.take m) 0 []) :
    Wp P r N (.region id ops true) Kn Ke Kr D E w := by
  intro a0 ha0 hd0
  -- the look
  unfold aW at hlook
  simp only [Bool.and_eq_true] at hlook
  obtain ⟨⟨⟨hl1, hl2⟩, hl3⟩, hl4⟩ := hlook
  have hdir : ∀ i o, ops.toList[i]? = some o → ∀ j ∈ qN o, j < i := by
    intro i o ho j hj
    have := kL hl1 ho
    rw [List.all_eq_true] at this
    simpa using this j hj
  have hslot : ∀ i o, (ops.toList.take m)[i]? = some o → ∀ s ∈ gF ops o, ∀ k p, (ops.toList.take m)[k]? = some p → p.dst = some s → (k < i → k ∈ (kG ops.toList).getD i []) ∧ (i < k → i ∈ (kG ops.toList).getD k []) ∧ k ≠ i := by
    intro i o ho s hs k p hp hps
    have h1 := kL hl2 ho
    rw [List.all_eq_true] at h1
    have h2 := kL (h1 s hs) hp
    simp only [hps, beq_self_eq_true, if_true] at h2
    by_cases e1 : k < i
    · rw [if_pos e1] at h2; exact ⟨fun _ => by simpa using h2, fun _ => by omega, by omega⟩
    · rw [if_neg e1] at h2
      by_cases e2 : i < k
      · rw [if_pos e2] at h2; exact ⟨fun _ => by omega, fun _ => by simpa using h2, by omega⟩
      · rw [if_neg e2] at h2; cases h2
  have hdist : ∀ (i : Nat) (o : Oper) (k : Nat) (p : Oper) (d : Nat), (ops.toList.take m)[i]? = some o → (ops.toList.take m)[k]? = some p → o.dst = some d → p.dst = some d → i = k := by
    intro i o k p d ho hp h1 h2
    have h3 := kL (kL hl3 ho) hp
    simpa [h1, h2] using h3
  have htail : ∀ i o, ops.toList[i]? = some o → m ≤ i → ∀ j, j < i → j ∈ (kG ops.toList).getD i [] := by
    intro i o ho hi j hj
    have h1 := kL hl4 ho
    simp only [Bool.or_eq_true, decide_eq_true_eq] at h1
    rcases h1 with h1 | h1
    · omega
    · rw [List.all_eq_true] at h1
      simpa using h1 j (by simpa using hj)
  obtain ⟨Ψs, hlen, hF, hone⟩ := drs_listS _ _ _ h
  have htk : ∀ i o, ops.toList[i]? = some o → i < m → (ops.toList.take m)[i]? = some o := by
    intro i o ho hi; rw [List.getElem?_take, if_pos hi]; exact ho
  have hkt : ∀ i o, (ops.toList.take m)[i]? = some o → ops.toList[i]? = some o ∧ i < m := by
    intro i o ho; rw [List.getElem?_take] at ho; split at ho
    · rename_i hi; exact ⟨ho, hi⟩
    · cases ho
  refine wpIn_region_any hm ?_
  -- what holds once some have been taken
  let Inv : Array Bool → Act → World × G → Prop := fun listed a w' =>
    listed.size = ops.size ∧ (∀ i, m ≤ i → i < ops.size → listed.getD i true = false) ∧
    (∀ i o, ops.toList[i]? = some o → listed.getD i true = true → ∀ j ∈ qN o, listed.getD j true = true) ∧
    a.tmps.size = N ∧ a.defers = D ∧ R (w, g0) w' ∧
    (∀ (i : Nat) (o : Oper) (d : Nat) (Ψ : VPS G), (ops.toList.take m)[i]? = some o → listed.getD i true = true → o.dst = some d → Ψs[i]? = some Ψ → ∃ v, a.tmps[d]? = some v ∧ Ψ v w') ∧
    (∀ s v, get E s = some v → (∀ (i : Nat) (o : Oper), (ops.toList.take m)[i]? = some o → listed.getD i true = true → o.dst ≠ some s) → a.tmps[s]? = some v) ∧
    (∀ k pre post, st = some (k, pre, post) → (listed.getD k true = true → post w') ∧ (listed.getD k true = false → pre w')) ∧
    (∀ i, listed.getD i true = false → Pr i w')
  have key : ∀ (fuel : Nat) (listed : Array Bool) (a : Act) (w' : World × G), Inv listed a w' → ((List.range ops.size).filter fun i => !listed.getD i true).length ≤ fuel →
      wpAnyIn (Fr r) 0 P .any ops (toQ N Kn Ke Kr) fuel listed a w'.1 := by
    intro fuel
    induction fuel with
    | zero =>
      intro listed a w' hI hf
      have hnil : ∀ i, i < ops.size → listed.getD i true = true := by
        intro i hi
        cases hb : listed.getD i true with
        | true => rfl
        | false =>
          have : i ∈ (List.range ops.size).filter fun i => !listed.getD i true := List.mem_filter.2 ⟨by simpa using hi, by simp [hb]⟩
          have := List.length_pos_of_mem this
          omega
      -- all taken: m is the whole
      obtain ⟨hs, htl, hcl, hN, hD', hRw, hv, hE', hst', hPrI⟩ := hI
      have hmn : ops.size ≤ m := by
        rcases Nat.lt_or_ge m ops.size with hlt | hge
        · have h1 := htl m (Nat.le_refl _) hlt; rw [hnil m hlt] at h1; cases h1
        · exact hge
      have hfin := hF w' hRw (fun k pre post hk => (hst' k pre post hk).1 (by
        have := (hst k pre post hk).1
        rcases Nat.lt_or_ge k ops.size with hlt | hge
        · exact hnil k hlt
        · simp [Array.getD_eq_getD_getElem?, Array.getElem?_eq_none (show listed.size ≤ k by omega)]))
      obtain ⟨F, hbody, hhas⟩ := kR hN outs [] hfin ⟨hN, by simp [get]⟩ (fun s _ p hp => by
          rcases gam_find_someS _ _ _ s p hlen hp with ⟨k, o, h1, h2, h3⟩ | h1
          · exact hv k o s p.2 h1 (hnil k (by have := (List.getElem?_eq_some_iff.1 (hkt k o h1).1).1; simpa using this)) h2 h3
          · simp at h1) (fun s _ hn v hg => hE' s v hg (fun i o hi _ => (gam_find_noneS _ _ _ s hlen hn).1 i o hi))
      have hdrop : ops.toList.drop m = [] := by simp; omega
      rw [hdrop] at hbody
      have hres := hbody a (toQ N Kn Ke Kr) hhas hD' (fun _ _ E' h1 h2 => ⟨E', h1, h2⟩)
      refine ⟨?_, hres⟩
      rw [List.eq_nil_iff_forall_not_mem]
      intro i hi
      obtain ⟨h1, h2, _⟩ := uC.1 hi
      rw [hnil i h1] at h2; cases h2
    | succ f ih =>
      intro listed a w' hI hf
      by_cases hall : ∀ i, i < m → i < ops.size → listed.getD i true = true
      · -- the first m have been taken
        obtain ⟨hs, htl, hcl, hN, hD', hRw, hv, hE', hst', hPrI⟩ := hI
        have hfin := hF w' hRw (fun k pre post hk => (hst' k pre post hk).1 (by
          have := (hst k pre post hk).1
          rcases Nat.lt_or_ge k ops.size with hlt | hge
          · exact hall k this hlt
          · simp [Array.getD_eq_getD_getElem?, Array.getElem?_eq_none (show listed.size ≤ k by omega)]))
        obtain ⟨F, hbody, hhas⟩ := kR hN outs [] hfin ⟨hN, by simp [get]⟩ (fun s _ p hp => by
            rcases gam_find_someS _ _ _ s p hlen hp with ⟨k, o, h1, h2, h3⟩ | h1
            · exact hv k o s p.2 h1 (hall k (hkt k o h1).2 (by have := (List.getElem?_eq_some_iff.1 (hkt k o h1).1).1; simpa using this)) h2 h3
            · simp at h1) (fun s _ hn v hg => hE' s v hg (fun i o hi _ => (gam_find_noneS _ _ _ s hlen hn).1 i o hi))
        have hres := hbody a (toQ N Kn Ke Kr) hhas hD' (fun _ _ E' h1 h2 => ⟨E', h1, h2⟩)
        refine tail_any hdir m htail (ops.toList.drop m) m listed a w'.1 (f + 1) (Nat.le_refl _) rfl hs (fun i hi => ?_) ?_ hres
        · constructor
          · intro h1
            rcases Nat.lt_or_ge i m with h2 | h2
            · exact h2
            · rw [htl i h2 hi] at h1; cases h1
          · intro h1; exact hall i h1 hi
        · -- enough steps are left
          have hlen2 : (ops.toList.drop m).length ≤ ((List.range ops.size).filter fun i => !listed.getD i true).length := by
            have e : (List.range ops.size).filter (fun i => !listed.getD i true) = (List.range ops.size).filter (fun i => decide (m ≤ i)) := by
              apply List.filter_congr
              intro i hi
              have hi' : i < ops.size := by simpa using hi
              rcases Nat.lt_or_ge i m with h2 | h2
              · simp [hall i h2 hi', Nat.not_le.2 h2]
              · simp [htl i h2 hi', h2]
            rw [e]
            have : ∀ n, ((List.range n).filter (fun i => decide (m ≤ i))).length = n - m := by
              intro n
              induction n with
              | zero => simp
              | succ n ihn =>
                rw [List.range_succ, List.filter_append, List.length_append, ihn]
                by_cases hmn : m ≤ n
                · simp [hmn]; omega
                · simp [hmn]; omega
            rw [this]; simp
          omega
      · -- one of the first m is taken
        have hmem : ∀ i, i ∈ Region.ready .any ops listed → i < m := by
          intro i hi
          obtain ⟨h1, h2, o, ho, h3⟩ := uC.1 hi
          rcases Nat.lt_or_ge i m with hlt | hge
          · exact hlt
          · exfalso
            apply hall
            intro j hj hjn
            have hoi : ops.toList[i]? = some o := by simpa using ho
            have := uV hdir (fun y => listed.getD y true = true ∨ y = i) (fun x ox hx hs' y hy => by
              rcases hs' with hs' | rfl
              · exact .inl (hI.2.2.1 x ox hx hs' y hy)
              · obtain ⟨e, he, rfl⟩ := List.mem_map.1 hy
                obtain ⟨he1, he2⟩ := List.mem_filter.1 he
                have hxo : ox = o := by rw [hoi] at hx; exact (Option.some.inj hx).symm
                subst hxo
                have h4 := h3 e (by simpa using he1) he2
                have h5 := hdir x ox hx e.on hy
                have hsz : e.on < listed.size := by rw [hI.1]; omega
                left
                simp only [Array.getD_eq_getD_getElem?, Array.getElem?_eq_getElem hsz, Option.getD_some] at h4 ⊢
                exact h4) i o hoi (.inr rfl) j (htail i o hoi hge j (by omega))
            rcases this with h | h
            · exact h
            · omega
        refine ⟨fun hr => ?_, fun i hi => ?_⟩
        · -- some is ready
          exfalso
          have : ∃ i, i < m ∧ i < ops.size ∧ listed.getD i true = false ∧ ∀ j, j < i → listed.getD j true = true := by
            have hex : ∃ i, i < m ∧ i < ops.size ∧ listed.getD i true = false := by
              apply Classical.byContradiction
              intro hc
              apply hall
              intro i h1 h2
              cases hb : listed.getD i true with
              | true => rfl
              | false => exact absurd ⟨i, h1, h2, hb⟩ hc
            obtain ⟨i, hi⟩ := hex
            induction i using Nat.strongRecOn with
            | _ i ihi =>
              by_cases hc : ∃ j, j < i ∧ listed.getD j true = false
              · obtain ⟨j, hj1, hj2⟩ := hc; exact ihi j hj1 ⟨by omega, by omega, hj2⟩
              · refine ⟨i, hi.1, hi.2.1, hi.2.2, fun j hj => ?_⟩
                cases hb : listed.getD j true with
                | true => rfl
                | false => exact absurd ⟨j, hj, hb⟩ hc
          obtain ⟨i, h1, h2, h3, h4⟩ := this
          have hoi : ops[i]? = some ops[i] := by simp [h2]
          have : i ∈ Region.ready .any ops listed := uC.2 ⟨h2, h3, ops[i], hoi, fun e he hb => by
            have hj : e.on ∈ qN ops[i] := List.mem_map.2 ⟨e, List.mem_filter.2 ⟨by simpa using he, hb⟩, rfl⟩
            have hlt := hdir i ops[i] (by simp) e.on hj
            have h5 := h4 e.on hlt
            have hsz : e.on < listed.size := by rw [hI.1]; omega
            simp only [Array.getD_eq_getD_getElem?, Array.getElem?_eq_getElem hsz, Option.getD_some] at h5 ⊢
            exact h5⟩
          rw [hr] at this; cases this
        · have him := hmem i hi
          obtain ⟨h1, h2, o, ho, h3⟩ := uC.1 hi
          have hoi : ops.toList[i]? = some o := by simpa using ho
          have hit := htk i o hoi him
          obtain ⟨hs, htl, hcl, hN, hD', hRw, hv, hE', hst', hPrI⟩ := hI
          have hdl : ∀ j ∈ qN o, listed.getD j true = true := by
            intro j hj
            obtain ⟨e, he, rfl⟩ := List.mem_map.1 hj
            obtain ⟨he1, he2⟩ := List.mem_filter.1 he
            have h4 := h3 e (by simpa using he1) he2
            have h5 := hdir i o hoi e.on hj
            have hsz : e.on < listed.size := by rw [hs]; omega
            simp only [Array.getD_eq_getD_getElem?, Array.getElem?_eq_getElem hsz, Option.getD_some] at h4 ⊢
            exact h4
          have hanl : ∀ j ∈ (kG ops.toList).getD i [], listed.getD j true = true := by
            intro j hj
            rw [eD hoi (hdir i o hoi)] at hj
            rcases List.mem_append.1 hj with h | h
            · exact hdl j h
            · obtain ⟨q, hq, hjq⟩ := List.mem_flatMap.1 h
              have hqi := hdir i o hoi q hq
              exact uV hdir (fun y => listed.getD y true = true) hcl q ops[q] (by simp) (hdl q hq) j hjq
          have hnan : ∀ k p, ops.toList[k]? = some p → i ∈ (kG ops.toList).getD k [] → listed.getD k true = false := by
            intro k p hp hik
            cases hb : listed.getD k true with
            | false => rfl
            | true =>
              have := uV hdir (fun y => listed.getD y true = true) hcl k p hp hb i hik
              rw [this] at h2; cases h2
          have hΨ : ∃ Ψ, Ψs[i]? = some Ψ := by
            have : i < Ψs.length := by rw [hlen]; exact (List.getElem?_eq_some_iff.1 hit).1
            exact ⟨_, List.getElem?_eq_getElem this⟩
          obtain ⟨Ψ, hΨ⟩ := hΨ
          have hok := hone i o Ψ hit hΨ
          rw [Nat.zero_add] at hok
          -- the frame holds what the operation looks at
          have hsub1 : ∀ s ∈ gF ops o, ∀ p, (cO ((ops.toList.take m).take i) (Ψs.take i) []).find? (fun p => Nat.beq p.1 s) = some p → ∃ v, a.tmps[s]? = some v ∧ p.2 v w' := by
            intro s hsl p hp
            rcases gam_find_someS _ _ _ s p (by simp [hlen]) hp with ⟨k, q, e1, e2, e3⟩ | e1
            · rw [List.getElem?_take] at e1 e3
              split at e1
              · rename_i hki
                rw [if_pos hki] at e3
                exact hv k q s p.2 e1 (hanl k ((hslot i o hit s hsl k q e1 e2).1 hki)) e2 e3
              · cases e1
            · simp at e1
          have hsub2 : ∀ s ∈ gF ops o, (cO ((ops.toList.take m).take i) (Ψs.take i) []).find? (fun p => Nat.beq p.1 s) = none → ∀ v, get E s = some v → a.tmps[s]? = some v := by
            intro s hsl hn v hg
            refine hE' s v hg (fun k q hk hlk hd => ?_)
            have h5 := hslot i o hit s hsl k q hk hd
            rcases Nat.lt_or_ge k i with hlt | hge
            · have h6 := (gam_find_noneS _ _ _ s (by simp [hlen]) hn).1 k q (by rw [List.getElem?_take, if_pos hlt]; exact hk)
              exact h6 hd
            · rcases Nat.lt_or_eq_of_le hge with hlt | heq
              · have h7 := hnan k q (hkt k q hk).1 (h5.2.1 hlt)
                rw [h7] at hlk; cases hlk
              · exact h5.2.2 heq.symm
          have hsz : i < listed.size := by rw [hs]; exact h1
          have hget : ∀ j, (listed.setIfInBounds i true).getD j true = true ↔ j = i ∨ listed.getD j true = true := by
            intro j
            by_cases e : i = j
            · subst e; simp [Array.getD_eq_getD_getElem?, hsz]
            · have : (listed.setIfInBounds i true).getD j true = listed.getD j true := by simp [Array.getD_eq_getD_getElem?, Array.getElem?_setIfInBounds_ne e]
              rw [this]; constructor
              · exact .inr
              · rintro (h | h)
                · exact absurd h.symm e
                · exact h
          have hcount : ((List.range ops.size).filter fun j => !(listed.setIfInBounds i true).getD j true).length < ((List.range ops.size).filter fun j => !listed.getD j true).length := by
            have e : (List.range ops.size).filter (fun j => !(listed.setIfInBounds i true).getD j true) = ((List.range ops.size).filter fun j => !listed.getD j true).filter (fun j => decide (j ≠ i)) := by
              rw [List.filter_filter]
              apply List.filter_congr
              intro j hj
              have := hget j
              by_cases e : j = i
              · subst e; have h5 := this.2 (.inl rfl); simp [h5]
              · cases hb : listed.getD j true with
                | true => have h5 := this.2 (.inr hb); simp [h5]
                | false =>
                  have h5 : (listed.setIfInBounds i true).getD j true = false := by
                    cases hc : (listed.setIfInBounds i true).getD j true with
                    | false => rfl
                    | true => rcases this.1 hc with h | h
                              · exact absurd h e
                              · rw [hb] at h; cases h
                  simp [h5, e]
            rw [e]
            have hmemi : i ∈ (List.range ops.size).filter fun j => !listed.getD j true := List.mem_filter.2 ⟨by simpa using h1, by simp [h2]⟩
            exact List.length_filter_lt_length_iff_exists.2 ⟨i, hmemi, by simp⟩
          -- what comes behind
          have hnext : ∀ a2 (w2 : World × G) v, a2.tmps = (a.put o.dst v).tmps → a2.defers = D → R' i w' w2 → (∀ d, o.dst = some d → ∃ u, a2.tmps[d]? = some u ∧ Ψ u w2) → (∀ (u : VPS G) (w1 : World × G), (∃ j : Nat, j ≠ i ∧ Ψs[j]? = some u ∧ (ops.toList.take m)[j]?.bind (·.dst) ≠ none) → ∀ x, u x w' → u x w2) →
              (∀ k pre post, st = some (k, pre, post) → (i = k → post w2)) → Inv (listed.setIfInBounds i true) a2 w2 := by
            intro a2 w2 v ht hd2 hR2 hΨ2 hmono hst2
            have htmp : ∀ s, o.dst ≠ some s → a2.tmps[s]? = a.tmps[s]? := by
              intro s hne
              rw [ht]
              cases hdd : o.dst with
              | none => rfl
              | some d => have : d ≠ s := fun e => hne (by rw [hdd, e]); simp [Act.put, Array.getElem?_setIfInBounds_ne this]
            refine ⟨by simp [hs], fun j hj hjn => ?_, fun j oj hoj hl j' hj' => ?_, ?_, hd2, hRt _ _ _ hRw (hRR _ _ _ hR2), fun j oj d Ψ' hoj hl hd' hΨ' => ?_, fun s u hg hn => ?_, fun k pre post hk => ?_, fun j hl => ?_⟩
            · cases hb : (listed.setIfInBounds i true).getD j true with
              | false => rfl
              | true => rcases (hget j).1 hb with h | h
                        · omega
                        · rw [htl j hj hjn] at h; cases h
            · rcases (hget j).1 hl with rfl | h
              · have : oj = o := by rw [hoi] at hoj; exact (Option.some.inj hoj).symm
                subst this
                exact (hget j').2 (.inr (hdl j' hj'))
              · exact (hget j').2 (.inr (hcl j oj hoj h j' hj'))
            · rw [ht]; cases o.dst <;> simp [Act.put, hN]
            · rcases (hget j).1 hl with rfl | h
              · have : oj = o := by rw [hit] at hoj; exact (Option.some.inj hoj).symm
                subst this
                rw [hΨ] at hΨ'; obtain rfl := Option.some.inj hΨ'
                exact hΨ2 d hd'
              · obtain ⟨x, hx1, hx2⟩ := hv j oj d Ψ' hoj h hd' hΨ'
                have hne : o.dst ≠ some d := fun hc => by
                  have := hdist i o j oj d hit hoj hc hd'
                  subst this; rw [h] at h2; cases h2
                exact ⟨x, by rw [htmp d hne]; exact hx1, hmono Ψ' w' ⟨j, fun e => (by subst e; rw [h] at h2; cases h2), hΨ', by rw [hoj]; simp [hd']⟩ x hx2⟩
            · have hne : o.dst ≠ some s := hn i o hit ((hget i).2 (.inl rfl))
              rw [htmp s hne]
              exact hE' s u hg (fun j oj hoj hl => hn j oj hoj ((hget j).2 (.inr hl)))
            · have c1 := hst2 k pre post hk
              obtain ⟨_, _, p1, p2, _⟩ := hst k pre post hk
              constructor
              · intro hl
                by_cases e : i = k
                · exact c1 e
                · rcases (hget k).1 hl with h | h
                  · exact absurd h.symm e
                  · exact p2 i _ _ e ((hst' k pre post hk).1 h) hR2
              · intro hl
                have e : i ≠ k := fun e => by rw [(hget k).2 (.inl e.symm)] at hl; cases hl
                refine p1 i _ _ e ((hst' k pre post hk).2 ?_) hR2
                cases hb : listed.getD k true with
                | false => rfl
                | true => rw [(hget k).2 (.inr hb)] at hl; cases hl
            · have hji : j ≠ i := fun e => by rw [(hget j).2 (.inl e)] at hl; cases hl
              refine hPr j i _ _ hji (hPrI j ?_) hR2
              cases hb : listed.getD j true with
              | false => rfl
              | true => rw [(hget j).2 (.inr hb)] at hl; cases hl
          have hmonoR : ∀ w2 : World × G, R w' w2 → ∀ (u : VPS G) (w1 : World × G), (∃ j : Nat, j ≠ i ∧ Ψs[j]? = some u ∧ (ops.toList.take m)[j]?.bind (·.dst) ≠ none) → ∀ x, u x w' → u x w2 := by
            intro w2 hR2 u w1 ⟨j, hji, hj, hjd⟩ x hx
            cases hoj : (ops.toList.take m)[j]? with
            | none => rw [hoj] at hjd; simp at hjd
            | some oj =>
              rw [hoj] at hjd
              have hj' := hone j oj u hoj hj
              unfold OneOkS at hj'
              cases hdj : oj.dst with
              | none => simp [hdj] at hjd
              | some d =>
                rw [hdj, Nat.zero_add] at hj'
                exact hj'.2.1 x w' w2 hx hR2
          unfold OneOkS at hok
          cases hdo : o.dst with
          | some d =>
            rw [hdo] at hok
            obtain ⟨hik, hmo, hob⟩ := hok
            have hsti : hC st (kG ops.toList) i w' := by
              unfold hC
              cases hst0 : st with
              | none => trivial
              | some x =>
                obtain ⟨k, pre, post⟩ := x
                refine ⟨fun hk => (hst' k pre post hst0).1 (hanl k hk), fun hk => (hst' k pre post hst0).2 ?_⟩
                have hkm := (hst k pre post hst0).1
                rcases Nat.lt_or_ge k ops.size with hlt | hge
                · exact hnan k ops[k] (by simp [hlt]) hk
                · exfalso
                  have : (kG ops.toList).getD k [] = [] := by
                    have hl : ∀ (l : List Oper) (acc : List (List Nat)), (aX l acc).length = acc.length + l.length := by
                      intro l; induction l with
                      | nil => intro acc; rfl
                      | cons o l ihl => intro acc; unfold aX; rw [ihl]; simp; omega
                    have := hl ops.toList []
                    unfold kG
                    rw [List.getD_eq_getElem?_getD, List.getElem?_eq_none (by rw [this]; simpa using hge)]; rfl
                  rw [this] at hk; cases hk
            obtain ⟨F, hbody, hhas⟩ := kR hN (gF ops o) [] (hob w' hRw hsti (hPrI i h2)) ⟨hN, by simp [get]⟩ hsub1 hsub2
            refine bP ho hbody hhas hD' fun a2 w2 E2 he2 ⟨hd2, g2, hR2, u, hu1, hu2⟩ ⟨v, hv2⟩ => ih _ a2 (w2, g2) ?_ (by omega)
            exact hnext a2 (w2, g2) v hv2 hd2 hR2 (fun d' hd' => by
              have : d' = d := by rw [hdo] at hd'; exact (Option.some.inj hd').symm
              subst this; exact ⟨u, he2.at_ d' u hu1, hu2⟩) (hmonoR (w2, g2) (hRR _ _ _ hR2)) (fun k pre post hk => fun e => absurd e (hik k pre post hk))
          | none =>
            rw [hdo] at hok
            obtain ⟨pre, post, hst0, hob⟩ := hok
            obtain ⟨F, hbody, hhas⟩ := kR hN (gF ops o) [] (hob w' hRw ((hst' i pre post hst0).2 h2)) ⟨hN, by simp [get]⟩ hsub1 hsub2
            refine bP ho hbody hhas hD' fun a2 w2 E2 he2 ⟨hd2, g2, hR2, hp2⟩ ⟨v, hv2⟩ => ih _ a2 (w2, g2) ?_ (by omega)
            exact hnext a2 (w2, g2) v hv2 hd2 hR2 (fun d' hd' => by rw [hdo] at hd'; cases hd') (hmonoR (w2, g2) (hRR _ _ _ hR2)) (fun k pre' post' hk => by
              rw [hst0] at hk
              obtain ⟨rfl, rfl, rfl⟩ : i = k ∧ pre = pre' ∧ post = post' := by simpa using hk
              exact fun _ => hp2)
  have hsz0 : ∀ i, i < ops.size → (Array.replicate ops.size false).getD i true = false := by intro i hi; simp [Array.getD_eq_getD_getElem?, hi]
  refine key ops.size _ a0 ({ w with drawn := w.drawn + 1 }, g0) ⟨by simp, fun i _ hi => hsz0 i hi, fun i o ho hl => ?_, ha0.size, hd0, hR0, fun i o d Ψ ho hl => ?_, fun s v hg _ => ha0.at_ s v hg, fun k pre post hk => ⟨fun hl => ?_, fun _ => (hst k pre post hk).2.1⟩, fun i _ => hPr0 i⟩ ?_
  · have : i < ops.size := by have := (List.getElem?_eq_some_iff.1 ho).1; simpa using this
    rw [hsz0 i this] at hl; cases hl
  · have : i < ops.size := by have := (List.getElem?_eq_some_iff.1 (hkt i o ho).1).1; simpa using this
    rw [hsz0 i this] at hl; cases hl
  · obtain ⟨_, _, _, _, o6, h6⟩ := hst k pre post hk
    rw [hsz0 k (Array.getElem?_eq_some_iff.1 h6).1] at hl; cases hl
  · exact Nat.le_trans (List.length_filter_le _ _) (by simp)
end draw
section draw
variable {P : Program} {r : Option Nat} {N : Nat} {ops : Array Oper} {D : List Deferred} {E : Env} {x0 : World × G} {R : World × G → World × G → Prop} {R' : Nat → World × G → World × G → Prop} {Pr : Nat → World × G → Prop} {st : Option (Nat × (World × G → Prop) × (World × G → Prop))}
variable {F : List (Nat × VPS G) → Prop} {rest : List Oper} {i : Nat} {Γ : List (Nat × VPS G)}
theorem drsS_nil (h : F Γ) : fI P r N ops D E x0 R R' Pr st F [] i Γ := h
theorem jK {k : Nat} {pre post : World × G → Prop} {d : Nat} {op : Op} {t : TypeId} {pos : String} {af : Array Edge} {g : Option (Nat × Bool)} (hi : Nat.beq i k = false) (Ψ : VPS G) (hm : ∀ v w w', Ψ v w → R w w' → Ψ v w')
  (ho : ∀ w, R x0 w → hC (some (k, pre, post)) (kG ops.toList) i w → Pr i w → bZ Γ E w (fun F => Ops P r N ops (fun D' E' w' => D' = D ∧ ∃ g', R' i w (w', g') ∧ ∃ v, get E' d = some v ∧ Ψ v (w', g')) [⟨some d, op, t, pos, af, g⟩] D F w.1) (gF ops ⟨some d, op, t, pos, af, g⟩) [])
  (h : fI P r N ops D E x0 R R' Pr (some (k, pre, post)) F rest (i + 1) ((d, Ψ) :: Γ)) : fI P r N ops D E x0 R R' Pr (some (k, pre, post)) F (⟨some d, op, t, pos, af, g⟩ :: rest) i Γ :=
 ⟨Ψ, ⟨fun k' _ _ h => (by cases h; exact Nat.ne_of_beq_eq_false hi), hm, ho⟩, h⟩
theorem drsS_eff {op : Op} {t : TypeId} {pos : String} {af : Array Edge} {g : Option (Nat × Bool)} {pre post : World × G → Prop} (hs : st = some (i, pre, post))
  (ho : ∀ w, R x0 w → pre w → bZ Γ E w (fun F => Ops P r N ops (fun D' E' w' => D' = D ∧ ∃ g', R' i w (w', g') ∧ post (w', g')) [⟨none, op, t, pos, af, g⟩] D F w.1) (gF ops ⟨none, op, t, pos, af, g⟩) [])
  (h : fI P r N ops D E x0 R R' Pr st F rest (i + 1) Γ) : fI P r N ops D E x0 R R' Pr st F (⟨none, op, t, pos, af, g⟩ :: rest) i Γ :=
 ⟨fun _ _ => True, ⟨pre, post, hs, ho⟩, h⟩
theorem gL {k : Nat} {pre post : World × G → Prop} {u : Value} {d : Nat} {op : Op} {t : TypeId} {pos : String} {af : Array Edge} {g : Option (Nat × Bool)} (hi : Nat.beq i k = false)
  (ho : ∀ w, R x0 w → hC (some (k, pre, post)) (kG ops.toList) i w → Pr i w → bZ Γ E w (fun F => Ops P r N ops (fun D' E' w' => D' = D ∧ ∃ g', R' i w (w', g') ∧ ∃ v, get E' d = some v ∧ v = u) [⟨some d, op, t, pos, af, g⟩] D F w.1) (gF ops ⟨some d, op, t, pos, af, g⟩) [])
  (h : fI P r N ops D E x0 R R' Pr (some (k, pre, post)) F rest (i + 1) ((d, ExS u) :: Γ)) : fI P r N ops D E x0 R R' Pr (some (k, pre, post)) F (⟨some d, op, t, pos, af, g⟩ :: rest) i Γ :=
 jK hi (ExS u) (fun _ _ _ h _ => h) ho h
theorem xF {w : World × G} {body : Env → Prop} {F : Env} (h : body F) : bZ Γ E w body [] F := h
theorem qJ {w : World × G} {body : Env → Prop} {F : Env} {s k : Nat} {ss : List Nat} {u : Value} (hf : Γ.find? (fun p => Nat.beq p.1 s) = some (k, ExS u)) (h : bZ Γ E w body ss ((s, u) :: F)) : bZ Γ E w body (s :: ss) F := by
 unfold bZ; rw [hf]; rintro v rfl; exact h
theorem gV {w : World × G} {body : Env → Prop} {F : Env} {s k : Nat} {ss : List Nat} {Ψ : VPS G} (hf : Γ.find? (fun p => Nat.beq p.1 s) = some (k, Ψ)) (h : ∀ v, Ψ v w → bZ Γ E w body ss ((s, v) :: F)) : bZ Γ E w body (s :: ss) F := by
 unfold bZ; rw [hf]; exact h
theorem qY {w : World × G} {body : Env → Prop} {F : Env} {s : Nat} {ss : List Nat} {u : Value} (hf : Γ.find? (fun p => Nat.beq p.1 s) = none) (hg : get E s = some u) (h : bZ Γ E w body ss ((s, u) :: F)) : bZ Γ E w body (s :: ss) F := by
 unfold bZ; rw [hf]; simp only; rw [hg]; exact h
end draw
abbrev Gb := Nat → Option Nat
def g0 : Gb := fun _ => none
def eW (g : Gb) (i b : Nat) : Gb := fun j => if j = i then some b else g j
def Mg (M : Nat → Prop) (g : Gb) : Nat → Prop := fun k => (∃ i, g i = some k) ∨ M k
def GOk (x : World × Gb) : Prop := (∀ i b, x.2 i = some b → b < x.1.heap.size) ∧ ∀ i j b, x.2 i = some b → x.2 j = some b → i = j
structure Rg (ka : Nat) (x y : World × Gb) : Prop where
 os : y.1.os = x.1.os
 tape : Tp x.1 y.1
 output : y.1.output = x.1.output
 size : x.1.heap.size ≤ y.1.heap.size
 keep : ∀ k, k < x.1.heap.size → x.2 ka ≠ some k → y.1.heap[k]? = x.1.heap[k]?
 gst : ∀ i, y.2 i = x.2 i ∨ (x.2 i = none ∧ ∃ b, y.2 i = some b ∧ x.1.heap.size ≤ b ∧ b < y.1.heap.size)
 ok : GOk x → GOk y
def Rh (az : List (Nat × Value × TypeId)) (ka k : Nat) (i : Nat) (x y : World × Gb) : Prop :=
 match az.find? (fun p => Nat.beq p.1 i) with
 | some p => x.2 i = none ∧ ∃ b, y.2 = eW x.2 i b ∧ New x.1 y.1 b (.cells p.2.1.cells p.2.2)
 | none => if i = k then Rg ka x y ∧ y.2 = x.2 else Bel x.1.heap.size x.1 y.1 ∧ y.2 = x.2
def PrA (i : Nat) (x : World × Gb) : Prop := x.2 i = none
theorem rg_trans {ka : Nat} : ∀ a b c, Rg ka a b → Rg ka b c → Rg ka a c := fun a b c h k =>
 ⟨k.os.trans h.os, k.tape.trans h.tape, k.output.trans h.output, Nat.le_trans h.size k.size, fun i hi hg => by
  have hb : b.2 ka ≠ some i := by
   rcases h.gst ka with e | ⟨_, q, e, h1, _⟩
   ·rw [e]; exact hg
   ·rw [e]; intro c; injection c with c; omega
  exact (k.keep i (Nat.lt_of_lt_of_le hi h.size) hb).trans (h.keep i hi hg), fun i => by
  rcases h.gst i with e | ⟨e0, q, e, h1, h2⟩
  ·rcases k.gst i with f | ⟨f0, q, f, k1, k2⟩
   ·exact .inl (f.trans e)
   ·exact .inr ⟨by rw [← e]; exact f0, q, f, Nat.le_trans h.size k1, k2⟩
  ·rcases k.gst i with f | ⟨f0, q', f, k1, k2⟩
   ·exact .inr ⟨e0, q, f.trans e, h1, Nat.lt_of_lt_of_le h2 k.size⟩
   ·rw [e] at f0; exact absurd f0 (by simp), fun h0 => k.ok (h.ok h0)⟩
theorem rg_below {ka : Nat} {x y : World × Gb} (h : Bel x.1.heap.size x.1 y.1) (e : y.2 = x.2) : Rg ka x y :=
 ⟨h.os, h.tape, h.output, h.size, fun k hk _ => h.block k hk, fun i => .inl (by rw [e]), fun o => by unfold GOk; rw [e]; exact ⟨fun i b hb => Nat.lt_of_lt_of_le (o.1 i b hb) h.size, o.2⟩⟩
theorem rg_new {ka i b : Nat} {x y : World × Gb} {o : Obj} (h0 : x.2 i = none) (e : y.2 = eW x.2 i b) (n : New x.1 y.1 b o) : Rg ka x y :=
 have h := n.below
 have hb : b < y.1.heap.size := (Array.getElem?_eq_some_iff.1 n.obj).1
 ⟨h.os, h.tape, h.output, h.size, fun k hk _ => h.block k hk, fun j => by
  rw [e]; unfold eW
  by_cases c : j = i
  ·subst c; exact .inr ⟨h0, b, by simp, by rw [n.at_]; exact Nat.le_refl _, hb⟩
  ·exact .inl (by simp [c]), fun o => by
  unfold GOk; rw [e]; unfold eW
  refine ⟨fun j q hq => ?_, fun j l q hj hl => ?_⟩
  ·by_cases c : j = i
   ·simp only [c, if_true] at hq; injection hq with hq; rw [← hq]; exact hb
   ·simp only [c, if_false] at hq; exact Nat.lt_of_lt_of_le (o.1 j q hq) h.size
  ·by_cases c : j = i <;> by_cases d : l = i
   ·rw [c, d]
   ·simp only [c, if_true] at hj; simp only [d, if_false] at hl; injection hj with hj; have := o.1 l q hl; have := n.at_; omega
   ·simp only [c, if_false] at hj; simp only [d, if_true] at hl; injection hl with hl; have := o.1 j q hj; have := n.at_; omega
   ·simp only [c, if_false] at hj; simp only [d, if_false] at hl; exact o.2 j l q hj hl⟩
theorem rh_rg {az : List (Nat × Value × TypeId)} {ka k : Nat} : ∀ i x y, Rh az ka k i x y → Rg ka x y := fun i x y h => by
 unfold Rh at h
 split at h
 ·obtain ⟨e0, q, e, n⟩ := h; exact rg_new e0 e n
 ·split at h
  ·exact h.1
  ·exact rg_below h.1 h.2
theorem prA0 {w : World} : ∀ i, PrA i (w, g0) := fun _ => rfl
theorem prA_mono {az : List (Nat × Value × TypeId)} {ka k : Nat} : ∀ i j x y, i ≠ j → PrA i x → Rh az ka k j x y → PrA i y := fun i j x y hij hp h => by
 unfold PrA Rh at *
 split at h
 ·obtain ⟨_, q, e, _⟩ := h; rw [e]; unfold eW; rw [if_neg hij]; exact hp
 ·split at h
  ·rw [h.2]; exact hp
  ·rw [h.2]; exact hp
theorem rg_drew {ka : Nat} (w : World) : Rg ka (w, g0) ({ w with drawn := w.drawn + 1 }, g0) := ⟨rfl, ⟨rfl, by first | exact Nat.le_refl _ | exact Nat.le_succ _⟩, rfl, Nat.le_refl _, fun _ _ _ => rfl, fun _ => .inl rfl, fun _ => ⟨fun _ _ h => (by cases h), fun _ _ _ h => (by cases h)⟩⟩
theorem gok0 (w : World) : GOk (w, g0) := ⟨fun _ _ h => (by cases h), fun _ _ _ h => (by cases h)⟩
theorem Rg.le {ka : Nat} {M : Nat → Prop} {x y : World × Gb} (h : Rg ka x y) : Le (fun _ => False) (Mg M x.2) x.1 (Mg M y.2) y.1 :=
 ⟨h.os, h.tape, h.output, h.size, fun _ _ c => c.elim, fun k hk hm => h.keep k hk (fun e => hm (.inl ⟨ka, e⟩)), fun k hk => by
  rcases hk with ⟨i, hk⟩ | hk
  ·rcases h.gst i with e | ⟨e0, q, e, h1, _⟩
   ·rw [e] at hk; exact .inl (.inl ⟨i, hk⟩)
   ·rw [e] at hk; injection hk with hk; subst hk; exact .inr h1
  ·exact .inl (.inr hk), fun ho k hk => by
  rcases hk with ⟨i, hk⟩ | hk
  ·rcases h.gst i with e | ⟨e0, q, e, h1, h2⟩
   ·rw [e] at hk; exact Nat.lt_of_lt_of_le (ho k (.inl ⟨i, hk⟩)) h.size
   ·rw [e] at hk; injection hk with hk; subst hk; exact h2
  ·exact Nat.lt_of_lt_of_le (ho k (.inr hk)) h.size⟩
theorem Rg.le0 {ka : Nat} {Fz M : Nat → Prop} {w : World} {y : World × Gb} (h : Rg ka (w, g0) y) : Le Fz M w (Mg M y.2) y.1 := by
 have l := h.le (M := M)
 refine ⟨l.os, l.tape, l.output, l.size, fun k hk _ => h.keep k hk (by simp [g0]), fun k hk _ => h.keep k hk (by simp [g0]), fun k hk => (l.chg k hk).imp (fun c => ?_) id, fun ho => l.ok fun k hk => ho k ?_⟩
 ·rcases c with ⟨i, c⟩ | c
  ·cases c
  ·exact c
 ·rcases hk with ⟨i, c⟩ | c
  ·cases c
  ·exact c
theorem Rg.ge {ka i b : Nat} {w : World} {y : World × Gb} (h : Rg ka (w, g0) y) (hb : y.2 i = some b) : w.heap.size ≤ b := by
 rcases h.gst i with e | ⟨_, q, e, h1, _⟩
 ·rw [e] at hb; cases hb
 ·rw [e] at hb; injection hb with hb; subst hb; exact h1
theorem Rg.ne {ka i j b c : Nat} {w : World} {y : World × Gb} (h : Rg ka (w, g0) y) (hb : y.2 i = some b) (hc : y.2 j = some c) (hij : Nat.beq i j = false) : b ≠ c := fun e => by
 subst e; exact Nat.ne_of_beq_eq_false hij ((h.ok (gok0 w)).2 i j _ hb hc)
theorem Blk.rg {ka : Nat} {w : World} {y : World × Gb} {b : Nat} {t : TypeId} {cs : List Value} (h : Blk w b t cs) (r : Rg ka (w, g0) y) : Blk y.1 b t cs := (r.keep b h.lt (by simp [g0])).trans h
theorem gM {az : List (Nat × Value × TypeId)} {ka k i : Nat} {w w' : World} {g : Gb} (ha : az.find? (fun p => Nat.beq p.1 i) = none) (hk : Nat.beq i k = false) (h : Bel w.heap.size w w') : Rh az ka k i (w, g) (w', g) := by
 unfold Rh; rw [ha]; show (if i = k then _ else _); rw [if_neg (Nat.ne_of_beq_eq_false hk)]; exact ⟨h, rfl⟩
theorem rh_new {az : List (Nat × Value × TypeId)} {ka k i j : Nat} {z : Value} {t : TypeId} {w w' : World} {g : Gb} {b : Nat} (ha : az.find? (fun p => Nat.beq p.1 i) = some (j, z, t)) (h0 : PrA i (w, g)) (h : New w w' b (.cells z.cells t)) : Rh az ka k i (w, g) (w', eW g i b) := by
 unfold Rh; rw [ha]; exact ⟨h0, b, rfl, h⟩
def Pb (i : Nat) : VPS Gb := fun v x => ∃ b, v = .pointer (some ⟨b, 0, none⟩) ∧ x.2 i = some b
theorem pb_mono {ka i : Nat} : ∀ v x y, Pb i v x → Rg ka x y → Pb i v y := fun v x y ⟨b, h1, h2⟩ r => ⟨b, h1, by
 rcases r.gst i with e | ⟨e0, _⟩
 ·rw [e]; exact h2
 ·rw [h2] at e0; cases e0⟩
theorem pb_new {g : Gb} {i b : Nat} {w : World} : Pb i (.pointer (some ⟨b, 0, none⟩)) (w, eW g i b) := ⟨b, rfl, by simp [eW]⟩
def Pz (ka i : Nat) (z : Value) (t : TypeId) : VPS Gb := fun v x => ∃ b, v = .pointer (some ⟨b, 0, none⟩) ∧ x.2 i = some b ∧ x.2 ka ≠ some b ∧ Blk x.1 b t z.cells.toList
theorem pz_mono {ka i : Nat} {z : Value} {t : TypeId} : ∀ v x y, Pz ka i z t v x → Rg ka x y → Pz ka i z t v y := fun v x y ⟨b, h1, h2, h3, h4⟩ r => ⟨b, h1, by
 rcases r.gst i with e | ⟨e0, _⟩
 ·rw [e]; exact h2
 ·rw [h2] at e0; exact absurd e0 (by simp), by
 rcases r.gst ka with e | ⟨_, q, e, k1, _⟩
 ·rw [e]; exact h3
 ·rw [e]; intro c; injection c with c; have := h4.lt; omega, (r.keep b h4.lt h3).trans h4⟩
theorem pz_new {ka i b : Nat} {z : Value} {t : TypeId} {w0 w w' : World} {g : Gb} (hk : Nat.beq ka i = false) (r : Rg ka (w0, g0) (w, g)) (n : New w w' b (.cells z.cells t)) : Pz ka i z t (.pointer (some ⟨b, 0, none⟩)) (w', eW g i b) :=
 ⟨b, rfl, by simp [eW], by
  have hne := Nat.ne_of_beq_eq_false hk
  show (if ka = i then some b else g ka) ≠ some b
  rw [if_neg hne]
  intro c; have h1 := (r.ok (gok0 w0)).1 ka b c; have h2 := n.at_; dsimp only at h1; omega, n.blk⟩
def fX (ka : Nat) (z : Value) (t : TypeId) : World × Gb → Prop := fun x => ∀ b, x.2 ka = some b → Blk x.1 b t z.cells.toList
def fQ (ka : Nat) (Q : Nat → World × Gb → Prop) : World × Gb → Prop := fun x => ∃ b, x.2 ka = some b ∧ Q b x
theorem preB0 {ka : Nat} {z : Value} {t : TypeId} {w : World} : fX ka z t (w, g0) := fun _ h => by cases h
theorem preB_mono {az : List (Nat × Value × TypeId)} {ka k j : Nat} {z : Value} {t : TypeId} (ha : az.find? (fun p => Nat.beq p.1 ka) = some (j, z, t)) : ∀ i x y, i ≠ k → fX ka z t x → Rh az ka k i x y → fX ka z t y := fun i x y hik h r b hb => by
 unfold Rh at r
 split at r
 ·rename_i p hp
  obtain ⟨e0, q, e, n⟩ := r
  by_cases c : ka = i
  ·subst c
   rw [ha] at hp; obtain rfl := Option.some.inj hp
   rw [e] at hb; simp only [eW, if_true] at hb; injection hb with hb; subst hb; exact n.blk
  ·rw [e] at hb; simp only [eW, if_neg c] at hb
   exact (h b hb).below n.below
 ·rw [if_neg hik] at r
  exact (h b (by rw [← r.2]; exact hb)).below r.1
theorem postB_mono {az : List (Nat × Value × TypeId)} {ka k : Nat} {Q : Nat → World × Gb → Prop} (hQ : ∀ b x y, x.2 ka = some b → Q b x → Bel x.1.heap.size x.1 y.1 → Rg ka x y → Q b y) : ∀ i x y, i ≠ k → fQ ka Q x → Rh az ka k i x y → fQ ka Q y := fun i x y hik ⟨b, h1, h2⟩ r0 => by
 have rg := rh_rg i x y r0
 have r := r0
 have hb : y.2 ka = some b := by
  rcases rg.gst ka with e | ⟨e0, _⟩
  ·rw [e]; exact h1
  ·rw [h1] at e0; cases e0
 unfold Rh at r
 split at r
 ·obtain ⟨e0, q, e, n⟩ := r
  exact ⟨b, hb, hQ _ _ _ h1 h2 n.below rg⟩
 ·rw [if_neg hik] at r
  exact ⟨b, hb, hQ _ _ _ h1 h2 r.1 rg⟩
theorem rh_chg {az : List (Nat × Value × TypeId)} {ka k : Nat} {w w' : World} {g : Gb} {b : Nat} (ha : az.find? (fun p => Nat.beq p.1 k) = none) (hb : g ka = some b) (h : Chg w w' b) : Rh az ka k k (w, g) (w', g) := by
 unfold Rh; rw [ha]; show (if k = k then _ else _); rw [if_pos rfl]
 refine ⟨⟨h.os, h.tape, h.output, by show w.heap.size ≤ w'.heap.size; rw [h.size]; exact Nat.le_refl _, fun k hk hne => h.other k (fun e => hne (by rw [e]; exact hb)), fun _ => .inl rfl, fun o => ?_⟩, rfl⟩
 unfold GOk at *; show (∀ i b, g i = some b → b < w'.heap.size) ∧ _
 rw [h.size]; exact o
theorem Mg.ins {M : Nat → Prop} {g : Gb} {i b : Nat} (h : g i = some b) : ∀ k, Ins b (Mg M g) k → Mg M g k := fun k hk => by
 rcases hk with rfl | hk
 ·exact .inl ⟨i, h⟩
 ·exact hk
theorem Mg.base {M : Nat → Prop} {g : Gb} : ∀ k, M k → Mg M g k := fun k hk => .inr hk
theorem ins_sub {M M' : Nat → Prop} {b : Nat} (hb : M' b) (h : ∀ k, M k → M' k) : ∀ k, Ins b M k → M' k := fun k hk => by
 rcases hk with rfl | hk
 ·exact hb
 ·exact h k hk
end Go.SL
namespace Go.SL
open Go.RowKit
section flds
variable {P : Program} {r : Option Nat} {N : Nat} {all : Array Oper} {K : Pd} {D : List Deferred} {E : Env} {w : World} {rest : List Oper}
theorem ops_fieldc {d : Nat} {x : Operand} {s t' : TypeId} {pos : String} {af : Array Edge} {f : Nat} {fields : Array Field} {fd : Field} {us : List Value} {v : Value} {bytes : Nat} {z : Value} (hd : Nat.blt d N = true)
  (hs : P.underlying s = some (.struct fields)) (hf : fields[f]? = some fd) (hz : Sz P fd.type 1 bytes z) (ha : cA P fd.type) (hx : ev E x = some (.agg us.toArray)) (hv : us[fd.offset]? = some v)
  (h : Ops P r N all K rest D ((d, v) :: E) w) : Ops P r N all K (⟨some d, .field s x f, t', pos, af, none⟩ :: rest) D E w := by
 have hlt := (List.getElem?_eq_some_iff.1 hv).1
 refine ops_fields hd hs hf hz hx rfl (by simp; omega) ?_ h
 have e1 := ha w
 simp [Instr.field, run_underlying hs, hf, part, Result.andThen, asAgg, uT hz, e1, hv]
 all_goals (try omega)
end flds
theorem mo_sub {v : Value} {M M' : Nat → Prop} (h : ∀ k, M k → M' k) : ∀ k, Mo v M k → Mo v M' k := fun k hk => hk.elim .inl (fun c => .inr (h k c))
theorem wp_cutb {P : Program} {r : Option Nat} {N : Nat} {Kn Kr : Pd} {Ke : Nat → Pd} {D : List Deferred} {E : Env} {w : World} {x y : Code} (J : World → Prop) (Ej : Env) (hE : Sub Ej E)
  (hx : Wp P r N x (fun D' E' w' => D' = D ∧ Sub Ej E' ∧ J w') Ke Kr D E w) (hy : ∀ w', J w' → Wp P r N y Kn Ke Kr D Ej w') : Wp P r N x (fun D E w => Wp P r N y Kn Ke Kr D E w) Ke Kr D E w :=
 wp_cut hx fun D' E' w' ⟨h1, h2, h3⟩ => by subst h1; exact wp_sub h2 (hy w' h3)
theorem cell_later {w wx : World} {b o : Nat} {v : Value} (hb : Bel w.heap.size w wx) (h : w.cell? ⟨b, o, none⟩ = some v) : wx.cell? ⟨b, o, none⟩ = some v :=
 (World.cell?_of_block (w := w) (a := ⟨b, o, none⟩) (hb.block b (cell_lt h))).trans h
theorem Rg.lz {ka : Nat} {M : Nat → Prop} {w : World} {y : World × Gb} (h : Rg ka (w, g0) y) (hM : OkM M w) : Le (fun _ => False) M w (Mg M y.2) y.1 := h.le0
theorem Rg.lq {ka : Nat} {Fz M0 M : Nat → Prop} {w0 w : World} {y : World × Gb} (h : Rg ka (w, g0) y) (L : Le Fz M0 w0 M w) : Le Fz M w (Mg M y.2) y.1 := h.le0
end Go.SL
set_option maxRecDepth 100000
namespace Go.Proofs.YtfkejnlohkgbgaaGreatDoor
open Go.SL Go.RowKit Go.Proofs Tryz
variable {M : Nat → Prop} {w : World}
structure Elems {α : Type} (R : aA α) (sz : Nat) (M : Nat → Prop) (w : World) (cs : List Value) (l : List α) : Prop where
  len : cs.length = l.length * sz
  at_ : ∀ (i : Nat) (a : α), l[i]? = some a → ∃ us : List Value, us.length = sz ∧ (∀ (q : Nat) (u : Value), us[q]? = some u → cs[i * sz + q]? = some u) ∧ R M w a us
theorem Elems.nil {α : Type} {R : aA α} {sz : Nat} : Elems R sz M w [] ([] : List α) := ⟨by simp, fun i a h => by simp at h⟩
theorem Elems.snoc {α : Type} {R : aA α} {sz : Nat} {cs us : List Value} {l : List α} {a : α} (h : Elems R sz M w cs l) (hu : us.length = sz) (hr : R M w a us) : Elems R sz M w (cs ++ us) (l ++ [a]) :=
  ⟨by simp [h.len, hu, Nat.add_mul], fun i b hb => by
    rcases Nat.lt_or_ge i l.length with hi | hi
    · rw [List.getElem?_append_left hi] at hb
      obtain ⟨vs, h1, h2, h3⟩ := h.at_ i b hb
      refine ⟨vs, h1, fun q u hq => ?_, h3⟩
      have := h2 q u hq
      rw [List.getElem?_append_left (List.getElem?_eq_some_iff.1 this).1]; exact this
    · rw [List.getElem?_append_right hi] at hb
      have h0 : i - l.length = 0 := by
        have := (List.getElem?_eq_some_iff.1 hb).1; simp at this; omega
      obtain rfl : i = l.length := by omega
      simp at hb; subst hb
      refine ⟨us, hu, fun q u hq => ?_, hr⟩
      rw [List.getElem?_append_right (by rw [h.len]; omega), h.len, Nat.add_sub_cancel_left]; exact hq⟩
theorem Elems.mono {α : Type} {R : aA α} {sz : Nat} {M M' : Nat → Prop} {w w' : World} {cs : List Value} {l : List α} (h : Elems R sz M w cs l) (hR : ∀ a us, R M w a us → R M' w' a us) : Elems R sz M' w' cs l :=
  ⟨h.len, fun i a ha => let ⟨us, h1, h2, h3⟩ := h.at_ i a ha; ⟨us, h1, h2, hR a us h3⟩⟩
theorem row_own {α : Type} {R : aA α} {sz : Nat} {e : TypeId} {v : Value} {cs : List Value} {l : List α} (h : w.ownsRow 0 e sz v l.length cs) (hm : ∀ k, v.ownBlock = some k → ¬ M k) (hl : l.length ≤ 9223372036854775807) (he : Elems R sz M w cs l) : RowOf R sz M w v l :=
  ⟨cs, uO h hm hl, he.at_⟩
theorem row_blk {α : Type} {R : aA α} {sz : Nat} {b : Nat} {t : TypeId} {cs : List Value} {l : List α} {c : Nat} (h : KBlk M w b t cs) (hc : l.length ≤ c) (hl : l.length ≤ 9223372036854775807) (he : Elems R sz M w cs l) : RowOf R sz M w (.slice (some ⟨b, 0, none⟩) l.length c) l :=
  ⟨cs, h.blk.slc h.not he.len (fun j u hj => hj) hl hc, he.at_⟩
def RQ (n : Nat) : aA Rat := fun M w p us => ∃ s a d, us = [.bool s, a, d] ∧ QC M w n p s a d
def RP (n : Nat) : aA P2 := fun M w p us => ∃ s a d t b e, us = [.bool s, a, d, .bool t, b, e] ∧ PQ M w n p s a d t b e
def RPc (n : Nat) : aA P2 := fun M w p us => ∃ s a d t b e, us = [.bool s, a, d, .bool t, b, e] ∧ PC M w n p s a d t b e
structure PL (M : Nat → Prop) (w : World) (n : Nat) (q : List P2) (v : Value) : Prop where
  row : RowOf (RP n) 6 M w v q
section
variable {Fz M M' T S : Nat → Prop} {w w' w0 : World} {n m k : Nat} {q : List P2} {v : Value}
theorem PL.mono (h : PL M w n q v) (l : Le Fz M w M' w') : PL M' w' n q v := ⟨h.row.mono l (fun _ _ ⟨a, b, c, d, e, f, e0, h0⟩ => ⟨a, b, c, d, e, f, e0, h0.mono l⟩)⟩
theorem PL.drift (h : PL M w n q v) (x : Drift T k w w') (ht : ∀ k, T k → M k) : PL M w' n q v := ⟨h.row.drift x ht (fun _ _ ⟨a, b, c, d, e, f, e0, h0⟩ => ⟨a, b, c, d, e, f, e0, h0.drift x ht⟩)⟩
theorem PL.less (h : PL M w n q v) (hm : ∀ k, M' k → M k) : PL M' w n q v := h.mono (Fz := fun _ => False) (Le.less hm)
theorem PL.one (h : PL M w n q v) : v.oneCell' = true ∧ True := by obtain ⟨_, ⟨_, _, ad, cap, rfl, _⟩, _⟩ := h.row; exact ⟨rfl, trivial⟩
theorem PL.cells (h : PL M w n q v) : v.cells.toList = [v] := by obtain ⟨_, ⟨_, _, ad, cap, rfl, _⟩, _⟩ := h.row; rfl
theorem PL.len (h : PL M w n q v) : q.length ≤ 9223372036854775807 := by obtain ⟨cs, h1, _⟩ := h.row; exact h1.len
end
structure PLc (M : Nat → Prop) (w : World) (n : Nat) (q : List P2) (v : Value) : Prop where
  row : RowOf (RPc n) 6 M w v q
section
variable {Fz M M' T S : Nat → Prop} {w w' w0 : World} {n m k : Nat} {q : List P2} {v : Value}
theorem PLc.mono (h : PLc M w n q v) (l : Le Fz M w M' w') : PLc M' w' n q v := ⟨h.row.mono l (fun _ _ ⟨a, b, c, d, e, f, e0, h0⟩ => ⟨a, b, c, d, e, f, e0, h0.mono l⟩)⟩
theorem PLc.drift (h : PLc M w n q v) (x : Drift T k w w') (ht : ∀ k, T k → M k) : PLc M w' n q v := ⟨h.row.drift x ht (fun _ _ ⟨a, b, c, d, e, f, e0, h0⟩ => ⟨a, b, c, d, e, f, e0, h0.drift x ht⟩)⟩
theorem PLc.less (h : PLc M w n q v) (hm : ∀ k, M' k → M k) : PLc M' w n q v := h.mono (Fz := fun _ => False) (Le.less hm)
theorem PLc.one (h : PLc M w n q v) : v.oneCell' = true ∧ True := by obtain ⟨_, ⟨_, _, ad, cap, rfl, _⟩, _⟩ := h.row; exact ⟨rfl, trivial⟩
theorem PLc.len (h : PLc M w n q v) : q.length ≤ 9223372036854775807 := by obtain ⟨cs, h1, _⟩ := h.row; exact h1.len
end
structure QL (M : Nat → Prop) (w : World) (n : Nat) (q : List Rat) (v : Value) : Prop where
  row : RowOf (RQ n) 3 M w v q
section
variable {Fz M M' T S : Nat → Prop} {w w' w0 : World} {n m k : Nat} {q : List Rat} {v : Value}
theorem QL.mono (h : QL M w n q v) (l : Le Fz M w M' w') : QL M' w' n q v := ⟨h.row.mono l (fun _ _ ⟨a, b, c, e0, h0⟩ => ⟨a, b, c, e0, h0.mono l⟩)⟩
theorem QL.one (h : QL M w n q v) : v.oneCell' = true ∧ True := by obtain ⟨_, ⟨_, _, ad, cap, rfl, _⟩, _⟩ := h.row; exact ⟨rfl, trivial⟩
end
def RZ (n : Nat) : aA Int := fun M w p us => ∃ s a, us = [.bool s, a] ∧ ZQ M w n p s a
structure ZL (M : Nat → Prop) (w : World) (n : Nat) (q : List Int) (v : Value) : Prop where
  row : RowOf (RZ n) 2 M w v q
section
variable {Fz M M' T S : Nat → Prop} {w w' w0 : World} {n m k : Nat} {q : List Int} {v : Value}
theorem ZL.mono (h : ZL M w n q v) (l : Le Fz M w M' w') : ZL M' w' n q v := ⟨h.row.mono l (fun _ _ ⟨a, b, e0, h0⟩ => ⟨a, b, e0, h0.mono l⟩)⟩
theorem ZL.one (h : ZL M w n q v) : v.oneCell' = true ∧ True := by obtain ⟨_, ⟨_, _, ad, cap, rfl, _⟩, _⟩ := h.row; exact ⟨rfl, trivial⟩
end
theorem zl2 {bb : Nat} {ty : TypeId} {n m : Nat} {p q : Int} {s t : Bool} {a b : Value} (hk : KBlk M w bb ty [.bool s, a, .bool t, b]) (h1 : ZQ M w n p s a) (h2 : ZQ M w m q t b) : ZL M w (max n m) [p, q] (.slice (some ⟨bb, 0, none⟩) 2 2) :=
  ⟨row_blk (l := [p, q]) hk (by simp) (by simp) ((Elems.nil.snoc (us := [.bool s, a]) rfl ⟨_, _, rfl, h1.up (by omega)⟩).snoc (us := [.bool t, b]) rfl ⟨_, _, rfl, h2.up (by omega)⟩)⟩
theorem elems_mono {Fz M M' : Nat → Prop} {w w' : World} {n : Nat} {cs : List Value} {l : List P2} (h : Elems (RPc n) 6 M w cs l) (k : Le Fz M w M' w') : Elems (RPc n) 6 M' w' cs l := Elems.mono h fun _ _ ⟨a, b, c, d, e, f, e0, h0⟩ => ⟨a, b, c, d, e, f, e0, h0.mono k⟩
structure EP (M : Nat → Prop) (w : World) (n : Nat) (cs : List Value) (l : List P2) : Prop where
  e : Elems (RPc n) 6 M w cs l
theorem EP.mono {Fz M M' : Nat → Prop} {w w' : World} {n : Nat} {cs : List Value} {l : List P2} (h : EP M w n cs l) (k : Le Fz M w M' w') : EP M' w' n cs l := ⟨elems_mono h.e k⟩
theorem EP.drift {M T : Nat → Prop} {w w' : World} {n k : Nat} {cs : List Value} {l : List P2} (h : EP M w n cs l) (x : Drift T k w w') (ht : ∀ k, T k → M k) : EP M w' n cs l := ⟨Elems.mono h.e fun _ _ ⟨a, b, c, d, e, f, e0, h0⟩ => ⟨a, b, c, d, e, f, e0, h0.drift x ht⟩⟩
theorem EP.snoc {n : Nat} {cs : List Value} {l : List P2} {p : P2} {s t : Bool} {a d b e : Value} (h : EP M w n cs l) (hp : PC M w n p s a d t b e) : EP M w n (cs ++ [.bool s, a, d, .bool t, b, e]) (l ++ [p]) := ⟨h.e.snoc rfl ⟨_, _, _, _, _, _, rfl, hp⟩⟩
theorem ones6 {s t : Bool} {a d b e : Value} (h1 : a.oneCell' = true) (h2 : d.oneCell' = true) (h3 : b.oneCell' = true) (h4 : e.oneCell' = true) : ∀ u ∈ [Value.bool s, a, d, .bool t, b, e], u.oneCell' = true := zU (fZ h1 (fZ h2 (zU (fZ h3 (fZ h4 xY)))))
theorem pl2 {bb : Nat} {ty : TypeId} {n m : Nat} {p q : P2} {s t s2 t2 : Bool} {a d b e a2 d2 b2 e2 : Value} (hk : KBlk M w bb ty [.bool s, a, d, .bool t, b, e, .bool s2, a2, d2, .bool t2, b2, e2]) (h1 : PQ M w n p s a d t b e) (h2 : PQ M w m q s2 a2 d2 t2 b2 e2) : PL M w (max n m) [p, q] (.slice (some ⟨bb, 0, none⟩) 2 2) :=
  ⟨row_blk (l := [p, q]) hk (by simp) (by simp) ((Elems.nil.snoc (us := [.bool s, a, d, .bool t, b, e]) rfl ⟨_, _, _, _, _, _, rfl, h1.up (by omega)⟩).snoc (us := [.bool s2, a2, d2, .bool t2, b2, e2]) rfl ⟨_, _, _, _, _, _, rfl, h2.up (by omega)⟩)⟩
theorem vnorm_c {l : List P2} {n0 : Nat} {xa0 : Value} (hT : Tab M w) (h0 : PL M w n0 l xa0) (hl0 : n0 ≤ 20000) (hlen : l.length ≤ 1000000) (hM : OkM M w) :
    CallsV prog 153 [xa0] w fun r w' => Bel w.heap.size w w' ∧ ∃ xar, r = xar ∧ PLc M w' (n0 + 1) (l) xar := by
 obtain ⟨oxa0, _⟩ := h0.one
 refine ci M func153 ntmps153 fun Fz hFz hF LL => ?_
 refine zH (zB (zF rfl rfl (zD (zH (zH (zB ?_))))))
 have Ow := own_nilk (w := w) 6 (e := 39)
 have Of : ∀ k, (Value.slice none 0 0).ownBlock = some k → ¬ Fz k := uF
 have Om : ∀ k, (Value.slice none 0 0).ownBlock = some k → ¬ M k := uF
 have He : EP (Mo (.slice none 0 0) M) w (n0 + 1) [] [] := ⟨Elems.nil⟩
 have Ln := Le.mo_nil (Fz := Fz) (M := M) (w := w)
 replace LL := LL.trans Ln
 replace hM := hM.mono Ln
 replace hF := hF.mono Ln
 replace hT := hT.mono Ln
 replace h0 := h0.mono Ln
 clear Ln
 refine zA rfl rfl (gQ rfl yu63 rfl h0.row (zA rfl rfl (zD (yC ?_))))
 refine xP (σ := Nat × Value) [(5, _), (6, _)] (fun s => [(2, s.2), (7, .int .i64 ((s.1 : Nat) : Int))]) (fun s w1 => Le Fz (Mo (.slice none 0 0) M) w (Mo s.2 M) w1 ∧ s.1 ≤ l.length ∧ (∀ k, s.2.ownBlock = some k → ¬ Fz k) ∧ (∀ k, s.2.ownBlock = some k → ¬ M k) ∧ ∃ cs, w1.ownsRow 0 39 6 s.2 s.1 cs ∧ EP (Mo s.2 M) w1 (n0 + 1) cs (l.take s.1)) (fun s => l.length - s.1) ((0, .slice none 0 0)) (zG rfl (zG rfl (zG rfl (zG rfl yE)))) ?_ (fun s w1 hJ => ?_)
 · dsimp only
   exact ⟨Le.refl _ _ _, by omega, Of, Om, [], Ow, by simpa using He⟩
 ·obtain ⟨k, q⟩ := s
  dsimp only at hJ ⊢
  obtain ⟨LR, hk, Of, Om, cs, Ow, He⟩ := hJ
  replace LL := LL.trans LR
  replace hM := hM.mono LR
  replace hF := hF.mono LR
  replace hT := hT.mono LR
  replace h0 := h0.mono LR
  refine zH (zB (jI rfl rfl rfl (zD (zH ?_))))
  refine yA rfl (fun hc0 => ?_) (fun hc0 => ?_)
  ·refine yH (zH (yC (zH (zB (jL (dflt := ((0, 0) : P2)) (k) rfl yu63 yR rfl rfl h0.row (by first | rfl | omega) (by first | omega | (simp; omega) | simp) (fun b9 o9 us9 hul9 hu9 hc9 => ?_))))))
   obtain ⟨xs9, xa9, xd9, xt9, xb9, xe9, rfl, hn9⟩ := hu9
   obtain ⟨oxa9, oxd9, oxb9, oxe9, _⟩ := hn9.one
   refine jF rfl yL yR rfl hc9 rfl (yI rfl yR (fun w2 b4 N4 => ?_))
   obtain ⟨hBw2, nF4, nM4, _, B4⟩ := nza hF hM N4
   have Lw2 := Le.of_new_in (Fz := Fz) (M := M) (v := q) N4
   replace Om := eL Ow N4 Om
   replace Ow := xK Ow hBw2
   replace LL := LL.trans Lw2
   replace LR := LR.trans Lw2
   replace hM := hM.mono Lw2
   replace hF := hF.mono Lw2
   replace hT := hT.mono Lw2
   replace h0 := h0.mono Lw2
   replace He := He.mono Lw2
   replace hn9 := hn9.mono Lw2
   refine zV rfl rfl yR B4 rfl rfl (zU (zU (zU (zU (zU (zU xY)))))) rfl (fun w3 Cw3 B4 => ?_)
   have Lw3 := Le.of_chg (M := (Mo q (Ins b4 M))) Cw3 (.inr zQ) nF4
   replace LL := LL.trans Lw3
   replace LR := LR.trans Lw3
   replace hM := hM.mono Lw3
   replace hF := hF.mono Lw3
   replace hT := hT.mono Lw3
   replace h0 := h0.mono Lw3
   replace He := He.mono Lw3
   replace hn9 := hn9.mono Lw3
   replace Ow := kM Ow Cw3 (fun h => Om _ h zQ)
   try simp only [List.set_cons_zero, List.set_cons_succ, List.take_succ_cons, List.take_zero, List.drop_succ_cons, List.drop_zero, List.drop_nil, List.cons_append, List.nil_append, List.append_nil] at B4
   refine zD ?_
   refine wd mixed 9 [2, 5, 6, 7, 11, 19] (by decide +kernel) ?_
   apply zN
   ·intro wq hR hst
    refine zP rfl rfl (zC ?_)
    have Lq := Le.of_below (Fz := Fz) (M := (Mo q (Ins b4 M))) hR
    replace He := He.mono Lq
    refine zA rfl rfl ?_
    exact on1 (zY _) rfl rfl
   apply zN
   ·intro wq hR hst
    refine zP rfl rfl (zC ?_)
    have Lq := Le.of_below (Fz := Fz) (M := (Mo q (Ins b4 M))) hR
    replace He := He.mono Lq
    refine zL 0 rfl yu39 rfl rfl yM rfl rfl ?_
    exact on1 (zY _) rfl rfl
   apply zN
   ·intro wq hR hst
    refine zK rfl (zC ?_)
    have Lq := Le.of_below (Fz := Fz) (M := (Mo q (Ins b4 M))) hR
    replace He := He.mono Lq
    replace B4 := B4.below hR
    refine zM rfl yV yM rfl B4 rfl rfl ?_
    exact on1 (zY _) rfl rfl
   refine zS (vRC (Mo q (Ins b4 M)) (n0 + 1) (((l.getD k (0, 0)).1))) kJ (fun wq hR hst => ?_) ?_
   ·refine zK rfl (zC ?_)
    have Lq := Le.of_below (Fz := Fz) (M := (Mo q (Ins b4 M))) hR
    replace hM := hM.mono Lq
    replace hT := hT.mono Lq
    replace He := He.mono Lq
    replace hn9 := hn9.mono Lq
    refine zI rfl (bo func126) rfl rfl ?_
    refine (rnrm_q hT hn9.x (by omega) hM).mono ?_
    rintro v14 w4 ⟨hB14, xs14, xa14, xd14, rfl, hn14⟩
    have Lw4 := Le.of_below (Fz := Fz) (M := (Mo q (Ins b4 M))) hB14
    replace He := He.mono Lw4
    exact on1 hB14 rfl ⟨_, _, _, rfl, hn14⟩
   apply zN
   ·intro wq hR hst
    refine zP rfl rfl (zC ?_)
    have Lq := Le.of_below (Fz := Fz) (M := (Mo q (Ins b4 M))) hR
    replace He := He.mono Lq
    refine zL 3 rfl yu39 rfl rfl yM rfl rfl ?_
    exact on1 (zY _) rfl rfl
   apply zN
   ·intro wq hR hst
    refine zK rfl (zC ?_)
    have Lq := Le.of_below (Fz := Fz) (M := (Mo q (Ins b4 M))) hR
    replace He := He.mono Lq
    replace B4 := B4.below hR
    refine zM rfl yV yM rfl B4 rfl rfl ?_
    exact on1 (zY _) rfl rfl
   refine zS (vRC (Mo q (Ins b4 M)) (n0 + 1) (((l.getD k (0, 0)).2))) kJ (fun wq hR hst => ?_) ?_
   ·refine zK rfl (zC ?_)
    have Lq := Le.of_below (Fz := Fz) (M := (Mo q (Ins b4 M))) hR
    replace hM := hM.mono Lq
    replace hT := hT.mono Lq
    replace He := He.mono Lq
    replace hn9 := hn9.mono Lq
    refine zI rfl (bo func126) rfl rfl ?_
    refine (rnrm_q hT hn9.y (by omega) hM).mono ?_
    rintro v17 w5 ⟨hB17, xs17, xa17, xd17, rfl, hn17⟩
    have Lw5 := Le.of_below (Fz := Fz) (M := (Mo q (Ins b4 M))) hB17
    replace He := He.mono Lw5
    exact on1 hB17 rfl ⟨_, _, _, rfl, hn17⟩
   refine zS (vPC (Mo q (Ins b4 M)) (max (n0 + 1) (n0 + 1)) ((((l.getD k (0, 0)).1), ((l.getD k (0, 0)).2)))) qZ (fun wq hR hst => ?_) ?_
   ·refine yD rfl (fun v14 hp14 => ?_)
    obtain ⟨xs14, xa14, xd14, rfl, hn14⟩ := hp14
    refine yD rfl (fun v17 hp17 => ?_)
    obtain ⟨xs17, xa17, xd17, rfl, hn17⟩ := hp17
    refine zC ?_
    have Lq := Le.of_below (Fz := Fz) (M := (Mo q (Ins b4 M))) hR
    replace He := He.mono Lq
    refine xM rfl eR rfl rfl (zX (rfl) (zX (rfl) xD)) rfl ?_
    exact on1 (zY _) rfl ⟨_, _, _, _, _, _, rfl, PC.mk2 hn14 hn17⟩
   refine dv (fun v w => ∃ bb xs19 xa19 xd19 xt19 xb19 xe19, v = .slice (some ⟨bb, 0, none⟩) 1 1 ∧ KBlk (Mo q (Ins b4 M)) w bb 39 [.bool xs19, xa19, xd19, .bool xt19, xb19, xe19] ∧ PC (Mo q (Ins b4 M)) w (max (n0 + 1) (n0 + 1)) ((((l.getD k (0, 0)).1), ((l.getD k (0, 0)).2))) xs19 xa19 xd19 xt19 xb19 xe19) (fun wq hR hst => ?_) ?_
   ·refine yD rfl (fun v18 hp18 => ?_)
    obtain ⟨xs18, xa18, xd18, xt18, xb18, xe18, rfl, hn18⟩ := hp18
    refine zC ?_
    have Lq := Le.of_below (Fz := Fz) (M := (Mo q (Ins b4 M))) hR
    replace hM := hM.mono Lq
    replace He := He.mono Lq
    refine xA rfl yu63 yR rfl rfl rfl rfl (zX rfl xD) rfl rfl rfl (fun w6 b19 N19 => ?_)
    have hBw6 := N19.below
    have nM19 := hM.new N19
    have B19 := N19.blk
    have Lw6 := Le.of_below (Fz := Fz) (M := (Mo q (Ins b4 M))) hBw6
    replace He := He.mono Lw6
    replace hn18 := hn18.mono Lw6
    have hB19 := hBw6
    exact on1 hB19 rfl ⟨b19, _, _, _, _, _, _, rfl, KBlk.mk B19 nM19, hn18⟩
   refine xI (fun wq4 hR4 hpost4 => ?_)
   refine zP rfl rfl (zP rfl rfl (zP rfl rfl (zP rfl rfl (zK rfl (yD rfl (fun v19 hp19 => ?_))))))
   obtain ⟨bb19, xs19, xa19, xd19, xt19, xb19, xe19, rfl, hk19, hn19⟩ := hp19; obtain ⟨oxa19, oxd19, oxb19, oxe19, _⟩ := hn19.one
   refine zC ?_
   simp only [jC, jB, jA, xZ]
   have Lwq4 := Le.of_below (Fz := Fz) (M := (Mo q (Ins b4 M))) hR4
   replace LL := LL.trans Lwq4
   replace LR := LR.trans Lwq4
   replace hM := hM.mono Lwq4
   replace hF := hF.mono Lwq4
   replace hT := hT.mono Lwq4
   replace h0 := h0.mono Lwq4
   replace He := He.mono Lwq4
   replace hn9 := hn9.mono Lwq4
   replace B4 := B4.below hR4
   replace Ow := xK Ow hR4
   refine ops_appendk rfl yu63 yR rfl rfl rfl rfl Ow (hk19.blk.slc hk19.not (sz := 6) (n := 1) rfl (fun _ _ h => h) (by omega) (Nat.le_refl _)) (ones6 (by assumption) (by assumption) (by assumption) (by assumption)) (by omega) (by omega) (fun v20 w7 A20 G20 S20 => ?_)
   have Lw7 := Le.of_grown (Fz := Fz) (M := (Ins b4 M)) G20 S20 A20 Of
   have Omo20 := Om
   replace Of := jY (w' := w7) Of hF S20
   replace Om := jX (w' := w7) Om (fun k hk => hM k (.inr hk)) S20
   replace LR := LR.trans Lw7
   replace He := He.mono Lw7
   replace hn19 := hn19.mono Lw7
   clear Ow; have Ow := A20
   replace He := He.snoc (hn19.up (by omega))
   refine zF rfl rfl (zD (zB (xC rfl rfl rfl (by omega) (zA rfl rfl (zD ?_)))))
   replace LR := LR.trans (Le.less (mo_sub (v := v20) (M := M) (fun k c => (zJ c))))
   replace Om := fun k hk c => Om k hk (zJ c)
   replace He := He.mono (Fz := fun _ => False) (Le.less (mo_sub (v := v20) (M := M) (fun k c => (zJ c))))
   refine ⟨rfl, (k + 1, v20), (zZ rfl (rfl) (zZ rfl (by rw [Int.natCast_add]; rfl) (zG rfl (zG rfl yE)))), ?_, ?_⟩
   dsimp only
   refine ⟨LR, by omega, Of, Om, _, Ow, ?_⟩
   rw [(qA (0, 0) (show k < l.length by omega)).1]
   exact He
   dsimp only
   omega
  ·refine xN (xO (zH (zB (zA rfl rfl (zF rfl rfl (zD (zW ?_)))))))
   refine lv1 ⟨rfl, trivial⟩ ?_
   obtain rfl : k = l.length := by omega
   rw [List.take_length] at He
   subst hFz
   exact ⟨LL.b, _, rfl, ⟨row_own Ow Om (by omega) (Elems.mono He.e fun _ _ ⟨a, b, c, d, e, f, e0, h0⟩ => ⟨a, b, c, d, e, f, e0, h0.less fun k c => .inr c⟩)⟩⟩
end Go.Proofs.YtfkejnlohkgbgaaGreatDoor
namespace Go.Proofs.YtfkejnlohkgbgaaGreatDoor
open Go Go.SL Go.RowKit Tryz
variable {Fz M M' : Nat → Prop} {w w' : World}
instance {n : Nat} {q : List P2} {v : Value} : Up Fz M M' w w' (PL M w n q v) (PL M' w' n q v) := ⟨fun l h => h.mono l⟩
instance {n : Nat} {q : List P2} {v : Value} : UpB w w' (PL M w n q v) (PL M w' n q v) := ⟨fun l h => h.mono (lb l)⟩
instance {n : Nat} {q : List P2} {v : Value} : Up Fz M M' w w' (PLc M w n q v) (PLc M' w' n q v) := ⟨fun l h => h.mono l⟩
instance {n : Nat} {q : List P2} {v : Value} : UpB w w' (PLc M w n q v) (PLc M w' n q v) := ⟨fun l h => h.mono (lb l)⟩
instance {n : Nat} {q : List Rat} {v : Value} : Up Fz M M' w w' (QL M w n q v) (QL M' w' n q v) := ⟨fun l h => h.mono l⟩
instance {n : Nat} {q : List Rat} {v : Value} : UpB w w' (QL M w n q v) (QL M w' n q v) := ⟨fun l h => h.mono (lb l)⟩
instance {n : Nat} {q : List Int} {v : Value} : Up Fz M M' w w' (ZL M w n q v) (ZL M' w' n q v) := ⟨fun l h => h.mono l⟩
instance {n : Nat} {q : List Int} {v : Value} : UpB w w' (ZL M w n q v) (ZL M w' n q v) := ⟨fun l h => h.mono (lb l)⟩
abbrev gPC (M : Nat → Prop) (n : Nat) (q : P2) : VPS Gb := fun v w => ∃ s a d t x e, v = .agg #[.bool s, a, d, .bool t, x, e] ∧ PC (Mg M w.2) w.1 n q s a d t x e
theorem gPC_m {M : Nat → Prop} {n : Nat} {q : P2} {k : Nat} : ∀ v (x y : World × Gb), gPC M n q v x → Rg k x y → gPC M n q v y := fun _ _ _ ⟨s, a, d, t, x, e, h0, h1⟩ r => ⟨s, a, d, t, x, e, h0, h1.mono r.le⟩
abbrev gRC (M : Nat → Prop) (n : Nat) (q : Rat) : VPS Gb := fun v w => ∃ s a d, v = .agg #[.bool s, a, d] ∧ RC (Mg M w.2) w.1 n q s a d
theorem gRC_m {M : Nat → Prop} {n : Nat} {q : Rat} {k : Nat} : ∀ v (x y : World × Gb), gRC M n q v x → Rg k x y → gRC M n q v y := fun _ _ _ ⟨s, a, d, h0, h1⟩ r => ⟨s, a, d, h0, h1.mono r.le⟩
abbrev gZC (M : Nat → Prop) (n : Nat) (q : Int) : VPS Gb := fun v w => ∃ s a, v = .agg #[.bool s, a] ∧ ZC (Mg M w.2) w.1 n q s a
theorem gZC_m {M : Nat → Prop} {n : Nat} {q : Int} {k : Nat} : ∀ v (x y : World × Gb), gZC M n q v x → Rg k x y → gZC M n q v y := fun _ _ _ ⟨s, a, h0, h1⟩ r => ⟨s, a, h0, h1.mono r.le⟩
abbrev gZQ (M : Nat → Prop) (n : Nat) (q : Int) : VPS Gb := fun v w => ∃ s a, v = .agg #[.bool s, a] ∧ ZQ (Mg M w.2) w.1 n q s a
theorem gZQ_m {M : Nat → Prop} {n : Nat} {q : Int} {k : Nat} : ∀ v (x y : World × Gb), gZQ M n q v x → Rg k x y → gZQ M n q v y := fun _ _ _ ⟨s, a, h0, h1⟩ r => ⟨s, a, h0, h1.mono r.le⟩
end Go.Proofs.YtfkejnlohkgbgaaGreatDoor
set_option maxRecDepth 100000
namespace Go.Proofs.YtfkejnlohkgbgaaGreatDoor
open Go.SL Go.RowKit Go.Proofs Tryz
variable {M : Nat → Prop} {w : World}
theorem mfrom_c {p : P2} {n0 : Nat} {xs0 xt0 : Bool} {xa0 xd0 xb0 xe0 : Value} {q : P2} {n1 : Nat} {xs1 xt1 : Bool} {xa1 xd1 xb1 xe1 : Value} (hT : Tab M w) (h0 : PQ M w n0 p xs0 xa0 xd0 xt0 xb0 xe0) (h1 : PQ M w n1 q xs1 xa1 xd1 xt1 xb1 xe1) (hl0 : n0 ≤ 20000) (hl1 : n1 ≤ 20000) (hM : OkM M w) :
    CallsV prog 83 [.agg #[.bool xs0, xa0, xd0, .bool xt0, xb0, xe0], .agg #[.bool xs1, xa1, xd1, .bool xt1, xb1, xe1]] w fun r w' => Bel w.heap.size w w' ∧ ∃ xsr xar xdr xtr xbr xer xsrb xarb xdrb xtrb xbrb xerb, r = .agg #[.bool xsr, xar, xdr, .bool xtr, xbr, xer, .bool xsrb, xarb, xdrb, .bool xtrb, xbrb, xerb] ∧ PQ M w' (max n0 n1) ((aG p q).1) xsr xar xdr xtr xbr xer ∧ PQ M w' (max n0 n1) ((aG p q).2) xsrb xarb xdrb xtrb xbrb xerb := by
 obtain ⟨oxa0, oxd0, oxb0, oxe0, _⟩ := h0.one
 obtain ⟨oxa1, oxd1, oxb1, oxe1, _⟩ := h1.one
 refine ci M func83 ntmps83 fun Fz hFz hF LL => ?_
 refine zH (zB (yG rfl rfl (fun w1 b2 N2 => ?_)))
 obtain ⟨_, nF2, nM2, Lw1, B2⟩ := nza hF hM N2
 obtain ⟨LL, hM, hF, hT, h0, h1⟩ := up6 Lw1 LL hM hF hT h0 h1
 refine yG rfl rfl (fun w2 b3 N3 => ?_)
 obtain ⟨hBw2, nF3, nM3, Lw2, B3⟩ := nza hF hM N3
 obtain ⟨B2, ne2_3⟩ := bn B2 N3
 obtain ⟨LL, hM, hF, hT, h0, h1⟩ := up6 Lw2 LL hM hF hT h0 h1
 refine yI rfl uH (fun w3 b4 N4 => ?_)
 obtain ⟨hBw3, nF4, nM4, Lw3, B4⟩ := nza hF hM N4
 obtain ⟨B2, ne2_4⟩ := bn B2 N4
 obtain ⟨B3, ne3_4⟩ := bn B3 N4
 obtain ⟨LL, hM, hT, h0, h1⟩ := up5 Lw3 LL hM hT h0 h1
 refine zD (zH (zH (zB (zM rfl yL yR rfl B2 rfl rfl (zM rfl yL yR rfl B3 rfl rfl (zI rfl (bo func101) rfl rfl ?_))))))
 refine (cL hT h0 h1 (by omega) (by omega) hM).mono ?_
 rintro v7 w4 ⟨hB7, rfl⟩
 obtain ⟨LL, h0, h1, B2, B3, B4⟩ := ub6 hB7 LL h0 h1 B2 B3 B4
 refine uD rfl rfl rfl (zD ?_)
 refine yA rfl (fun hc0 => ?_) (fun hc0 => ?_)
 ·have hfr : aG p q = (q, p) := if_pos hc0
  refine zB (zM rfl yL yR rfl B3 rfl rfl (zM rfl yL yR rfl B2 rfl rfl (zV rfl rfl yR B2 rfl rfl (zU (zU (zU (zU (zU (zU xY)))))) rfl (fun w5 Cw5 B2 => ?_))))
  obtain ⟨LL, h0, h1⟩ := up3 (lc LL Cw5 (.inr (.inr zQ)) nF2) LL h0 h1
  replace B3 := B3.other Cw5 ne2_3.symm
  replace B4 := B4.other Cw5 ne2_4.symm
  refine zV rfl rfl yR B3 rfl rfl (zU (zU (zU (zU (zU (zU xY)))))) rfl (fun w6 Cw6 B3 => ?_)
  obtain ⟨LL, h0, h1⟩ := up3 (lc LL Cw6 (.inr zQ) nF3) LL h0 h1
  replace B2 := B2.other Cw6 ne2_3
  replace B4 := B4.other Cw6 ne3_4.symm
  refine zD (zH (zB (zM rfl yL yR rfl B2 rfl rfl (zM rfl yL yR rfl B3 rfl rfl (xM rfl plc110 rfl rfl (zX (rfl) (zX (rfl) xD)) rfl (zV rfl rfl uH B4 rfl rfl (zU (zU (zU (zU (zU (zU (zU (zU (zU (zU (zU (zU xY)))))))))))) rfl (fun w7 Cw7 B4 => ?_)))))))
  obtain ⟨LL, h0, h1⟩ := up3 (lc LL Cw7 zQ nF4) LL h0 h1
  refine zD (zW ?_)
  refine lv1 ⟨⟨_, rfl, yQ uG uH B4 rfl rfl⟩, trivial⟩ ?_
  rw [hfr]
  subst hFz
  exact ⟨LL.b, _, _, _, _, _, _, _, _, _, _, _, _, rfl, (h1.less (fun k c => zJ (zJ (zJ c)))).up (by omega), (h0.less (fun k c => zJ (zJ (zJ c)))).up (by omega)⟩
 ·have hfr : aG p q = (p, q) := if_neg hc0
  refine yH (zH (zB (zM rfl yL yR rfl B2 rfl rfl (zM rfl yL yR rfl B3 rfl rfl (xM rfl plc110 rfl rfl (zX (rfl) (zX (rfl) xD)) rfl (zV rfl rfl uH B4 rfl rfl (zU (zU (zU (zU (zU (zU (zU (zU (zU (zU (zU (zU xY)))))))))))) rfl (fun w8 Cw8 B4 => ?_)))))))
  obtain ⟨LL, h0, h1⟩ := up3 (lc LL Cw8 zQ nF4) LL h0 h1
  refine zD (zW ?_)
  refine lv1 ⟨⟨_, rfl, yQ uG uH B4 rfl rfl⟩, trivial⟩ ?_
  rw [hfr]
  subst hFz
  exact ⟨LL.b, _, _, _, _, _, _, _, _, _, _, _, _, rfl, (h0.less (fun k c => zJ (zJ (zJ c)))).up (by omega), (h1.less (fun k c => zJ (zJ (zJ c)))).up (by omega)⟩
theorem malong_c {sa : P2} {n0 : Nat} {xs0 xt0 : Bool} {xa0 xd0 xb0 xe0 : Value} {sb : P2} {n0b : Nat} {xs0b xt0b : Bool} {xa0b xd0b xb0b xe0b : Value} (hT : Tab M w) (h0 : PQ M w n0 sa xs0 xa0 xd0 xt0 xb0 xe0) (h0b : PQ M w n0b sb xs0b xa0b xd0b xt0b xb0b xe0b) (hl0 : n0 ≤ 20000) (hl0b : n0b ≤ 20000) (hM : OkM M w) :
    CallsV prog 265 [.agg #[.bool xs0, xa0, xd0, .bool xt0, xb0, xe0, .bool xs0b, xa0b, xd0b, .bool xt0b, xb0b, xe0b]] w fun r w' => Bel w.heap.size w w' ∧ ∃ xsr xar xdr xtr xbr xer, r = .agg #[.bool xsr, xar, xdr, .bool xtr, xbr, xer] ∧ PC M w' (n0 + n0b + 3) (jW sb sa) xsr xar xdr xtr xbr xer := by
 obtain ⟨oxa0, oxd0, oxb0, oxe0, _⟩ := h0.one
 obtain ⟨oxa0b, oxd0b, oxb0b, oxe0b, _⟩ := h0b.one
 refine ci M func265 ntmps265 fun Fz hFz hF LL => ?_
 refine zH (zB (yG rfl rfl (fun w1 b1 N1 => ?_)))
 obtain ⟨_, nF1, nM1, Lw1, B1⟩ := nza hF hM N1
 obtain ⟨LL, hM, hF, hT, h0, h0b⟩ := up6 Lw1 LL hM hF hT h0 h0b
 refine yI rfl yR (fun w2 b2 N2 => ?_)
 obtain ⟨hBw2, nF2, nM2, Lw2, B2⟩ := nza hF hM N2
 obtain ⟨B1, ne1_2⟩ := bn B1 N2
 obtain ⟨LL, hM, hT, h0, h0b⟩ := up5 Lw2 LL hM hT h0 h0b
 refine zD (zH (zB (zL 6 rfl yu110 rfl rfl yR rfl rfl (zM rfl yL yR rfl B1 rfl rfl (zL 0 rfl yu110 rfl rfl yR rfl rfl (zM rfl yL yR rfl B1 rfl rfl (zI rfl (bo func93) rfl rfl ?_)))))))
 refine (eG hT h0b h0 (by omega) (by omega) hM).mono ?_
 rintro v7 w3 ⟨hB7, xs7, xa7, xd7, xt7, xb7, xe7, rfl, hn7⟩
 obtain ⟨LL, B2⟩ := ub2 hB7 LL B2
 obtain ⟨oxa7, oxd7, oxb7, oxe7, _⟩ := hn7.one
 refine zV rfl rfl yR B2 rfl rfl (zU (zU (zU (zU (zU (zU xY)))))) rfl (fun w4 Cw4 B2 => ?_)
 obtain ⟨LL, hn7⟩ := up2 (lc LL Cw4 zQ nF2) LL hn7
 refine zD (zW ?_)
 refine lv1 ⟨⟨_, rfl, yQ yL yR B2 rfl rfl⟩, trivial⟩ ?_
 subst hFz
 exact ⟨LL.b, _, _, _, _, _, _, rfl, (hn7.less (fun k c => zJ (zJ c))).up (by omega)⟩
theorem mside_c {sa : P2} {n0 : Nat} {xs0 xt0 : Bool} {xa0 xd0 xb0 xe0 : Value} {sb : P2} {n0b : Nat} {xs0b xt0b : Bool} {xa0b xd0b xb0b xe0b : Value} {p : P2} {n1 : Nat} {xs1 xt1 : Bool} {xa1 xd1 xb1 xe1 : Value} (hT : Tab M w) (h0 : PQ M w n0 sa xs0 xa0 xd0 xt0 xb0 xe0) (h0b : PQ M w n0b sb xs0b xa0b xd0b xt0b xb0b xe0b) (h1 : PQ M w n1 p xs1 xa1 xd1 xt1 xb1 xe1) (hl0 : n0 ≤ 4000) (hl0b : n0b ≤ 4000) (hl1 : n1 ≤ 4000) (hM : OkM M w) :
    CallsV prog 204 [.agg #[.bool xs0, xa0, xd0, .bool xt0, xb0, xe0, .bool xs0b, xa0b, xd0b, .bool xt0b, xb0b, xe0b], .agg #[.bool xs1, xa1, xd1, .bool xt1, xb1, xe1]] w fun r w' => Bel w.heap.size w w' ∧ r = .int .i64 (eI (eP (sa, sb) p)) := by
 refine ci M func204 ntmps204 fun Fz hFz hF LL => ?_
 refine zH (zB (yG rfl rfl (fun w1 b2 N2 => ?_)))
 obtain ⟨_, nF2, nM2, Lw1, B2⟩ := nza hF hM N2
 obtain ⟨LL, hM, hF, hT, h0, h0b, h1⟩ := up7 Lw1 LL hM hF hT h0 h0b h1
 refine yG rfl rfl (fun w2 b3 N3 => ?_)
 obtain ⟨hBw2, nF3, nM3, Lw2, B3⟩ := nza hF hM N3
 obtain ⟨B2, ne2_3⟩ := bn B2 N3
 obtain ⟨LL, hM, hT, h0, h0b, h1⟩ := up6 Lw2 LL hM hT h0 h0b h1
 refine zF rfl rfl (zD (zH ?_))
 refine wd mixed 5 [4, 6, 7, 9] (by decide +kernel) ?_
 refine zN (fun _ hR _ => zP rfl rfl (zC (zM rfl uG uH rfl (B2.below hR) rfl rfl (on0 rfl)))) ?_
 refine zS (vPC (Ins b3 (Ins b2 M)) (n0 + n0b + 3) (jW sb sa)) qZ (fun wq hR hst => ?_) ?_
 ·refine zK rfl (zC ?_)
  obtain ⟨hM, hT, h0, h0b⟩ := ub4 hR hM hT h0 h0b
  refine zI rfl (bo func265) rfl rfl ?_
  refine (malong_c hT h0 h0b (by omega) (by omega) hM).mono ?_
  rintro v6 w3 ⟨hB6, xs6, xa6, xd6, xt6, xb6, xe6, rfl, hn6⟩
  exact on1 hB6 rfl ⟨_, _, _, _, _, _, rfl, hn6⟩
 refine zN (fun _ hR _ => zP rfl rfl (zC (zM rfl yL yR rfl (B3.below hR) rfl rfl (on0 rfl)))) ?_
 refine zN (fun _ _ _ => zP rfl rfl (zC (zL 0 rfl yu110 rfl rfl yR rfl rfl (on0 rfl)))) ?_
 refine zN (fun _ hR _ => zK rfl (zC (zM rfl yL yR rfl (B2.below hR) rfl rfl (on0 rfl)))) ?_
 refine xI (fun wq1 hR1 hpost1 => ?_)
 refine zP rfl rfl (yD rfl (fun v6 hp6 => ?_))
 obtain ⟨xs6, xa6, xd6, xt6, xb6, xe6, rfl, hn6⟩ := hp6
 refine zK rfl (zK rfl (zC ?_))
 simp only [jC, jB, jA, xZ]
 obtain ⟨LL, hM, hT, h0, h1⟩ := ub5 hR1 LL hM hT h0 h1
 refine zI rfl (bo func93) rfl rfl ?_
 refine (eG hT h1 h0 (by omega) (by omega) hM).mono ?_
 rintro v10 w4 ⟨hB10, xs10, xa10, xd10, xt10, xb10, xe10, rfl, hn10⟩
 obtain ⟨LL, hM, hT, hn6⟩ := ub4 hB10 LL hM hT hn6
 refine zI rfl (bo func95) rfl rfl ?_
 refine (vcross_c hT hn6.gen hn10.gen (by omega) (by omega) hM).mono ?_
 rintro v11 w5 ⟨hB11, xs11, xa11, xd11, rfl, hn11⟩
 obtain ⟨LL, hM, hT⟩ := ub3 hB11 LL hM hT
 refine zI rfl (bo func138) rfl rfl ?_
 refine (rsgn_q hT hn11.gen (by omega) hM).mono ?_
 rintro v12 w6 ⟨hB12, rfl⟩
 replace LL := ub1 hB12 LL
 refine zF rfl rfl (zD (zW ?_))
 refine lv1 ⟨rfl, trivial⟩ ?_
 subst hFz
 exact ⟨LL.b, rfl⟩
theorem mspans_c {sa : P2} {n0 : Nat} {xs0 xt0 : Bool} {xa0 xd0 xb0 xe0 : Value} {sb : P2} {n0b : Nat} {xs0b xt0b : Bool} {xa0b xd0b xb0b xe0b : Value} {p : P2} {n1 : Nat} {xs1 xt1 : Bool} {xa1 xd1 xb1 xe1 : Value} (hT : Tab M w) (h0 : PQ M w n0 sa xs0 xa0 xd0 xt0 xb0 xe0) (h0b : PQ M w n0b sb xs0b xa0b xd0b xt0b xb0b xe0b) (h1 : PQ M w n1 p xs1 xa1 xd1 xt1 xb1 xe1) (hl0 : n0 ≤ 20000) (hl0b : n0b ≤ 20000) (hl1 : n1 ≤ 20000) (hM : OkM M w) :
    CallsV prog 154 [.agg #[.bool xs0, xa0, xd0, .bool xt0, xb0, xe0, .bool xs0b, xa0b, xd0b, .bool xt0b, xb0b, xe0b], .agg #[.bool xs1, xa1, xd1, .bool xt1, xb1, xe1]] w fun r w' => Bel w.heap.size w w' ∧ r = .bool (decide (uS (sa, sb) p)) := by
 refine ci M func154 ntmps154 fun Fz hFz hF LL => ?_
 refine zH (zB (yG rfl rfl (fun w1 b2 N2 => ?_)))
 obtain ⟨_, nF2, nM2, Lw1, B2⟩ := nza hF hM N2
 obtain ⟨LL, hM, hF, hT, h0, h0b, h1⟩ := up7 Lw1 LL hM hF hT h0 h0b h1
 refine yG rfl rfl (fun w2 b3 N3 => ?_)
 obtain ⟨hBw2, nF3, nM3, Lw2, B3⟩ := nza hF hM N3
 obtain ⟨B2, ne2_3⟩ := bn B2 N3
 obtain ⟨LL, hM, hT, h0, h0b, h1⟩ := up6 Lw2 LL hM hT h0 h0b h1
 refine zF rfl rfl (zD (zH (zB (zL 0 rfl yu110 rfl rfl yR rfl rfl (zM rfl yL yR rfl B2 rfl rfl (zM rfl yL yR rfl B3 rfl rfl (zI rfl (bo func101) rfl rfl ?_)))))))
 refine (cL hT h0 h1 (by omega) (by omega) hM).mono ?_
 rintro v8 w3 ⟨hB8, rfl⟩
 obtain ⟨LL, hM, hT, h0b, h1, B2, B3⟩ := ub7 hB8 LL hM hT h0b h1 B2 B3
 refine ops_le rfl rfl rfl (zA rfl rfl (gE (d := 10) rfl (fun hg1_5 => ?_) (fun hg1_5 => ?_)))
 ·have hle1 : leP sa p := eB.1 hg1_5
  refine zO rfl rfl (zM rfl yL yR rfl B3 rfl rfl (zO rfl rfl (zL 6 rfl yu110 rfl rfl yR rfl rfl (zO rfl rfl (zM rfl yL yR rfl B2 rfl rfl (zO rfl rfl (zI rfl (bo func101) rfl rfl ?_)))))))
  refine (cL hT h1 h0b (by omega) (by omega) hM).mono ?_
  rintro v14 w4 ⟨hB14, rfl⟩
  replace LL := ub1 hB14 LL
  refine zO rfl rfl (ops_le rfl rfl rfl (yW rfl rfl rfl (zF rfl rfl (zD (zW ?_)))))
  refine lv1 ⟨rfl, trivial⟩ ?_
  subst hFz
  exact ⟨LL.b, by congr 1; rw [decide_eq_decide]; exact ⟨fun c => ⟨hle1, eB.1 c⟩, fun c => eB.2 c.2⟩⟩
 ·have hle1 : ¬ leP sa p := fun c => hg1_5 (eB.2 c)
  refine zR rfl rfl rfl rfl (zR rfl rfl rfl rfl (zR rfl rfl rfl rfl (zR rfl rfl rfl rfl (zR rfl rfl rfl rfl (yW rfl rfl rfl (zF rfl rfl (zD (zW ?_))))))))
  refine lv1 ⟨rfl, trivial⟩ ?_
  subst hFz
  exact ⟨LL.b, by congr 1; exact (decide_eq_false fun c => hle1 c.1).symm⟩
theorem mhas_c {sa : P2} {n0 : Nat} {xs0 xt0 : Bool} {xa0 xd0 xb0 xe0 : Value} {sb : P2} {n0b : Nat} {xs0b xt0b : Bool} {xa0b xd0b xb0b xe0b : Value} {p : P2} {n1 : Nat} {xs1 xt1 : Bool} {xa1 xd1 xb1 xe1 : Value} (hT : Tab M w) (h0 : PQ M w n0 sa xs0 xa0 xd0 xt0 xb0 xe0) (h0b : PQ M w n0b sb xs0b xa0b xd0b xt0b xb0b xe0b) (h1 : PQ M w n1 p xs1 xa1 xd1 xt1 xb1 xe1) (hl0 : n0 ≤ 4000) (hl0b : n0b ≤ 4000) (hl1 : n1 ≤ 4000) (hM : OkM M w) :
    CallsV prog 152 [.agg #[.bool xs0, xa0, xd0, .bool xt0, xb0, xe0, .bool xs0b, xa0b, xd0b, .bool xt0b, xb0b, xe0b], .agg #[.bool xs1, xa1, xd1, .bool xt1, xb1, xe1]] w fun r w' => Bel w.heap.size w w' ∧ r = .bool (decide (qL (sa, sb) p)) := by
 refine ci M func152 ntmps152 fun Fz hFz hF LL => ?_
 refine zH (zB (yG rfl rfl (fun w1 b2 N2 => ?_)))
 obtain ⟨_, nF2, nM2, Lw1, B2⟩ := nza hF hM N2
 obtain ⟨LL, hM, hF, hT, h0, h0b, h1⟩ := up7 Lw1 LL hM hF hT h0 h0b h1
 refine yG rfl rfl (fun w2 b3 N3 => ?_)
 obtain ⟨hBw2, nF3, nM3, Lw2, B3⟩ := nza hF hM N3
 obtain ⟨B2, ne2_3⟩ := bn B2 N3
 obtain ⟨LL, hM, hT, h0, h0b, h1⟩ := up6 Lw2 LL hM hT h0 h0b h1
 refine zF rfl rfl (zD (zH (zB (zM rfl uG uH rfl B2 rfl rfl (zM rfl yL yR rfl B3 rfl rfl (zI rfl (bo func154) rfl rfl ?_))))))
 refine (mspans_c hT h0 h0b h1 (by omega) (by omega) (by omega) hM).mono ?_
 rintro v7 w3 ⟨hB7, rfl⟩
 obtain ⟨LL, hM, hT, h0, h0b, h1, B2, B3⟩ := ub8 hB7 LL hM hT h0 h0b h1 B2 B3
 refine zA rfl rfl (gE (d := 8) rfl (fun hg1_3 => ?_) (fun hg1_3 => ?_))
 ·refine zO rfl rfl (zM rfl uG uH rfl B2 rfl rfl (zO rfl rfl (zM rfl yL yR rfl B3 rfl rfl (zO rfl rfl (zI rfl (bo func204) rfl rfl ?_)))))
  refine (mside_c hT h0 h0b h1 (by omega) (by omega) (by omega) hM).mono ?_
  rintro v11 w4 ⟨hB11, rfl⟩
  replace LL := ub1 hB11 LL
  refine zO rfl rfl (gN rfl rfl rfl (yW rfl rfl rfl (zF rfl rfl (zD (zW ?_)))))
  refine lv1 ⟨rfl, trivial⟩ ?_
  subst hFz
  exact ⟨LL.b, by congr 1; rw [decide_eq_decide]; exact ⟨fun c => ⟨hg1_3, sgnR_zero.1 c⟩, fun c => sgnR_zero.2 c.2⟩⟩
 ·refine zR rfl rfl rfl rfl (zR rfl rfl rfl rfl (zR rfl rfl rfl rfl (zR rfl rfl rfl rfl (yW rfl rfl rfl (zF rfl rfl (zD (zW ?_)))))))
  refine lv1 ⟨rfl, trivial⟩ ?_
  subst hFz
  exact ⟨LL.b, by congr 1; exact (decide_eq_false fun c => hg1_3 c.1).symm⟩
theorem mnone_c (hM : OkM M w) :
    CallsV prog 151 [] w fun r w' => Bel w.heap.size w w' ∧ ∃ xsr xar xdr xtr xbr xer xsrb xarb xdrb xtrb xbrb xerb, r = .agg #[.int .i8 0, .bool xsr, xar, xdr, .bool xtr, xbr, xer, .bool xsrb, xarb, xdrb, .bool xtrb, xbrb, xerb] ∧ PC M w' (2) (((0 : Rat), (0 : Rat))) xsr xar xdr xtr xbr xer ∧ PC M w' (2) (((0 : Rat), (0 : Rat))) xsrb xarb xdrb xtrb xbrb xerb := by
 refine ci M func151 ntmps151 fun Fz hFz hF LL => ?_
 refine zH (zB (yI rfl uX (fun w1 b0 N0 => ?_)))
 obtain ⟨_, nF0, nM0, Lw1, B0⟩ := nza hF hM N0
 obtain ⟨LL, hM⟩ := up2 Lw1 LL hM
 refine zD (zH (zB (zI rfl (bo func96) rfl rfl ?_)))
 refine (vof_c (k := 0) (l := 0)  (by omega) (by omega) hM).mono ?_
 rintro v1 w2 ⟨hB1, xs1, xa1, xd1, xt1, xb1, xe1, rfl, hn1⟩
 obtain ⟨LL, hM, B0⟩ := ub3 hB1 LL hM B0
 obtain ⟨oxa1, oxd1, oxb1, oxe1, _⟩ := hn1.one
 refine zI rfl (bo func96) rfl rfl ?_
 refine (vof_c (k := 0) (l := 0)  (by omega) (by omega) hM).mono ?_
 rintro v2 w3 ⟨hB2, xs2, xa2, xd2, xt2, xb2, xe2, rfl, hn2⟩
 obtain ⟨LL, hn1, B0⟩ := ub3 hB2 LL hn1 B0
 obtain ⟨oxa2, oxd2, oxb2, oxe2, _⟩ := hn2.one
 refine kQ rfl fB uX rfl (zX (rfl) (zX (rfl) xD)) rfl rfl (zV rfl rfl uX B0 rfl rfl (zU (zU (zU (zU (zU (zU (zU (zU (zU (zU (zU (zU (zU xY))))))))))))) rfl (fun w4 Cw4 B0 => ?_))
 obtain ⟨LL, hn1, hn2⟩ := up3 (lc LL Cw4 zQ nF0) LL hn1 hn2
 refine zD (zW ?_)
 refine lv1 ⟨⟨_, rfl, yQ aZ uX B0 rfl rfl⟩, trivial⟩ ?_
 subst hFz
 exact ⟨LL.b, _, _, _, _, _, _, _, _, _, _, _, _, rfl, (hn1.less (fun k c => zJ c)).up (by omega), (hn2.less (fun k c => zJ c)).up (by omega)⟩
theorem mlines_c {p : P2} {n0 : Nat} {xs0 xt0 : Bool} {xa0 xd0 xb0 xe0 : Value} {q : P2} {n1 : Nat} {xs1 xt1 : Bool} {xa1 xd1 xb1 xe1 : Value} {u : P2} {n2 : Nat} {xs2 xt2 : Bool} {xa2 xd2 xb2 xe2 : Value} {z : P2} {n3 : Nat} {xs3 xt3 : Bool} {xa3 xd3 xb3 xe3 : Value} (hT : Tab M w) (h0 : PQ M w n0 p xs0 xa0 xd0 xt0 xb0 xe0) (h1 : PQ M w n1 q xs1 xa1 xd1 xt1 xb1 xe1) (h2 : PQ M w n2 u xs2 xa2 xd2 xt2 xb2 xe2) (h3 : PQ M w n3 z xs3 xa3 xd3 xt3 xb3 xe3) (hl0 : n0 ≤ 200) (hl1 : n1 ≤ 200) (hl2 : n2 ≤ 200) (hl3 : n3 ≤ 200) (hM : OkM M w) :
    CallsV prog 37 [.agg #[.bool xs0, xa0, xd0, .bool xt0, xb0, xe0], .agg #[.bool xs1, xa1, xd1, .bool xt1, xb1, xe1], .agg #[.bool xs2, xa2, xd2, .bool xt2, xb2, xe2], .agg #[.bool xs3, xa3, xd3, .bool xt3, xb3, xe3]] w fun r w' => Bel w.heap.size w w' ∧ ∃ xsr xar xdr xtr xbr xer, r = .tuple #[.agg #[.bool xsr, xar, xdr, .bool xtr, xbr, xer], .bool (decide (gY p q u z))] ∧ PC M w' (8 * (n0 + n1 + n2 + n3) + 80) (qF p q u z) xsr xar xdr xtr xbr xer := by
 obtain ⟨oxa0, oxd0, oxb0, oxe0, _⟩ := h0.one
 obtain ⟨oxa1, oxd1, oxb1, oxe1, _⟩ := h1.one
 obtain ⟨oxa2, oxd2, oxb2, oxe2, _⟩ := h2.one
 obtain ⟨oxa3, oxd3, oxb3, oxe3, _⟩ := h3.one
 refine ci M func37 ntmps37 fun Fz hFz hF LL => ?_
 refine zH (zB (yG rfl rfl (fun w1 b4 N4 => ?_)))
 obtain ⟨_, nF4, nM4, Lw1, B4⟩ := nza hF hM N4
 obtain ⟨LL, hM, hF, hT, h0, h1, h2, h3⟩ := up8 Lw1 LL hM hF hT h0 h1 h2 h3
 refine yG rfl rfl (fun w2 b5 N5 => ?_)
 obtain ⟨hBw2, nF5, nM5, Lw2, B5⟩ := nza hF hM N5
 obtain ⟨B4, ne4_5⟩ := bn B4 N5
 obtain ⟨LL, hM, hF, hT, h0, h1, h2, h3⟩ := up8 Lw2 LL hM hF hT h0 h1 h2 h3
 refine yG rfl rfl (fun w3 b6 N6 => ?_)
 obtain ⟨hBw3, nF6, nM6, Lw3, B6⟩ := nza hF hM N6
 obtain ⟨B4, ne4_6⟩ := bn B4 N6
 obtain ⟨B5, ne5_6⟩ := bn B5 N6
 obtain ⟨LL, hM, hF, hT, h0, h1, h2, h3⟩ := up8 Lw3 LL hM hF hT h0 h1 h2 h3
 refine yG rfl rfl (fun w4 b7 N7 => ?_)
 obtain ⟨hBw4, nF7, nM7, Lw4, B7⟩ := nza hF hM N7
 obtain ⟨B4, ne4_7⟩ := bn B4 N7
 obtain ⟨B5, ne5_7⟩ := bn B5 N7
 obtain ⟨B6, ne6_7⟩ := bn B6 N7
 obtain ⟨LL, hM, hF, hT, h0, h1, h2, h3⟩ := up8 Lw4 LL hM hF hT h0 h1 h2 h3
 refine yI rfl yR (fun w5 b8 N8 => ?_)
 obtain ⟨hBw5, nF8, nM8, Lw5, B8⟩ := nza hF hM N8
 obtain ⟨B4, ne4_8⟩ := bn B4 N8
 obtain ⟨B5, ne5_8⟩ := bn B5 N8
 obtain ⟨B6, ne6_8⟩ := bn B6 N8
 obtain ⟨B7, ne7_8⟩ := bn B7 N8
 obtain ⟨LL, hM, hF, hT, h0, h1, h2, h3⟩ := up8 Lw5 LL hM hF hT h0 h1 h2 h3
 refine zF rfl rfl (zD (zH (zB (zM rfl yL yR rfl B7 rfl rfl (zM rfl yL yR rfl B6 rfl rfl (zI rfl (bo func93) rfl rfl ?_))))))
 refine (eG hT h3 h2 (by omega) (by omega) hM).mono ?_
 rintro v15 w6 ⟨hB15, xs15, xa15, xd15, xt15, xb15, xe15, rfl, hn15⟩
 obtain ⟨LL, hM, hF, hT, h0, h1, h2, B4, B5, B6, B7, B8⟩ := fV hB15 LL hM hF hT h0 h1 h2 B4 B5 B6 B7 B8
 obtain ⟨oxa15, oxd15, oxb15, oxe15, _⟩ := hn15.one
 refine yI rfl yR (fun w7 b10 N10 => ?_)
 obtain ⟨hBw7, nF10, nM10, Lw7, B10⟩ := nza hF hM N10
 obtain ⟨B4, ne4_10⟩ := bn B4 N10
 obtain ⟨B5, ne5_10⟩ := bn B5 N10
 obtain ⟨B6, ne6_10⟩ := bn B6 N10
 obtain ⟨B7, ne7_10⟩ := bn B7 N10
 obtain ⟨B8, ne8_10⟩ := bn B8 N10
 obtain ⟨LL, hM, hF, hT, h0, h1, h2, hn15⟩ := up8 Lw7 LL hM hF hT h0 h1 h2 hn15
 refine zV rfl rfl yR B10 rfl rfl (zU (zU (zU (zU (zU (zU xY)))))) rfl (fun w8 Cw8 B10 => ?_)
 obtain ⟨LL, hM, hF, hT, h0, h1, h2, hn15⟩ := up8 (lc LL Cw8 zQ nF10) LL hM hF hT h0 h1 h2 hn15
 replace B4 := B4.other Cw8 ne4_10
 replace B5 := B5.other Cw8 ne5_10
 replace B6 := B6.other Cw8 ne6_10
 replace B7 := B7.other Cw8 ne7_10
 replace B8 := B8.other Cw8 ne8_10
 refine zD (zH ?_)
 refine SL.wp_drawS (R := Rg 14) (R' := Rh [(14, (.agg #[(.bool false), (.slice none 0 0), (.slice none 0 0)]), 33)] 14 15) (Pr := PrA) (st := some (15, fX 14 (.agg #[(.bool false), (.slice none 0 0), (.slice none 0 0)]) 33, fQ 14 (fun b w => ∃ xs11 xa11 xd11, Blk w.1 b 33 [.bool xs11, xa11, xd11] ∧ RC (Mg (Ins b10 (Ins b8 (Ins b7 (Ins b6 (Ins b5 (Ins b4 M)))))) w.2) w.1 ((2 * (n2 + n0 + 3) + 2 * (n3 + n2 + 3) + 9) + (2 * (n1 + n0 + 3) + 2 * (n3 + n2 + 3) + 9) + 3) ((jU (jW u p) (jW z u)) / (jU (jW q p) (jW z u))) xs11 xa11 xd11))) g0 mixed 16 [4, 5, 8, 11, 29] (by decide +kernel) rg_trans rh_rg (rg_drew _) (fun _ _ _ h => by cases h; exact ⟨by decide, preB0, preB_mono rfl, postB_mono (fun b x y hb ⟨xs11, xa11, xd11, B, h0⟩ hl r => ⟨xs11, xa11, xd11, B.below hl, h0.mono r.le⟩), _, rfl⟩) prA0 prA_mono ?_
 apply gL rfl
 ·intro xq hR hst hPr
  obtain ⟨wq, gq⟩ := xq
  refine qY rfl rfl ?_
  refine xF ?_; dsimp only
  replace B6 := B6.rg hR
  exact zM rfl yL yR rfl B6 rfl rfl (zD ⟨rfl, gq, gM rfl rfl (Bel.refl _ _), _, rfl, rfl⟩)
 apply gL rfl
 ·intro xq hR hst hPr
  obtain ⟨wq, gq⟩ := xq
  refine qY rfl rfl ?_
  refine xF ?_; dsimp only
  replace B4 := B4.rg hR
  exact zM rfl yL yR rfl B4 rfl rfl (zD ⟨rfl, gq, gM rfl rfl (Bel.refl _ _), _, rfl, rfl⟩)
 refine jK rfl (gPC (Ins b10 (Ins b8 (Ins b7 (Ins b6 (Ins b5 (Ins b4 M)))))) (n2 + n0 + 3) (jW u p)) gPC_m (fun xq hR hst hPr => ?_) ?_
 ·obtain ⟨wq, gq⟩ := xq
  refine qJ rfl ?_
  refine qJ rfl ?_
  refine xF ?_; dsimp only
  obtain ⟨hM, hT, h0, h2⟩ := up4 (hR.lz hM) hM hT h0 h2
  refine zI rfl (bo func93) rfl rfl ?_
  refine (eG hT h2 h0 (by omega) (by omega) hM).mono ?_
  rintro v19 w9 ⟨hB19, xs19, xa19, xd19, xt19, xb19, xe19, rfl, hn19⟩
  exact zD ⟨rfl, gq, gM rfl rfl hB19, _, rfl, ⟨_, _, _, _, _, _, rfl, hn19⟩⟩
 apply gL rfl
 ·intro xq hR hst hPr
  obtain ⟨wq, gq⟩ := xq
  refine qY rfl rfl ?_
  refine xF ?_; dsimp only
  replace B10 := B10.rg hR
  exact zM rfl yL yR rfl B10 rfl rfl (zD ⟨rfl, gq, gM rfl rfl (Bel.refl _ _), _, rfl, rfl⟩)
 refine jK rfl (gRC (Ins b10 (Ins b8 (Ins b7 (Ins b6 (Ins b5 (Ins b4 M)))))) (2 * (n2 + n0 + 3) + 2 * (n3 + n2 + 3) + 9) (jU (jW u p) (jW z u))) gRC_m (fun xq hR hst hPr => ?_) ?_
 ·obtain ⟨wq, gq⟩ := xq
  refine gV rfl (fun v19 hp19 => ?_)
  obtain ⟨xs19, xa19, xd19, xt19, xb19, xe19, rfl, hn19⟩ := hp19
  refine qJ rfl ?_
  refine xF ?_; dsimp only
  obtain ⟨hM, hT, hn15⟩ := up3 (hR.lz hM) hM hT hn15
  refine zI rfl (bo func95) rfl rfl ?_
  refine (vcross_c hT hn19.gen hn15.gen (by omega) (by omega) hM).mono ?_
  rintro v21 w10 ⟨hB21, xs21, xa21, xd21, rfl, hn21⟩
  exact zD ⟨rfl, gq, gM rfl rfl hB21, _, rfl, ⟨_, _, _, rfl, hn21⟩⟩
 apply gL rfl
 ·intro xq hR hst hPr
  obtain ⟨wq, gq⟩ := xq
  refine qY rfl rfl ?_
  refine xF ?_; dsimp only
  replace B5 := B5.rg hR
  exact zM rfl yL yR rfl B5 rfl rfl (zD ⟨rfl, gq, gM rfl rfl (Bel.refl _ _), _, rfl, rfl⟩)
 apply gL rfl
 ·intro xq hR hst hPr
  obtain ⟨wq, gq⟩ := xq
  refine qY rfl rfl ?_
  refine xF ?_; dsimp only
  replace B4 := B4.rg hR
  exact zM rfl yL yR rfl B4 rfl rfl (zD ⟨rfl, gq, gM rfl rfl (Bel.refl _ _), _, rfl, rfl⟩)
 refine jK rfl (gPC (Ins b10 (Ins b8 (Ins b7 (Ins b6 (Ins b5 (Ins b4 M)))))) (n1 + n0 + 3) (jW q p)) gPC_m (fun xq hR hst hPr => ?_) ?_
 ·obtain ⟨wq, gq⟩ := xq
  refine qJ rfl ?_
  refine qJ rfl ?_
  refine xF ?_; dsimp only
  obtain ⟨hM, hT, h0, h1⟩ := up4 (hR.lz hM) hM hT h0 h1
  refine zI rfl (bo func93) rfl rfl ?_
  refine (eG hT h1 h0 (by omega) (by omega) hM).mono ?_
  rintro v24 w11 ⟨hB24, xs24, xa24, xd24, xt24, xb24, xe24, rfl, hn24⟩
  exact zD ⟨rfl, gq, gM rfl rfl hB24, _, rfl, ⟨_, _, _, _, _, _, rfl, hn24⟩⟩
 apply gL rfl
 ·intro xq hR hst hPr
  obtain ⟨wq, gq⟩ := xq
  refine qY rfl rfl ?_
  refine xF ?_; dsimp only
  replace B10 := B10.rg hR
  exact zM rfl yL yR rfl B10 rfl rfl (zD ⟨rfl, gq, gM rfl rfl (Bel.refl _ _), _, rfl, rfl⟩)
 refine jK rfl (gRC (Ins b10 (Ins b8 (Ins b7 (Ins b6 (Ins b5 (Ins b4 M)))))) (2 * (n1 + n0 + 3) + 2 * (n3 + n2 + 3) + 9) (jU (jW q p) (jW z u))) gRC_m (fun xq hR hst hPr => ?_) ?_
 ·obtain ⟨wq, gq⟩ := xq
  refine gV rfl (fun v24 hp24 => ?_)
  obtain ⟨xs24, xa24, xd24, xt24, xb24, xe24, rfl, hn24⟩ := hp24
  refine qJ rfl ?_
  refine xF ?_; dsimp only
  obtain ⟨hM, hT, hn15⟩ := up3 (hR.lz hM) hM hT hn15
  refine zI rfl (bo func95) rfl rfl ?_
  refine (vcross_c hT hn24.gen hn15.gen (by omega) (by omega) hM).mono ?_
  rintro v26 w12 ⟨hB26, xs26, xa26, xd26, rfl, hn26⟩
  exact zD ⟨rfl, gq, gM rfl rfl hB26, _, rfl, ⟨_, _, _, rfl, hn26⟩⟩
 refine jK rfl (fun v w => ∃ xs27 xa27 xd27, v = .tuple #[.agg #[.bool xs27, xa27, xd27], .int .i64 (if (jU (jW q p) (jW z u)) = 0 then 30 else 0)] ∧ RC (Mg (Ins b10 (Ins b8 (Ins b7 (Ins b6 (Ins b5 (Ins b4 M)))))) w.2) w.1 ((2 * (n2 + n0 + 3) + 2 * (n3 + n2 + 3) + 9) + (2 * (n1 + n0 + 3) + 2 * (n3 + n2 + 3) + 9) + 3) ((jU (jW u p) (jW z u)) / (jU (jW q p) (jW z u))) xs27 xa27 xd27) (fun _ _ _ ⟨xs27, xa27, xd27, e, h0⟩ r => ⟨xs27, xa27, xd27, e, h0.mono (r.le)⟩) (fun xq hR hst hPr => ?_) ?_
 ·obtain ⟨wq, gq⟩ := xq
  refine gV rfl (fun v21 hp21 => ?_)
  obtain ⟨xs21, xa21, xd21, rfl, hn21⟩ := hp21
  refine gV rfl (fun v26 hp26 => ?_)
  obtain ⟨xs26, xa26, xd26, rfl, hn26⟩ := hp26
  refine xF ?_; dsimp only
  obtain ⟨hM, hT⟩ := up2 (hR.lz hM) hM hT
  refine zI rfl (bo func94) rfl rfl ?_
  refine (rquo_q hT hn21.gen hn26.gen (by omega) (by omega) hM).mono ?_
  rintro v27 w13 ⟨hB27, xs27, xa27, xd27, rfl, hn27⟩
  exact zD ⟨rfl, gq, gM rfl rfl hB27, _, rfl, ⟨_, _, _, rfl, hn27⟩⟩
 refine jK rfl (fun v w => ∃ xs16 xa16 xd16, v = .tuple #[.agg #[.bool xs16, xa16, xd16], .int .i64 (if (jU (jW q p) (jW z u)) = 0 then 30 else 0)] ∧ RC (Mg (Ins b10 (Ins b8 (Ins b7 (Ins b6 (Ins b5 (Ins b4 M)))))) w.2) w.1 ((2 * (n2 + n0 + 3) + 2 * (n3 + n2 + 3) + 9) + (2 * (n1 + n0 + 3) + 2 * (n3 + n2 + 3) + 9) + 3) ((jU (jW u p) (jW z u)) / (jU (jW q p) (jW z u))) xs16 xa16 xd16) (fun _ _ _ ⟨xs16, xa16, xd16, e, h0⟩ r => ⟨xs16, xa16, xd16, e, h0.mono (r.le)⟩) (fun xq hR hst hPr => ?_) ?_
 ·obtain ⟨wq, gq⟩ := xq
  refine gV rfl (fun v27 hp27 => ?_)
  obtain ⟨xs27, xa27, xd27, rfl, hn27⟩ := hp27
  refine xF ?_; dsimp only
  exact zA rfl rfl (zD ⟨rfl, gq, gM rfl rfl (Bel.refl _ _), _, rfl, ⟨_, _, _, rfl, hn27⟩⟩)
 refine jK rfl (gRC (Ins b10 (Ins b8 (Ins b7 (Ins b6 (Ins b5 (Ins b4 M)))))) ((2 * (n2 + n0 + 3) + 2 * (n3 + n2 + 3) + 9) + (2 * (n1 + n0 + 3) + 2 * (n3 + n2 + 3) + 9) + 3) ((jU (jW u p) (jW z u)) / (jU (jW q p) (jW z u)))) gRC_m (fun xq hR hst hPr => ?_) ?_
 ·obtain ⟨wq, gq⟩ := xq
  refine gV rfl (fun v16 hp16 => ?_)
  obtain ⟨xs16, xa16, xd16, rfl, hn16⟩ := hp16
  refine xF ?_; dsimp only
  exact yK rfl rfl rfl (zD ⟨rfl, gq, gM rfl rfl (Bel.refl _ _), _, rfl, ⟨_, _, _, rfl, hn16⟩⟩)
 refine jK rfl (ExS (.int .i64 (if (jU (jW q p) (jW z u)) = 0 then 30 else 0))) (fun _ _ _ h _ => h) (fun xq hR hst hPr => ?_) ?_
 ·obtain ⟨wq, gq⟩ := xq
  refine gV rfl (fun v16 hp16 => ?_)
  obtain ⟨xs16, xa16, xd16, rfl, hn16⟩ := hp16
  refine xF ?_; dsimp only
  exact yK rfl rfl rfl (zD ⟨rfl, gq, gM rfl rfl (Bel.refl _ _), _, rfl, rfl⟩)
 refine jK rfl (Pb 14) pb_mono (fun xq hR hst hPr => ?_) ?_
 ·obtain ⟨wq, gq⟩ := xq; refine xF ?_; dsimp only
  exact yI rfl yM (fun w14 b11 N11 => (zD ⟨rfl, _, rh_new rfl hPr N11, _, rfl, pb_new⟩))
 refine drsS_eff rfl (fun xq hR hpre => ?_) ?_
 ·obtain ⟨wq, gq⟩ := xq
  refine gV rfl (fun v11 hp11 => ?_)
  obtain ⟨b11, rfl, hg11⟩ := hp11; dsimp only at hg11
  refine gV rfl (fun v28 hp28 => ?_)
  obtain ⟨xs28, xa28, xd28, rfl, hn28⟩ := hp28; obtain ⟨oxa28, oxd28, _⟩ := hn28.one
  refine xF ?_; dsimp only
  have ge11 := hR.ge hg11
  have nF11 : ¬ Fz b11 := fun c => Nat.not_lt.2 ge11 (hF _ c)
  have nM11 : ¬ (Ins b10 (Ins b8 (Ins b7 (Ins b6 (Ins b5 (Ins b4 M)))))) b11 := fun c => Nat.not_lt.2 ge11 (hM _ c)
  have ne4_11 : b4 ≠ b11 := by have := B4.lt; omega
  have ne5_11 : b5 ≠ b11 := by have := B5.lt; omega
  have ne6_11 : b6 ≠ b11 := by have := B6.lt; omega
  have ne7_11 : b7 ≠ b11 := by have := B7.lt; omega
  have ne8_11 : b8 ≠ b11 := by have := B8.lt; omega
  have ne10_11 : b10 ≠ b11 := by have := B10.lt; omega
  have Lq : Le Fz (Ins b10 (Ins b8 (Ins b7 (Ins b6 (Ins b5 (Ins b4 M)))))) w8 (Ins b11 (Mg (Ins b10 (Ins b8 (Ins b7 (Ins b6 (Ins b5 (Ins b4 M)))))) gq)) wq := hR.le0.trans (Le.less (Mg.ins hg11))
  have B11 := hpre b11 hg11; rw [kZ] at B11
  replace hn28 := hn28.less (Mg.ins hg11)
  refine zV rfl rfl yM B11 rfl rfl (zU (zU (zU xY))) rfl (fun w15 Cw15 B11 => ?_)
  have Lw15 := Le.of_chg (M := (Ins b11 (Mg (Ins b10 (Ins b8 (Ins b7 (Ins b6 (Ins b5 (Ins b4 M)))))) gq))) Cw15 zQ nF11
  replace hn28 := hn28.mono Lw15
  exact zD ⟨rfl, gq, rh_chg rfl hg11 Cw15, b11, hg11, _, _, _, B11, (hn28).mono (Fz := fun _ => False) (Le.less (fun k c => .inr c))⟩
 refine drsS_nil (fun xq hR hpost => ?_)
 obtain ⟨wq2, gq⟩ := xq
 refine qY rfl rfl ?_
 refine qY rfl rfl ?_
 refine qY rfl rfl ?_
 refine gV rfl (fun v11 hp11 => ?_)
 obtain ⟨b11, rfl, hg11⟩ := hp11; dsimp only at hg11
 refine qJ rfl ?_
 refine xF ?_; dsimp only
 simp only [jC, jB, jA, xZ]
 obtain ⟨bx, hgx, hQ⟩ := hpost _ _ _ rfl; dsimp only at hgx; obtain rfl : b11 = bx := by rw [hg11] at hgx; exact Option.some.inj hgx
 obtain ⟨xs11, xa11, xd11, B11, hn11⟩ := hQ; dsimp only at B11
 have ge11 := hR.ge hg11
 have nF11 : ¬ Fz b11 := fun c => Nat.not_lt.2 ge11 (hF _ c)
 have nM11 : ¬ (Ins b10 (Ins b8 (Ins b7 (Ins b6 (Ins b5 (Ins b4 M)))))) b11 := fun c => Nat.not_lt.2 ge11 (hM _ c)
 have ne4_11 : b4 ≠ b11 := by have := B4.lt; omega
 have ne5_11 : b5 ≠ b11 := by have := B5.lt; omega
 have ne6_11 : b6 ≠ b11 := by have := B6.lt; omega
 have ne7_11 : b7 ≠ b11 := by have := B7.lt; omega
 have ne8_11 : b8 ≠ b11 := by have := B8.lt; omega
 have ne10_11 : b10 ≠ b11 := by have := B10.lt; omega
 have hsub : ∀ k, (Ins b11 (Ins b10 (Ins b8 (Ins b7 (Ins b6 (Ins b5 (Ins b4 M))))))) k → Mg (Ins b10 (Ins b8 (Ins b7 (Ins b6 (Ins b5 (Ins b4 M)))))) gq k := (ins_sub (.inl ⟨_, hg11⟩) Mg.base)
 have Lq : Le Fz (Ins b10 (Ins b8 (Ins b7 (Ins b6 (Ins b5 (Ins b4 M)))))) w8 (Ins b11 (Ins b10 (Ins b8 (Ins b7 (Ins b6 (Ins b5 (Ins b4 M))))))) wq2 := hR.le0.trans (Le.less hsub)
 obtain ⟨LL, hM, hT, h0, h1⟩ := up5 Lq LL hM hT h0 h1
 replace B4 := B4.rg hR
 replace B5 := B5.rg hR
 replace B8 := B8.rg hR
 replace hn11 : _ := hn11.less hsub
 obtain ⟨oxa11, oxd11, _⟩ := hn11.one
 refine zF rfl rfl (zD (zH (zH (zB (zA rfl rfl (bO rfl rfl rfl (zD ?_)))))))
 refine yA rfl (fun hc0 => ?_) (fun hc0 => ?_)
 ·have hz : jU (jW q p) (jW z u) = 0 := Classical.byContradiction fun c => by rw [if_neg c] at hc0; simp at hc0
  have hlp : qF p q u z = (0, 0) := if_neg (fun c => c hz)
  have hlo : decide (gY p q u z) = false := decide_eq_false (fun c => c hz)
  refine zH (zB (zI rfl (bo func96) rfl rfl ?_))
  refine (vof_c (k := 0) (l := 0)  (by omega) (by omega) hM).mono ?_
  rintro v32 w16 ⟨hB32, xs32, xa32, xd32, xt32, xb32, xe32, rfl, hn32⟩
  obtain ⟨LL, B8⟩ := ub2 hB32 LL B8
  obtain ⟨oxa32, oxd32, oxb32, oxe32, _⟩ := hn32.one
  refine zV rfl rfl yR B8 rfl rfl (zU (zU (zU (zU (zU (zU xY)))))) rfl (fun w17 Cw17 B8 => ?_)
  obtain ⟨LL, hn32⟩ := up2 (lc LL Cw17 (.inr (.inr zQ)) nF8) LL hn32
  refine zF rfl rfl (zD (zW ?_))
  refine xL ⟨[_, _], ⟨⟨_, rfl, yQ yL yR B8 rfl rfl⟩, rfl, trivial⟩, ?_⟩
  dsimp only [xW]
  rw [hlp, hlo]
  subst hFz
  exact ⟨LL.b, _, _, _, _, _, _, rfl, (hn32.less (fun k c => zJ (zJ (zJ (zJ (zJ (zJ (zJ c)))))))).up (by omega)⟩
 ·have hz : jU (jW q p) (jW z u) ≠ 0 := fun c => hc0 (by rw [if_pos c]; simp)
  have hlp : qF p q u z = atP p q (jU (jW u p) (jW z u) / jU (jW q p) (jW z u)) := if_pos hz
  have hlo : decide (gY p q u z) = true := decide_eq_true hz
  refine yH (zH (zB (zM rfl yL yR rfl B4 rfl rfl (zM rfl yL yR rfl B5 rfl rfl (zM rfl yV yM rfl B11 rfl rfl (zI rfl (bo func97) rfl rfl ?_))))))
  refine (vat_c hT h0 h1 hn11.gen (by omega) (by omega) (by omega) hM).mono ?_
  rintro v36 w18 ⟨hB36, xs36, xa36, xd36, xt36, xb36, xe36, rfl, hn36⟩
  obtain ⟨LL, B8⟩ := ub2 hB36 LL B8
  obtain ⟨oxa36, oxd36, oxb36, oxe36, _⟩ := hn36.one
  refine zV rfl rfl yR B8 rfl rfl (zU (zU (zU (zU (zU (zU xY)))))) rfl (fun w19 Cw19 B8 => ?_)
  obtain ⟨LL, hn36⟩ := up2 (lc LL Cw19 (.inr (.inr zQ)) nF8) LL hn36
  refine zF rfl rfl (zD (zW ?_))
  refine xL ⟨[_, _], ⟨⟨_, rfl, yQ yL yR B8 rfl rfl⟩, rfl, trivial⟩, ?_⟩
  dsimp only [xW]
  rw [hlp, hlo]
  subst hFz
  exact ⟨LL.b, _, _, _, _, _, _, rfl, (hn36.less (fun k c => zJ (zJ (zJ (zJ (zJ (zJ (zJ c)))))))).up (by omega)⟩
end Go.Proofs.YtfkejnlohkgbgaaGreatDoor
namespace Go.SL
open Go.RowKit
theorem wp_cutw {P : Program} {r : Option Nat} {N : Nat} {Kn Kr : Pd} {Ke : Nat → Pd} {D : List Deferred} {E : Env} {w : World} {x y : Code} (J : World → Prop) (Ev Ej : Env) (hE : Sub Ej E)
  (hx : Wp P r N x (fun D' E' w' => D' = D ∧ Sub (Ev ++ Ej) E' ∧ J w') Ke Kr D E w) (hy : ∀ w', J w' → Wp P r N y Kn Ke Kr D (Ev ++ Ej) w') : Wp P r N x (fun D E w => Wp P r N y Kn Ke Kr D E w) Ke Kr D E w :=
 wp_cut hx fun D' E' w' ⟨h1, h2, h3⟩ => by subst h1; exact wp_sub h2 (hy w' h3)
end Go.SL
