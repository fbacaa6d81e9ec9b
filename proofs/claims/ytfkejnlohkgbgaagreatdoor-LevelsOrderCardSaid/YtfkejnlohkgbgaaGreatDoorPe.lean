/- Lemmas and walks of functions; no statement. -/
import Derived.Test.YtfkejnlohkgbgaaGreatDoorPd
set_option linter.unusedVariables false
set_option linter.unusedSimpArgs false
set_option maxRecDepth 100000
namespace Go.Proofs.YtfkejnlohkgbgaaGreatDoor
open Go.SL Go.RowKit Go.Proofs Tryz
section
variable {M : Nat → Prop} {w : World}
theorem rc_mk {n m : Nat} {q : Rat} {s : Bool} {a d : Value} (h : ZC M w n q.num s a) (hd : IsNat M w d (limbs q.den)) (hl : (limbs q.den).length ≤ m) : RC M w (max n m) q s a d :=
  ⟨h.sgn, h.num, hd, ⟨Nat.le_trans h.len (by omega), Nat.le_trans hl (by omega)⟩⟩
theorem RC.relen {n m : Nat} {q : Rat} {s : Bool} {a d : Value} (h : RC M w n q s a d) (hl : gO q m) : RC M w m q s a d := ⟨h.sgn, h.num, h.den, hl⟩
theorem one_den (n : Nat) : (limbs ((n : Nat) : Rat).den) = [1] := by rw [show ((n : Nat) : Rat).den = 1 from rfl, gP]
theorem num_eq {z : Int} {k : Nat} (hk : k ≠ 0) : zv (decide (z < 0)) (limbs (z.natAbs / Nat.gcd z.natAbs k)) = (mkRat z k).num := by
  have h := eT (z := z) hk
  rw [← h.1, ← h.2.1]; exact gE _
theorem small_mk {z : Int} {k : Nat} (hk : k ≠ 0) : (limbs (z.natAbs / Nat.gcd z.natAbs k)).length ≤ (limbs z.natAbs).length ∧ (limbs (k / Nat.gcd z.natAbs k)).length ≤ (limbs k).length := ⟨yJ (Nat.div_le_self _ _), yJ (Nat.div_le_self _ _)⟩
theorem hC {k : Nat} (hk : k < 9223372036854775808) (hM : OkM M w) :
    CallsV prog 21 [.int .i64 ((k : Nat) : Int)] w fun r w' => Bel w.heap.size w w' ∧ ∃ xsr xar xdr, r = .agg #[.bool xsr, xar, xdr] ∧ RC M w' (2) (((k : Nat) : Rat)) xsr xar xdr := by
 refine ci M func21 ntmps21 fun Fz hFz hF LL => ?_
 refine zG (zB (yG rfl yK (fun w1 b2 N2 => ?_)))
 obtain ⟨_, nF2, nM2, Lw1, B2⟩ := nza hF hM N2
 obtain ⟨LL, hM⟩ := up2 Lw1 LL hM
 refine zD (zG (zB (zA rfl rfl (zI rfl (bo func79) rfl rfl ?_))))
 refine (i5of_c (k := k)  (by omega) hM).mono ?_
 rintro v4 w2 ⟨hB4, xs4, xa4, rfl, hn4⟩
 obtain ⟨LL, hM, B2⟩ := ub3 hB4 LL hM B2
 obtain ⟨oxa4, _⟩ := hn4.one
 refine yT rfl yu29 yU rfl rfl rfl (by simp [Value.oneCell', lw]) rfl (fun w3 b5 N5 => ?_)
 have hBw3 := N5.below
 have nM5 := hM.new N5
 have B5 := N5.blk
 obtain ⟨LL, hn4, B2⟩ := ub3 hBw3 LL hn4 B2
 have hn5 : IsNat (Ins b2 M) w3 (.slice (some ⟨b5, 0, none⟩) 1 1) [1] := cZ (xs := [1]) B5 nM5 rfl (by simp) (by simp)
 refine xP rfl iA rfl rfl (yA (rfl) (yA (gG (by first | rfl | assumption)) xG)) rfl (yB rfl rfl yK B2 rfl rfl (yI (yI (yI jN))) rfl (fun w4 Cw4 B2 => ?_))
 obtain ⟨LL, hn4, hn5⟩ := up3 (lc LL Cw4 zP nF2) LL hn4 hn5
 refine zD (zR ?_)
 refine lv1 ⟨⟨_, rfl, yV yO yK B2 rfl rfl⟩, trivial⟩ ?_
 subst hFz
 exact ⟨LL.b, _, _, _, rfl, (((RC.up (rc_mk (q := ((k : Nat) : Rat)) hn4 (m := 2) (by rw [one_den]; exact hn5) (by rw [one_den]; simp)) (m := 2) (by omega))).less (fun k c => zM c)).up (by omega)⟩
theorem r7new_c {z : Int} {n0 : Nat} {xs0 : Bool} {xa0 : Value} {k : Nat} {n1 : Nat} {xa1 : Value} (h0 : ZQ M w n0 z xs0 xa0) (h1 : NQ M w n1 k xa1) (hl0 : n0 ≤ 2000) (hl1 : n1 ≤ 2000) (hM : OkM M w) :
    CallsV prog 107 [.agg #[.bool xs0, xa0], xa1] w fun r w' => Bel w.heap.size w w' ∧ ∃ xsr xar xdr, r = .tuple #[.agg #[.bool xsr, xar, xdr], .int .i64 (if k = 0 then 30 else 0)] ∧ RC M w' (max n0 n1 + 2) (mkRat z k) xsr xar xdr := by
 obtain ⟨oxa0, _⟩ := h0.one
 obtain ⟨oxa1, _⟩ := h1.one
 obtain ⟨ds, hd, hdl, hdk⟩ := h1.ex
 have hdk2 := yE ds hd.lt
 rw [hdk] at hdk2
 refine ci M func107 ntmps107 fun Fz hFz hF LL => ?_
 refine zG (zB (yM rfl rfl (fun w1 b2 N2 => ?_)))
 obtain ⟨_, nF2, nM2, Lw1, B2⟩ := nza hF hM N2
 obtain ⟨LL, hM, hF, h0, hd⟩ := up5 Lw1 LL hM hF h0 hd
 refine yG rfl yK (fun w2 b4 N4 => ?_)
 obtain ⟨hBw2, nF4, nM4, Lw2, B4⟩ := nza hF hM N4
 obtain ⟨B2, ne2_4⟩ := bn B2 N4
 obtain ⟨LL, hM, h0, hd⟩ := up4 Lw2 LL hM h0 hd
 refine zC rfl rfl (zD (zG (zG (zB (zA rfl rfl (zI rfl (bo func86) rfl rfl ?_))))))
 refine (qF hd (by omega) hM).mono ?_
 rintro v19 w3 ⟨hB19, hf19⟩
 have hM19 := hM
 have hS19 := LL.size
 obtain ⟨LL, hM, h0, hd, B2, B4⟩ := ub6 hB19 LL hM h0 hd B2 B4
 have hn19 := hf19.nat hM19
 first | refine yL rfl yu29 rfl hn19.slc ?_ | refine yP rfl yu29 rfl ?_
 refine gN rfl rfl rfl (zD ?_)
 refine zV rfl (fun hc0 => ?_) (fun hc0 => ?_)
 ·have hk0 : k = 0 := by rw [← hdk]; exact xK.1 (by omega)
  have hif : (if k = 0 then (30 : Int) else 0) = 30 := if_pos hk0
  have hmk : mkRat z k = ((0 : Nat) : Rat) := by rw [hk0, Rat.mkRat_zero]; rfl
  refine zG (zB (zI rfl (bo func21) rfl rfl ?_))
  refine (hC (k := 0)  (by omega) hM).mono ?_
  rintro v22 w4 ⟨hB22, xs22, xa22, xd22, rfl, hn22⟩
  obtain ⟨LL, B4⟩ := ub2 hB22 LL B4
  obtain ⟨oxa22, oxd22, _⟩ := hn22.one
  refine yB rfl rfl yK B4 rfl rfl (yI (yI (yI jN))) rfl (fun w5 Cw5 B4 => ?_)
  obtain ⟨LL, hn22⟩ := up2 (lc LL Cw5 zP nF4) LL hn22
  refine zC rfl rfl (zD (zR ?_))
  refine xC ⟨[_, _], ⟨⟨_, rfl, yV yO yK B4 rfl rfl⟩, rfl, trivial⟩, ?_⟩
  dsimp only [xI]
  rw [hif, hmk]
  subst hFz
  exact ⟨LL.b, _, _, _, rfl, (hn22.less (fun k c => zM (zM c))).up (by omega)⟩
 ·have hk0 : k ≠ 0 := fun c => hc0 (by rw [← hdk] at c; rw [c, xE]; rfl)
  have hif : (if k = 0 then (30 : Int) else 0) = 0 := if_neg hk0
  have hmt := eT (z := z) hk0
  have hsm := small_mk (z := z) hk0
  have hg0 : Nat.gcd z.natAbs k ≠ 0 := fun c => hk0 (Nat.eq_zero_of_gcd_eq_zero_right c)
  have hgl := yJ (Nat.gcd_le_right z.natAbs (Nat.pos_of_ne_zero hk0))
  refine yF (zG (zB (zO rfl xW yY rfl B2 rfl rfl (zI rfl (bo func155) rfl rfl ?_))))
  refine (qV h0 (by omega) hM).mono ?_
  rintro v24 w6 ⟨hB24, xs24, xa24, rfl, hn24⟩
  obtain ⟨LL, hM, h0, hd, B2, B4⟩ := ub6 hB24 LL hM h0 hd B2 B4
  obtain ⟨oxa24, _⟩ := hn24.one
  refine yB rfl rfl yY B2 rfl rfl (yI (yI jN)) rfl (fun w7 Cw7 B2 => ?_)
  obtain ⟨LL, hM, h0, hd, hn24⟩ := up5 (lc LL Cw7 (.inr zP) nF2) LL hM h0 hd hn24
  replace B4 := B4.other Cw7 ne2_4.symm
  refine zD (zG (zB (zJ 1 rfl yu31 rfl rfl xS rfl rfl (zN rfl yS rfl B2 rfl (zI rfl (bo func167) rfl rfl ?_)))))
  refine (rsmall_c hn24.num (by have := hn24.len; omega) hM).mono ?_
  rintro v28 w8 ⟨hB28, rfl⟩
  obtain ⟨LL, hM, h0, hd, hn24, B2, B4⟩ := ub7 hB28 LL hM h0 hd hn24 B2 B4
  simp only [zT]
  refine zA rfl rfl (zW rfl rfl rfl (zW rfl rfl rfl (zC rfl rfl (zC rfl rfl (zD (zG (zB (zA rfl rfl (zI rfl (bo func167) rfl rfl ?_)))))))))
  refine (rsmall_c hd (by omega) hM).mono ?_
  rintro v33 w9 ⟨hB33, rfl⟩
  obtain ⟨LL, hM, h0, hd, hn24, B2, B4⟩ := ub7 hB33 LL hM h0 hd hn24 B2 B4
  simp only [hdk]
  refine zA rfl rfl (zW rfl rfl rfl (zW rfl rfl rfl (zC rfl rfl (zC rfl rfl (zD (zG (zG (zB (zA rfl rfl (zA rfl rfl (gX (d := 37) rfl (fun hg6_1 => ?_) (fun hg6_1 => ?_))))))))))))
  ·refine yC rfl rfl (zA rfl rfl (xZ rfl rfl rfl (zD ?_)))
   refine zV rfl (fun hc1 => ?_) (fun hc1 => ?_)
   ·have ea : kU z.natAbs = z.natAbs := if_pos hg6_1
    have ek : kU k = k := if_pos hc1
    rw [ea, ek]
    refine zG (zB (zA rfl rfl (zA rfl rfl (zI rfl (bo func168) rfl rfl ?_))))
    refine (plain7_c (a := z.natAbs) (b := k) hg6_1 hc1 hM).mono ?_
    rintro v42 w10 ⟨hB42, rfl⟩
    obtain ⟨LL, hM, h0, hn24, B2, B4⟩ := ub6 hB42 LL hM h0 hn24 B2 B4
    refine zC rfl rfl (zD (zG ?_))
    refine wd mixed 11 [4, 5, 50, 53] (by decide +kernel) ?_
    refine zK (fun _ _ _ => zQ rfl rfl (zF (zJ 0 rfl yu31 rfl rfl sz4 rfl rfl (on0 rfl)))) ?_
    refine zK (fun _ hR _ => zL rfl (zF (zN rfl uQ rfl (B2.below hR) rfl (on0 rfl)))) ?_
    refine zK (fun _ _ _ => zQ rfl rfl (zF (zA rfl rfl (on0 rfl)))) ?_
    refine zK (fun _ _ _ => zQ rfl rfl (zF (zA rfl rfl (on0 rfl)))) ?_
    apply zK
    ·intro wq hR hst
     refine zL rfl (zL rfl (zF ?_))
     exact ops_quou rfl rfl rfl (by omega) (by omega) (on0 rfl)
    refine yX (fun v w => IsNat (Ins b4 (Ins b2 M)) w v (limbs (z.natAbs / Nat.gcd z.natAbs k))) jH (fun wq hR hst => ?_) ?_
    ·refine zL rfl (zF ?_)
     obtain ⟨LL, hM⟩ := ub2 hR LL hM
     refine zI rfl (bo func148) rfl rfl ?_
     refine (rof_c (n := z.natAbs / Nat.gcd z.natAbs k) (Nat.lt_of_le_of_lt (Nat.div_le_self _ _) hg6_1) hM).mono ?_
     rintro v48 w11 ⟨hB48, hf48⟩
     have hM48 := hM
     have hS48 := LL.size
     have hn48 := hf48.nat hM48
     exact on1 hB48 rfl hn48
    refine yX (vZQ (Ins b4 (Ins b2 M)) (n0) ((mkRat z k).num)) vZQ_m (fun wq hR hst => ?_) ?_
    ·refine zL rfl (xA rfl (fun v48 hp48 => ?_))
     have hn48 := hp48
     refine zF ?_
     replace hn24 := ub1 hR hn24
     exact xP rfl aH rfl rfl (yA (gG rfl) (yA (gG (by first | rfl | exact yN (by assumption) | exact yR (by assumption) | assumption)) xG)) rfl (zD ⟨rfl, xF _, _, rfl, ⟨_, _, rfl, (ZQ.mk ⟨_, hn48, Nat.le_trans hsm.1 hn24.len, by rw [hn24.sgn]; exact num_eq hk0⟩)⟩⟩)
    refine yX (vZC (Ins b4 (Ins b2 M)) (n0) (((mkRat z k).num))) vZC_m (fun wq hR hst => ?_) ?_
    ·refine xA rfl (fun v49 hp49 => ?_)
     obtain ⟨xs49, xa49, rfl, hn49⟩ := hp49
     refine zF ?_
     replace hM := ub1 hR hM
     refine zI rfl (bo func155) rfl rfl ?_
     refine (qV hn49 (by omega) hM).mono ?_
     rintro v50 w12 ⟨hB50, xs50, xa50, rfl, hn50⟩
     exact on1 hB50 rfl ⟨_, _, rfl, hn50⟩
    refine zK (fun _ _ _ => zQ rfl rfl (zF (zA rfl rfl (on0 rfl)))) ?_
    refine zK (fun _ _ _ => zQ rfl rfl (zF (zA rfl rfl (on0 rfl)))) ?_
    apply zK
    ·intro wq hR hst
     refine zL rfl (zL rfl (zF ?_))
     exact ops_quou rfl rfl rfl (by omega) (by omega) (on0 rfl)
    refine xR (fun wq8 hR8 hpost8 => ?_)
    refine zQ rfl rfl (zQ rfl rfl (xA rfl (fun v50 hp50 => ?_)))
    obtain ⟨xs50, xa50, rfl, hn50⟩ := hp50; obtain ⟨oxa50, _⟩ := hn50.one
    refine zL rfl (zF ?_)
    simp only [jV, jU, jT, jS]
    obtain ⟨LL, hM, B4⟩ := ub3 hR8 LL hM B4
    refine zI rfl (bo func148) rfl rfl ?_
    refine (rof_c (n := k / Nat.gcd z.natAbs k) (Nat.lt_of_le_of_lt (Nat.div_le_self _ _) hc1) hM).mono ?_
    rintro v54 w13 ⟨hB54, hf54⟩
    have hM54 := hM
    have hS54 := LL.size
    obtain ⟨LL, hn50, B4⟩ := ub3 hB54 LL hn50 B4
    have hn54 := hf54.nat hM54
    refine xP rfl iA rfl rfl (yA (rfl) (yA (gG (by first | rfl | exact yN (by assumption) | exact yR (by assumption) | assumption)) xG)) rfl (yB rfl rfl yK B4 rfl rfl (yI (yI (yI jN))) rfl (fun w14 Cw14 B4 => ?_))
    obtain ⟨LL, hn50, hn54⟩ := up3 (lc LL Cw14 zP nF4) LL hn50 hn54
    refine zC rfl rfl (zD (zR ?_))
    refine xC ⟨[_, _], ⟨⟨_, rfl, yV yO yK B4 rfl rfl⟩, rfl, trivial⟩, ?_⟩
    dsimp only [xI]
    rw [hif]
    subst hFz
    exact ⟨LL.b, _, _, _, rfl, (((RC.mk hn50.sgn hn50.num (by rw [hmt.2.2]; exact hn54) ⟨Nat.le_trans hn50.len (by omega), by rw [hmt.2.2]; omega⟩ : RC _ _ (max n0 n1 + 1) (mkRat z k) _ _ _)).less (fun k c => zM (zM c))).up (by omega)⟩
   ·refine yF (zG (zB (zJ 1 rfl yu31 rfl rfl xS rfl rfl (zN rfl yS rfl B2 rfl (zA rfl rfl (zI rfl (bo func169) rfl rfl ?_))))))
    refine (gcd4_c hn24.num hd (by have := hn24.len; omega) (by omega) hM).mono ?_
    rintro v59 w15 ⟨hB59, hn59⟩
    obtain ⟨LL, hM, hd, hn24, B2, B4⟩ := ub6 hB59 LL hM hd hn24 B2 B4
    rw [zT, hdk] at hn59
    refine zC rfl rfl (zD (zG (zB (zJ 1 rfl yu31 rfl rfl xS rfl rfl (zN rfl yS rfl B2 rfl (zA rfl rfl (zI rfl (bo func170) rfl rfl ?_)))))))
    refine (div3_c hn24.num hn59 (by have := hn24.len; omega) (by omega) (by rw [zT]; exact hg0) hM).mono ?_
    rintro v64 w16 ⟨hB64, q64, s64, rfl, hn64, hm64⟩
    obtain ⟨LL, hM, hd, hn24, hn59, B2, B4⟩ := ub7 hB64 LL hM hd hn24 hn59 B2 B4
    simp only [zT] at hn64
    refine zA rfl rfl (zW rfl rfl rfl (zW rfl rfl rfl (zW rfl rfl rfl (zC rfl rfl (zC rfl rfl (zC rfl rfl (zD (zG (zB (zA rfl rfl (zA rfl rfl (zI rfl (bo func170) rfl rfl ?_))))))))))))
    refine (div3_c hd hn59 (by omega) (by omega) (by rw [zT]; exact hg0) hM).mono ?_
    rintro v71 w17 ⟨hB71, q71, s71, rfl, hn71, hm71⟩
    obtain ⟨LL, hM, hn24, hn64, B2, B4⟩ := ub6 hB71 LL hM hn24 hn64 B2 B4
    simp only [zT, hdk] at hn71
    refine zA rfl rfl (zW rfl rfl rfl (zW rfl rfl rfl (zW rfl rfl rfl (zC rfl rfl (zC rfl rfl (zC rfl rfl (zD (zG (zB (zJ 0 rfl yu31 rfl rfl sz4 rfl rfl (zN rfl uQ rfl B2 rfl (zA rfl rfl (xP rfl aH rfl rfl (yA (gG rfl) (yA (gG (by first | rfl | exact yN (by assumption) | exact yR (by assumption) | assumption)) xG)) rfl (zI rfl (bo func155) rfl rfl ?_))))))))))))))
    refine (qV ((ZQ.mk ⟨_, hn64, Nat.le_trans hsm.1 hn24.len, by rw [hn24.sgn]; exact num_eq hk0⟩ : ZQ _ _ n0 (mkRat z k).num _ _)) (by omega) hM).mono ?_
    rintro v79 w18 ⟨hB79, xs79, xa79, rfl, hn79⟩
    obtain ⟨LL, hn71, B4⟩ := ub3 hB79 LL hn71 B4
    obtain ⟨oxa79, _⟩ := hn79.one
    refine zA rfl rfl (xP rfl iA rfl rfl (yA (rfl) (yA (gG (by first | rfl | exact yN (by assumption) | exact yR (by assumption) | assumption)) xG)) rfl (yB rfl rfl yK B4 rfl rfl (yI (yI (yI jN))) rfl (fun w19 Cw19 B4 => ?_)))
    obtain ⟨LL, hn71, hn79⟩ := up3 (lc LL Cw19 zP nF4) LL hn71 hn79
    refine zC rfl rfl (zD (zR ?_))
    refine xC ⟨[_, _], ⟨⟨_, rfl, yV yO yK B4 rfl rfl⟩, rfl, trivial⟩, ?_⟩
    dsimp only [xI]
    rw [hif]
    subst hFz
    exact ⟨LL.b, _, _, _, rfl, (((RC.mk hn79.sgn hn79.num (by rw [hmt.2.2]; exact hn71) ⟨Nat.le_trans hn79.len (by omega), by rw [hmt.2.2]; omega⟩ : RC _ _ (max n0 n1 + 1) (mkRat z k) _ _ _)).less (fun k c => zM (zM c))).up (by omega)⟩
  ·refine zY rfl rfl rfl rfl (xZ rfl rfl rfl (zD (kT rfl (yF (zG (zB (zJ 1 rfl yu31 rfl rfl xS rfl rfl (zN rfl yS rfl B2 rfl (zA rfl rfl (zI rfl (bo func169) rfl rfl ?_))))))))))
   refine (gcd4_c hn24.num hd (by have := hn24.len; omega) (by omega) hM).mono ?_
   rintro v59 w20 ⟨hB59, hn59⟩
   obtain ⟨LL, hM, hd, hn24, B2, B4⟩ := ub6 hB59 LL hM hd hn24 B2 B4
   rw [zT, hdk] at hn59
   refine zC rfl rfl (zD (zG (zB (zJ 1 rfl yu31 rfl rfl xS rfl rfl (zN rfl yS rfl B2 rfl (zA rfl rfl (zI rfl (bo func170) rfl rfl ?_)))))))
   refine (div3_c hn24.num hn59 (by have := hn24.len; omega) (by omega) (by rw [zT]; exact hg0) hM).mono ?_
   rintro v64 w21 ⟨hB64, q64, s64, rfl, hn64, hm64⟩
   obtain ⟨LL, hM, hd, hn24, hn59, B2, B4⟩ := ub7 hB64 LL hM hd hn24 hn59 B2 B4
   simp only [zT] at hn64
   refine zA rfl rfl (zW rfl rfl rfl (zW rfl rfl rfl (zW rfl rfl rfl (zC rfl rfl (zC rfl rfl (zC rfl rfl (zD (zG (zB (zA rfl rfl (zA rfl rfl (zI rfl (bo func170) rfl rfl ?_))))))))))))
   refine (div3_c hd hn59 (by omega) (by omega) (by rw [zT]; exact hg0) hM).mono ?_
   rintro v71 w22 ⟨hB71, q71, s71, rfl, hn71, hm71⟩
   obtain ⟨LL, hM, hn24, hn64, B2, B4⟩ := ub6 hB71 LL hM hn24 hn64 B2 B4
   simp only [zT, hdk] at hn71
   refine zA rfl rfl (zW rfl rfl rfl (zW rfl rfl rfl (zW rfl rfl rfl (zC rfl rfl (zC rfl rfl (zC rfl rfl (zD (zG (zB (zJ 0 rfl yu31 rfl rfl sz4 rfl rfl (zN rfl uQ rfl B2 rfl (zA rfl rfl (xP rfl aH rfl rfl (yA (gG rfl) (yA (gG (by first | rfl | exact yN (by assumption) | exact yR (by assumption) | assumption)) xG)) rfl (zI rfl (bo func155) rfl rfl ?_))))))))))))))
   refine (qV ((ZQ.mk ⟨_, hn64, Nat.le_trans hsm.1 hn24.len, by rw [hn24.sgn]; exact num_eq hk0⟩ : ZQ _ _ n0 (mkRat z k).num _ _)) (by omega) hM).mono ?_
   rintro v79 w23 ⟨hB79, xs79, xa79, rfl, hn79⟩
   obtain ⟨LL, hn71, B4⟩ := ub3 hB79 LL hn71 B4
   obtain ⟨oxa79, _⟩ := hn79.one
   refine zA rfl rfl (xP rfl iA rfl rfl (yA (rfl) (yA (gG (by first | rfl | exact yN (by assumption) | exact yR (by assumption) | assumption)) xG)) rfl (yB rfl rfl yK B4 rfl rfl (yI (yI (yI jN))) rfl (fun w24 Cw24 B4 => ?_)))
   obtain ⟨LL, hn71, hn79⟩ := up3 (lc LL Cw24 zP nF4) LL hn71 hn79
   refine zC rfl rfl (zD (zR ?_))
   refine xC ⟨[_, _], ⟨⟨_, rfl, yV yO yK B4 rfl rfl⟩, rfl, trivial⟩, ?_⟩
   dsimp only [xI]
   rw [hif]
   subst hFz
   exact ⟨LL.b, _, _, _, rfl, (((RC.mk hn79.sgn hn79.num (by rw [hmt.2.2]; exact hn71) ⟨Nat.le_trans hn79.len (by omega), by rw [hmt.2.2]; omega⟩ : RC _ _ (max n0 n1 + 1) (mkRat z k) _ _ _)).less (fun k c => zM (zM c))).up (by omega)⟩
theorem ZQ.of_nat {n k : Nat} {a : Value} (h : NQ M w n k a) : ZQ M w n ((k : Nat) : Int) false a := by
  obtain ⟨xs, h1, h2, h3⟩ := h.ex
  exact ⟨xs, h1, h2, by rw [← h3]; rfl⟩
theorem over7_c {k : Nat} {n0 : Nat} {xa0 : Value} (h0 : NQ M w n0 k xa0) (hl0 : n0 ≤ 1000000) (hM : OkM M w) :
    CallsV prog 90 [xa0] w fun r w' => Bel w.heap.size w w' ∧ ∃ xsr xar, r = .agg #[.bool xsr, xar] ∧ ZQ M w' (n0) (((k : Nat) : Int)) xsr xar := by
 obtain ⟨oxa0, _⟩ := h0.one
 refine ci M func90 ntmps90 fun Fz hFz hF LL => ?_
 refine zG (zB (yG rfl yY (fun w1 b2 N2 => ?_)))
 obtain ⟨_, nF2, nM2, Lw1, B2⟩ := nza hF hM N2
 obtain ⟨LL, h0⟩ := up2 Lw1 LL h0
 refine zD (zG (zB (zA rfl rfl (bA rfl aH yY rfl (yA (gG (by first | rfl | assumption)) xG) rfl rfl (yB rfl rfl yY B2 rfl rfl (yI (yI jN)) rfl (fun w2 Cw2 B2 => ?_))))))
 obtain ⟨LL, h0⟩ := up2 (lc LL Cw2 zP nF2) LL h0
 refine zD (zR ?_)
 refine lv1 ⟨⟨_, rfl, yV xW yY B2 rfl rfl⟩, trivial⟩ ?_
 subst hFz
 exact ⟨LL.b, _, _, rfl, (((ZQ.of_nat h0)).less (fun k c => zM c)).up (by omega)⟩
theorem r7norm_c {p : Rat} {n0 : Nat} {xs0 : Bool} {xa0 xd0 : Value} (h0 : QC M w n0 p xs0 xa0 xd0) (hl0 : n0 ≤ 1999) (hM : OkM M w) :
    CallsV prog 82 [.agg #[.bool xs0, xa0, xd0]] w fun r w' => Bel w.heap.size w w' ∧ ∃ xsr xar xdr, r = .agg #[.bool xsr, xar, xdr] ∧ RC M w' (n0 + 2) (p) xsr xar xdr := by
 obtain ⟨oxa0, oxd0, _⟩ := h0.one
 obtain ⟨xs, ds, i1, i2, i3, i4, hq⟩ := h0.ex
 refine ci M func82 ntmps82 fun Fz hFz hF LL => ?_
 refine zG (zB (yM rfl rfl (fun w1 b1 N1 => ?_)))
 obtain ⟨_, nF1, nM1, Lw1, B1⟩ := nza hF hM N1
 obtain ⟨LL, hM, hF, i1, i2⟩ := up5 Lw1 LL hM hF i1 i2
 refine yG rfl yK (fun w2 b2 N2 => ?_)
 obtain ⟨hBw2, nF2, nM2, Lw2, B2⟩ := nza hF hM N2
 obtain ⟨B1, ne1_2⟩ := bn B1 N2
 obtain ⟨LL, hM, hF, i1, i2⟩ := up5 Lw2 LL hM hF i1 i2
 refine zD (zG (zB (zJ 0 rfl yu33 rfl rfl yY rfl rfl (zO rfl xW yY rfl B1 rfl rfl (zJ 2 rfl yu33 rfl rfl xS rfl rfl (zN rfl yS rfl B1 rfl (zI rfl (bo func107) rfl rfl ?_)))))))
 refine (r7new_c ((ZQ.mk ⟨xs, i1, i3, rfl⟩ : ZQ _ _ n0 (zv xs0 xs) _ _)) ((NQ.mk ⟨ds, i2, i4, rfl⟩ : NQ _ _ n0 (val ds) _)) (by omega) (by omega) hM).mono ?_
 rintro v10 w3 ⟨hB10, xs10, xa10, xd10, rfl, hn10⟩
 obtain ⟨LL, hM, hF, B1, B2⟩ := ub5 hB10 LL hM hF B1 B2
 obtain ⟨oxa10, oxd10, _⟩ := hn10.one
 refine zA rfl rfl (zW rfl rfl rfl (zW rfl rfl rfl (yG rfl yK (fun w4 b3 N3 => ?_))))
 obtain ⟨hBw4, nF3, nM3, Lw4, B3⟩ := nza hF hM N3
 have lt1_3 := B1.lt
 have ne1_3 := N3.ne lt1_3
 obtain ⟨B2, ne2_3⟩ := bn B2 N3
 obtain ⟨LL, hn10⟩ := up2 Lw4 LL hn10
 refine yB rfl rfl yK B3 rfl rfl (yI (yI (yI jN))) rfl (fun w5 Cw5 B3 => ?_)
 obtain ⟨LL, hn10⟩ := up2 (lc LL Cw5 zP nF3) LL hn10
 replace B2 := B2.other Cw5 ne2_3
 refine zC rfl rfl (zD (zG (zB (zO rfl yO yK rfl B3 rfl rfl (yB rfl rfl yK B2 rfl rfl (yI (yI (yI jN))) rfl (fun w6 Cw6 B2 => ?_))))))
 obtain ⟨LL, hn10⟩ := up2 (lc LL Cw6 (.inr zP) nF2) LL hn10
 refine zD (zR ?_)
 refine lv1 ⟨⟨_, rfl, yV yO yK B2 rfl rfl⟩, trivial⟩ ?_
 rw [hq] at hn10
 subst hFz
 exact ⟨LL.b, _, _, _, rfl, (hn10.less (fun k c => zM (zM (zM c)))).up (by omega)⟩
theorem prod2 (x y : Int) : bV [x, y] = x * y := by simp [bV]
theorem cmp_eq (p q : Rat) : (bV [p.num, ((q.den : Nat) : Int)] - bV [q.num, ((p.den : Nat) : Int)]).sign = gD p q := by rw [prod2, prod2]; exact cmpR_eq p q
theorem r7cmp_c {p : Rat} {n0 : Nat} {xs0 : Bool} {xa0 xd0 : Value} {q : Rat} {n1 : Nat} {xs1 : Bool} {xa1 xd1 : Value} (h0 : QC M w n0 p xs0 xa0 xd0) (h1 : QC M w n1 q xs1 xa1 xd1) (hl0 : n0 ≤ 1990) (hl1 : n1 ≤ 1990) (hM : OkM M w) :
    CallsV prog 33 [.agg #[.bool xs0, xa0, xd0], .agg #[.bool xs1, xa1, xd1]] w fun r w' => Bel w.heap.size w w' ∧ r = .int .i64 (gD p q) := by
 obtain ⟨oxa0, oxd0, _⟩ := h0.one
 obtain ⟨oxa1, oxd1, _⟩ := h1.one
 refine ci M func33 ntmps33 fun Fz hFz hF LL => ?_
 refine zG (zB (yM rfl rfl (fun w1 b2 N2 => ?_)))
 obtain ⟨_, nF2, nM2, Lw1, B2⟩ := nza hF hM N2
 obtain ⟨LL, hM, hF, h0, h1⟩ := up5 Lw1 LL hM hF h0 h1
 refine yM rfl rfl (fun w2 b3 N3 => ?_)
 obtain ⟨hBw2, nF3, nM3, Lw2, B3⟩ := nza hF hM N3
 obtain ⟨B2, ne2_3⟩ := bn B2 N3
 obtain ⟨LL, hM, h0, h1⟩ := up4 Lw2 LL hM h0 h1
 refine zC rfl rfl (zD (zG ?_))
 refine wd mixed 3 [2, 3, 6, 7] (by decide +kernel) ?_
 refine zK (fun _ hR _ => zQ rfl rfl (zF (zO rfl yO yK rfl (B2.below hR) rfl rfl (on0 rfl)))) ?_
 refine yX (vRC (Ins b3 (Ins b2 M)) (n0 + 2) (p)) iT (fun wq hR hst => ?_) ?_
 ·refine zL rfl (zF ?_)
  obtain ⟨hM, h0⟩ := ub2 hR hM h0
  refine zI rfl (bo func82) rfl rfl ?_
  refine (r7norm_c h0 (by omega) hM).mono ?_
  rintro v6 w3 ⟨hB6, xs6, xa6, xd6, rfl, hn6⟩
  exact on1 hB6 rfl ⟨_, _, _, rfl, hn6⟩
 refine zK (fun _ hR _ => zQ rfl rfl (zF (zO rfl yO yK rfl (B3.below hR) rfl rfl (on0 rfl)))) ?_
 refine xR (fun wq1 hR1 hpost1 => ?_)
 refine zQ rfl rfl (zQ rfl rfl (xA rfl (fun v6 hp6 => ?_)))
 obtain ⟨xs6, xa6, xd6, rfl, hn6⟩ := hp6; obtain ⟨oxa6, oxd6, _⟩ := hn6.one
 refine zL rfl (zF ?_)
 simp only [jV, jU, jT, jS]
 obtain ⟨LL, hM, h0, h1, B2, B3⟩ := ub6 hR1 LL hM h0 h1 B2 B3
 refine zI rfl (bo func82) rfl rfl ?_
 refine (r7norm_c h1 (by omega) hM).mono ?_
 rintro v8 w4 ⟨hB8, xs8, xa8, xd8, rfl, hn8⟩
 obtain ⟨LL, hM, h0, h1, hn6, B2, B3⟩ := ub7 hB8 LL hM h0 h1 hn6 B2 B3
 obtain ⟨oxa8, oxd8, _⟩ := hn8.one
 refine yB rfl rfl yK B2 rfl rfl (yI (yI (yI jN))) rfl (fun w5 Cw5 B2 => ?_)
 obtain ⟨LL, hM, h0, h1, hn6, hn8⟩ := up6 (lc LL Cw5 (.inr zP) nF2) LL hM h0 h1 hn6 hn8
 replace B3 := B3.other Cw5 ne2_3.symm
 refine yB rfl rfl yK B3 rfl rfl (yI (yI (yI jN))) rfl (fun w6 Cw6 B3 => ?_)
 obtain ⟨LL, hM, h0, h1, hn6, hn8⟩ := up6 (lc LL Cw6 zP nF3) LL hM h0 h1 hn6 hn8
 replace B2 := B2.other Cw6 ne2_3
 refine zD (zG ?_)
 refine wd mixed 12 [15, 17, 20] (by decide +kernel) ?_
 refine zK (fun _ _ _ => zQ rfl rfl (zF (zJ 0 rfl yu33 rfl rfl yY rfl rfl (on0 rfl)))) ?_
 refine zK (fun _ hR _ => zL rfl (zF (zO rfl xW yY rfl (B2.below hR) rfl rfl (on0 rfl)))) ?_
 refine zK (fun _ _ _ => zQ rfl rfl (zF (zJ 2 rfl yu33 rfl rfl xS rfl rfl (on0 rfl)))) ?_
 refine zK (fun _ hR _ => zL rfl (zF (zN rfl yS rfl (B3.below hR) rfl (on0 rfl)))) ?_
 refine yX (vZQ (Ins b3 (Ins b2 M)) ((n1 + 2)) (((q.den : Nat) : Int))) vZQ_m (fun wq hR hst => ?_) ?_
 ·refine zL rfl (zF ?_)
  obtain ⟨hM, hn8⟩ := ub2 hR hM hn8
  refine zI rfl (bo func90) rfl rfl ?_
  refine (over7_c hn8.d.gen (by omega) hM).mono ?_
  rintro v13 w7 ⟨hB13, xs13, xa13, rfl, hn13⟩
  exact on1 hB13 rfl ⟨_, _, rfl, hn13⟩
 refine dv (fun v w => ∃ bb xs14 xa14 xs14b xa14b, v = .slice (some ⟨bb, 0, none⟩) 2 2 ∧ KBlk (Ins b3 (Ins b2 M)) w bb 31 [.bool xs14, xa14, .bool xs14b, xa14b] ∧ ZC (Ins b3 (Ins b2 M)) w (n0 + 2) (p.num) xs14 xa14 ∧ ZQ (Ins b3 (Ins b2 M)) w ((n1 + 2)) (((q.den : Nat) : Int)) xs14b xa14b) (fun wq hR hst => ?_) ?_
 ·refine zL rfl (xA rfl (fun v13 hp13 => ?_))
  obtain ⟨xs13, xa13, rfl, hn13⟩ := hp13
  refine zF ?_
  obtain ⟨hM, hn6⟩ := ub2 hR hM hn6
  refine xL rfl yu174 yY rfl rfl rfl rfl (yA rfl (yA rfl xG)) rfl rfl rfl (fun w8 b14 N14 => ?_)
  have hBw8 := N14.below
  have nM14 := hM.new N14
  have B14 := N14.blk
  obtain ⟨hn6, hn13⟩ := ub2 hBw8 hn6 hn13
  have hB14 := hBw8
  exact on1 hB14 rfl ⟨b14, _, _, _, _, rfl, KBlk.mk B14 nM14, hn6.z, hn13⟩
 refine yX (vZC (Ins b3 (Ins b2 M)) (2 * (max ((n0 + 2)) ((n1 + 2))) + 2) (bV ([p.num, ((q.den : Nat) : Int)]))) vZC_m (fun wq hR hst => ?_) ?_
 ·refine xA rfl (fun v14 hp14 => ?_)
  obtain ⟨bb14, xs14, xa14, xs14b, xa14b, rfl, hk14, hn14, hnb14⟩ := hp14; obtain ⟨oxa14, _⟩ := hn14.one
  refine zF ?_
  replace hM := ub1 hR hM
  refine zI rfl (bo func89) rfl rfl ?_
  refine (i5mul_c (zl2 hk14 hn14.gen hnb14) (by omega) (by first | omega | simp) hM).mono ?_
  rintro v15 w9 ⟨hB15, xs15, xa15, rfl, hn15⟩
  exact on1 hB15 rfl ⟨_, _, rfl, hn15⟩
 refine zK (fun _ _ _ => zQ rfl rfl (zF (zJ 0 rfl yu33 rfl rfl yY rfl rfl (on0 rfl)))) ?_
 refine zK (fun _ hR _ => zL rfl (zF (zO rfl xW yY rfl (B3.below hR) rfl rfl (on0 rfl)))) ?_
 refine zK (fun _ _ _ => zQ rfl rfl (zF (zJ 2 rfl yu33 rfl rfl xS rfl rfl (on0 rfl)))) ?_
 refine zK (fun _ hR _ => zL rfl (zF (zN rfl yS rfl (B2.below hR) rfl (on0 rfl)))) ?_
 refine yX (vZQ (Ins b3 (Ins b2 M)) ((n0 + 2)) (((p.den : Nat) : Int))) vZQ_m (fun wq hR hst => ?_) ?_
 ·refine zL rfl (zF ?_)
  obtain ⟨hM, hn6⟩ := ub2 hR hM hn6
  refine zI rfl (bo func90) rfl rfl ?_
  refine (over7_c hn6.d.gen (by omega) hM).mono ?_
  rintro v20 w10 ⟨hB20, xs20, xa20, rfl, hn20⟩
  exact on1 hB20 rfl ⟨_, _, rfl, hn20⟩
 refine xR (fun wq2 hR2 hpost2 => ?_)
 refine xA rfl (fun v15 hp15 => ?_)
 obtain ⟨xs15, xa15, rfl, hn15⟩ := hp15
 refine zL rfl (xA rfl (fun v20 hp20 => ?_))
 obtain ⟨xs20, xa20, rfl, hn20⟩ := hp20
 refine zF ?_
 simp only [jV, jU, jT, jS]
 obtain ⟨LL, hM, hn8⟩ := ub3 hR2 LL hM hn8
 refine xL rfl yu174 yY rfl rfl rfl rfl (yA rfl (yA rfl xG)) rfl rfl rfl (fun w11 b21 N21 => ?_)
 have hBw11 := N21.below
 have nM21 := hM.new N21
 have B21 := N21.blk
 obtain ⟨LL, hM, hn8, hn15, hn20⟩ := ub5 hBw11 LL hM hn8 hn15 hn20
 refine zI rfl (bo func89) rfl rfl ?_
 refine (i5mul_c (zl2 ((KBlk.mk B21 nM21)) hn8.z.gen hn20) (by omega) (by first | omega | simp) hM).mono ?_
 rintro v22 w12 ⟨hB22, xs22, xa22, rfl, hn22⟩
 obtain ⟨LL, hM, hn15⟩ := ub3 hB22 LL hM hn15
 refine zI rfl (bo func88) rfl rfl ?_
 refine (i5sub_c hn15.gen hn22.gen (by omega) (by omega) hM).mono ?_
 rintro v23 w13 ⟨hB23, xs23, xa23, rfl, hn23⟩
 obtain ⟨LL, hM⟩ := ub2 hB23 LL hM
 refine zI rfl (bo func87) rfl rfl ?_
 refine (i5sign_c hn23.gen (by omega) hM).mono ?_
 rintro v24 w14 ⟨hB24, rfl⟩
 replace LL := ub1 hB24 LL
 refine zC rfl rfl (zD (zR ?_))
 refine lv1 ⟨rfl, trivial⟩ ?_
 rw [cmp_eq]
 subst hFz
 exact ⟨LL.b, rfl⟩
theorem r7same_c {p : Rat} {n0 : Nat} {xs0 : Bool} {xa0 xd0 : Value} {q : Rat} {n1 : Nat} {xs1 : Bool} {xa1 xd1 : Value} (h0 : QC M w n0 p xs0 xa0 xd0) (h1 : QC M w n1 q xs1 xa1 xd1) (hl0 : n0 ≤ 1990) (hl1 : n1 ≤ 1990) (hM : OkM M w) :
    CallsV prog 58 [.agg #[.bool xs0, xa0, xd0], .agg #[.bool xs1, xa1, xd1]] w fun r w' => Bel w.heap.size w w' ∧ r = .bool (decide (gD p q = 0)) := by
 refine ci M func58 ntmps58 fun Fz hFz hF LL => ?_
 refine zG (zB (yM rfl rfl (fun w1 b2 N2 => ?_)))
 obtain ⟨_, nF2, nM2, Lw1, B2⟩ := nza hF hM N2
 obtain ⟨LL, hM, hF, h0, h1⟩ := up5 Lw1 LL hM hF h0 h1
 refine yM rfl rfl (fun w2 b3 N3 => ?_)
 obtain ⟨hBw2, nF3, nM3, Lw2, B3⟩ := nza hF hM N3
 obtain ⟨B2, ne2_3⟩ := bn B2 N3
 obtain ⟨LL, hM, h0, h1⟩ := up4 Lw2 LL hM h0 h1
 refine zC rfl rfl (zD (zG (zB (zO rfl yO yK rfl B2 rfl rfl (zO rfl yO yK rfl B3 rfl rfl (zI rfl (bo func33) rfl rfl ?_))))))
 refine (r7cmp_c h0 h1 (by omega) (by omega) hM).mono ?_
 rintro v7 w3 ⟨hB7, rfl⟩
 replace LL := ub1 hB7 LL
 refine gN rfl rfl rfl (zC rfl rfl (zD (zR ?_)))
 refine lv1 ⟨rfl, trivial⟩ ?_
 subst hFz
 exact ⟨LL.b, rfl⟩
theorem alike_f {p q : P2} (h : p.1 ≠ q.1) : decide (p = q) = false := decide_eq_false fun c => h (by rw [c])
theorem alike_t {p q : P2} (h : p.1 = q.1) : decide (p.2 = q.2) = decide (p = q) := by
  rw [decide_eq_decide]; exact ⟨fun c => Prod.ext h c, fun c => by rw [c]⟩
theorem r8of_c {k : Nat} {l : Nat} (hk : k < 9223372036854775808) (hl : l < 9223372036854775808) (hM : OkM M w) :
    CallsV prog 85 [.int .i64 ((k : Nat) : Int), .int .i64 ((l : Nat) : Int)] w fun r w' => Bel w.heap.size w w' ∧ ∃ xsr xar xdr xtr xbr xer, r = .agg #[.bool xsr, xar, xdr, .bool xtr, xbr, xer] ∧ PC M w' (2) ((((k : Nat) : Rat), ((l : Nat) : Rat))) xsr xar xdr xtr xbr xer := by
 refine ci M func85 ntmps85 fun Fz hFz hF LL => ?_
 refine zG (zB (yG rfl gH (fun w1 b4 N4 => ?_)))
 obtain ⟨_, nF4, nM4, Lw1, B4⟩ := nza hF hM N4
 obtain ⟨LL, hM⟩ := up2 Lw1 LL hM
 refine zD (zG (zB (zA rfl rfl (zI rfl (bo func21) rfl rfl ?_))))
 refine (hC (k := k)  (by omega) hM).mono ?_
 rintro v6 w2 ⟨hB6, xs6, xa6, xd6, rfl, hn6⟩
 obtain ⟨LL, hM, B4⟩ := ub3 hB6 LL hM B4
 obtain ⟨oxa6, oxd6, _⟩ := hn6.one
 refine zA rfl rfl (zI rfl (bo func21) rfl rfl ?_)
 refine (hC (k := l)  (by omega) hM).mono ?_
 rintro v8 w3 ⟨hB8, xs8, xa8, xd8, rfl, hn8⟩
 obtain ⟨LL, hn6, B4⟩ := ub3 hB8 LL hn6 B4
 obtain ⟨oxa8, oxd8, _⟩ := hn8.one
 refine xP rfl hP rfl rfl (yA (rfl) (yA (rfl) xG)) rfl (yB rfl rfl gH B4 rfl rfl (yI (yI (yI (yI (yI (yI jN)))))) rfl (fun w4 Cw4 B4 => ?_))
 obtain ⟨LL, hn6, hn8⟩ := up3 (lc LL Cw4 zP nF4) LL hn6 hn8
 refine zD (zR ?_)
 refine lv1 ⟨⟨_, rfl, yV gI gH B4 rfl rfl⟩, trivial⟩ ?_
 subst hFz
 exact ⟨LL.b, _, _, _, _, _, _, rfl, ((PC.mk2 hn6 hn8).less (fun k c => zM c)).up (by omega)⟩
abbrev N4 := Nat × Nat × Nat × Nat
def m4 (k : N4) : Nat := max (max (max k.1 k.2.1) k.2.2.1) k.2.2.2
section
variable {P : Program} {r : Option Nat} {N : Nat} {all : Array Oper} {K : Pd} {D : List Deferred} {E : Env} {w : World} {rest : List Oper}
theorem ops_max4 {d : Nat} {x y z u : Operand} {ts : Array TypeId} {t' : TypeId} {pos : String} {af : Array Edge} {k : IntKind} {a b c e : Nat} (hd : Nat.blt d N = true)
    (hx : ev E x = some (.int k (a : Int))) (hy : ev E y = some (.int k (b : Int))) (hz : ev E z = some (.int k (c : Int))) (hu : ev E u = some (.int k (e : Int)))
    (h : Ops P r N all K rest D ((d, .int k ((m4 (a, b, c, e) : Nat) : Int)) :: E) w) : Ops P r N all K (⟨some d, .call ⟨.builtin .max, #[x, y, z, u], ts⟩, t', pos, af, none⟩ :: rest) D E w :=
  xT hd (by intro c hc; cases hc) (fun ac ha => by
    have e1 : (Builtin.max_ ts t' #[.int k (a : Int), .int k (b : Int), .int k (c : Int), .int k (e : Int)]).run P w = .ok (.int k ((m4 (a, b, c, e) : Nat) : Int)) w := by
      have : (let m1 := if (b : Int) > (a : Int) then (b : Int) else a; let m2 := if (c : Int) > m1 then (c : Int) else m1; if (e : Int) > m2 then (e : Int) else m2) = ((m4 (a, b, c, e) : Nat) : Int) := by
        unfold m4; simp only; split <;> split <;> split <;> omega
      rw [← this]; rfl
    simp only [execOp, resolve, invoke, builtin, Sem.run_bind, Sem.run_pure, Result.andThen, List.map_toArray, List.map_cons, List.map_nil, ha.ev hx, ha.ev hy, ha.ev hz, ha.ev hu]
    rw [e1]) h
end
end
end Go.Proofs.YtfkejnlohkgbgaaGreatDoor
namespace Go.Proofs.YtfkejnlohkgbgaaGreatDoor
open Go Go.SL Go.RowKit Tryz
structure plen (p : P2) (n : Nat) : Prop where
 x : gO p.1 n
 y : gO p.2 n
theorem rlen_sub {p q : Rat} {A B : Nat} (h1 : gO p A) (h2 : gO q B) : gO (p - q) (A + B + 1) := by
 rw [Rat.sub_eq_add_neg]; exact kK h1 (rlen_neg h2)
theorem plen.sub {p q : P2} {A B : Nat} (h1 : plen p A) (h2 : plen q B) : plen (lK p q) (A + B + 1) := ⟨rlen_sub h1.x h2.x, rlen_sub h1.y h2.y⟩
theorem plen.add {p q : P2} {A B : Nat} (h1 : plen p A) (h2 : plen q B) : plen (addP p q) (A + B + 1) := ⟨kK h1.x h2.x, kK h1.y h2.y⟩
theorem plen.scale {p : P2} {q : Rat} {A B : Nat} (h1 : plen p A) (h2 : gO q B) : plen (scaleP p q) (A + B) := ⟨bT h1.x h2, bT h1.y h2⟩
theorem plen.at_ {p q : P2} {t : Rat} {A B C : Nat} (h1 : plen p A) (h2 : plen q B) (h3 : gO t C) : plen (atP p q t) (A + ((B + A + 1) + C) + 1) := h1.add ((h2.sub h1).scale h3)
theorem rlen_zero' : gO 0 1 := by unfold gO; rw [show (0 : Rat).num.natAbs = 0 from rfl, show (0 : Rat).den = 1 from rfl, xE, gP]; exact ⟨Nat.zero_le _, Nat.le_refl _⟩
section
variable {M : Nat → Prop} {w : World} {n m : Nat} {s t : Bool} {a d b e : Value}
theorem PQ.plen {p : P2} (h : PQ M w n p s a d t b e) (hn : n + 1 ≤ m) : plen p m := ⟨jP h.x.rlen hn, jP h.y.rlen hn⟩
end
end Go.Proofs.YtfkejnlohkgbgaaGreatDoor
namespace Go.Proofs.YtfkejnlohkgbgaaGreatDoor
open Go.SL Go.RowKit Go.Proofs Tryz
section
variable {M : Nat → Prop} {w : World}
abbrev N2 := Nat × Nat
structure Q2 (M : Nat → Prop) (w : World) (n : Nat) (q : N2) (s : Bool) (a d : Value) : Prop where
  a : ∃ p c, a = .slice p q.1 c
  d : ∃ p c, d = .slice p q.2 c
theorem nat_start {M M0 : Nat → Prop} {w0 w : World} {v : Value} {xs : List Nat} (h : IsNat M0 w0 v xs) (hM : ∀ k, M k → M0 k ∨ w0.heap.size ≤ k) (k0 : Keep M0 w0 w) : IsNat M w v xs := by
  obtain ⟨⟨h1, h2, ad, cap, h3, h4, h5⟩, hlt⟩ := h
  refine ⟨⟨h1, h2, ad, cap, h3, h4, ?_⟩, hlt⟩
  rcases h5 with h5 | ⟨b, off, h5, h6, cur, t, fz, h7, h8⟩
  · exact .inl h5
  · have hb := (Array.getElem?_eq_some_iff.1 h7).1
    exact .inr ⟨b, off, h5, fun c => (hM b c).elim h6 (fun c => by omega), cur, t, fz, (k0.2 b hb h6).trans h7, h8⟩
theorem tab_start {M M0 : Nat → Prop} {w0 w : World} (h : Tab M0 w0) (hM : ∀ k, M k → M0 k ∨ w0.heap.size ≤ k) (k0 : Keep M0 w0 w) : Tab M w := by
  obtain ⟨h1, cur, t, fz, h7, h8⟩ := h
  have hb := (Array.getElem?_eq_some_iff.1 h7).1
  exact ⟨fun c => (hM 0 c).elim h1 (fun c => by omega), cur, t, fz, (k0.2 0 hb h1).trans h7, h8⟩
structure EPB (M : Nat → Prop) (w : World) (n : Nat) (cur : List Value) (l : List P2) : Prop where
  e : EB (RPc n) 6 M w cur l
theorem EPB.mono {Fz M M' : Nat → Prop} {w w' : World} {n : Nat} {cur : List Value} {l : List P2} (h : EPB M w n cur l) (k : Le Fz M w M' w') : EPB M' w' n cur l := ⟨EB.mono h.e fun _ _ ⟨a, b, c, d, e, f, e0, h0⟩ => ⟨a, b, c, d, e, f, e0, h0.mono k⟩⟩
instance {Fz M M' : Nat → Prop} {w w' : World} {n : Nat} {cur : List Value} {l : List P2} : Up Fz M M' w w' (EPB M w n cur l) (EPB M' w' n cur l) := ⟨fun l h => h.mono l⟩
instance {M : Nat → Prop} {w w' : World} {n : Nat} {cur : List Value} {l : List P2} : UpB w w' (EPB M w n cur l) (EPB M w' n cur l) := ⟨fun l h => h.mono (lb l)⟩
theorem EPB.set {n i : Nat} {cur : List Value} {l : List P2} {p : P2} {s t : Bool} {a d b e : Value} (h : EPB M w n cur l) (hi : i < l.length) (hp : PC M w n p s a d t b e) : EPB M w n (cur.take (i * 6) ++ [.bool s, a, d, .bool t, b, e] ++ cur.drop (i * 6 + 6)) (l.set i p) := ⟨h.e.set hi rfl ⟨_, _, _, _, _, _, rfl, hp⟩⟩
theorem EPB.take {n m : Nat} {cur : List Value} {l : List P2} (h : EPB M w n cur l) : EPB M w n cur (l.take m) := ⟨h.e.take⟩
theorem keep_same {l : List P2} {s : Nat} (h0 : 0 < s) (hs : s < l.length) (h : ∀ i, 0 < i → i < s → iR (l.getD i (0, 0)) (l.getD (i - 1) (0, 0)) ≠ 0) (hc : iR (l.getD s (0, 0)) (l.getD (s - 1) (0, 0)) = 0) : l.take s = qH l (s + 1) := by
  rw [qH, if_pos ⟨h0, hc⟩, keep_all (by omega) h, List.append_nil]
theorem keep_skip {l l2 : List P2} {k m : Nat} (h0 : 0 < m) (ht : l2.take k = qH l m) (hc : iR (l.getD m (0, 0)) (l.getD (m - 1) (0, 0)) = 0) : l2.take k = qH l (m + 1) := by
  rw [qH, if_pos ⟨h0, hc⟩, List.append_nil, ht]
theorem keep_put {l l2 : List P2} {k m : Nat} (hk : k < l2.length) (ht : l2.take k = qH l m) (hc : ¬ iR (l.getD m (0, 0)) (l.getD (m - 1) (0, 0)) = 0) : (l2.set k (l.getD m (0, 0))).take (k + 1) = qH l (m + 1) := by
  rw [qH, if_neg (fun c => hc c.2), ← ht, List.take_add_one, List.getElem?_set_self hk, List.take_set_of_le (Nat.le_refl _)]; rfl
theorem getD_set_ne {l : List P2} {k i : Nat} {p : P2} (h : k ≠ i) : (l.set k p).getD i (0, 0) = l.getD i (0, 0) := by
  rw [List.getD_eq_getElem?_getD, List.getD_eq_getElem?_getD, List.getElem?_set_ne h]
theorem bod_enter {P : Program} {g : Nat} (h : Bod P g) (args : Array Value) (w : World) : (callFunc g args).run P w = .ok (.enter g args) w := by
  obtain ⟨fn, h1, h2, h3⟩ := h
  have h2' : fn.body ≠ none := fun c => by rw [c] at h2; cases h2
  have h3' : fn.name ≠ "runtime.NumGoroutine" := fun c => by rw [c] at h3; simp at h3
  simp [callFunc, h1, h2', h3']
end
end Go.Proofs.YtfkejnlohkgbgaaGreatDoor
namespace Go.SL
def dB (lo hi x : Rat) : Rat := if lo < hi then (x - lo) / (hi - lo) else 0
def aD (l : P2) (t : Rat) : Rat := l.1 + t * (l.2 - l.1)
def heightAt (l : P2) (lo hi x : Rat) : Rat := if lo < hi then aD l (dB lo hi x) else 0
def hsL (lo hi x : Rat) (ls : List P2) : List Rat := ls.map fun l => aD l (dB lo hi x)
theorem eV (lo hi x : Rat) (ls : List P2) : (hsL lo hi x ls).length = ls.length := by simp [hsL]
theorem hsL_getD {lo hi x : Rat} {ls : List P2} {s : Nat} (h : s < ls.length) : (hsL lo hi x ls).getD s 0 = aD (ls.getD s (0, 0)) (dB lo hi x) := by
 unfold hsL; simp [List.getD_eq_getElem?_getD, List.getElem?_eq_getElem h]
def cH (a b : P2) : Int := if gD (a.1 + a.2) (b.1 + b.2) ≠ 0 then gD (a.1 + a.2) (b.1 + b.2) else gD a.1 b.1
def leL (a b : P2) : Prop := a.1 + a.2 < b.1 + b.2 ∨ a.1 + a.2 = b.1 + b.2 ∧ a.1 ≤ b.1
theorem cY {a b : P2} : cH a b < 0 ↔ ¬ leL b a := by
 unfold cH leL
 have h1 := @cmpR_le (a.1 + a.2) (b.1 + b.2); have h2 := @gY (a.1 + a.2) (b.1 + b.2); have h3 := @eF a.1 b.1; have h4 := @eF (a.1 + a.2) (b.1 + b.2)
 grind
theorem leL_refl (a : P2) : leL a a := by unfold leL; grind
theorem leL_trans {a b c : P2} (h : leL a b) (k : leL b c) : leL a c := by unfold leL at *; grind
theorem leL_total (a b : P2) : leL a b ∨ leL b a := by unfold leL; grind
theorem leL_anti {a b : P2} (h : leL a b) (k : leL b a) : a = b := by unfold leL at *; rw [Prod.ext_iff]; grind
def kR (ys : List Rat) (y : Rat) : Nat → Int
 | 0 => 0
 | s + 1 => kR ys y s + (if ys.getD s 0 < y then 1 else 0)
theorem below_yes {ys : List Rat} {y : Rat} {s : Nat} (h : ys.getD s 0 < y) : kR ys y (s + 1) - 1 = kR ys y s - 1 + 1 := by rw [kR, if_pos h]; omega
theorem below_no {ys : List Rat} {y : Rat} {s : Nat} (h : ¬ ys.getD s 0 < y) : kR ys y (s + 1) - 1 = kR ys y s - 1 := by rw [kR, if_neg h]; omega
theorem belowY_bnd (ys : List Rat) (y : Rat) : ∀ s : Nat, 0 ≤ kR ys y s ∧ kR ys y s ≤ s
 | 0 => by simp [kR]
 | s + 1 => by
  have := belowY_bnd ys y s
  unfold kR
  split <;> omega
def iZ (ys : List Rat) (y : Rat) : Nat → Option Nat
 | 0 => none
 | s + 1 => match iZ ys y s with
  | some i => some i
  | none => if ys.getD s 0 = y then some s else none
def lA (ys : List Rat) (y : Rat) : Int × Bool := match iZ ys y ys.length with
 | some i => ((i : Int), true)
 | none => (kR ys y ys.length - 1, false)
theorem hitY_none {ys : List Rat} {y : Rat} : ∀ {s : Nat}, iZ ys y s = none ↔ ∀ i, i < s → ys.getD i 0 ≠ y
 | 0 => by simp [iZ]
 | s + 1 => by
  have ih := @hitY_none ys y s
  unfold iZ
  constructor
  ·intro h0 i hi
   cases hh : iZ ys y s with
   | some q => rw [hh] at h0; cases h0
   | none =>
   rw [hh] at h0
   have h1 := ih.1 hh
   have h2 : (if ys.getD s 0 = y then some s else none) = none := h0
   rcases Nat.lt_or_ge i s with c | c
   ·exact h1 i c
   ·obtain rfl : i = s := by omega
    intro e; rw [if_pos e] at h2; cases h2
  ·intro h
   rw [ih.2 fun i hi => h i (by omega)]
   exact if_neg (h s (by omega))
theorem hitY_some {ys : List Rat} {y : Rat} {s : Nat} (hn : ∀ i, i < s → ys.getD i 0 ≠ y) (he : ys.getD s 0 = y) : ∀ k, s < k → iZ ys y k = some s
 | 0, h => by omega
 | k + 1, h => by
  unfold iZ
  rcases Nat.lt_or_ge s k with c | c
  ·rw [hitY_some hn he k c]
  ·obtain rfl : s = k := by omega
   rw [hitY_none.2 hn]; exact if_pos he
theorem findY_hit {ys : List Rat} {y : Rat} {s : Nat} (hs : s < ys.length) (hn : ∀ i, i < s → ys.getD i 0 ≠ y) (he : ys.getD s 0 = y) : lA ys y = ((s : Int), true) := by
 unfold lA; rw [hitY_some hn he _ hs]
theorem findY_miss {ys : List Rat} {y : Rat} (hn : ∀ i, i < ys.length → ys.getD i 0 ≠ y) : lA ys y = (kR ys y ys.length - 1, false) := by
 unfold lA; rw [hitY_none.2 hn]
def findL (lo hi : Rat) (p : P2) (ls : List P2) : Int × Bool := lA (hsL lo hi p.1 ls) p.2
def eJ (lo hi : Rat) (e : P2 × P2) : Prop := ¬ lo < e.1.1 ∧ ¬ e.2.1 < hi ∧ e.1.1 < e.2.1
instance (lo hi : Rat) (e : P2 × P2) : Decidable (eJ lo hi e) := inferInstanceAs (Decidable (_ ∧ _))
def dO (lo hi : Rat) (e : P2 × P2) : P2 := (cV e.1 e.2 lo, cV e.1 e.2 hi)
def qB (lo hi : Rat) (es : List (P2 × P2)) : Nat → List P2
 | 0 => []
 | s + 1 => qB lo hi es s ++ (if eJ lo hi (es.getD s ((0, 0), (0, 0))) then [dO lo hi (es.getD s ((0, 0), (0, 0)))] else [])
theorem thru_skip {lo hi : Rat} {es : List (P2 × P2)} {s : Nat} (h : ¬ eJ lo hi (es.getD s ((0, 0), (0, 0)))) : qB lo hi es (s + 1) = qB lo hi es s := by rw [qB, if_neg h, List.append_nil]
theorem thru_take {lo hi : Rat} {es : List (P2 × P2)} {s : Nat} (h : eJ lo hi (es.getD s ((0, 0), (0, 0)))) : qB lo hi es (s + 1) = qB lo hi es s ++ [dO lo hi (es.getD s ((0, 0), (0, 0)))] := by rw [qB, if_pos h]
theorem thru_pre (lo hi : Rat) (es : List (P2 × P2)) (s : Nat) : ∀ k, ∃ post, qB lo hi es (s + k) = qB lo hi es s ++ post
 | 0 => ⟨[], by simp⟩
 | k + 1 => by
  obtain ⟨post, h⟩ := thru_pre lo hi es s k
  rw [← Nat.add_assoc, qB, h, List.append_assoc]
  exact ⟨_, rfl⟩
theorem thru_at {lo hi : Rat} {es : List (P2 × P2)} {s : Nat} (hs : s < es.length) (h : eJ lo hi (es.getD s ((0, 0), (0, 0)))) : ∃ post, qB lo hi es es.length = qB lo hi es s ++ dO lo hi (es.getD s ((0, 0), (0, 0))) :: post := by
 obtain ⟨post, e⟩ := thru_pre lo hi es (s + 1) (es.length - (s + 1))
 rw [show s + 1 + (es.length - (s + 1)) = es.length by omega, thru_take h, List.append_assoc] at e
 exact ⟨post, e⟩
theorem thru_len (lo hi : Rat) (es : List (P2 × P2)) : ∀ s, (qB lo hi es s).length ≤ s
 | 0 => by simp [qB]
 | s + 1 => by
  have := thru_len lo hi es s
  rw [qB, List.length_append]
  split <;> simp <;> omega
def kL (a b : P2) : Prop := a.1 ≤ b.1 ∧ a.2 ≤ b.2 ∧ a ≠ b
def fZ (ls : List P2) : Prop := ∀ i, i + 1 < ls.length → kL (ls.getD i (0, 0)) (ls.getD (i + 1) (0, 0))
noncomputable instance (ls : List P2) : Decidable (fZ ls) := Classical.propDecidable _
theorem cmpR_bnd (p q : Rat) : -1 ≤ gD p q ∧ gD p q ≤ 1 := by unfold gD; split <;> (try split) <;> decide
theorem rise_ok {a b : P2} (h1 : ¬ 0 < gD a.1 b.1) (h2 : ¬ 0 < gD a.2 b.2) (h3 : ¬ (gD a.1 b.1 = 0 ∧ gD a.2 b.2 = 0)) : kL a b := by
 rw [fA] at h1 h2
 rw [gY, gY] at h3
 exact ⟨by grind, by grind, fun e => h3 (by rw [e]; exact ⟨rfl, rfl⟩)⟩
theorem rise_no1 {a b : P2} (h : 0 < gD a.1 b.1) : ¬ kL a b := fun c => by rw [fA] at h; have := c.1; grind
theorem rise_no2 {a b : P2} (h : 0 < gD a.2 b.2) : ¬ kL a b := fun c => by rw [fA] at h; have := c.2.1; grind
theorem rise_no3 {a b : P2} (h : gD a.1 b.1 = 0) (k : gD a.2 b.2 = 0) : ¬ kL a b := fun c => c.2.2 (Prod.ext (gY.1 h) (gY.1 k))
theorem rise_not {ls : List P2} {s : Nat} (hs : s + 1 < ls.length) (h : ¬ kL (ls.getD s (0, 0)) (ls.getD (s + 1) (0, 0))) : decide (fZ ls) = false := decide_eq_false fun c => h (c s hs)
theorem dQ (a : P2) : ¬ cH a a < 0 := by rw [cY]; exact fun c => c (leL_refl a)
theorem cmpL_lt_trans {a b c : P2} (h : cH a b < 0) (k : cH b c < 0) : cH a c < 0 := by
 rw [cY] at *
 exact fun x => h (leL_trans (Classical.byContradiction fun y => by rcases leL_total b c with z | z; exact y z; exact k z) x)
theorem keep_specL {l : List P2} (hs : ∀ i j, i < j → j < l.length → leL (l.getD i (0, 0)) (l.getD j (0, 0))) : ∀ k, k ≤ l.length →
  (qH l k).Pairwise (fun a b => cH a b < 0) ∧ ∀ x, x ∈ qH l k ↔ x ∈ l.take k
 | 0, _ => by simp [qH]
 | k + 1, hk => by
  obtain ⟨h1, h2⟩ := keep_specL hs k (by omega)
  rw [take_getD (0, 0) (by omega)]
  unfold qH
  split
  ·rename_i c
   rw [List.append_nil]
   refine ⟨h1, fun x => ?_⟩
   rw [h2, List.mem_append]
   refine ⟨.inl, fun d => d.elim id fun d => ?_⟩
   rw [List.mem_singleton.1 d, aV.1 c.2]
   have := take_getD (l := l) (k := k - 1) (0, 0) (by omega)
   rw [show k - 1 + 1 = k by omega] at this
   rw [this]; simp
  ·rename_i c
   refine ⟨List.pairwise_append.2 ⟨h1, List.pairwise_singleton _ _, fun a ha b hb => ?_⟩, fun x => by rw [List.mem_append, List.mem_append, h2]⟩
   rw [List.mem_singleton.1 hb, cY]
   intro hle
   obtain ⟨i, hi, rfl⟩ := List.mem_iff_getElem.1 ((h2 a).1 ha)
   rw [List.length_take] at hi
   rw [List.getElem_take] at hle
   have e : l[i]'(by omega) = l.getD i (0, 0) := by rw [List.getD_eq_getElem?_getD, List.getElem?_eq_getElem]; rfl
   rw [e] at hle
   apply c
   refine ⟨by omega, aV.2 ?_⟩
   have h4 := hs (k - 1) k (by omega) (by omega)
   rcases Nat.lt_or_ge i (k - 1) with d | d
   ·exact leL_anti (leL_trans hle (hs i (k - 1) d (by omega))) h4
   ·rw [show i = k - 1 by omega] at hle
    exact leL_anti hle h4
theorem pw_uniq : ∀ {l m : List P2}, l.Pairwise (fun a b => cH a b < 0) → m.Pairwise (fun a b => cH a b < 0) → (∀ x, x ∈ l ↔ x ∈ m) → l = m
 | [], [], _, _, _ => rfl
 | [], b :: m, _, _, h => absurd ((h b).2 (by simp)) (by simp)
 | a :: l, [], _, _, h => absurd ((h a).1 (by simp)) (by simp)
 | a :: l, b :: m, h1, h2, h => by
  obtain ⟨a1, a2⟩ := List.pairwise_cons.1 h1
  obtain ⟨b1, b2⟩ := List.pairwise_cons.1 h2
  have e : a = b := by
   rcases List.mem_cons.1 ((h a).1 (by simp)) with c | c
   ·exact c
   rcases List.mem_cons.1 ((h b).2 (by simp)) with d | d
   ·exact d.symm
   exact absurd (cmpL_lt_trans (a1 b d) (b1 a c)) (dQ a)
  subst e
  rw [pw_uniq a2 b2 fun x => ⟨fun hx => ?_, fun hx => ?_⟩]
  ·rcases List.mem_cons.1 ((h x).1 (List.mem_cons_of_mem _ hx)) with c | c
   ·subst c; exact absurd (a1 x hx) (dQ x)
   ·exact c
  ·rcases List.mem_cons.1 ((h x).2 (List.mem_cons_of_mem _ hx)) with c | c
   ·subst c; exact absurd (b1 x hx) (dQ x)
   ·exact c
structure IsLv (lo hi yl yh : Rat) (es : List (P2 × P2)) (l : List P2) : Prop where
 rise : l.Pairwise (fun a b => cH a b < 0)
 mem : ∀ x, x ∈ l ↔ x ∈ qB lo hi es es.length ++ [(yl, yl), (yh, yh)]
theorem lv_of_sort {lo hi yl yh : Rat} {es : List (P2 × P2)} {d : List P2} (hp : d.Perm (qB lo hi es es.length ++ [(yl, yl), (yh, yh)])) (hs : ∀ i j, i < j → j < d.length → leL (d.getD i (0, 0)) (d.getD j (0, 0))) : IsLv lo hi yl yh es (qH d d.length) := by
 obtain ⟨h1, h2⟩ := keep_specL hs d.length (Nat.le_refl _)
 exact ⟨h1, fun x => by rw [h2, List.take_length]; exact hp.mem_iff⟩
theorem lv_uniq {lo hi yl yh : Rat} {es : List (P2 × P2)} {l m : List P2} (h : IsLv lo hi yl yh es l) (k : IsLv lo hi yl yh es m) : l = m := pw_uniq h.rise k.rise fun x => by rw [h.mem, k.mem]
end Go.SL
namespace Go.Proofs.YtfkejnlohkgbgaaGreatDoor
open Go.SL Go.RowKit Go.Proofs Tryz
section
variable {M : Nat → Prop} {w : World}
theorem lcmp_c {p : P2} {n0 : Nat} {xs0 xt0 : Bool} {xa0 xd0 xb0 xe0 : Value} {q : P2} {n1 : Nat} {xs1 xt1 : Bool} {xa1 xd1 xb1 xe1 : Value} (hT : Tab M w) (h0 : PQ M w n0 p xs0 xa0 xd0 xt0 xb0 xe0) (h1 : PQ M w n1 q xs1 xa1 xd1 xt1 xb1 xe1) (hl0 : n0 ≤ 9000) (hl1 : n1 ≤ 9000) (hM : OkM M w) :
    CallsV prog 113 [.agg #[.bool xs0, xa0, xd0, .bool xt0, xb0, xe0], .agg #[.bool xs1, xa1, xd1, .bool xt1, xb1, xe1]] w fun r w' => Bel w.heap.size w w' ∧ r = .int .i64 (cH p q) := by
 refine ci M func113 ntmps113 fun Fz hFz hF LL => ?_
 refine zG (zB (yM rfl rfl (fun w1 b2 N2 => ?_)))
 obtain ⟨_, nF2, nM2, Lw1, B2⟩ := nza hF hM N2
 obtain ⟨LL, hM, hF, hT, h0, h1⟩ := up6 Lw1 LL hM hF hT h0 h1
 refine yM rfl rfl (fun w2 b3 N3 => ?_)
 obtain ⟨hBw2, nF3, nM3, Lw2, B3⟩ := nza hF hM N3
 obtain ⟨B2, ne2_3⟩ := bn B2 N3
 obtain ⟨LL, hM, hT, h0, h1⟩ := up5 Lw2 LL hM hT h0 h1
 refine zC rfl rfl (zD (zG (zG ?_)))
 refine wd mixed 11 [2, 3, 11, 16] (by decide +kernel) ?_
 refine zK (fun _ _ _ => zQ rfl rfl (zF (zJ 0 rfl yu83 rfl rfl yK rfl rfl (on0 rfl)))) ?_
 refine zK (fun _ hR _ => zL rfl (zF (zO rfl yO yK rfl (B2.below hR) rfl rfl (on0 rfl)))) ?_
 refine zK (fun _ _ _ => zQ rfl rfl (zF (zJ 3 rfl yu83 rfl rfl yK rfl rfl (on0 rfl)))) ?_
 refine zK (fun _ hR _ => zL rfl (zF (zO rfl yO yK rfl (B2.below hR) rfl rfl (on0 rfl)))) ?_
 refine dv (fun v w => ∃ bb xs10 xa10 xd10 xs10b xa10b xd10b, v = .slice (some ⟨bb, 0, none⟩) 2 2 ∧ KBlk (Ins b3 (Ins b2 M)) w bb 33 [.bool xs10, xa10, xd10, .bool xs10b, xa10b, xd10b] ∧ QC (Ins b3 (Ins b2 M)) w (n0) (p.1) xs10 xa10 xd10 ∧ QC (Ins b3 (Ins b2 M)) w (n0) (p.2) xs10b xa10b xd10b) (fun wq hR hst => ?_) ?_
 ·refine zL rfl (zL rfl (zF ?_))
  obtain ⟨hM, h0⟩ := ub2 hR hM h0
  refine xL rfl yu22 yK rfl rfl rfl rfl (yA rfl (yA rfl xG)) rfl rfl rfl (fun w3 b10 N10 => ?_)
  have hBw3 := N10.below
  have nM10 := hM.new N10
  have B10 := N10.blk
  replace h0 := ub1 hBw3 h0
  have hB10 := hBw3
  exact on1 hB10 rfl ⟨b10, _, _, _, _, _, _, rfl, KBlk.mk B10 nM10, h0.x, h0.y⟩
 refine yX (vRC (Ins b3 (Ins b2 M)) (n0 + n0 + 3) (p.1 + p.2)) iT (fun wq hR hst => ?_) ?_
 ·refine xA rfl (fun v10 hp10 => ?_)
  obtain ⟨bb10, xs10, xa10, xd10, xs10b, xa10b, xd10b, rfl, hk10, hn10, hnb10⟩ := hp10; obtain ⟨oxa10, oxd10, _⟩ := hn10.one
  refine zF ?_
  obtain ⟨hM, hT⟩ := ub2 hR hM hT
  refine zI rfl (bo func163) rfl rfl ?_
  refine (radd2_q hT hk10 hn10 hnb10 (by omega) (by omega) hM).mono ?_
  rintro v11 w4 ⟨hB11, xs11, xa11, xd11, rfl, hn11⟩
  exact on1 hB11 rfl ⟨_, _, _, rfl, hn11⟩
 refine zK (fun _ _ _ => zQ rfl rfl (zF (zJ 0 rfl yu83 rfl rfl yK rfl rfl (on0 rfl)))) ?_
 refine zK (fun _ hR _ => zL rfl (zF (zO rfl yO yK rfl (B3.below hR) rfl rfl (on0 rfl)))) ?_
 refine zK (fun _ _ _ => zQ rfl rfl (zF (zJ 3 rfl yu83 rfl rfl yK rfl rfl (on0 rfl)))) ?_
 refine zK (fun _ hR _ => zL rfl (zF (zO rfl yO yK rfl (B3.below hR) rfl rfl (on0 rfl)))) ?_
 refine dv (fun v w => ∃ bb xs16 xa16 xd16 xs16b xa16b xd16b, v = .slice (some ⟨bb, 0, none⟩) 2 2 ∧ KBlk (Ins b3 (Ins b2 M)) w bb 33 [.bool xs16, xa16, xd16, .bool xs16b, xa16b, xd16b] ∧ QC (Ins b3 (Ins b2 M)) w (n1) (q.1) xs16 xa16 xd16 ∧ QC (Ins b3 (Ins b2 M)) w (n1) (q.2) xs16b xa16b xd16b) (fun wq hR hst => ?_) ?_
 ·refine zL rfl (zL rfl (zF ?_))
  obtain ⟨hM, h1⟩ := ub2 hR hM h1
  refine xL rfl yu22 yK rfl rfl rfl rfl (yA rfl (yA rfl xG)) rfl rfl rfl (fun w5 b16 N16 => ?_)
  have hBw5 := N16.below
  have nM16 := hM.new N16
  have B16 := N16.blk
  replace h1 := ub1 hBw5 h1
  have hB16 := hBw5
  exact on1 hB16 rfl ⟨b16, _, _, _, _, _, _, rfl, KBlk.mk B16 nM16, h1.x, h1.y⟩
 refine xR (fun wq1 hR1 hpost1 => ?_)
 refine zQ rfl rfl (zQ rfl rfl (xA rfl (fun v11 hp11 => ?_)))
 obtain ⟨xs11, xa11, xd11, rfl, hn11⟩ := hp11
 refine xA rfl (fun v16 hp16 => ?_)
 obtain ⟨bb16, xs16, xa16, xd16, xs16b, xa16b, xd16b, rfl, hk16, hn16, hnb16⟩ := hp16; obtain ⟨oxa16, oxd16, _⟩ := hn16.one
 refine zF ?_
 simp only [jV, jU, jT, jS]
 obtain ⟨LL, hM, hT, h0, h1, B2, B3⟩ := ub7 hR1 LL hM hT h0 h1 B2 B3
 refine zI rfl (bo func163) rfl rfl ?_
 refine (radd2_q hT hk16 hn16 hnb16 (by omega) (by omega) hM).mono ?_
 rintro v17 w6 ⟨hB17, xs17, xa17, xd17, rfl, hn17⟩
 obtain ⟨LL, hM, hT, h0, h1, hn11, B2, B3⟩ := ub8 hB17 LL hM hT h0 h1 hn11 B2 B3
 refine zI rfl (bo func78) rfl rfl ?_
 refine (eM hT hn11.gen hn17.gen (by omega) (by omega) hM).mono ?_
 rintro v18 w7 ⟨hB18, rfl⟩
 obtain ⟨LL, hM, hT, h0, h1, B2, B3⟩ := ub7 hB18 LL hM hT h0 h1 B2 B3
 refine zC rfl rfl (zD (zG (zB (zA rfl rfl (eN rfl rfl rfl (zD ?_))))))
 refine zV rfl (fun hc0 => ?_) (fun hc0 => ?_)
 ·have hcc : cH p q = gD (p.1 + p.2) (q.1 + q.2) := if_pos hc0
  refine zG (zB (zA rfl rfl (zC rfl rfl (zD (zR ?_)))))
  refine lv1 ⟨rfl, trivial⟩ ?_
  rw [hcc]
  subst hFz
  exact ⟨LL.b, rfl⟩
 ·have hcc : cH p q = gD p.1 q.1 := if_neg hc0
  refine yF (zG (zB (zJ 0 rfl yu83 rfl rfl yK rfl rfl (zO rfl yO yK rfl B2 rfl rfl (zJ 0 rfl yu83 rfl rfl yK rfl rfl (zO rfl yO yK rfl B3 rfl rfl (zI rfl (bo func78) rfl rfl ?_)))))))
  refine (eM hT h0.x h1.x (by omega) (by omega) hM).mono ?_
  rintro v26 w8 ⟨hB26, rfl⟩
  replace LL := ub1 hB26 LL
  refine zC rfl rfl (zD (zR ?_))
  refine lv1 ⟨rfl, trivial⟩ ?_
  rw [hcc]
  subst hFz
  exact ⟨LL.b, rfl⟩
theorem lsame_c {p : P2} {n0 : Nat} {xs0 xt0 : Bool} {xa0 xd0 xb0 xe0 : Value} {q : P2} {n1 : Nat} {xs1 xt1 : Bool} {xa1 xd1 xb1 xe1 : Value} (hT : Tab M w) (h0 : PQ M w n0 p xs0 xa0 xd0 xt0 xb0 xe0) (h1 : PQ M w n1 q xs1 xa1 xd1 xt1 xb1 xe1) (hl0 : n0 ≤ 20000) (hl1 : n1 ≤ 20000) (hM : OkM M w) :
    CallsV prog 115 [.agg #[.bool xs0, xa0, xd0, .bool xt0, xb0, xe0], .agg #[.bool xs1, xa1, xd1, .bool xt1, xb1, xe1]] w fun r w' => Bel w.heap.size w w' ∧ r = .bool (decide (p = q)) := by
 refine ci M func115 ntmps115 fun Fz hFz hF LL => ?_
 refine zG (zB (yM rfl rfl (fun w1 b2 N2 => ?_)))
 obtain ⟨_, nF2, nM2, Lw1, B2⟩ := nza hF hM N2
 obtain ⟨LL, hM, hF, hT, h0, h1⟩ := up6 Lw1 LL hM hF hT h0 h1
 refine yM rfl rfl (fun w2 b3 N3 => ?_)
 obtain ⟨hBw2, nF3, nM3, Lw2, B3⟩ := nza hF hM N3
 obtain ⟨B2, ne2_3⟩ := bn B2 N3
 obtain ⟨LL, hM, hT, h0, h1⟩ := up5 Lw2 LL hM hT h0 h1
 refine zC rfl rfl (zD (zG (zB (zJ 0 rfl yu83 rfl rfl yK rfl rfl (zO rfl yO yK rfl B2 rfl rfl (zJ 0 rfl yu83 rfl rfl yK rfl rfl (zO rfl yO yK rfl B3 rfl rfl (zI rfl (bo func174) rfl rfl ?_))))))))
 refine (rsame_q hT h0.x h1.x (by omega) (by omega) hM).mono ?_
 rintro v9 w3 ⟨hB9, rfl⟩
 obtain ⟨LL, hM, hT, h0, h1, B2, B3⟩ := ub7 hB9 LL hM hT h0 h1 B2 B3
 refine zA rfl rfl (gX (d := 10) rfl (fun hg1_5 => ?_) (fun hg1_5 => ?_))
 ·refine yC rfl rfl (zJ 3 rfl yu83 rfl rfl yK rfl rfl (yC rfl rfl (zO rfl yO yK rfl B2 rfl rfl (yC rfl rfl (zJ 3 rfl yu83 rfl rfl yK rfl rfl (yC rfl rfl (zO rfl yO yK rfl B3 rfl rfl (yC rfl rfl (zI rfl (bo func174) rfl rfl ?_)))))))))
  refine (rsame_q hT h0.y h1.y (by omega) (by omega) hM).mono ?_
  rintro v15 w4 ⟨hB15, rfl⟩
  replace LL := ub1 hB15 LL
  refine xZ rfl rfl rfl (zC rfl rfl (zD (zR ?_)))
  refine lv1 ⟨rfl, trivial⟩ ?_
  rw [alike_t hg1_5]
  subst hFz
  exact ⟨LL.b, rfl⟩
 ·refine zY rfl rfl rfl rfl (zY rfl rfl rfl rfl (zY rfl rfl rfl rfl (zY rfl rfl rfl rfl (zY rfl rfl rfl rfl (xZ rfl rfl rfl (zC rfl rfl (zD (zR ?_))))))))
  refine lv1 ⟨rfl, trivial⟩ ?_
  rw [alike_f hg1_5]
  subst hFz
  exact ⟨LL.b, rfl⟩
theorem lflat_c {x : Rat} {n0 : Nat} {xs0 : Bool} {xa0 xd0 : Value} (hT : Tab M w) (h0 : QC M w n0 x xs0 xa0 xd0) (hl0 : n0 ≤ 20000) (hM : OkM M w) :
    CallsV prog 111 [.agg #[.bool xs0, xa0, xd0]] w fun r w' => Bel w.heap.size w w' ∧ ∃ xsr xar xdr xtr xbr xer, r = .agg #[.bool xsr, xar, xdr, .bool xtr, xbr, xer] ∧ PC M w' (n0 + 1) ((x, x)) xsr xar xdr xtr xbr xer := by
 obtain ⟨oxa0, oxd0, _⟩ := h0.one
 refine ci M func111 ntmps111 fun Fz hFz hF LL => ?_
 refine zG (zB (yM rfl rfl (fun w1 b1 N1 => ?_)))
 obtain ⟨_, nF1, nM1, Lw1, B1⟩ := nza hF hM N1
 obtain ⟨LL, hM, hF, hT, h0⟩ := up5 Lw1 LL hM hF hT h0
 refine yG rfl kG (fun w2 b2 N2 => ?_)
 obtain ⟨hBw2, nF2, nM2, Lw2, B2⟩ := nza hF hM N2
 obtain ⟨B1, ne1_2⟩ := bn B1 N2
 obtain ⟨LL, hM, hT, h0⟩ := up4 Lw2 LL hM hT h0
 refine zD (zG (zB (zO rfl yO yK rfl B1 rfl rfl (zI rfl (bo func126) rfl rfl ?_))))
 refine (rnrm_q hT h0 (by omega) hM).mono ?_
 rintro v4 w3 ⟨hB4, xs4, xa4, xd4, rfl, hn4⟩
 obtain ⟨LL, B1, B2⟩ := ub3 hB4 LL B1 B2
 obtain ⟨oxa4, oxd4, _⟩ := hn4.one
 refine yB rfl rfl yK B1 rfl rfl (yI (yI (yI jN))) rfl (fun w4 Cw4 B1 => ?_)
 obtain ⟨LL, hn4⟩ := up2 (lc LL Cw4 (.inr zP) nF1) LL hn4
 replace B2 := B2.other Cw4 ne1_2.symm
 refine zD (zG (zB (zO rfl yO yK rfl B1 rfl rfl (zO rfl yO yK rfl B1 rfl rfl (xP rfl plc83 rfl rfl (yA (rfl) (yA (rfl) xG)) rfl (yB rfl rfl kG B2 rfl rfl (yI (yI (yI (yI (yI (yI jN)))))) rfl (fun w5 Cw5 B2 => ?_)))))))
 obtain ⟨LL, hn4⟩ := up2 (lc LL Cw5 zP nF2) LL hn4
 refine zD (zR ?_)
 refine lv1 ⟨⟨_, rfl, yV cX kG B2 rfl rfl⟩, trivial⟩ ?_
 subst hFz
 exact ⟨LL.b, _, _, _, _, _, _, rfl, ((PC.mk2 hn4 hn4).less (fun k c => zM (zM c))).up (by omega)⟩
theorem l23whole_c {k : Nat} (hk : k < 9223372036854775808) (hM : OkM M w) :
    CallsV prog 48 [.int .i64 ((k : Nat) : Int)] w fun r w' => Bel w.heap.size w w' ∧ ∃ xsr xar xdr, r = .agg #[.bool xsr, xar, xdr] ∧ RC M w' (2) (((k : Nat) : Rat)) xsr xar xdr := by
 refine ci M func48 ntmps48 fun Fz hFz hF LL => ?_
 refine zG (zB (yG rfl yK (fun w1 b2 N2 => ?_)))
 obtain ⟨_, nF2, nM2, Lw1, B2⟩ := nza hF hM N2
 obtain ⟨LL, hM⟩ := up2 Lw1 LL hM
 refine zD (zG (zB (zA rfl rfl (zI rfl (bo func21) rfl rfl ?_))))
 refine (hC (k := k)  (by omega) hM).mono ?_
 rintro v4 w2 ⟨hB4, xs4, xa4, xd4, rfl, hn4⟩
 obtain ⟨LL, B2⟩ := ub2 hB4 LL B2
 obtain ⟨oxa4, oxd4, _⟩ := hn4.one
 refine yB rfl rfl yK B2 rfl rfl (yI (yI (yI jN))) rfl (fun w3 Cw3 B2 => ?_)
 obtain ⟨LL, hn4⟩ := up2 (lc LL Cw3 zP nF2) LL hn4
 refine zD (zR ?_)
 refine lv1 ⟨⟨_, rfl, yV yO yK B2 rfl rfl⟩, trivial⟩ ?_
 subst hFz
 exact ⟨LL.b, _, _, _, rfl, (hn4.less (fun k c => zM c)).up (by omega)⟩
def iP (l : List N2) : Nat → Nat
  | 0 => 0
  | s + 1 => iP l s + min ((l.getD s (0, 0)).1 + (l.getD s (0, 0)).2) 1000
theorem sumM_le (l : List N2) : ∀ s, iP l s ≤ 1000 * s
  | 0 => Nat.le_refl _
  | s + 1 => by
    have := sumM_le l s
    unfold iP; omega
def iE (l : List N2) : Bool := decide (60 < l.length ∨ 40 < iP l l.length)
def RE (n : Nat) : kA (P2 × P2) := fun M w p us => ∃ xsa xaa xda xta xba xea xsb xab xdb xtb xbb xeb, us = [.bool xsa, xaa, xda, .bool xta, xba, xea, .bool xsb, xab, xdb, .bool xtb, xbb, xeb] ∧ PQ M w n p.1 xsa xaa xda xta xba xea ∧ PQ M w n p.2 xsb xab xdb xtb xbb xeb
structure EL (M : Nat → Prop) (w : World) (n : Nat) (q : List (P2 × P2)) (v : Value) : Prop where
  row : RowOf (RE n) 12 M w v q
section
variable {Fz M M' M0 : Nat → Prop} {w w' w0 : World} {n : Nat} {q : List (P2 × P2)} {v : Value}
theorem EL.mono (h : EL M w n q v) (l : Le Fz M w M' w') : EL M' w' n q v := ⟨h.row.mono l fun _ _ ⟨xsa, xaa, xda, xta, xba, xea, xsb, xab, xdb, xtb, xbb, xeb, e0, h0, h1⟩ => ⟨xsa, xaa, xda, xta, xba, xea, xsb, xab, xdb, xtb, xbb, xeb, e0, h0.mono l, h1.mono l⟩⟩
theorem EL.less (h : EL M w n q v) (hm : ∀ k, M' k → M k) : EL M' w n q v := h.mono (Fz := fun _ => False) (Le.less hm)
theorem EL.one (h : EL M w n q v) : v.oneCell' = true ∧ True := by obtain ⟨_, ⟨_, _, ad, cap, rfl, _⟩, _⟩ := h.row; exact ⟨rfl, trivial⟩
theorem EL.cells (h : EL M w n q v) : v.cells.toList = [v] := by obtain ⟨_, ⟨_, _, ad, cap, rfl, _⟩, _⟩ := h.row; rfl
theorem slc_start {sz m : Nat} {cs : List Value} (h : Slc M0 w0 sz v m cs) (hM : ∀ k, M k → M0 k ∨ w0.heap.size ≤ k) (k0 : Keep M0 w0 w) : Slc M w sz v m cs := by
  obtain ⟨h1, h2, ad, cap, h3, h4, h5⟩ := h
  refine ⟨h1, h2, ad, cap, h3, h4, ?_⟩
  rcases h5 with h5 | ⟨b, off, h5, h6, cur, t, fz, h7, h8⟩
  · exact .inl h5
  · have hb := (Array.getElem?_eq_some_iff.1 h7).1
    exact .inr ⟨b, off, h5, fun c => (hM b c).elim h6 (fun c => by omega), cur, t, fz, (k0.2 b hb h6).trans h7, h8⟩
theorem aG {p : Rat} {s : Bool} {a d : Value} (h : QC M0 w0 n p s a d) (hM : ∀ k, M k → M0 k ∨ w0.heap.size ≤ k) (k0 : Keep M0 w0 w) : QC M w n p s a d := by
  obtain ⟨xs, ds, h1, h2, h3⟩ := h.ex
  exact ⟨xs, ds, nat_start h1 hM k0, nat_start h2 hM k0, h3⟩
theorem pq_start {p : P2} {s t : Bool} {a d b e : Value} (h : PQ M0 w0 n p s a d t b e) (hM : ∀ k, M k → M0 k ∨ w0.heap.size ≤ k) (k0 : Keep M0 w0 w) : PQ M w n p s a d t b e := ⟨aG h.x hM k0, aG h.y hM k0⟩
theorem el_start (h : EL M0 w0 n q v) (hM : ∀ k, M k → M0 k ∨ w0.heap.size ≤ k) (k0 : Keep M0 w0 w) : EL M w n q v :=
  ⟨let ⟨cs, h1, h2⟩ := h.row; ⟨cs, slc_start h1 hM k0, fun i a ha => let ⟨us, h3, h4, xsa, xaa, xda, xta, xba, xea, xsb, xab, xdb, xtb, xbb, xeb, e0, h5, h6⟩ := h2 i a ha; ⟨us, h3, h4, xsa, xaa, xda, xta, xba, xea, xsb, xab, xdb, xtb, xbb, xeb, e0, pq_start h5 hM k0, pq_start h6 hM k0⟩⟩⟩
end
def RLv (M0 : Nat → Prop) (w0 : World) (n : Nat) : P2 → List Value → World → World → Prop := fun p vs wi w => ∃ s a d t b e, vs = [.agg #[.bool s, a, d, .bool t, b, e]] ∧ PC (fun k => M0 k ∨ (w0.heap.size ≤ k ∧ k < wi.heap.size)) w n p s a d t b e
theorem through1_c {M0 : Nat → Prop} {w0 : World} {b1 b2 b3 n0 n1 n2 : Nat} {v : Value} {xs2 : Bool} {xa2 : Value} {xd2 : Value} {xs3 : Bool} {xa3 : Value} {xd3 : Value} {lo hi : Rat} {es : List (P2 × P2)} (hT0 : Tab M0 w0) (B1 : Blk w0 b1 75 [v]) (B2 : Blk w0 b2 33 [.bool xs2, xa2, xd2]) (B3 : Blk w0 b3 33 [.bool xs3, xa3, xd3]) (m1 : ¬ M0 b1) (m2 : ¬ M0 b2) (m3 : ¬ M0 b3) (h1 : EL M0 w0 n0 es v) (h2 : QC M0 w0 n1 lo xs2 xa2 xd2) (h3 : QC M0 w0 n2 hi xs3 xa3 xd3) (hl0 : n0 ≤ 100) (hl1 : n1 ≤ 100) (hl2 : n2 ≤ 100) (hlen : es.length ≤ 1000) (hM00 : OkM M0 w0) :
    IterW True prog 172 [.pointer (some ⟨b1, 0, none⟩), .pointer (some ⟨b2, 0, none⟩), .pointer (some ⟨b3, 0, none⟩)] M0 NoT w0 (qB lo hi es es.length) (RLv M0 w0 (20 * (n0 + n0 + n1 + n2) + 100)) (fun _ => True) := by
 intro n l w J X hfin hn0 hn hdr hJ hkeep hJd hXd hy
 obtain ⟨M, hMe⟩ : ∃ M : Nat → Prop, M = fun k => M0 k ∨ (w0.heap.size ≤ k ∧ k < w.heap.size) := ⟨_, rfl⟩
 have hMi : ∀ k, M k → M0 k ∨ w0.heap.size ≤ k := fun k hk => by subst hMe; exact hk.imp id (fun h => h.1)
 have hk0 := hkeep _ _ hJ
 have B1' := B1
 have B2' := B2
 have B3' := B3
 have h1' := h1
 have h2' := h2
 have h3' := h3
 have hM : OkM M w := fun k hk => by subst hMe; exact hk.elim (fun c => Nat.lt_of_lt_of_le (hM00 k c) hk0.1) (fun c => c.2)
 replace B1 := hk0.blk B1 m1
 replace B2 := hk0.blk B2 m2
 replace B3 := hk0.blk B3 m3
 replace h1 := el_start h1 hMi hk0
 replace h2 := aG h2 hMi hk0
 replace h3 := aG h3 hMi hk0
 have hT : Tab M w := tab_start hT0 hMi hk0
 obtain ⟨oh1, _⟩ := h1.one; obtain ⟨oxa2, oxd2, _⟩ := h2.one; obtain ⟨oxa3, oxd3, _⟩ := h3.one
 obtain ⟨Fz, hFz⟩ : ∃ Fz : Nat → Prop, Fz = fun _ => False := ⟨_, rfl⟩
 have hFa : ∀ w, FOk Fz w := by subst hFz; exact fun _ _ h => h.elim
 have hF := hFa w
 have LL := Le.refl Fz M w
 have hM0 := hM
 refine jC func172 rfl ntmps172 rfl ?_
 refine zG (zB (zN rfl flat75 rfl B1 rfl (dN rfl underlying75 rfl h1.row (zA rfl rfl (zD (zZ ?_))))))
 refine xU (σ := Nat) [(0, _), (2, _), (3, _), (11, _), (12, _)] (fun s => [(13, .int .i64 ((s : Nat) : Int))]) (fun s w1 => J (qB lo hi es s) w1 ∧ n ≤ w1.heap.size ∧ s ≤ es.length) (fun s => es.length - s) (0) (zH rfl (zH rfl (zH rfl (zH rfl (zH rfl (zH rfl yD)))))) ?_ (fun s w1 hJ => ?_)
 · exact ⟨hJ, hn, by omega⟩
 ·clear B1 B2 B3 h1 h2 h3 hM hM0 hT hF LL hMi hk0 hMe M
  obtain ⟨hJ1, hn1, hs⟩ := hJ
  obtain ⟨M, hMe⟩ : ∃ M : Nat → Prop, M = fun k => M0 k ∨ (w0.heap.size ≤ k ∧ k < w1.heap.size) := ⟨_, rfl⟩
  have hMi : ∀ k, M k → M0 k ∨ w0.heap.size ≤ k := fun k hk => by subst hMe; exact hk.imp id (fun h => h.1)
  have hk := hkeep _ _ hJ1
  have hM : OkM M w1 := fun k hk' => by subst hMe; exact hk'.elim (fun c => Nat.lt_of_lt_of_le (hM00 k c) hk.1) (fun c => c.2)
  have B1 := hk.blk B1' m1
  have B2 := hk.blk B2' m2
  have B3 := hk.blk B3' m3
  have h1 := el_start h1' hMi hk
  have h2 := aG h2' hMi hk
  have h3 := aG h3' hMi hk
  have hT : Tab M w1 := tab_start hT0 hMi hk
  obtain ⟨Fz, hFz, hF, LL⟩ := fz0 M w1
  refine zG (zB (jG rfl rfl rfl (zD (zG ?_))))
  refine zV rfl (fun hc0 => ?_) (fun hc0 => ?_)
  ·refine yF (zG (zZ (zG (zB (bX (dflt := (((0, 0), (0, 0)) : P2 × P2)) s rfl underlying75 lD rfl rfl h1.row (by first | rfl | omega) (by omega) (fun b15 o15 us15 hul15 hu15 hc15 => ?_))))))
   obtain ⟨xs15, xa15, xd15, xt15, xb15, xe15, xs15b, xa15b, xd15b, xt15b, xb15b, xe15b, rfl, hn15, hnb15⟩ := hu15
   obtain ⟨oxa15, oxd15, oxb15, oxe15, _⟩ := hn15.one
   obtain ⟨oxa15b, oxd15b, oxb15b, oxe15b, _⟩ := hnb15.one
   refine qD rfl fold79 lD rfl hc15 rfl (yG rfl lD (fun w2 b6 N6 => ?_))
   obtain ⟨hBw2, nF6, nM6, Lw2, B6⟩ := nza hF hM N6
   obtain ⟨B1, ne1_6⟩ := bn B1 N6
   obtain ⟨B2, ne2_6⟩ := bn B2 N6
   obtain ⟨B3, ne3_6⟩ := bn B3 N6
   obtain ⟨LL, hM, hF, hT, h2, h3, hn15, hnb15⟩ := up8 Lw2 LL hM hF hT h2 h3 hn15 hnb15
   refine yB rfl rfl lD B6 rfl rfl (yI (yI (yI (yI (yI (yI (yI (yI (yI (yI (yI (yI jN)))))))))))) rfl (fun w3 Cw3 B6 => ?_)
   obtain ⟨LL, hM, hF, hT, h2, h3, hn15, hnb15⟩ := up8 (lc LL Cw3 zP nF6) LL hM hF hT h2 h3 hn15 hnb15
   replace B1 := B1.other Cw3 ne1_6
   replace B2 := B2.other Cw3 ne2_6
   replace B3 := B3.other Cw3 ne3_6
   refine zD (zG (zG (zB (zJ 0 rfl yu79 rfl rfl gH rfl rfl (zJ 0 rfl yu39 rfl rfl yK rfl rfl (zO rfl yO yK rfl B6 rfl rfl (zO rfl yO yK rfl B2 rfl rfl (zI rfl (bo func78) rfl rfl ?_))))))))
   refine (eM hT hn15.x h2 (by omega) (by omega) hM).mono ?_
   rintro v21 w4 ⟨hB21, rfl⟩
   obtain ⟨LL, hM, hF, hT, h2, h3, hn15, hnb15, B1, B2, B3, B6⟩ := lC hB21 LL hM hF hT h2 h3 hn15 hnb15 B1 B2 B3 B6
   refine kO rfl rfl rfl (zA rfl rfl (gX (d := 23) rfl (fun hg3_6 => ?_) (fun hg3_6 => ?_)))
   ·refine zY rfl rfl rfl rfl (zY rfl rfl rfl rfl (zY rfl rfl rfl rfl (zY rfl rfl rfl rfl (zY rfl rfl rfl rfl (zY rfl rfl rfl rfl (xZ rfl rfl rfl (zA rfl rfl (zY rfl rfl rfl rfl (zY rfl rfl rfl rfl (zY rfl rfl rfl rfl (zY rfl rfl rfl rfl (zY rfl rfl rfl rfl (zY rfl rfl rfl rfl (zY rfl rfl rfl rfl ?_))))))))))))))
    refine zY rfl rfl rfl rfl (xZ rfl rfl rfl (zD (aU rfl (xN (xO (zB (yZ rfl rfl rfl (by omega) (zA rfl rfl (zD ?_)))))))))
    refine ⟨rfl, s + 1, (zS rfl (by rw [Int.natCast_add]; rfl) (zH rfl (zH rfl (zH rfl (zH rfl (zH rfl yD)))))), ?_, ?_⟩
    exact ⟨by rw [thru_skip (fun c => c.1 (fA.1 hg3_6))]; exact hJd _ _ _ hJ1 (LL.drift_all hFz hn1), Nat.le_trans hn1 LL.size, by omega⟩
    omega
   ·refine yC rfl rfl (zJ 6 rfl yu79 rfl rfl gH rfl rfl (yC rfl rfl (xB 0 rfl yu39 rfl rfl yK rfl rfl (yC rfl rfl (zO rfl yO yK rfl B6 rfl rfl (yC rfl rfl (zO rfl yO yK rfl B3 rfl rfl (yC rfl rfl (zI rfl (bo func78) rfl rfl ?_)))))))))
    refine (eM hT hnb15.x h3 (by omega) (by omega) hM).mono ?_
    rintro v28 w5 ⟨hB28, rfl⟩
    obtain ⟨LL, hM, hF, hT, h2, h3, hn15, hnb15, B1, B2, B3, B6⟩ := lC hB28 LL hM hF hT h2 h3 hn15 hnb15 B1 B2 B3 B6
    refine yC rfl rfl (jG rfl rfl rfl (xZ rfl rfl rfl (zA rfl rfl (gX (d := 31) rfl (fun hg3_14 => ?_) (fun hg3_14 => ?_)))))
    ·refine zY rfl rfl rfl rfl (zY rfl rfl rfl rfl (zY rfl rfl rfl rfl (zY rfl rfl rfl rfl (zY rfl rfl rfl rfl (zY rfl rfl rfl rfl (zY rfl rfl rfl rfl (zY rfl rfl rfl rfl (xZ rfl rfl rfl (zD (aU rfl (xN (xO (zB (yZ rfl rfl rfl (by omega) ?_))))))))))))))
     refine zA rfl rfl (zD ?_)
     refine ⟨rfl, s + 1, (zS rfl (by rw [Int.natCast_add]; rfl) (zH rfl (zH rfl (zH rfl (zH rfl (zH rfl yD)))))), ?_, ?_⟩
     exact ⟨by rw [thru_skip (fun c => c.2.1 (eF.1 hg3_14))]; exact hJd _ _ _ hJ1 (LL.drift_all hFz hn1), Nat.le_trans hn1 LL.size, by omega⟩
     omega
    ·refine yC rfl rfl (zJ 0 rfl yu79 rfl rfl gH rfl rfl (yC rfl rfl (zJ 0 rfl yu39 rfl rfl yK rfl rfl (yC rfl rfl (zO rfl yO yK rfl B6 rfl rfl (yC rfl rfl (zJ 6 rfl yu79 rfl rfl gH rfl rfl (yC rfl rfl (xB 0 rfl yu39 rfl rfl yK rfl rfl (yC rfl rfl (zO rfl yO yK rfl B6 rfl rfl (yC rfl rfl (zI rfl (bo func78) rfl rfl ?_)))))))))))))
     refine (eM hT hn15.x hnb15.x (by omega) (by omega) hM).mono ?_
     rintro v38 w6 ⟨hB38, rfl⟩
     obtain ⟨LL, hM, hF, hT, h2, h3, hn15, hnb15, B1, B2, B3, B6⟩ := lC hB38 LL hM hF hT h2 h3 hn15 hnb15 B1 B2 B3 B6
     refine yC rfl rfl (uZ rfl rfl rfl (xZ rfl rfl rfl (zD ?_)))
     refine zV rfl (fun hc1 => ?_) (fun hc1 => ?_)
     ·refine xN (xO (zB (yZ rfl rfl rfl (by omega) (zA rfl rfl (zD ?_)))))
      refine ⟨rfl, s + 1, (zS rfl (by rw [Int.natCast_add]; rfl) (zH rfl (zH rfl (zH rfl (zH rfl (zH rfl yD)))))), ?_, ?_⟩
      exact ⟨by rw [thru_skip (fun c => by have := c.2.2; have := bM.1 hc1; grind)]; exact hJd _ _ _ hJ1 (LL.drift_all hFz hn1), Nat.le_trans hn1 LL.size, by omega⟩
      omega
     ·refine yF (zG (zB (zJ 0 rfl yu79 rfl rfl gH rfl rfl (zO rfl gI gH rfl B6 rfl rfl (zJ 6 rfl yu79 rfl rfl gH rfl rfl (zO rfl gI gH rfl B6 rfl rfl (zO rfl yO yK rfl B2 rfl rfl (zI rfl (bo func39) rfl rfl ?_))))))))
      refine (mheight_c hT hn15 hnb15 h2 (by omega) (by omega) (by omega) hM).mono ?_
      rintro v47 w7 ⟨hB47, xs47, xa47, xd47, rfl, hn47⟩
      obtain ⟨LL, hM, hF, hT, h3, hn15, hnb15, B1, B2, B3, B6⟩ := lI hB47 LL hM hF hT h3 hn15 hnb15 B1 B2 B3 B6
      obtain ⟨oxa47, oxd47, _⟩ := hn47.one
      refine zA rfl rfl (zW rfl rfl rfl (zW rfl rfl rfl (yG rfl yK (fun w8 b7 N7 => ?_))))
      obtain ⟨hBw8, nF7, nM7, Lw8, B7⟩ := nza hF hM N7
      obtain ⟨B1, ne1_7⟩ := bn B1 N7
      obtain ⟨B2, ne2_7⟩ := bn B2 N7
      obtain ⟨B3, ne3_7⟩ := bn B3 N7
      obtain ⟨B6, ne6_7⟩ := bn B6 N7
      obtain ⟨LL, hM, hF, hT, h3, hn15, hnb15, hn47⟩ := up8 Lw8 LL hM hF hT h3 hn15 hnb15 hn47
      refine yB rfl rfl yK B7 rfl rfl (yI (yI (yI jN))) rfl (fun w9 Cw9 B7 => ?_)
      obtain ⟨LL, hM, hF, hT, h3, hn15, hnb15, hn47⟩ := up8 (lc LL Cw9 zP nF7) LL hM hF hT h3 hn15 hnb15 hn47
      replace B1 := B1.other Cw9 ne1_7
      replace B2 := B2.other Cw9 ne2_7
      replace B3 := B3.other Cw9 ne3_7
      replace B6 := B6.other Cw9 ne6_7
      refine zC rfl rfl (zD (zG (zB (zJ 0 rfl yu79 rfl rfl gH rfl rfl (zO rfl gI gH rfl B6 rfl rfl (zJ 6 rfl yu79 rfl rfl gH rfl rfl (zO rfl gI gH rfl B6 rfl rfl (zO rfl yO yK rfl B3 rfl rfl (zI rfl (bo func39) rfl rfl ?_)))))))))
      refine (mheight_c hT hn15 hnb15 h3 (by omega) (by omega) (by omega) hM).mono ?_
      rintro v56 w10 ⟨hB56, xs56, xa56, xd56, rfl, hn56⟩
      obtain ⟨LL, hM, hF, hn47, B1, B2, B3, B6, B7⟩ := ub9 hB56 LL hM hF hn47 B1 B2 B3 B6 B7
      obtain ⟨oxa56, oxd56, _⟩ := hn56.one
      refine zA rfl rfl (zW rfl rfl rfl (zW rfl rfl rfl (yG rfl yK (fun w11 b9 N9 => ?_))))
      obtain ⟨hBw11, nF9, nM9, Lw11, B9⟩ := nza hF hM N9
      have lt1_9 := B1.lt
      have ne1_9 := N9.ne lt1_9
      have lt2_9 := B2.lt
      have ne2_9 := N9.ne lt2_9
      have lt3_9 := B3.lt
      have ne3_9 := N9.ne lt3_9
      have lt6_9 := B6.lt
      have ne6_9 := N9.ne lt6_9
      obtain ⟨B7, ne7_9⟩ := bn B7 N9
      obtain ⟨LL, hn47, hn56⟩ := up3 Lw11 LL hn47 hn56
      refine yB rfl rfl yK B9 rfl rfl (yI (yI (yI jN))) rfl (fun w12 Cw12 B9 => ?_)
      obtain ⟨LL, hn47, hn56⟩ := up3 (lc LL Cw12 zP nF9) LL hn47 hn56
      replace B7 := B7.other Cw12 ne7_9
      refine zC rfl rfl (zD (zG (zB (zA rfl rfl (zO rfl yO yK rfl B7 rfl rfl (zO rfl yO yK rfl B9 rfl rfl (xP rfl plc83 rfl rfl (yA (rfl) (yA (rfl) xG)) rfl ?_)))))))
      have hth : eJ lo hi (es.getD s ((0, 0), (0, 0))) := ⟨fun c => hg3_6 (fA.2 c), fun c => hg3_14 (eF.2 c), by have := bM (p := (es.getD s ((0, 0), (0, 0))).1.1) (q := (es.getD s ((0, 0), (0, 0))).2.1); grind⟩
      obtain ⟨post, hpost⟩ := thru_at (lo := lo) (hi := hi) (show s < es.length by omega) hth
      refine kD rfl rfl rfl ?_
      refine (hy _ _ _ _ _ _ hpost hJ1 hn1 (LL.drift_all hFz hn1) (hJd _ _ _ hJ1 (LL.drift_all hFz hn1)) ⟨_, _, _, _, _, _, rfl, hMe ▸ (((PC.mk2 hn47 hn56).less fun k c => .inr (.inr (.inr c))).up (by omega) : PC M _ (20 * (n0 + n0 + n1 + n2) + 100) (dO lo hi (es.getD s ((0, 0), (0, 0)))) _ _ _ _ _ _)⟩ (Nat.le_trans hn1 LL.size)).mono ?_
      rintro v63 w13 ⟨hn2, _, hyn⟩
      refine qY rfl rfl (zD ?_)
      refine qE rfl (fun hc2 => ?_) (fun hc2 => ?_)
      ·refine zR ?_
       refine xC ⟨[], trivial, ?_⟩
       dsimp only [xI]
       right
       rcases hyn with ⟨e, _⟩ | ⟨_, h⟩
       · subst e; simp at hc2
       · exact h
      ·refine yF (zB (yZ rfl rfl rfl (by omega) (zA rfl rfl (zD ?_))))
       refine ⟨rfl, s + 1, (zS rfl (by rw [Int.natCast_add]; rfl) (zH rfl (zH rfl (zH rfl (zH rfl (zH rfl yD)))))), ?_, ?_⟩
       exact ⟨by
         rw [thru_take hth]
         rcases hyn with ⟨_, h⟩ | ⟨e, _⟩
         · exact h
         · subst e; simp at hc2, hn2, by omega⟩
       omega
  ·refine xN (xO ?_)
   refine xC ⟨[], trivial, ?_⟩
   dsimp only [xI]
   left
   obtain rfl : s = es.length := by omega
   exact ⟨hJ1, trivial⟩
structure LIt (M : Nat → Prop) (w : World) (n : Nat) (ls : List P2) (v : Value) : Prop where
  ex : ∃ cap, v = .func (.func 172) #[] cap ∧ ∀ (M' : Nat → Prop) (w1 : World), (∀ k, M' k → M k ∨ w.heap.size ≤ k) → Keep M w w1 → OkM M' w1 → IterW True prog 172 cap.toList M' NoT w1 ls (RLv M' w1 n) (fun _ => True)
theorem keep_le {Fz M M' : Nat → Prop} {w w' w1 : World} (k : Keep M' w' w1) (l : Le Fz M w M' w') : Keep M w w1 :=
  ⟨Nat.le_trans l.size k.1, fun i hi hm => (k.2 i (Nat.lt_of_lt_of_le hi l.size) (fun c => (l.chg i c).elim hm (fun h => by omega))).trans (l.imm i hi hm)⟩
theorem LIt.mono {Fz M M' : Nat → Prop} {w w' : World} {n : Nat} {ls : List P2} {v : Value} (h : LIt M w n ls v) (l : Le Fz M w M' w') : LIt M' w' n ls v := by
  obtain ⟨cap, rfl, h0⟩ := h.ex
  exact ⟨cap, rfl, fun M2 w1 hs k o => h0 M2 w1 (fun i hi => (hs i hi).elim (fun c => l.chg i c) (fun c => .inr (Nat.le_trans l.size c))) (keep_le k l) o⟩
theorem LIt.one {n : Nat} {ls : List P2} {v : Value} (h : LIt M w n ls v) : v.oneCell' = true ∧ True := by obtain ⟨_, rfl, _⟩ := h.ex; exact ⟨rfl, trivial⟩
theorem through_c {n0 n1 n2 : Nat} {v : Value} {xs2 : Bool} {xa2 : Value} {xd2 : Value} {xs3 : Bool} {xa3 : Value} {xd3 : Value} {lo hi : Rat} {es : List (P2 × P2)} (hT : Tab M w) (h2 : QC M w n1 lo xs2 xa2 xd2) (h3 : QC M w n2 hi xs3 xa3 xd3) (h1 : EL M w n0 es v) (hl0 : n0 ≤ 100) (hl1 : n1 ≤ 100) (hl2 : n2 ≤ 100) (hlen : es.length ≤ 1000) (hM : OkM M w) :
    CallsV prog 110 [.agg #[.bool xs2, xa2, xd2], .agg #[.bool xs3, xa3, xd3], v] w fun r w' => Bel w.heap.size w w' ∧ LIt M w' (20 * (n0 + n0 + n1 + n2) + 100) (qB lo hi es es.length) r := by
 obtain ⟨oxa2, oxd2, _⟩ := h2.one
 refine ci M func110 ntmps110 fun Fz hFz hF LL => ?_
 refine zG (zB (yM rfl rfl (fun w1 b3 N3 => ?_)))
 obtain ⟨_, nF3, nM3, Lw1, B3⟩ := nza hF hM N3
 replace LL := LL.trans Lw1
 replace hM := hM.mono Lw1
 replace hF := hF.mono Lw1
 replace hT := hT.mono Lw1
 replace h1 := h1.mono Lw1
 replace h2 := h2.mono Lw1
 replace h3 := h3.mono Lw1
 refine yM rfl rfl (fun w2 b4 N4 => ?_)
 obtain ⟨hBw2, nF4, nM4, Lw2, B4⟩ := nza hF hM N4
 obtain ⟨B3, ne3_4⟩ := bn B3 N4
 replace LL := LL.trans Lw2
 replace hM := hM.mono Lw2
 replace hF := hF.mono Lw2
 replace hT := hT.mono Lw2
 replace h1 := h1.mono Lw2
 replace h2 := h2.mono Lw2
 replace h3 := h3.mono Lw2
 refine yM rfl rfl (fun w3 b5 N5 => ?_)
 obtain ⟨hBw3, nF5, nM5, Lw3, B5⟩ := nz hF hM N5
 obtain ⟨B3, ne3_5⟩ := bn B3 N5
 obtain ⟨B4, ne4_5⟩ := bn B4 N5
 replace LL := LL.trans Lw3
 replace hT := hT.mono Lw3
 replace h1 := h1.mono Lw3
 replace h2 := h2.mono Lw3
 replace h3 := h3.mono Lw3
 refine zC rfl rfl (zD (zG (zB (jR rfl rfl (zC rfl rfl (zD (zR ?_)))))))
 refine lv1 ⟨rfl, trivial⟩ ?_
 subst hFz
 rw [h1.cells] at B5
 refine ⟨LL.b, _, rfl, fun M' w1 hs hk ho => ?_⟩
 have q3 : ¬ M b3 := nM3
 have q4 : ¬ M b4 := fun c => nM4 (zM c)
 have q5 : ¬ M b5 := fun c => nM5 (zM (zM c))
 have hin : ∀ k, M k → Ins b5 (Ins b4 (Ins b3 M)) k := fun k c => zM (zM (zM c))
 exact through1_c (tab_start (hT.less hin) hs hk) (hk.blk B5 q5) (hk.blk B3 q3) (hk.blk B4 q4) (fun c => (hs _ c).elim q5 (fun c => by have := B5.lt; omega)) (fun c => (hs _ c).elim q3 (fun c => by have := B3.lt; omega)) (fun c => (hs _ c).elim q4 (fun c => by have := B4.lt; omega)) (el_start (h1.less hin) hs hk) (aG (h2.less hin) hs hk) (aG (h3.less hin) hs hk) hl0 hl1 hl2 hlen ho
theorem appendl_c {n m : Nat} {v : Value} {ls : List P2} (h1 : LIt M w n ls v) (hnm : n ≤ m) (hlen : ls.length ≤ 1000) (hM : OkM M w) :
    CallsV prog 171 [.slice none 0 0, v] w fun r w' => Bel w.heap.size w w' ∧ ∃ cs, w'.ownsRow 0 83 6 r ls.length cs ∧ EP (Mo r M) w' m cs ls ∧ ∀ k, r.ownBlock = some k → w.heap.size ≤ k := by
 obtain ⟨oh1, _⟩ := h1.one
 have hM0 := hM
 have Mk : Marks M w.heap.size [] w := qX
 refine ci M func171 ntmps171 fun Fz hFz hF LL => ?_
 refine zG (zB (yM rfl rfl (fun w1 b2 N2 => ?_)))
 obtain ⟨hBw1, nF2, nM2, Lw1, B2⟩ := nz hF hM N2
 replace LL := LL.trans Lw1
 replace hM := hM.mono Lw1
 replace hF := hF.mono Lw1
 replace h1 := h1.mono Lw1
 replace Mk := Mk.mono Lw1
 refine zC rfl rfl (zD (zG (zG (zB ?_))))
 have Ow := own_nilk (w := w1) 6 (e := 83)
 have Of : ∀ k, (Value.slice none 0 0).ownBlock = some k → ¬ Fz k := uM
 have Om : ∀ k, (Value.slice none 0 0).ownBlock = some k → ¬ (Ins b2 M) k := uM
 have He : EP (Mo (.slice none 0 0) (Ins b2 M)) w1 (m) [] [] := ⟨Elems.nil⟩
 have Ln := Le.mo_nil (Fz := Fz) (M := (Ins b2 M)) (w := w1)
 replace LL := LL.trans Ln
 replace hM := hM.mono Ln
 replace hF := hF.mono Ln
 replace h1 := h1.mono Ln
 replace Mk := Mk.mono Ln
 clear Ln
 refine zA rfl rfl (zD (zZ ?_))
 obtain ⟨cap0, rfl, it0⟩ := h1.ex
 have hMz := hM
 have hszLL := LL.size
 have Mold0 := Mk.old (Nat.le_refl _)
 refine SL.wp_rangew (fin := True) (M := (Mo (.slice none 0 0) (Ins b2 M))) (T := NoT) (ls) (RLv (Mo (.slice none 0 0) (Ins b2 M)) w1 n) rfl (bo func172) (it0 _ _ (fun k c => .inl c) ⟨Nat.le_refl _, fun _ _ _ => rfl⟩ hM) noT (trivial) (fun _ _ _ _ ⟨_, _, _, _, _, _, h, _⟩ => by rw [h]; rfl) rfl [(2, _)] (zH rfl yD) (fun pre w2 => ∃ v0, Le Fz (Mo (.slice none 0 0) (Ins b2 M)) w1 (Mo v0 (Ins b2 M)) w2 ∧ Blk w2 b2 67 [v0] ∧ (∀ k, v0.ownBlock = some k → ¬ Fz k) ∧ (∀ k, v0.ownBlock = some k → ¬ (Ins b2 M) k) ∧ ∃ cs, w2.ownsRow 0 83 6 v0 pre.length cs ∧ EP (Mo v0 (Ins b2 M)) w2 m cs pre) (fun _ _ => False) (fun _ => False) (.inl trivial) (⟨_, Le.refl _ _ _, B2, Of, Om, [], Ow, He⟩) (fun pre w h => (let ⟨_, h1, _⟩ := h; h1.keep)) (fun pre w1 w2 hJ hd => (by obtain ⟨v0, h1, h2, h4, h5, cs, h6, h7⟩ := hJ; exact ⟨v0, h1.drift0 hd (Nat.le_refl _), h2.drift hd (fun c => c), h4, h5, cs, qC h6 hd (fun _ _ c => c), h7.drift hd noT⟩)) (fun _ _ _ h _ => h) (fun _ _ h _ => h) (fun _ _ _ _ => trivial) ?_ ?_ (fun _ _ h _ => h.elim) (fun _ h _ => h.elim)
 ·intro pre x vs post l b wi w2 ρ δ hx hJi hwi hdi hJ hv hnl hnb hl hb hbc
  clear Ow He Of Om B2
  obtain ⟨v0, LSi, B2i, Of, Om, cs, Owi, Hei⟩ := hJi
  have LS0 := LSi.drift0 hdi (Nat.le_refl _)
  have B2 := B2i.drift hdi (fun c => c)
  have Ow := qC Owi hdi (fun _ _ c => c)
  have He := Hei.drift hdi noT
  replace LL := LL.trans LS0
  replace hM := hM.mono LS0
  replace hF := hF.mono LS0
  replace Mk := Mk.mono LS0
  have RL : Rec (Mo v0 (Ins b2 M)) w2 l (.loop ρ) := ⟨hl, (cU (qQ Ow hl (by simp)) (qK (Rec.ne hl B2 (by simp)) (jO hM0 (by omega))))⟩
  have RB : Rec (Mo v0 (Ins b2 M)) w2 b δ := ⟨hb, (cU (qQ Ow hb hbc) (qK (Rec.ne hb B2 hbc) (jO hM0 (by omega))))⟩
  have hs1 : w2.heap.size ≤ w2.heap.size := Nat.le_refl _
  have hpl : pre.length ≤ 1000 := by have := congrArg List.length hx; rw [List.length_append] at this; omega
  obtain ⟨xs7, xa7, xd7, xt7, xb7, xe7, rfl, hn7⟩ := hv
  replace hn7 := hn7.less fun k c => (LSi.chg k c).imp id fun h => ⟨h, LSi.ok hMz k c⟩
  obtain ⟨oxa7, oxd7, oxb7, oxe7, _⟩ := hn7.one
  refine zB (yG rfl kG (fun w3 b5 N5 => ?_))
  obtain ⟨hBw3, nF5, nM5, _, B5⟩ := nza hF hM N5
  have Lw3 := Le.of_new_in (Fz := Fz) (M := (Ins b2 M)) (v := v0) N5
  replace Om := own_in Ow N5 Om
  replace Ow := xH Ow hBw3
  obtain ⟨B2, ne2_5⟩ := bn B2 N5
  replace LL := LL.trans Lw3
  replace LS0 := LS0.trans Lw3
  replace hM := hM.mono Lw3
  replace hF := hF.mono Lw3
  replace He := He.mono Lw3
  replace RL := RL.mono Lw3
  replace RB := RB.mono Lw3
  replace hn7 := hn7.mono Lw3
  replace hs1 := Nat.le_trans hs1 Lw3.size
  refine yB rfl rfl kG B5 rfl rfl (yI (yI (yI (yI (yI (yI jN)))))) rfl (fun w4 Cw4 B5 => ?_)
  have Lw4 := Le.of_chg (M := (Mo v0 (Ins b5 (Ins b2 M)))) Cw4 (.inr zP) nF5
  replace LL := LL.trans Lw4
  replace LS0 := LS0.trans Lw4
  replace hM := hM.mono Lw4
  replace hF := hF.mono Lw4
  replace He := He.mono Lw4
  replace RL := RL.mono Lw4
  replace RB := RB.mono Lw4
  replace hn7 := hn7.mono Lw4
  replace hs1 := Nat.le_trans hs1 Lw4.size
  replace B2 := B2.other Cw4 ne2_5
  replace Ow := aR Ow Cw4 (fun h => Om _ h zP)
  try simp only [List.set_cons_zero, List.set_cons_succ, List.take_succ_cons, List.take_zero, List.drop_succ_cons, List.drop_zero, List.drop_nil, List.cons_append, List.nil_append, List.append_nil] at B5
  refine zD ?_
  refine ⟨RL.at_, RB.at_, rfl, fun w5 ρ' δ' hdr hl' hb' hbc' => ?_⟩
  replace LL := LL.drift0 hdr hszLL
  replace LS0 := LS0.drift0 hdr (Nat.le_refl _)
  replace hM := hM.drift hdr
  replace hF := hF.drift hdr
  replace hs1 := Nat.le_trans hs1 hdr.size
  replace He := He.drift hdr noT
  replace hn7 := hn7.drift hdr noT
  replace RL : Rec (Mo v0 (Ins b5 (Ins b2 M))) w5 l (.loop ρ') := ⟨hl', RL.not⟩
  replace RB : Rec (Mo v0 (Ins b5 (Ins b2 M))) w5 b δ' := ⟨hb', RB.not⟩
  replace B2 := B2.drift hdr (fun c => c)
  replace B5 := B5.drift hdr (fun c => c)
  replace Ow := qC Ow hdr (fun _ _ c => c)
  refine zZ (zB (zN rfl flat67 rfl B2 rfl (zO rfl cX kG rfl B5 rfl rfl (xL rfl yu67 kG rfl rfl rfl rfl (yA rfl xG) rfl rfl rfl (fun w6 b10 N10 => ?_)))))
  have hBw6 := N10.below
  have nM10 := hM.new N10
  have B10 := N10.blk
  have Lw6 := Le.of_below (Fz := Fz) (M := (Mo v0 (Ins b5 (Ins b2 M)))) hBw6
  replace LL := LL.trans Lw6
  replace LS0 := LS0.trans Lw6
  replace hM := hM.mono Lw6
  replace hF := hF.mono Lw6
  replace He := He.mono Lw6
  replace RL := RL.mono Lw6
  replace RB := RB.mono Lw6
  replace hn7 := hn7.mono Lw6
  replace hs1 := Nat.le_trans hs1 Lw6.size
  replace B2 := B2.below hBw6
  replace B5 := B5.below hBw6
  replace Ow := xH Ow hBw6
  refine ops_appendk rfl yu67 kG rfl rfl rfl rfl Ow (((KBlk.mk B10 nM10)).blk.slc ((KBlk.mk B10 nM10)).not (sz := 6) (n := 1) rfl (fun _ _ h => h) (by omega) (Nat.le_refl _)) (ones6 (by assumption) (by assumption) (by assumption) (by assumption)) (by omega) (by omega) (fun v11 w7 A11 G11 S11 => ?_)
  have Lw7 := Le.of_grown (Fz := Fz) (M := (Ins b5 (Ins b2 M))) G11 S11 A11 Of
  have Omo11 := Om
  replace Of := jM (w' := w7) Of hF S11
  replace Om := jL (w' := w7) Om (fun k hk => hM k (.inr hk)) S11
  replace B2 := B2.grown G11 (fun h => Omo11 _ h (.inr zP))
  replace B5 := B5.grown G11 (fun h => Omo11 _ h zP)
  replace LL := LL.trans Lw7
  replace LS0 := LS0.trans Lw7
  replace hM := hM.mono Lw7
  replace hF := hF.mono Lw7
  replace He := He.mono Lw7
  replace RL := RL.mono Lw7
  replace RB := RB.mono Lw7
  replace hn7 := hn7.mono Lw7
  replace hs1 := Nat.le_trans hs1 Lw7.size
  clear Ow; have Ow := A11
  replace He := He.snoc (hn7.up (by omega))
  refine xX rfl rfl sz67 B2 (by first | rfl | exact yR (by assumption) | assumption | exact yN (by assumption)) (fun w8 Cw8 B2 => ?_)
  have Lw8 := Le.of_chg (M := (Mo v11 (Ins b5 (Ins b2 M)))) Cw8 (.inr (.inr zP)) nF2
  replace LS0 := LS0.trans Lw8
  replace He := He.mono Lw8
  replace RL := RL.mono Lw8
  replace RB := RB.mono Lw8
  replace hs1 := Nat.le_trans hs1 Lw8.size
  replace Ow := aR Ow Cw8 (fun h => Om _ h (.inr zP))
  refine zD ?_
  refine ⟨RL.at_, RB.at_, hs1, fun _ c => c.elim, ?_⟩
  have hsb : ∀ k, (Mo v11 (Ins b2 M)) k → (Mo v11 (Ins b5 (Ins b2 M))) k := fun k c => c.imp id .inr
  exact ⟨v11, LS0.trans (Le.less hsb), B2, Of, fun k hk c => Om k hk (.inr c), _, by rw [List.length_append]; exact Ow, He.mono (Fz := fun _ => False) (Le.less hsb)⟩
 ·intro w9 hJ hZ hDd
  clear Ow He Of Om B2
  obtain ⟨v0, LS0, B2, Of, Om, cs, Ow, He⟩ := hJ
  replace LL := LL.trans LS0
  replace Mk := Mk.mono LS0
  have hdd := hDd _ rfl rfl
  have RD : Rec (Mo v0 (Ins b2 M)) w9 w1.heap.size (.deferred (some [])) := ⟨hdd, (cU (qQ Ow hdd (by simp)) (qK (Rec.ne hdd B2 (by simp)) (jO hM0 (by omega))))⟩
  replace Mk := Mk.cons hszLL RD Mold0
  refine zG (zB (zN rfl flat67 rfl B2 rfl (zC rfl rfl (zD (zR ?_)))))
  refine jQ Mk (fun wz hz => ⟨[_], ⟨rfl, trivial⟩, ?_⟩)
  dsimp only [xI]
  subst hFz
  exact ⟨SL.Bel.drift (LL.b) hz (Nat.le_refl _), _, qC Ow hz (fun _ _ c => c), ((He.mono (Fz := fun _ => False) (Le.less (fun k c => c.imp id .inr))).drift hz noT), fun k hk => by have := Of k hk; omega⟩
theorem collectl_c {n m : Nat} {v : Value} {ls : List P2} (h1 : LIt M w n ls v) (hnm : n ≤ m) (hlen : ls.length ≤ 1000) (hM : OkM M w) :
    CallsV prog 109 [v] w fun r w' => Bel w.heap.size w w' ∧ ∃ cs, w'.ownsRow 0 83 6 r ls.length cs ∧ EP (Mo r M) w' m cs ls ∧ ∀ k, r.ownBlock = some k → w.heap.size ≤ k := by
 refine ci M func109 ntmps109 fun Fz hFz hF LL => ?_
 refine zG (zB (zC rfl rfl (zD (zG (zB (zA rfl rfl (zI rfl (bo func171) rfl rfl ?_)))))))
 refine (appendl_c h1 hnm hlen hM).mono ?_
 rintro v4 w1 ⟨hB4, cs, Ow, He, hO⟩
 replace LL := ub1 hB4 LL
 refine zC rfl rfl (zD (zR ?_))
 refine lv1 ⟨rfl, trivial⟩ ?_
 subst hFz
 exact ⟨LL.b, cs, Ow, He, hO⟩
theorem compactl_c {Fz M : Nat → Prop} {w : World} {bn n0 cap : Nat} {cur : List Value} {l : List P2} (hT : Tab M w) (Bn : Blk w bn 83 cur) (hE : EPB M w n0 cur l) (hl1 : n0 ≤ 9000) (hlen : l.length ≤ 1000000) (hl0 : 0 < l.length) (hcap : l.length ≤ cap) (hmn : M bn) (nFn : ¬ Fz bn) (hF : FOk Fz w) (hM : OkM M w) :
    CallsV prog 114 [.slice (some ⟨bn, 0, none⟩) l.length cap, .func (.func 115) #[] #[]] w fun r w' => Le Fz M w M w' ∧ ∃ cur', Blk w' bn 83 cur' ∧ cur'.length = cur.length ∧ EPB M w' n0 cur' (qH l l.length) ∧ r = .slice (some ⟨bn, 0, none⟩) (qH l l.length).length cap := by
 have LL := Le.refl Fz M w
 refine jC func114 rfl ntmps114 rfl ?_
 refine zG (zB (zC rfl rfl (zD (zG (zG (zB (zA rfl rfl (yP rfl yu67 rfl (jG rfl rfl rfl (zD ?_))))))))))
 refine zV rfl (fun hc0 => ?_) (fun hc0 => ?_)
 ·refine zG (zB (zA rfl rfl (zC rfl rfl (zD (zR ?_)))))
  refine lv1 ⟨rfl, trivial⟩ ?_
  have hke : qH l l.length = l := by rw [keep_all (Nat.le_refl _) (fun i h1 h2 => by omega), List.take_length]
  rw [hke]
  exact ⟨LL, cur, Bn, rfl, hE, rfl⟩
 ·refine yF (zG (zG (zB (zC rfl rfl (zD (zZ ?_))))))
  refine xU (σ := Nat) [(0, _), (1, _)] (fun s => [(5, .int .i64 ((s : Nat) : Int))]) (fun s w1 => Le Fz M w M w1 ∧ Blk w1 bn 83 cur ∧ 1 ≤ s ∧ s ≤ l.length ∧ ∀ i, 0 < i → i < s → iR (l.getD i (0, 0)) (l.getD (i - 1) (0, 0)) ≠ 0) (fun s => l.length - s) (1) (zH rfl (zH rfl (zH rfl yD))) ?_ (fun s w1 hJ => ?_)
  · exact ⟨Le.refl _ _ _, Bn, by omega, by omega, fun i h1 h2 => by omega⟩
  ·clear Bn; obtain ⟨LR, Bn, hs1, hk, hs⟩ := hJ
   obtain ⟨LL, hM, hT, hE⟩ := up4 LR LL hM hT hE
   refine zG (zG (zB (zA rfl rfl (zA rfl rfl (yP rfl yu67 rfl (jG rfl rfl rfl (zD ?_)))))))
   refine zV rfl (fun hc1 => ?_) (fun hc1 => ?_)
   ·refine yF (zG (zZ (zG ?_)))
    refine wd mixed 10 [0, 1, 5, 18, 22, 27] (by decide +kernel) ?_
    refine yX (Ex (.func (.func 115) #[] #[])) kP (fun wq hR hst => ?_) ?_
    ·refine zQ rfl rfl (zF ?_)
     obtain ⟨hE, Bn⟩ := ub2 hR hE Bn
     exact zA rfl rfl (on0 rfl)
    refine yX (Ex (.slice (some ⟨bn, 0, none⟩) l.length cap)) kP (fun wq hR hst => ?_) ?_
    ·refine zQ rfl rfl (zF ?_)
     obtain ⟨hE, Bn⟩ := ub2 hR hE Bn
     exact zA rfl rfl (on0 rfl)
    apply zK
    ·intro wq hR hst
     refine zQ rfl rfl (zF ?_)
     obtain ⟨hE, Bn⟩ := ub2 hR hE Bn
     exact zA rfl rfl (on0 rfl)
    refine dv (rPC M (n0) (l.getD s (0, 0))) (fun wq hR hst => ?_) ?_
    ·refine zL rfl (zL rfl (zF ?_))
     obtain ⟨hE, Bn⟩ := ub2 hR hE Bn
     refine ops_idxer (dflt := ((0, 0) : P2)) (s) (s) (0) rfl yu67 kG rfl rfl Bn hE.e (by omega) (by omega) (by omega) (by omega) (by omega) (fun b21 o21 us21 hul21 hu21 hc21 => ?_)
     obtain ⟨xs21, xa21, xd21, xt21, xb21, xe21, rfl, hn21⟩ := hu21
     exact on1 (xF _) rfl ⟨b21, o21, _, _, _, _, _, _, rfl, hc21, hn21⟩
    refine yX (vPC M (n0) (l.getD s (0, 0))) iL (fun wq hR hst => ?_) ?_
    ·refine xA rfl (fun v21 hp21 => ?_)
     obtain ⟨b21, o21, xs21, xa21, xd21, xt21, xb21, xe21, rfl, hc21, hn21⟩ := hp21
     refine zF ?_
     obtain ⟨hE, Bn⟩ := ub2 hR hE Bn
     exact qD rfl cX kG rfl hc21 rfl (zD ⟨rfl, xF _, _, rfl, ⟨_, _, _, _, _, _, rfl, hn21⟩⟩)
    refine yX (Ex (.slice (some ⟨bn, 0, none⟩) l.length cap)) kP (fun wq hR hst => ?_) ?_
    ·refine zQ rfl rfl (zF ?_)
     obtain ⟨hE, Bn⟩ := ub2 hR hE Bn
     exact zA rfl rfl (on0 rfl)
    apply zK
    ·intro wq hR hst
     refine zQ rfl rfl (zF ?_)
     obtain ⟨hE, Bn⟩ := ub2 hR hE Bn
     exact zA rfl rfl (on0 rfl)
    refine yX (Ex (.int .i64 (((s : Nat) : Int) - 1))) kP (fun wq hR hst => ?_) ?_
    ·refine zL rfl (zF ?_)
     obtain ⟨hE, Bn⟩ := ub2 hR hE Bn
     exact jJ rfl rfl rfl (by omega) (on0 rfl)
    refine dv (rPC M (n0) (l.getD ((s - 1)) (0, 0))) (fun wq hR hst => ?_) ?_
    ·refine zL rfl (zL rfl (zF ?_))
     obtain ⟨hE, Bn⟩ := ub2 hR hE Bn
     refine ops_idxer (dflt := ((0, 0) : P2)) (s - 1) (s - 1) (0) rfl yu67 kG rfl rfl Bn hE.e (by omega) (by omega) (by omega) (by omega) (by omega) (fun b26 o26 us26 hul26 hu26 hc26 => ?_)
     obtain ⟨xs26, xa26, xd26, xt26, xb26, xe26, rfl, hn26⟩ := hu26
     exact on1 (xF _) rfl ⟨b26, o26, _, _, _, _, _, _, rfl, hc26, hn26⟩
    refine yX (vPC M (n0) (l.getD ((s - 1)) (0, 0))) iL (fun wq hR hst => ?_) ?_
    ·refine xA rfl (fun v26 hp26 => ?_)
     obtain ⟨b26, o26, xs26, xa26, xd26, xt26, xb26, xe26, rfl, hc26, hn26⟩ := hp26
     refine zF ?_
     obtain ⟨hE, Bn⟩ := ub2 hR hE Bn
     exact qD rfl cX kG rfl hc26 rfl (zD ⟨rfl, xF _, _, rfl, ⟨_, _, _, _, _, _, rfl, hn26⟩⟩)
    refine xR (fun wq6 hR6 hpost6 => ?_)
    refine zQ rfl rfl (zQ rfl rfl (zQ rfl rfl (zL rfl (xA rfl (fun v22 hp22 => ?_)))))
    obtain ⟨xs22, xa22, xd22, xt22, xb22, xe22, rfl, hn22⟩ := hp22
    refine xA rfl (fun v27 hp27 => ?_)
    obtain ⟨xs27, xa27, xd27, xt27, xb27, xe27, rfl, hn27⟩ := hp27
    refine zF ?_
    simp only [jV, jU, jT, jS]
    obtain ⟨LL, LR, hM, hT, hE, Bn⟩ := ub6 hR6 LL LR hM hT hE Bn
    refine zI rfl (bo func115) rfl rfl ?_
    refine (lsame_c hT hn22.gen hn27.gen (by omega) (by omega) hM).mono ?_
    rintro v28 w2 ⟨hB28, rfl⟩
    obtain ⟨LL, LR, hM, hT, hE, Bn⟩ := ub6 hB28 LL LR hM hT hE Bn
    refine zD ?_
    refine zV rfl (fun hc2 => ?_) (fun hc2 => ?_)
    ·refine zG (zB (zA rfl rfl (zA rfl rfl (ops_slicelo (s) rfl yu67 kG rfl rfl (by omega) (by omega) (zC rfl rfl (zD (zG (zG (zB (zC rfl rfl (zD (zZ ?_))))))))))))
     refine xU (σ := Nat × Nat) [(0, _), (1, _), (6, _)] (fun z => [(5, .int .i64 ((z.1 : Nat) : Int)), (7, .int .i64 ((z.2 : Nat) : Int))]) (fun z w3 => Le Fz M w2 M w3 ∧ ∃ cur2 l2, Blk w3 bn 83 cur2 ∧ EPB M w3 n0 cur2 l2 ∧ cur2.length = cur.length ∧ l2.length = l.length ∧ 1 ≤ z.2 ∧ s + z.2 ≤ l.length ∧ z.1 + 1 ≤ s + z.2 ∧ l2.take z.1 = qH l (s + z.2) ∧ ∀ i, s + z.2 ≤ i + 1 → l2.getD i (0, 0) = l.getD i (0, 0)) (fun z => l.length - z.2) ((s, 1)) (zH rfl (zH rfl (zH rfl (zH rfl (zH rfl yD))))) ?_ (fun z w3 hJ => ?_)
     · exact ⟨Le.refl _ _ _, cur, l, Bn, hE, rfl, rfl, by omega, by omega, by omega, keep_same (by omega) (by omega) hs (aV.2 hc2), fun _ _ => rfl⟩
     ·clear Bn hE; obtain ⟨kk, k⟩ := z; dsimp only at hJ ⊢; obtain ⟨LS, cur2, l2, Bn, hE, hcl2, hll, hk1, hk2, hk3, hkt, hke⟩ := hJ; have hE0 := hE.e.len
      obtain ⟨LL, hM, hT⟩ := up3 LS LL hM hT
      refine zG (zG (zB (zA rfl rfl (zA rfl rfl (yP rfl yu67 rfl (jG rfl rfl rfl (zD ?_)))))))
      refine zV rfl (fun hc3 => ?_) (fun hc3 => ?_)
      ·refine yF (zG (zZ (zG ?_)))
       refine wd mixed 10 [0, 1, 5, 6, 7, 38, 42, 47] (by decide +kernel) ?_
       refine yX (Ex (.func (.func 115) #[] #[])) kP (fun wq hR hst => ?_) ?_
       ·refine zQ rfl rfl (zF ?_)
        obtain ⟨LS, hE, Bn⟩ := ub3 hR LS hE Bn
        exact zA rfl rfl (on0 rfl)
       refine yX (Ex (.slice (some ⟨bn, s * 6, none⟩) (l.length - s) (cap - s))) kP (fun wq hR hst => ?_) ?_
       ·refine zQ rfl rfl (zF ?_)
        obtain ⟨LS, hE, Bn⟩ := ub3 hR LS hE Bn
        exact zA rfl rfl (on0 rfl)
       apply zK
       ·intro wq hR hst
        refine zQ rfl rfl (zF ?_)
        obtain ⟨LS, hE, Bn⟩ := ub3 hR LS hE Bn
        exact zA rfl rfl (on0 rfl)
       refine dv (rPC M (n0) (l2.getD ((s + k)) (0, 0))) (fun wq hR hst => ?_) ?_
       ·refine zL rfl (zL rfl (zF ?_))
        obtain ⟨LS, hE, Bn⟩ := ub3 hR LS hE Bn
        refine ops_idxer (dflt := ((0, 0) : P2)) (s + k) (k) (s) rfl yu67 kG rfl rfl Bn hE.e (by omega) (by omega) (by omega) (by omega) (by omega) (fun b41 o41 us41 hul41 hu41 hc41 => ?_)
        obtain ⟨xs41, xa41, xd41, xt41, xb41, xe41, rfl, hn41⟩ := hu41
        exact on1 (xF _) rfl ⟨b41, o41, _, _, _, _, _, _, rfl, hc41, hn41⟩
       refine yX (vPC M (n0) (l2.getD ((s + k)) (0, 0))) iL (fun wq hR hst => ?_) ?_
       ·refine xA rfl (fun v41 hp41 => ?_)
        obtain ⟨b41, o41, xs41, xa41, xd41, xt41, xb41, xe41, rfl, hc41, hn41⟩ := hp41
        refine zF ?_
        obtain ⟨LS, hE, Bn⟩ := ub3 hR LS hE Bn
        exact qD rfl cX kG rfl hc41 rfl (zD ⟨rfl, xF _, _, rfl, ⟨_, _, _, _, _, _, rfl, hn41⟩⟩)
       refine yX (Ex (.slice (some ⟨bn, s * 6, none⟩) (l.length - s) (cap - s))) kP (fun wq hR hst => ?_) ?_
       ·refine zQ rfl rfl (zF ?_)
        obtain ⟨LS, hE, Bn⟩ := ub3 hR LS hE Bn
        exact zA rfl rfl (on0 rfl)
       apply zK
       ·intro wq hR hst
        refine zQ rfl rfl (zF ?_)
        obtain ⟨LS, hE, Bn⟩ := ub3 hR LS hE Bn
        exact zA rfl rfl (on0 rfl)
       refine yX (Ex (.int .i64 (((k : Nat) : Int) - 1))) kP (fun wq hR hst => ?_) ?_
       ·refine zL rfl (zF ?_)
        obtain ⟨LS, hE, Bn⟩ := ub3 hR LS hE Bn
        exact jJ rfl rfl rfl (by omega) (on0 rfl)
       refine dv (rPC M (n0) (l2.getD ((s + k - 1)) (0, 0))) (fun wq hR hst => ?_) ?_
       ·refine zL rfl (zL rfl (zF ?_))
        obtain ⟨LS, hE, Bn⟩ := ub3 hR LS hE Bn
        refine ops_idxer (dflt := ((0, 0) : P2)) (s + k - 1) (k - 1) (s) rfl yu67 kG rfl rfl Bn hE.e (by omega) (by omega) (by omega) (by omega) (by omega) (fun b46 o46 us46 hul46 hu46 hc46 => ?_)
        obtain ⟨xs46, xa46, xd46, xt46, xb46, xe46, rfl, hn46⟩ := hu46
        exact on1 (xF _) rfl ⟨b46, o46, _, _, _, _, _, _, rfl, hc46, hn46⟩
       refine yX (vPC M (n0) (l2.getD ((s + k - 1)) (0, 0))) iL (fun wq hR hst => ?_) ?_
       ·refine xA rfl (fun v46 hp46 => ?_)
        obtain ⟨b46, o46, xs46, xa46, xd46, xt46, xb46, xe46, rfl, hc46, hn46⟩ := hp46
        refine zF ?_
        obtain ⟨LS, hE, Bn⟩ := ub3 hR LS hE Bn
        exact qD rfl cX kG rfl hc46 rfl (zD ⟨rfl, xF _, _, rfl, ⟨_, _, _, _, _, _, rfl, hn46⟩⟩)
       refine xR (fun wq11 hR11 hpost11 => ?_)
       refine zQ rfl rfl (zQ rfl rfl (zQ rfl rfl (zQ rfl rfl (zQ rfl rfl (zL rfl (xA rfl (fun v42 hp42 => ?_)))))))
       obtain ⟨xs42, xa42, xd42, xt42, xb42, xe42, rfl, hn42⟩ := hp42
       refine xA rfl (fun v47 hp47 => ?_)
       obtain ⟨xs47, xa47, xd47, xt47, xb47, xe47, rfl, hn47⟩ := hp47
       refine zF ?_
       simp only [jV, jU, jT, jS]
       obtain ⟨LS, hM, hT, hE, Bn⟩ := ub5 hR11 LS hM hT hE Bn
       refine zI rfl (bo func115) rfl rfl ?_
       refine (lsame_c hT hn42.gen hn47.gen (by omega) (by omega) hM).mono ?_
       rintro v48 w4 ⟨hB48, rfl⟩
       obtain ⟨LS, hE, Bn⟩ := ub3 hB48 LS hE Bn
       refine qY rfl rfl (zD ?_)
       refine qE rfl (fun hc4 => ?_) (fun hc4 => ?_)
       ·refine zG (zB (zA rfl rfl (zA rfl rfl (zA rfl rfl (zA rfl rfl (ops_idxe (dflt := ((0, 0) : P2)) (s + k) (k) (s) rfl yu67 kG rfl rfl Bn hE.e (by omega) (by omega) (by omega) (by omega) (by omega) (fun us54 hul54 hu54 hc54 => ?_)))))))
        obtain ⟨xs54, xa54, xd54, xt54, xb54, xe54, rfl, hn54⟩ := hu54
        obtain ⟨oxa54, oxd54, oxb54, oxe54, _⟩ := hn54.one
        refine qD rfl cX kG rfl hc54 rfl (ops_idxe (dflt := ((0, 0) : P2)) kk kk 0 rfl yu67 kG rfl rfl Bn hE.e (by omega) (by omega) (by omega) (by omega) (by omega) (fun _ _ _ _ => ?_))
        refine yB rfl rfl kG Bn rfl (by rw [Nat.ble_eq]; have := hE.e.len; have := eO (k := 6) (show kk < l2.length by omega); omega) (ones6 oxa54 oxd54 oxb54 oxe54) rfl (fun w5 Cw5 Bn => ?_)
        have hE := hE.set (i := kk) (by omega) hn54
        obtain ⟨LS, hE⟩ := up2 (lc LS Cw5 hmn nFn) LS hE
        refine zD (zB (zA rfl rfl (yZ rfl rfl rfl (by omega) (zC rfl rfl (zD (zB (zA rfl rfl (yZ rfl rfl rfl (by omega) (zC rfl rfl (zD ?_))))))))))
        refine ⟨rfl, (kk + 1, k + 1), (zS rfl (by rw [Int.natCast_add]; rfl) (zS rfl (by rw [Int.natCast_add]; rfl) (zH rfl (zH rfl (zH rfl yD))))), ?_, ?_⟩
        dsimp only
        refine ⟨LS, _, _, Bn, hE, by rw [List.length_append, List.length_append, List.length_take, List.length_drop]; have := eO (k := 6) (show kk < l2.length by omega); simp only [List.length_cons, List.length_nil]; omega, by rw [List.length_set]; exact hll, by omega, by omega, by omega, ?_, fun i hi => by rw [getD_set_ne (by omega)]; exact hke i (by omega)⟩
        rw [hke _ (by omega)]
        exact keep_put (by omega) hkt (by rw [← hke _ (by omega), ← hke (s + k - 1) (by omega), aV]; simpa using hc4)
        dsimp only
        omega
       ·refine yF (zB (zA rfl rfl (yZ rfl rfl rfl (by omega) (zC rfl rfl (zD ?_)))))
        refine ⟨rfl, (kk, k + 1), (zS rfl (rfl) (zS rfl (by rw [Int.natCast_add]; rfl) (zH rfl (zH rfl (zH rfl yD))))), ?_, ?_⟩
        dsimp only
        refine ⟨LS, _, _, Bn, hE, hcl2, hll, by omega, by omega, by omega, keep_skip (m := s + k) (by omega) hkt (by rw [← hke _ (by omega), ← hke (s + k - 1) (by omega), aV]; simpa using hc4), fun i hi => hke i (by omega)⟩
        dsimp only
        omega
      ·refine xN (xO (zG (zB (zA rfl rfl (zA rfl rfl (ops_slicelo (kk) rfl yu67 kG rfl rfl (by omega) (by omega) (ops_clear (te := 83) yu67 kG rfl (yI (yI (yI (yI (yI (yI jN)))))) rfl Bn (by have := hE.e.len; have : (l.length - kk) * 6 = l.length * 6 - kk * 6 := Nat.sub_mul _ _ _; have := Nat.mul_le_mul_right 6 (show kk ≤ l.length by omega); rw [hll] at *; omega) (by omega) (by omega) (fun w6 cur3 Cw6 Bw6 hcl hce => ?_))))))))
       have hE : EPB _ _ n0 cur3 (l2.take kk) := ⟨hE.take.e.cut (n := kk) (by rw [List.length_take]; omega) hcl hce⟩
       obtain ⟨LL, LS, hE⟩ := up3 (lc LL Cw6 hmn nFn) LL LS hE
       replace Bn := Bw6; clear Bw6
       refine zD (zG (zB (zA rfl rfl (zA rfl rfl (ops_slicehi kk rfl yu67 kG rfl rfl (by omega) (by omega) (zC rfl rfl (zD (zR ?_))))))))
       refine lv1 ⟨rfl, trivial⟩ ?_
       have hkl : s + k = l.length := by omega
       rw [hkl] at hkt
       have hkn : (qH l l.length).length = kk := by rw [← hkt, List.length_take]; omega
       rw [hkn, ← hkt]
       exact ⟨LL, _, Bn, by omega, hE, rfl⟩
    ·refine yF (zB (zA rfl rfl (yZ rfl rfl rfl (by omega) (zC rfl rfl (zD ?_)))))
     refine ⟨rfl, s + 1, (zS rfl (by rw [Int.natCast_add]; rfl) (zH rfl (zH rfl yD))), ?_, ?_⟩
     exact ⟨LR, Bn, by omega, by omega, fun i h1 h2 => by rcases Nat.lt_or_ge i s with c | c; exact hs i h1 c; obtain rfl : i = s := (by omega); exact fun c => hc2 (aV.1 c)⟩
     omega
   ·refine xN (xO (zG (zB (zA rfl rfl (zC rfl rfl (zD (zR ?_)))))))
    refine lv1 ⟨rfl, trivial⟩ ?_
    obtain rfl : s = l.length := by omega
    have hke : qH l l.length = l := by rw [keep_all (Nat.le_refl _) hs, List.take_length]
    rw [hke]
    exact ⟨LL, cur, Bn, rfl, hE, rfl⟩
structure LRow (Fz M : Nat → Prop) (w : World) (n : Nat) (v : Value) (l : List P2) : Prop where
  ex : (l = [] ∧ ∃ ad cap, v = .slice ad 0 cap) ∨ ∃ b cap cur, v = .slice (some ⟨b, 0, none⟩) l.length cap ∧ l.length ≤ cap ∧ 0 < l.length ∧ Blk w b 83 cur ∧ M b ∧ ¬ Fz b ∧ EPB M w n cur l
theorem cmpL_swo : Sort.SWO (ltOf cH) :=
  ⟨fun x => by simpa [ltOf] using dQ x, fun x y z h k => by simp only [ltOf, decide_eq_true_eq] at *; exact cmpL_lt_trans h k, fun x y z h k => by
    simp only [ltOf, decide_eq_false_iff_not, cY, Classical.not_not] at *
    exact leL_trans k h⟩
theorem sortl_c {Fz M : Nat → Prop} {w : World} {n0 : Nat} {v : Value} {l : List P2} (hT : Tab M w) (h1 : LRow Fz M w n0 v l) (hl1 : n0 ≤ 9000) (hlen : l.length ≤ 1000000) (hF : FOk Fz w) (hM : OkM M w) :
    CallsV prog 112 [v, .func (.func 113) #[] #[]] w fun r w' => Le Fz M w M w' ∧ (∀ k, v.ownBlock ≠ some k → k < w.heap.size → w'.heap[k]? = w.heap[k]?) ∧ ∃ l', LRow Fz M w' n0 v l' ∧ l'.Perm l ∧ ∀ i j, i < j → j < l'.length → leL (l'.getD i (0, 0)) (l'.getD j (0, 0)) := by
  rcases h1.ex with ⟨rfl, ad, cap, rfl⟩ | ⟨b, cap, cur, rfl, hc, h0, B, hm, hf, hE⟩
  · refine (AnyF.slices_SortFunc_none sortLevel ad cap _ w).mono ?_
    rintro e w' ⟨rfl, rfl⟩
    exact ⟨_, rfl, Le.refl _ _ _, fun _ _ _ => rfl, [], ⟨.inl ⟨rfl, ad, cap, rfl⟩⟩, .refl _, fun i j _ h => by simp at h⟩
  · have hs := sort_row (g := 113) (k := 6) (b := b) (cap := cap) (te := 83) (Fz := fun k => k ≠ b) (M := M) (w := w) (cur := cur) (l := l) (R := RPc n0) (cf := cH) sortLevel cX (qT kG) (bod_enter (bo func113)) cmpL_swo
      (fun a us ⟨s, x, y, t, z, q, e, h⟩ => by rw [e]; obtain ⟨o1, o2, o3, o4, _⟩ := h.one; exact ones6 o1 o2 o3 o4) hm (fun c => c rfl)
      (fun W hle a us ⟨s, x, y, t, z, q, e, h⟩ => ⟨s, x, y, t, z, q, e, h.mono hle⟩)
      (fun W hle x y us vs ⟨s, a, d, t, b', e, e1, g1⟩ ⟨s2, a2, d2, t2, b2, e2, e3, g2⟩ => by
        rw [e1, e3]
        exact lcmp_c (hT.mono hle) g1.gen g2.gen hl1 hl1 (hM.mono hle)) B hE.e h0 (by omega)
    refine hs.mono ?_
    rintro e w' ⟨rfl, cur', l', hp, hso, hcl, B', hE', hle⟩
    have hll := hp.length_eq
    refine ⟨_, rfl, ⟨hle.os, hle.tape, hle.output, hle.size, fun k hk hF' => hle.frz k hk (fun c => hf (c ▸ hF')), hle.imm, hle.chg, hle.ok⟩, fun k hk hs => hle.frz k hs (fun c => hk (by rw [c]; rfl)), l', ⟨.inr ⟨b, cap, cur', by rw [hll], by omega, by omega, B', hm, hf, ⟨hE'⟩⟩⟩, hp, fun i j hij hj => ?_⟩
    have h5 := hso i j hij hj
    rw [cY, Classical.not_not, getElem!_pos l' i (by omega), getElem!_pos l' j hj] at h5
    simpa [List.getD_eq_getElem?_getD, List.getElem?_eq_getElem hj, List.getElem?_eq_getElem (show i < l'.length by omega)] using h5
theorem compactl0_c {ad : Option Addr} {cap : Nat} {g : Value} (hM : OkM M w) :
    CallsV prog 114 [.slice ad 0 cap, g] w fun r w' => Bel w.heap.size w w' ∧ r = .slice ad 0 cap := by
 refine ci M func114 ntmps114 fun Fz hFz hF LL => ?_
 refine zG (zB (zC rfl rfl (zD (zG (zG (zB (zA rfl rfl (yP rfl yu67 rfl (jG rfl rfl rfl (zD ?_))))))))))
 refine zV rfl (fun hc0 => ?_) (fun hn => absurd (by decide) hn)
 refine zG (zB (zA rfl rfl (zC rfl rfl (zD (zR ?_)))))
 refine lv1 ⟨rfl, trivial⟩ ?_
 subst hFz
 exact ⟨LL.b, rfl⟩
theorem compactlv_c {Fz M : Nat → Prop} {w : World} {n0 : Nat} {v : Value} {l : List P2} (hT : Tab M w) (h1 : LRow Fz M w n0 v l) (hl1 : n0 ≤ 9000) (hlen : l.length ≤ 1000000) (hF : FOk Fz w) (hM : OkM M w) :
    CallsV prog 114 [v, .func (.func 115) #[] #[]] w fun r w' => Le Fz M w M w' ∧ (∀ k, v.ownBlock ≠ some k → k < w.heap.size → w'.heap[k]? = w.heap[k]?) ∧ LRow Fz M w' n0 r (qH l l.length) ∧ (∀ k, r.ownBlock = some k → v.ownBlock = some k) := by
  rcases h1.ex with ⟨rfl, ad, cap, rfl⟩ | ⟨b, cap, cur, rfl, hc, h0, B, hm, hf, hE⟩
  · refine (compactl0_c hM).mono ?_
    rintro r w' ⟨hB, rfl⟩
    exact ⟨Le.of_below hB, fun k _ hk => hB.block k hk, ⟨.inl ⟨rfl, ad, cap, rfl⟩⟩, fun k h => h⟩
  · refine (compactl_c (Fz := fun k => k ≠ b ∧ k < w.heap.size) hT B hE hl1 hlen h0 hc hm (fun c => c.1 rfl) (fun k hk => hk.2) hM).mono ?_
    rintro r w' ⟨hle, cur', B', hcl, hE', rfl⟩
    have hkl := keep_len l l.length
    refine ⟨⟨hle.os, hle.tape, hle.output, hle.size, fun k hk hF' => hle.frz k hk ⟨fun c => hf (c ▸ hF'), hk⟩, hle.imm, hle.chg, hle.ok⟩, fun k hk hs => hle.frz k hs ⟨fun c => hk (by rw [c]; rfl), hs⟩, ⟨.inr ⟨b, cap, cur', rfl, by omega, keep_pos h0, B', hm, hf, hE'⟩⟩, fun k h => h⟩
theorem LRow.one {Fz M : Nat → Prop} {w : World} {n : Nat} {v : Value} {l : List P2} (h : LRow Fz M w n v l) : v.oneCell' = true := by
  rcases h.ex with ⟨_, ad, cap, rfl⟩ | ⟨b, cap, cur, rfl, _⟩ <;> rfl
theorem lrow_own {Fz M : Nat → Prop} {w : World} {n : Nat} {v : Value} {cs : List Value} {l : List P2} (Ow : w.ownsRow 0 83 6 v l.length cs) (He : EP M w n cs l) (hm : ∀ k, v.ownBlock = some k → M k) (hf : ∀ k, v.ownBlock = some k → ¬ Fz k) : LRow Fz M w n v l := by
  obtain ⟨hlen, ⟨rfl, h0⟩ | ⟨g, cap, cur, rfl, _, hb, hc, _, hsz, htk⟩⟩ := Ow
  · exact ⟨.inl ⟨List.length_eq_zero_iff.1 h0, none, 0, rfl⟩⟩
  · rcases Nat.eq_zero_or_pos l.length with h0 | h0
    · exact ⟨.inl ⟨List.length_eq_zero_iff.1 h0, _, cap, by rw [h0]⟩⟩
    · refine ⟨.inr ⟨g, cap, cur.toList, rfl, hc, h0, by unfold Blk; simpa using hb, hm _ rfl, hf _ rfl, ⟨⟨by rw [show cur.toList.length = cap * 6 by rw [Array.length_toList]; exact hsz]; exact Nat.mul_le_mul_right 6 hc, fun i a ha => ?_⟩⟩⟩⟩
      obtain ⟨us, h1, h2, h3⟩ := He.e.at_ i a ha
      refine ⟨us, h1, fun q u hq => ?_, h3⟩
      have := h2 q u hq
      rw [← htk, List.getElem?_take] at this
      split at this
      · exact this
      · cases this
theorem lrow_pl {Fz M1 M : Nat → Prop} {w : World} {n : Nat} {v : Value} {l : List P2} (h : LRow Fz M1 w n v l) (hs : ∀ k, M k → M1 k) (hn : ∀ k, v.ownBlock = some k → ¬ M k) (hl : l.length ≤ 1000000) : PLc M w n l v := by
  rcases h.ex with ⟨rfl, ad, cap, rfl⟩ | ⟨b, cap, cur, rfl, hc, h0, B, hm, hf, hE⟩
  · exact ⟨⟨[], ⟨rfl, by simp, ad, cap, rfl, Nat.zero_le _, .inl rfl⟩, fun i a ha => by simp at ha⟩⟩
  · have e : EB (RPc n) 6 M w cur l := hE.e.mono fun _ _ ⟨a, b, c, d, e, f, e0, h0⟩ => ⟨a, b, c, d, e, f, e0, h0.less hs⟩
    exact ⟨e.row B (hn b rfl) hc (by omega)⟩
theorem levelsof_c {n0 n1 n2 n3 n4 : Nat} {v : Value} {xs2 : Bool} {xa2 : Value} {xd2 : Value} {xs3 : Bool} {xa3 : Value} {xd3 : Value} {xs4 : Bool} {xa4 : Value} {xd4 : Value} {xt4 : Bool} {xb4 : Value} {xe4 : Value} {xs4b : Bool} {xa4b : Value} {xd4b : Value} {xt4b : Bool} {xb4b : Value} {xe4b : Value} {lo hi : Rat} {bl bh : P2} {es : List (P2 × P2)} (hT : Tab M w) (h2 : QC M w n1 lo xs2 xa2 xd2) (h3 : QC M w n2 hi xs3 xa3 xd3) (h4 : PQ M w n3 bl xs4 xa4 xd4 xt4 xb4 xe4) (h5 : PQ M w n4 bh xs4b xa4b xd4b xt4b xb4b xe4b) (h1 : EL M w n0 es v) (hl0 : n0 ≤ 100) (hl1 : n1 ≤ 100) (hl2 : n2 ≤ 100) (hl3 : n3 ≤ 100) (hl4 : n4 ≤ 100) (hlen : es.length ≤ 1000) (hM : OkM M w) :
    CallsV prog 55 [.agg #[.bool xs2, xa2, xd2], .agg #[.bool xs3, xa3, xd3], .agg #[.bool xs4, xa4, xd4, .bool xt4, xb4, xe4, .bool xs4b, xa4b, xd4b, .bool xt4b, xb4b, xe4b], v] w fun r w' => Bel w.heap.size w w' ∧ ∃ l, (if lo < hi then IsLv lo hi bl.2 bh.2 es l else l = []) ∧ PLc M w' (20 * (n0 + n0 + n1 + n2) + n3 + n4 + 100) l r := by
 obtain ⟨oh1, _⟩ := h1.one
 have hth := Nat.le_trans (thru_len lo hi es es.length) hlen
 obtain ⟨oxa2, oxd2, _⟩ := h2.one; obtain ⟨oxa3, oxd3, _⟩ := h3.one; obtain ⟨oxa4, oxd4, oxb4, oxe4, _⟩ := h4.one; obtain ⟨oxa4b, oxd4b, oxb4b, oxe4b, _⟩ := h5.one
 refine ci M func55 ntmps55 fun Fz hFz hF LL => ?_
 refine zG (zB (yM rfl rfl (fun w1 b4 N4 => ?_)))
 obtain ⟨hBw1, nF4, nM4, Lw1, B4⟩ := nza hF hM N4
 replace LL := LL.trans Lw1
 replace hM := hM.mono Lw1
 replace hF := hF.mono Lw1
 replace hT := hT.mono Lw1
 replace h1 := h1.mono Lw1
 replace h2 := h2.mono Lw1
 replace h3 := h3.mono Lw1
 replace h4 := h4.mono Lw1
 replace h5 := h5.mono Lw1
 refine yM rfl rfl (fun w2 b5 N5 => ?_)
 obtain ⟨hBw2, nF5, nM5, Lw2, B5⟩ := nza hF hM N5
 obtain ⟨B4, ne4_5⟩ := bn B4 N5
 replace LL := LL.trans Lw2
 replace hM := hM.mono Lw2
 replace hF := hF.mono Lw2
 replace hT := hT.mono Lw2
 replace h1 := h1.mono Lw2
 replace h2 := h2.mono Lw2
 replace h3 := h3.mono Lw2
 replace h4 := h4.mono Lw2
 replace h5 := h5.mono Lw2
 refine yM rfl rfl (fun w3 b6 N6 => ?_)
 obtain ⟨hBw3, nF6, nM6, Lw3, B6⟩ := nza hF hM N6
 obtain ⟨B4, ne4_6⟩ := bn B4 N6
 obtain ⟨B5, ne5_6⟩ := bn B5 N6
 replace LL := LL.trans Lw3
 replace hM := hM.mono Lw3
 replace hF := hF.mono Lw3
 replace hT := hT.mono Lw3
 replace h1 := h1.mono Lw3
 replace h2 := h2.mono Lw3
 replace h3 := h3.mono Lw3
 replace h4 := h4.mono Lw3
 replace h5 := h5.mono Lw3
 refine zC rfl rfl (zD (zG (zG (zB (zO rfl yO yK rfl B4 rfl rfl (zO rfl yO yK rfl B5 rfl rfl (zI rfl (bo func78) rfl rfl ?_)))))))
 refine (eM hT h2 h3 (by omega) (by omega) hM).mono ?_
 rintro v12 w4 ⟨hB12, rfl⟩
 have Lw4 := Le.of_below (Fz := Fz) (M := (Ins b6 (Ins b5 (Ins b4 M)))) hB12
 replace LL := LL.trans Lw4
 replace hM := hM.mono Lw4
 replace hF := hF.mono Lw4
 replace hT := hT.mono Lw4
 replace h1 := h1.mono Lw4
 replace h2 := h2.mono Lw4
 replace h3 := h3.mono Lw4
 replace h4 := h4.mono Lw4
 replace h5 := h5.mono Lw4
 replace B4 := B4.below hB12
 replace B5 := B5.below hB12
 replace B6 := B6.below hB12
 refine uZ rfl rfl rfl (zD ?_)
 refine zV rfl (fun hc0 => ?_) (fun hc0 => ?_)
 ·have hlt : ¬ lo < hi := by have := bM.1 hc0; grind
  refine zG (zB (zC rfl rfl (zD (zR ?_))))
  refine lv1 ⟨rfl, trivial⟩ ?_
  subst hFz
  exact ⟨LL.b, [], (by rw [if_neg hlt]), ⟨⟨[], ⟨rfl, by simp, none, 0, rfl, Nat.le_refl _, .inl rfl⟩, fun i a ha => by simp at ha⟩⟩⟩
 ·have hlt : lo < hi := by have := bM (p := lo) (q := hi); grind
  refine yF (zG ?_)
  refine SL.wp_drawS (R := Ro) (R' := Rp 4) (Pr := fun _ _ => True) (st := some (4, PreO, PostO)) none mixed 12 [18, 22, 25] (by decide +kernel) ro_trans rp_ro (ro_drew _) (fun _ _ _ h => by cases h; exact ⟨by decide, rfl, preO_mono, postO_mono, _, rfl⟩) (fun _ => trivial) (fun _ _ _ _ _ _ _ => trivial) ?_
  apply qA rfl
  ·intro xq hR hst hPr
   obtain ⟨wq, gq⟩ := xq
   refine aO rfl rfl ?_
   refine xY ?_; dsimp only
   replace B4 := B4.below hR.1
   refine zO rfl yO yK rfl B4 rfl rfl ?_
   exact zD ⟨rfl, gq, dM (Bel.refl _ _), _, rfl, rfl⟩
  apply qA rfl
  ·intro xq hR hst hPr
   obtain ⟨wq, gq⟩ := xq
   refine aO rfl rfl ?_
   refine xY ?_; dsimp only
   replace B5 := B5.below hR.1
   refine zO rfl yO yK rfl B5 rfl rfl ?_
   exact zD ⟨rfl, gq, dM (Bel.refl _ _), _, rfl, rfl⟩
  refine qO rfl (ExS (v)) (fun _ _ _ h _ => h) (fun xq hR hst hPr => ?_) ?_
  ·obtain ⟨wq, gq⟩ := xq
   refine aO rfl rfl ?_
   refine xY ?_; dsimp only
   refine zA rfl rfl ?_
   exact zD ⟨rfl, gq, dM (Bel.refl _ _), _, rfl, rfl⟩
  refine qO rfl (fun v x => LIt (Ins b6 (Ins b5 (Ins b4 M))) x.1 (20 * (n0 + n0 + n1 + n2) + 100) (qB lo hi es es.length) v) (fun _ _ _ h r => h.mono (Fz := fun _ => False) (Le.of_below r.1)) (fun xq hR hst hPr => ?_) ?_
  ·obtain ⟨wq, gq⟩ := xq
   refine uF rfl ?_
   refine uF rfl ?_
   refine uF rfl ?_
   refine xY ?_; dsimp only
   have Lq := Le.of_below (Fz := Fz) (M := (Ins b6 (Ins b5 (Ins b4 M)))) hR.1
   replace LL := LL.trans Lq
   replace hM := hM.mono Lq
   replace hF := hF.mono Lq
   replace hT := hT.mono Lq
   replace h1 := h1.mono Lq
   replace h2 := h2.mono Lq
   replace h3 := h3.mono Lq
   replace h4 := h4.mono Lq
   replace h5 := h5.mono Lq
   replace B4 := B4.below hR.1
   replace B5 := B5.below hR.1
   replace B6 := B6.below hR.1
   refine zI rfl (bo func110) rfl rfl ?_
   refine (through_c hT (by assumption) (by assumption) (by assumption) (by omega) (by omega) (by omega) (by omega) hM).mono ?_
   rintro v17 w5 ⟨hB17, hit17⟩
   exact zD ⟨rfl, gq, dM hB17, _, rfl, hit17⟩
  refine drsS_chg rfl (fun v x => ∃ z, x.2 = some z ∧ (∀ k, v.ownBlock = some k → k < z) ∧ (∀ k, v.ownBlock = some k → w4.heap.size ≤ k) ∧ v.oneCell' = true ∧ ∃ cs, x.1.ownsRow 0 83 6 v (qB lo hi es es.length).length cs ∧ EP (Mo v (Ins b6 (Ins b5 (Ins b4 M)))) x.1 (20 * (n0 + n0 + n1 + n2) + n3 + n4 + 100) cs (qB lo hi es es.length)) (fun _ _ _ ⟨z, h1, h2, h3, h4, cs, h5, h6⟩ r => ⟨z, ro_some h1 r, h2, h3, h4, cs, xH h5 r.1, h6.mono (Fz := fun _ => False) (Le.of_below r.1)⟩) (fun xq hR hpre => ?_) ?_
  ·obtain ⟨wq, gq⟩ := xq
   refine bB rfl (fun v17 hp17 => ?_)
   dsimp only at hp17
   have hit17 := hp17; obtain ⟨oh17, _⟩ := hit17.one
   refine xY ?_; dsimp only
   have Lq := Le.of_below (Fz := Fz) (M := (Ins b6 (Ins b5 (Ins b4 M)))) hR.1
   replace hM := hM.mono Lq
   refine zI rfl (bo func109) rfl rfl ?_
   refine (collectl_c (m := 20 * (n0 + n0 + n1 + n2) + n3 + n4 + 100) hit17 (by omega) (Nat.le_trans (thru_len _ _ _ _) hlen) hM).mono ?_
   rintro v18 w6 ⟨hB18, cs18, Ow, He, hO18⟩
   exact zD ⟨rfl, _, rp_ka hpre hB18, ⟨_, rfl, Nat.le_refl _⟩, _, rfl, _, rfl, own_lt Ow, fun k c => Nat.le_trans hR.1.size (hO18 k c), yR Ow, cs18, Ow, He⟩
  apply qA rfl
  ·intro xq hR hst hPr
   obtain ⟨wq, gq⟩ := xq
   refine aO rfl rfl ?_
   refine xY ?_; dsimp only
   refine zJ 0 rfl underlying74 rfl rfl gH rfl rfl ?_
   exact zD ⟨rfl, gq, dM (Bel.refl _ _), _, rfl, rfl⟩
  apply qA rfl
  ·intro xq hR hst hPr
   obtain ⟨wq, gq⟩ := xq
   refine uF rfl ?_
   refine xY ?_; dsimp only
   refine zJ 3 rfl yu39 rfl rfl yK rfl rfl ?_
   exact zD ⟨rfl, gq, dM (Bel.refl _ _), _, rfl, rfl⟩
  apply qA rfl
  ·intro xq hR hst hPr
   obtain ⟨wq, gq⟩ := xq
   refine uF rfl ?_
   refine xY ?_; dsimp only
   replace B6 := B6.below hR.1
   refine zO rfl yO yK rfl B6 rfl rfl ?_
   exact zD ⟨rfl, gq, dM (Bel.refl _ _), _, rfl, rfl⟩
  refine qO rfl (fun v x => ∃ z22, x.2 = some z22 ∧ ∃ xs22 xa22 xd22 xt22 xb22 xe22, v = .agg #[.bool xs22, xa22, xd22, .bool xt22, xb22, xe22] ∧ PC (fun k => (Ins b6 (Ins b5 (Ins b4 M))) k ∨ (w4.heap.size ≤ k ∧ k < z22)) x.1 (n3 + 1) ((bl.2, bl.2)) xs22 xa22 xd22 xt22 xb22 xe22) (fun _ _ _ ⟨z, hz, xs22, xa22, xd22, xt22, xb22, xe22, e, h0⟩ r => ⟨z, ro_some hz r, xs22, xa22, xd22, xt22, xb22, xe22, e, h0.mono (Fz := fun _ => False) (Le.of_below r.1)⟩) (fun xq hR hst hPr => ?_) ?_
  ·obtain ⟨wq, gq⟩ := xq
   refine uF rfl ?_
   refine xY ?_; dsimp only
   obtain ⟨z22, hz22, hzs22⟩ := hst.1 (by decide +kernel); dsimp only at hz22 hzs22
   have Lq : Le Fz (Ins b6 (Ins b5 (Ins b4 M))) w4 (fun k => (Ins b6 (Ins b5 (Ins b4 M))) k ∨ (w4.heap.size ≤ k ∧ k < z22)) wq := Le.own_any hR.1 (fun k c => c.imp id fun c => ⟨c.1, Nat.lt_of_lt_of_le c.2 hzs22⟩)
   replace hM := hM.mono Lq
   replace hT := hT.mono Lq
   replace h4 := h4.mono Lq
   refine zI rfl (bo func111) rfl rfl ?_
   refine (lflat_c hT h4.y (by omega) hM).mono ?_
   rintro v22 w7 ⟨hB22, xs22, xa22, xd22, xt22, xb22, xe22, rfl, hn22⟩
   exact zD ⟨rfl, gq, dM hB22, _, rfl, ⟨z22, hz22, _, _, _, _, _, _, rfl, hn22⟩⟩
  apply qA rfl
  ·intro xq hR hst hPr
   obtain ⟨wq, gq⟩ := xq
   refine aO rfl rfl ?_
   refine xY ?_; dsimp only
   refine zJ 6 rfl underlying74 rfl rfl gH rfl rfl ?_
   exact zD ⟨rfl, gq, dM (Bel.refl _ _), _, rfl, rfl⟩
  apply qA rfl
  ·intro xq hR hst hPr
   obtain ⟨wq, gq⟩ := xq
   refine uF rfl ?_
   refine xY ?_; dsimp only
   refine xB 3 rfl yu39 rfl rfl yK rfl rfl ?_
   exact zD ⟨rfl, gq, dM (Bel.refl _ _), _, rfl, rfl⟩
  apply qA rfl
  ·intro xq hR hst hPr
   obtain ⟨wq, gq⟩ := xq
   refine uF rfl ?_
   refine xY ?_; dsimp only
   replace B6 := B6.below hR.1
   refine zO rfl yO yK rfl B6 rfl rfl ?_
   exact zD ⟨rfl, gq, dM (Bel.refl _ _), _, rfl, rfl⟩
  refine drsS_nil (fun xq hR hpost => ?_)
  obtain ⟨wq3, gq⟩ := xq
  refine bB rfl (fun v18 hp18 => ?_)
  dsimp only at hp18
  obtain ⟨z18, hz18, hlt18, hge18, oh18, cs18, Ow, He⟩ := hp18
  refine bB rfl (fun v22 hp22 => ?_)
  dsimp only at hp22
  obtain ⟨z22, hz22, xs22, xa22, xd22, xt22, xb22, xe22, rfl, hn22⟩ := hp22; obtain ⟨oxa22, oxd22, oxb22, oxe22, _⟩ := hn22.one
  refine uF rfl ?_
  refine xY ?_; dsimp only
  simp only [jV, jU, jT, jS]
  obtain rfl := Option.some.inj (hz18.symm.trans hz22)
  replace hn22 := hn22.less (M' := (Mo v18 (Ins b6 (Ins b5 (Ins b4 M))))) fun k c => c.elim (fun c => .inr ⟨hge18 k c, hlt18 k c⟩) .inl
  have Of : ∀ k, v18.ownBlock = some k → ¬ Fz k := fun k c e => by have h1 := hge18 k c; have h2 := hF k e; omega
  have Om : ∀ k, v18.ownBlock = some k → ¬ (Ins b6 (Ins b5 (Ins b4 M))) k := fun k c e => by have h1 := hge18 k c; have h2 := hM k e; omega
  have Lq : Le Fz (Ins b6 (Ins b5 (Ins b4 M))) w4 (Mo v18 (Ins b6 (Ins b5 (Ins b4 M)))) wq3 := Le.own_any hR.1 (fun k c => c.elim (fun c => .inr ⟨hge18 k c, own_lt Ow k c⟩) .inl)
  replace LL := LL.trans Lq
  replace hM := hM.mono Lq
  replace hF := hF.mono Lq
  replace hT := hT.mono Lq
  replace h1 := h1.mono Lq
  replace h2 := h2.mono Lq
  replace h3 := h3.mono Lq
  replace h4 := h4.mono Lq
  replace h5 := h5.mono Lq
  replace B4 := B4.below hR.1
  replace B5 := B5.below hR.1
  replace B6 := B6.below hR.1
  refine zI rfl (bo func111) rfl rfl ?_
  refine (lflat_c hT h5.y (by omega) hM).mono ?_
  rintro v26 w8 ⟨hB26, xs26, xa26, xd26, xt26, xb26, xe26, rfl, hn26⟩
  have Lw8 := Le.of_below (Fz := Fz) (M := (Mo v18 (Ins b6 (Ins b5 (Ins b4 M))))) hB26
  replace LL := LL.trans Lw8
  replace hM := hM.mono Lw8
  replace hF := hF.mono Lw8
  replace hT := hT.mono Lw8
  replace h1 := h1.mono Lw8
  replace h2 := h2.mono Lw8
  replace h3 := h3.mono Lw8
  replace h4 := h4.mono Lw8
  replace h5 := h5.mono Lw8
  replace He := He.mono Lw8
  replace hn22 := hn22.mono Lw8
  replace B4 := B4.below hB26
  replace B5 := B5.below hB26
  replace B6 := B6.below hB26
  replace Ow := xH Ow hB26
  obtain ⟨oxa26, oxd26, oxb26, oxe26, _⟩ := hn26.one
  refine xL rfl yu67 kG rfl rfl rfl rfl (yA rfl (yA rfl xG)) rfl rfl rfl (fun w9 b27 N27 => ?_)
  have hBw9 := N27.below
  have nM27 := hM.new N27
  have B27 := N27.blk
  have Lw9 := Le.of_below (Fz := Fz) (M := (Mo v18 (Ins b6 (Ins b5 (Ins b4 M))))) hBw9
  replace LL := LL.trans Lw9
  replace hM := hM.mono Lw9
  replace hF := hF.mono Lw9
  replace hT := hT.mono Lw9
  replace h1 := h1.mono Lw9
  replace h2 := h2.mono Lw9
  replace h3 := h3.mono Lw9
  replace h4 := h4.mono Lw9
  replace h5 := h5.mono Lw9
  replace He := He.mono Lw9
  replace hn22 := hn22.mono Lw9
  replace hn26 := hn26.mono Lw9
  replace B4 := B4.below hBw9
  replace B5 := B5.below hBw9
  replace B6 := B6.below hBw9
  replace Ow := xH Ow hBw9
  refine ops_appendk rfl yu67 kG rfl rfl rfl rfl Ow (((KBlk.mk B27 nM27)).blk.slc ((KBlk.mk B27 nM27)).not (sz := 6) (n := 2) rfl (fun _ _ h => h) (by omega) (Nat.le_refl _)) (fun u hu => by rcases List.mem_append.1 (show u ∈ [_, _, _, _, _, _] ++ [_, _, _, _, _, _] from hu) with h | h <;> exact ones6 (by assumption) (by assumption) (by assumption) (by assumption) _ h) (by omega) (by omega) (fun v28 w10 A28 G28 S28 => ?_)
  have Lw10 := Le.of_grown (Fz := Fz) (M := (Ins b6 (Ins b5 (Ins b4 M)))) G28 S28 A28 Of
  have Omo28 := Om
  replace Of := jM (w' := w10) Of hF S28
  replace Om := jL (w' := w10) Om (fun k hk => hM k (.inr hk)) S28
  replace LL := LL.trans Lw10
  replace hM := hM.mono Lw10
  replace hF := hF.mono Lw10
  replace hT := hT.mono Lw10
  replace He := He.mono Lw10
  replace hn22 := hn22.mono Lw10
  replace hn26 := hn26.mono Lw10
  clear Ow; have Ow := A28
  replace He := He.snoc (hn22.up (by omega))
  replace He := He.snoc (hn26.up (by omega))
  refine zC rfl rfl (zD (zG (zB ?_)))
  have hvr := lrow_own (Fz := Fz) (l := qB lo hi es es.length ++ [(bl.2, bl.2), (bh.2, bh.2)]) (by rw [List.length_append]; exact Ow) (by simp only [List.append_assoc, List.cons_append, List.nil_append] at He; exact He) (M := (Mo v28 (Ins b6 (Ins b5 (Ins b4 M))))) (w := w10) (v := v28) (fun k h => .inl h) Of
  refine zA rfl rfl (zI rfl (bo func112) rfl rfl ?_)
  refine (sortl_c (Fz := Fz) (M := (Mo v28 (Ins b6 (Ins b5 (Ins b4 M))))) hT hvr (by omega) (by simp; omega) hF hM).mono ?_
  rintro v30 w11 ⟨Lw11, hkpw11, l1, hv1, hp1, hs1⟩
  replace LL := LL.trans Lw11
  replace hM := hM.mono Lw11
  replace hF := hF.mono Lw11
  replace hT := hT.mono Lw11
  have hll1 := hp1.length_eq; simp at hll1
  refine zD (zG (zB (zA rfl rfl (zI rfl (bo func114) rfl rfl ?_))))
  refine (compactlv_c (Fz := Fz) (M := (Mo v28 (Ins b6 (Ins b5 (Ins b4 M))))) hT hv1 (by omega) (by omega) hF hM).mono ?_
  rintro v32 w12 ⟨Lw12, hkpw12, hv2, ho2⟩
  replace LL := LL.trans Lw12
  have ov32 := hv2.one
  have hres : PLc (Ins b6 (Ins b5 (Ins b4 M))) w12 (20 * (n0 + n0 + n1 + n2) + n3 + n4 + 100) (qH l1 l1.length) v32 := lrow_pl hv2 (fun k c => .inr c) (fun k h => Om k (ho2 k h)) (by have := keep_len l1 l1.length; omega)
  have Lz : Le Fz (Mo v28 (Ins b6 (Ins b5 (Ins b4 M)))) w12 (Ins b6 (Ins b5 (Ins b4 M))) w12 := Le.less (fun k c => .inr c)
  replace LL := LL.trans Lz
  refine zC rfl rfl (zD (zR ?_))
  refine lv1 ⟨rfl, trivial⟩ ?_
  subst hFz
  exact ⟨LL.b, _, by rw [if_pos hlt]; exact lv_of_sort (by simpa using hp1) hs1, hres.less (fun k c => zM (zM (zM c)))⟩
theorem i5m1_c (hM : OkM M w) :
    CallsV prog 79 [.int .i64 (-1)] w fun r w' => Bel w.heap.size w w' ∧ ∃ xsr xar, r = .agg #[.bool xsr, xar] ∧ ZC M w' (2) ((-1)) xsr xar := by
 refine ci M func79 ntmps79 fun Fz hFz hF LL => ?_
 refine zG (zB (yG rfl yY (fun w1 b2 N2 => ?_)))
 obtain ⟨_, nF2, nM2, Lw1, B2⟩ := nza hF hM N2
 obtain ⟨LL, hM⟩ := up2 Lw1 LL hM
 refine zD (zG (zG (zB (zA rfl rfl (jG rfl rfl rfl (zD ?_))))))
 refine zV rfl (fun hc0 => ?_) (fun hn => absurd (by decide) hn)
 refine zG (zB (zA rfl rfl (yZ rfl rfl rfl (by omega) (ops_neg rfl rfl (by omega) (xV (a := 0) rfl yu3 yu170 rfl (by omega) (gK (a := 0) (b := 1) rfl rfl rfl (by omega) (zI rfl (bo func148) rfl rfl ?_)))))))
 refine (rof_c (n := 1) (by omega) hM).mono ?_
 rintro v10 w2 ⟨hB10, hf10⟩
 have hM10 := hM
 have hS10 := LL.size
 obtain ⟨LL, B2⟩ := ub2 hB10 LL B2
 have hn10 := hf10.nat hM10
 refine xP rfl aH rfl rfl (yA (gG rfl) (yA (gG (by first | rfl | exact yN (by assumption) | exact yR (by assumption) | assumption)) xG)) rfl (yB rfl rfl yY B2 rfl rfl (yI (yI jN)) rfl (fun w3 Cw3 B2 => ?_))
 obtain ⟨LL, hn10⟩ := up2 (lc LL Cw3 zP nF2) LL hn10
 refine zD (zR ?_)
 refine lv1 ⟨⟨_, rfl, yV xW yY B2 rfl rfl⟩, trivial⟩ ?_
 subst hFz
 exact ⟨LL.b, _, _, rfl, by simp, hn10.less fun k c => zM c, xJ (by simp)⟩
theorem r7m1_c (hM : OkM M w) :
    CallsV prog 21 [.int .i64 (-1)] w fun r w' => Bel w.heap.size w w' ∧ ∃ xsr xar xdr, r = .agg #[.bool xsr, xar, xdr] ∧ RC M w' (2) (((-1 : Int) : Rat)) xsr xar xdr := by
 refine ci M func21 ntmps21 fun Fz hFz hF LL => ?_
 refine zG (zB (yG rfl yK (fun w1 b2 N2 => ?_)))
 obtain ⟨_, nF2, nM2, Lw1, B2⟩ := nza hF hM N2
 obtain ⟨LL, hM⟩ := up2 Lw1 LL hM
 refine zD (zG (zB (zA rfl rfl (zI rfl (bo func79) rfl rfl ?_))))
 refine (i5m1_c   hM).mono ?_
 rintro v4 w2 ⟨hB4, xs4, xa4, rfl, hn4⟩
 obtain ⟨LL, hM, B2⟩ := ub3 hB4 LL hM B2
 obtain ⟨oxa4, _⟩ := hn4.one
 refine yT rfl yu29 yU rfl rfl rfl (by simp [Value.oneCell', lw]) rfl (fun w3 b5 N5 => ?_)
 have hBw3 := N5.below
 have nM5 := hM.new N5
 have B5 := N5.blk
 obtain ⟨LL, hn4, B2⟩ := ub3 hBw3 LL hn4 B2
 have hn5 : IsNat (Ins b2 M) w3 (.slice (some ⟨b5, 0, none⟩) 1 1) [1] := cZ (xs := [1]) B5 nM5 rfl (by simp) (by simp)
 refine xP rfl iA rfl rfl (yA (rfl) (yA (gG (by first | rfl | assumption)) xG)) rfl (yB rfl rfl yK B2 rfl rfl (yI (yI (yI jN))) rfl (fun w4 Cw4 B2 => ?_))
 obtain ⟨LL, hn4, hn5⟩ := up3 (lc LL Cw4 zP nF2) LL hn4 hn5
 refine zD (zR ?_)
 refine lv1 ⟨⟨_, rfl, yV yO yK B2 rfl rfl⟩, trivial⟩ ?_
 subst hFz
 exact ⟨LL.b, _, _, _, rfl, (((RC.up (rc_mk (q := ((-1 : Int) : Rat)) hn4 (m := 2) (by rw [Rat.den_intCast, show limbs 1 = [1] by simp [limbs]]; exact hn5) (by rw [Rat.den_intCast, show limbs 1 = [1] by simp [limbs]]; simp)) (m := 2) (by omega))).less (fun k c => zM c)).up (by omega)⟩
theorem l23m1_c (hM : OkM M w) :
    CallsV prog 48 [.int .i64 (-1)] w fun r w' => Bel w.heap.size w w' ∧ ∃ xsr xar xdr, r = .agg #[.bool xsr, xar, xdr] ∧ RC M w' (2) (((-1 : Int) : Rat)) xsr xar xdr := by
 refine ci M func48 ntmps48 fun Fz hFz hF LL => ?_
 refine zG (zB (yG rfl yK (fun w1 b2 N2 => ?_)))
 obtain ⟨_, nF2, nM2, Lw1, B2⟩ := nza hF hM N2
 obtain ⟨LL, hM⟩ := up2 Lw1 LL hM
 refine zD (zG (zB (zA rfl rfl (zI rfl (bo func21) rfl rfl ?_))))
 refine (r7m1_c   hM).mono ?_
 rintro v4 w2 ⟨hB4, xs4, xa4, xd4, rfl, hn4⟩
 obtain ⟨LL, B2⟩ := ub2 hB4 LL B2
 obtain ⟨oxa4, oxd4, _⟩ := hn4.one
 refine yB rfl rfl yK B2 rfl rfl (yI (yI (yI jN))) rfl (fun w3 Cw3 B2 => ?_)
 obtain ⟨LL, hn4⟩ := up2 (lc LL Cw3 zP nF2) LL hn4
 refine zD (zR ?_)
 refine lv1 ⟨⟨_, rfl, yV yO yK B2 rfl rfl⟩, trivial⟩ ?_
 subst hFz
 exact ⟨LL.b, _, _, _, rfl, (hn4.less (fun k c => zM c)).up (by omega)⟩
theorem r8m1_c {k : Nat} (hk : k < 9223372036854775808) (hM : OkM M w) :
    CallsV prog 85 [.int .i64 ((k : Nat) : Int), .int .i64 (-1)] w fun r w' => Bel w.heap.size w w' ∧ ∃ xsr xar xdr xtr xbr xer, r = .agg #[.bool xsr, xar, xdr, .bool xtr, xbr, xer] ∧ PC M w' (2) ((((k : Nat) : Rat), ((-1 : Int) : Rat))) xsr xar xdr xtr xbr xer := by
 refine ci M func85 ntmps85 fun Fz hFz hF LL => ?_
 refine zG (zB (yG rfl gH (fun w1 b4 N4 => ?_)))
 obtain ⟨_, nF4, nM4, Lw1, B4⟩ := nza hF hM N4
 obtain ⟨LL, hM⟩ := up2 Lw1 LL hM
 refine zD (zG (zB (zA rfl rfl (zI rfl (bo func21) rfl rfl ?_))))
 refine (hC (k := k)  (by omega) hM).mono ?_
 rintro v6 w2 ⟨hB6, xs6, xa6, xd6, rfl, hn6⟩
 obtain ⟨LL, hM, B4⟩ := ub3 hB6 LL hM B4
 obtain ⟨oxa6, oxd6, _⟩ := hn6.one
 refine zA rfl rfl (zI rfl (bo func21) rfl rfl ?_)
 refine (r7m1_c   hM).mono ?_
 rintro v8 w3 ⟨hB8, xs8, xa8, xd8, rfl, hn8⟩
 obtain ⟨LL, hn6, B4⟩ := ub3 hB8 LL hn6 B4
 obtain ⟨oxa8, oxd8, _⟩ := hn8.one
 refine xP rfl hP rfl rfl (yA (rfl) (yA (rfl) xG)) rfl (yB rfl rfl gH B4 rfl rfl (yI (yI (yI (yI (yI (yI jN)))))) rfl (fun w4 Cw4 B4 => ?_))
 obtain ⟨LL, hn6, hn8⟩ := up3 (lc LL Cw4 zP nF4) LL hn6 hn8
 refine zD (zR ?_)
 refine lv1 ⟨⟨_, rfl, yV gI gH B4 rfl rfl⟩, trivial⟩ ?_
 subst hFz
 exact ⟨LL.b, _, _, _, _, _, _, rfl, ((PC.mk2 hn6 hn8).less (fun k c => zM c)).up (by omega)⟩
end
end Go.Proofs.YtfkejnlohkgbgaaGreatDoor
namespace Go.SL
open Go.RowKit
def Cl (M : Nat → Prop) (w : World) (M' : Nat → Prop) (w' : World) : Prop :=
 ∀ k cur t fz, ¬ M k → w.heap[k]? = some (.cells cur t fz) → ¬ M' k ∧ w'.heap[k]? = some (.cells cur t fz)
section
variable {Fz T M M' M'' M0 : Nat → Prop} {n : Nat} {w w' w'' w0 : World}
theorem Le.cl (l : Le Fz M w M' w') : Cl M w M' w' := fun k _ _ _ hm hw => let h := l.kept (Array.getElem?_eq_some_iff.1 hw).1 hm; ⟨h.1, h.2.trans hw⟩
theorem Cl.less (h : ∀ k, M' k → M k) : Cl M w M' w := fun k _ _ _ hm hw => ⟨fun c => hm (h k c), hw⟩
theorem Cl.bel (h : Bel w.heap.size w w') : Cl M w M w' := (Le.of_below (Fz := fun _ => False) h).cl
theorem Seg.cl {b off : Nat} {cs : List Value} (h : Seg w b off cs) (l : Cl M w M' w') (hm : ¬ M b) : ¬ M' b ∧ Seg w' b off cs := by
 obtain ⟨cur, t, fz, h7, h8⟩ := h
 have hk := l b _ _ _ hm h7
 exact ⟨hk.1, cur, t, fz, hk.2, h8⟩
theorem Slc.cl {sz m : Nat} {v : Value} {cs : List Value} (h : Slc M w sz v m cs) (l : Cl M w M' w') : Slc M' w' sz v m cs := by
 obtain ⟨h1, h2, ad, cap, h3, h4, h5⟩ := h
 refine ⟨h1, h2, ad, cap, h3, h4, ?_⟩
 rcases h5 with h5 | ⟨b, off, h5, h6, h7⟩
 ·exact .inl h5
 ·have hk := h7.cl l h6
  exact .inr ⟨b, off, h5, hk.1, hk.2⟩
theorem IsNat.cl {v : Value} {xs : List Nat} (h : IsNat M w v xs) (l : Cl M w M' w') : IsNat M' w' v xs := ⟨h.slc.cl l, h.lt⟩
theorem Tab.cl (h : Tab M w) (l : Cl M w M' w') : Tab M' w' := let k := h.2.cl l h.1; ⟨k.1, k.2⟩
end
structure CT where
 sz : Nat
 p : (Nat → Prop) → World → List Value → Prop
 len : ∀ {M w cs}, p M w cs → cs.length = sz
 one : ∀ {M w cs}, p M w cs → ∀ u ∈ cs, u.oneCell' = true
 mono : ∀ {M M' w w' cs}, p M w cs → Cl M w M' w' → p M' w' cs
def xc (v : Value) : CT := ⟨1, fun _ _ cs => cs = [v] ∧ v.oneCell' = true, fun h => by rw [h.1]; rfl, fun h u hu => by rw [h.1] at hu; rw [List.mem_singleton.1 hu]; exact h.2, fun h _ => h⟩
def stp : List CT → (Nat → Prop) → World → List Value → Prop
 | [], _, _, cs => cs = []
 | c :: r, M, w, cs => ∃ a b, cs = a ++ b ∧ c.p M w a ∧ stp r M w b
def szs : List CT → Nat
 | [] => 0
 | c :: r => c.sz + szs r
section
variable {M M' : Nat → Prop} {w w' : World}
theorem cO : ∀ {l : List CT} {cs : List Value}, stp l M w cs → cs.length = szs l
 | [], _, h => by rw [show _ = [] from h]; rfl
 | c :: r, _, ⟨a, b, e, h1, h2⟩ => by rw [e, List.length_append, c.len h1, cO h2]; rfl
theorem stp_one : ∀ {l : List CT} {cs : List Value}, stp l M w cs → ∀ u ∈ cs, u.oneCell' = true
 | [], _, h, u, hu => by rw [show _ = [] from h] at hu; cases hu
 | c :: r, _, ⟨a, b, e, h1, h2⟩, u, hu => by rw [e] at hu; exact (List.mem_append.1 hu).elim (c.one h1 u) (stp_one h2 u)
theorem qS : ∀ {l : List CT} {cs : List Value}, stp l M w cs → Cl M w M' w' → stp l M' w' cs
 | [], _, h, _ => h
 | c :: r, _, ⟨a, b, e, h1, h2⟩, k => ⟨a, b, e, c.mono h1 k, qS h2 k⟩
theorem eQ : ∀ {l m : List CT} {a b : List Value}, stp l M w a → stp m M w b → stp (l ++ m) M w (a ++ b)
 | [], _, _, _, h, k => by rw [show _ = [] from h]; exact k
 | c :: r, _, _, _, ⟨a, b, e, h1, h2⟩, k => ⟨a, b ++ _, by rw [e, List.append_assoc], h1, eQ h2 k⟩
theorem bR : ∀ {l m : List CT} {cs : List Value}, stp (l ++ m) M w cs → ∃ a b, cs = a ++ b ∧ stp l M w a ∧ stp m M w b
 | [], _, cs, h => ⟨[], cs, rfl, rfl, h⟩
 | c :: r, _, _, ⟨a, b, e, h1, h2⟩ => let ⟨x, y, e2, h3, h4⟩ := bR h2; ⟨a ++ x, y, by rw [e, e2, List.append_assoc], ⟨a, x, rfl, h1, h3⟩, h4⟩
theorem fW : ∀ {l : List CT} {cs : List Value} {i : Nat} {c : CT}, stp l M w cs → l[i]? = some c → c.p M w ((cs.drop (szs (l.take i))).take c.sz)
 | [], _, _, _, _, h => by simp at h
 | d :: r, _, 0, c, ⟨a, b, e, h1, h2⟩, h => by
  simp at h; subst h
  show d.p M w (_)
  rw [show szs ((d :: r).take 0) = 0 from rfl, e, List.drop_zero, ← d.len h1, List.take_left]
  exact h1
 | d :: r, _, i + 1, c, ⟨a, b, e, h1, h2⟩, h => by
  have := fW h2 (by simpa using h)
  rw [show szs ((d :: r).take (i + 1)) = d.sz + szs (r.take i) from rfl, e, ← d.len h1, ← List.drop_drop, List.drop_left]
  exact this
end
def st (l : List CT) : CT := ⟨szs l, stp l, cO, stp_one, qS⟩
def dC (k : Nat) (l : List CT) : Prop := ∀ c ∈ l, c.sz = k
theorem szs_all {k : Nat} : ∀ {l : List CT}, dC k l → szs l = l.length * k
 | [], _ => by simp [szs]
 | c :: r, h => by rw [szs, h c (by simp), szs_all (l := r) fun d hd => h d (by simp [hd]), List.length_cons, Nat.succ_mul]; omega
theorem szs_take {k i : Nat} {l : List CT} (h : dC k l) (hi : i ≤ l.length) : szs (l.take i) = i * k := by
 rw [szs_all (k := k) fun d hd => h d (List.mem_of_mem_take hd), List.length_take, Nat.min_eq_left hi]
def sl (k : Nat) (l : List CT) : CT where
 sz := 1
 p M w cs := ∃ v us, cs = [v] ∧ Slc M w k v l.length us ∧ stp l M w us ∧ dC k l
 len h := by obtain ⟨v, us, e, _⟩ := h; rw [e]; rfl
 one h u hu := by obtain ⟨v, us, e, ⟨_, _, ad, cap, rfl, _⟩, _⟩ := h; rw [e] at hu; rw [List.mem_singleton.1 hu]; rfl
 mono h k := by obtain ⟨v, us, e, h1, h2, h3⟩ := h; exact ⟨v, us, e, h1.cl k, qS h2 k, h3⟩
structure PV where
 p : (Nat → Prop) → World → Value → Prop
 mono : ∀ {M M' w w' v}, p M w v → Cl M w M' w' → p M' w' v
def exP (v : Value) : PV := ⟨fun _ _ u => u = v, fun h _ => h⟩
def sv (c : CT) : PV := ⟨fun M w v => c.p M w [v], fun h k => c.mono h k⟩
def ag (c : CT) : PV := ⟨fun M w v => ∃ us : List Value, v = .agg us.toArray ∧ c.p M w us, fun h k => let ⟨us, e, h⟩ := h; ⟨us, e, c.mono h k⟩⟩
def pa (c : CT) : PV := ⟨fun M w v => ∃ b o us, v = .pointer (some ⟨b, o, none⟩) ∧ ¬ M b ∧ Seg w b o us ∧ c.p M w us,
 fun ⟨b, o, us, e, h1, h2, h3⟩ k => let h := h2.cl k h1; ⟨b, o, us, e, h.1, h.2, c.mono h3 k⟩⟩
def Fa : List PV → (Nat → Prop) → World → List Value → Prop
 | [], _, _, vs => vs = []
 | τ :: τs, M, w, vs => ∃ v us, vs = v :: us ∧ τ.p M w v ∧ Fa τs M w us
theorem Fa.mono {M M' : Nat → Prop} {w w' : World} : ∀ {τs : List PV} {vs : List Value}, Fa τs M w vs → Cl M w M' w' → Fa τs M' w' vs
 | [], _, h, _ => h
 | τ :: τs, _, ⟨v, us, e, h1, h2⟩, k => ⟨v, us, e, τ.mono h1 k, Fa.mono h2 k⟩
theorem Fa.len {M : Nat → Prop} {w : World} : ∀ {τs : List PV} {vs : List Value}, Fa τs M w vs → vs.length = τs.length
 | [], _, h => by rw [show _ = [] from h]; rfl
 | τ :: τs, _, ⟨v, us, e, h1, h2⟩ => by rw [e]; simp [Fa.len h2]
def tu (l : List PV) : PV := ⟨fun M w v => ∃ vs : List Value, v = .tuple vs.toArray ∧ Fa l M w vs, fun h k => let ⟨us, e, h⟩ := h; ⟨us, e, h.mono k⟩⟩
def PSub (Ψ Φ : PV) : Prop := ∀ M w v, Ψ.p M w v → Φ.p M w v
theorem PSub.refl (Ψ : PV) : PSub Ψ Ψ := fun _ _ _ h => h
abbrev TE := List (Nat × Prop × PV)
def tf : TE → Nat → Option (Prop × PV)
 | [], _ => none
 | (k, q) :: Γ, i => bif Nat.beq k i then some q else tf Γ i
def tv (Γ : TE) : Operand → Option (Prop × PV)
 | .tmp t => tf Γ t
 | .const v => some (True, exP v)
 | .global g => some (True, exP (.pointer (some ⟨g, 0, none⟩)))
 | .func f => some (True, exP (.func (.func f) #[] #[]))
def Tok (q : Prop × PV) (M : Nat → Prop) (E : Env) (w : World) (s : Nat) : Prop := (q.1 → ∃ v, get E s = some v ∧ q.2.p M w v) ∧ (¬ q.1 → get E s = some undef)
def Tm (Γ : TE) (ss : List Nat) (M : Nat → Prop) (E : Env) (w : World) : Prop := ∀ s ∈ ss, ∀ q, tf Γ s = some q → Tok q M E w s
def TM (Γ : TE) (M : Nat → Prop) (E : Env) (w : World) : Prop := ∀ s q, tf Γ s = some q → Tok q M E w s
section
variable {M M' : Nat → Prop} {w w' : World} {E : Env} {Γ : TE}
theorem Tok.mono {q : Prop × PV} {s : Nat} (h : Tok q M E w s) (k : Cl M w M' w') : Tok q M' E w' s := ⟨fun c => let ⟨v, h1, h2⟩ := h.1 c; ⟨v, h1, q.2.mono h2 k⟩, h.2⟩
theorem TM.mono (h : TM Γ M E w) (k : Cl M w M' w') : TM Γ M' E w' := fun s q hs => (h s q hs).mono k
theorem TM.tm (h : TM Γ M E w) (ss : List Nat) : Tm Γ ss M E w := fun s _ q hs => h s q hs
theorem TM.put {d : Nat} {v : Value} {q : Prop × PV} (h : TM Γ M E w) (hv : q.1 → q.2.p M w v) (hu : ¬ q.1 → v = undef) : TM ((d, q) :: Γ) M ((d, v) :: E) w := fun s r hs => by
 unfold tf at hs
 cases hb : Nat.beq d s with
 | true =>
  rw [hb] at hs
  obtain rfl := Option.some.inj hs
  exact ⟨fun c => ⟨v, uA hb, hv c⟩, fun c => by rw [uA hb, hu c]⟩
 | false =>
  rw [hb] at hs
  have := h s r hs
  exact ⟨fun c => by rw [dP hb]; exact this.1 c, fun c => by rw [dP hb]; exact this.2 c⟩
theorem tm_ev {ss : List Nat} {x : Operand} {q : Prop} {Ψ : PV} (h : Tm Γ ss M E w) (hx : tv Γ x = some (q, Ψ)) (hs : ∀ t, x = .tmp t → t ∈ ss) (hq : q) : ∃ v, ev E x = some v ∧ Ψ.p M w v := by
 cases x with
 | tmp t => exact (h t (hs t rfl) _ hx).1 hq
 | const u => obtain ⟨rfl, rfl⟩ := Prod.mk.inj (Option.some.inj hx); exact ⟨u, rfl, rfl⟩
 | global g => obtain ⟨rfl, rfl⟩ := Prod.mk.inj (Option.some.inj hx); exact ⟨_, rfl, rfl⟩
 | func f => obtain ⟨rfl, rfl⟩ := Prod.mk.inj (Option.some.inj hx); exact ⟨_, rfl, rfl⟩
end
class Im (p q : Prop) : Prop where h : p → q
instance {p : Prop} : Im p True := ⟨fun _ => trivial⟩
instance {p : Prop} : Im p p := ⟨id⟩
inductive Ow where
 | blk (b : Nat) (ty : TypeId) (cs : List CT)
 | row (v : Value) (ty : TypeId) (k : Nat) (l : List CT)
def Ow.bk : Ow → Option Nat
 | .blk b _ _ => some b
 | .row v _ _ _ => v.ownBlock
def Ow.ok (M : Nat → Prop) (w : World) : Ow → Prop
 | .blk b ty cs => ∃ us, Blk w b ty us ∧ stp cs M w us
 | .row v ty k l => ∃ us, w.ownsRow 0 ty k v l.length us ∧ stp l M w us ∧ dC k l
def Mk (S : List Ow) (M0 : Nat → Prop) : Nat → Prop := fun k => (∃ o ∈ S, o.bk = some k) ∨ M0 k
structure Gd (M : Nat → Prop) (S : List Ow) (w : World) : Prop where
 ok : OkM M w
 tab : Tab M w
 own : ∀ o ∈ S, o.ok M w
theorem Ow.ok_mono {M M' : Nat → Prop} {w w' : World} {o : Ow} (h : o.ok M w) (k : Cl M w M' w') (hb : ∀ b, o.bk = some b → b < w.heap.size → w'.heap[b]? = w.heap[b]?) : o.ok M' w' := by
 cases o with
 | blk b ty cs => obtain ⟨us, h1, h2⟩ := h; exact ⟨us, (hb b rfl h1.lt).trans h1, qS h2 k⟩
 | row v ty sz l =>
  obtain ⟨us, h1, h2, h3⟩ := h
  refine ⟨us, ?_, qS h2 k, h3⟩
  obtain ⟨g1, g2 | ⟨g, cap, cur, rfl, g4, g5, g6⟩⟩ := h1
  ·exact ⟨g1, .inl g2⟩
  ·exact ⟨g1, .inr ⟨g, cap, cur, rfl, g4, (hb g rfl (Array.getElem?_eq_some_iff.1 g5).1).trans g5, g6⟩⟩
theorem Gd.bel {M : Nat → Prop} {S : List Ow} {w w' : World} (h : Gd M S w) (hb : Bel w.heap.size w w') : Gd M S w' :=
 ⟨fun k hk => Nat.lt_of_lt_of_le (h.ok k hk) hb.size, h.tab.cl (Cl.bel hb), fun o ho => Ow.ok_mono (h.own o ho) (Cl.bel hb) fun b _ hlt => hb.block b hlt⟩
def Apt : List Ow → Prop
 | [] => True
 | o :: S => (∀ b, o.bk = some b → ∀ p ∈ S, p.bk ≠ some b) ∧ Apt S
structure Cx where
 M : Nat → Prop
 w : World
 z : Nat → Prop
structure BZ (X : Cx) (w' : World) : Prop where
 os : w'.os = X.w.os
 tape : Tp X.w w'
 output : w'.output = X.w.output
 size : X.w.heap.size ≤ w'.heap.size
 block : ∀ k, k < X.w.heap.size → ¬ X.z k → w'.heap[k]? = X.w.heap[k]?
theorem BZ.bel {X : Cx} {w w' : World} (h : BZ X w) (k : Rb w w') : BZ X w' :=
 ⟨k.os.trans h.os, k.tape.trans h.tape, k.output.trans h.output, Nat.le_trans h.size k.size, fun i hi hz => (k.block i (Nat.lt_of_lt_of_le hi h.size)).trans (h.block i hi hz)⟩
structure St (X : Cx) (Γ : TE) (S : List Ow) (E : Env) (w : World) : Prop where
 bel : BZ X w
 gd : Gd (Mk S X.M) S w
 new : ∀ o ∈ S, ∀ b, o.bk = some b → X.w.heap.size ≤ b ∨ X.z b
 apt : Apt S
 ok0 : OkM X.M X.w
 zm : ∀ b, X.z b → ¬ X.M b
 tm : TM Γ (Mk S X.M) E w
abbrev TK := TE → List Ow → Prop
def lf (X : Cx) (K : TK) (D : List Deferred) : Pd := fun D' E w => D' = D ∧ ∃ Γ S, K Γ S ∧ St X Γ S E w
def okN (N : Nat) (l : List Oper) : Bool := l.all fun o => match o.dst with | some d => Nat.blt d N | none => true
section
variable {X : Cx} {w w' : World} {Γ : TE} {S : List Ow} {E : Env}
theorem St.pure (h : St X Γ S E w) (hb : Rb w w') : St X Γ S E w' :=
 ⟨h.bel.bel hb, h.gd.bel hb, h.new, h.apt, h.ok0, h.zm, h.tm.mono (Cl.bel hb)⟩
theorem St.put (h : St X Γ S E w) (hb : Rb w w') {d : Nat} {q : Prop × PV} {v : Value} (hv : q.1 → q.2.p (Mk S X.M) w' v) (hu : ¬ q.1 → v = undef) : St X ((d, q) :: Γ) S ((d, v) :: E) w' :=
 let k := h.pure hb; ⟨k.bel, k.gd, k.new, k.apt, k.ok0, k.zm, k.tm.put hv hu⟩
end
section
variable (P : Program) (r : Option Nat) (N : Nat)
def TW (X : Cx) (c : Code) (Kn : TK) (Ke : Nat → TK) (Kr : TK) : TK := fun Γ S =>
 ∀ D E w, St X Γ S E w → Wp P r N c (lf X Kn D) (fun i => lf X (Ke i) D) (lf X Kr D) D E w
def TO (ops : Array Oper) (X : Cx) (K : TK) (l : List Oper) : TK := fun Γ S =>
 okN N l = true → ∀ D E w, St X Γ S E w → Ops P r N ops (lf X K D) l D E w
def Ob (ops : Array Oper) (M : Nat → Prop) (S : List Ow) (p : Prop) (o : Oper) (Γ : TE) (Ψ : PV) : Prop :=
 ∀ (D : List Deferred) (E : Env) (w : World) (d : Nat), o.dst = some d → Nat.blt d N = true → Gd M S w → p → Tm Γ (xQ ops o) M E w →
  Ops P r N ops (fun D' E' w' => D' = D ∧ Rb w w' ∧ ∃ v, get E' d = some v ∧ Ψ.p M w' v) [o] D E w
def O2 (ops : Array Oper) (M : Nat → Prop) (S : List Ow) (o : Oper) (Γ : TE) (q : Prop × PV) : Prop :=
 ∀ (D : List Deferred) (E : Env) (w : World) (d : Nat), o.dst = some d → Nat.blt d N = true → Gd M S w → Tm Γ (xQ ops o) M E w →
  Ops P r N ops (fun D' E' w' => D' = D ∧ Rb w w' ∧ ∃ v, get E' d = some v ∧ (q.1 → q.2.p M w' v) ∧ (¬ q.1 → v = undef)) [o] D E w
def TD (ops : Array Oper) (S : List Ow) (F : TE → Prop) : List Oper → TE → Prop
 | [], Γ => F Γ
 | o :: l, Γ => ∃ d q, o.dst = some d ∧ (∀ M, O2 P r N ops M S o Γ q) ∧ TD ops S F l ((d, q) :: Γ)
end
def updT (Ke : Nat → TK) (id : Nat) (K : TK) : Nat → TK := fun i => bif Nat.beq i id then K else Ke i
class Tr (q : Prop) : Prop where h : q
instance : Tr True := ⟨trivial⟩
instance {p q : Prop} [hp : Tr p] [hq : Tr q] : Tr (p ∧ q) := ⟨⟨hp.h, hq.h⟩⟩
instance {p q : Prop} [hp : Tr q] : Im p q := ⟨fun _ => hp.h⟩
instance {p a b : Prop} [ha : Im p a] [hb : Im p b] : Im p (a ∧ b) := ⟨fun h => ⟨ha.h h, hb.h h⟩⟩
instance {a b c : Prop} [h : Im a c] : Im (a ∧ b) c := ⟨fun k => h.h k.1⟩
instance {a b : Prop} : Im (a ∧ b) b := ⟨fun k => k.2⟩
class VB (Ψ : PV) (b : outParam Bool) : Prop where h : ∀ {M w v}, Ψ.p M w v → v = .bool b
instance {b : Bool} : VB (exP (.bool b)) b := ⟨id⟩
class VI (Ψ : PV) (k : outParam IntKind) (a : outParam Int) : Prop where h : ∀ {M w v}, Ψ.p M w v → v = .int k a
instance {k : IntKind} {a : Int} : VI (exP (.int k a)) k a := ⟨id⟩
def Ts (X : Cx) (Γ : TE) (S : List Ow) (Γ' : TE) (S' : List Ow) : Prop := ∀ E w, St X Γ S E w → St X Γ' S' E w
theorem uT {Γ : TE} {M : Nat → Prop} {E : Env} {w : World} {ops : Array Oper} {o : Oper} {x : Operand} {p q : Prop} {Ψ : PV} (h : Tm Γ (xQ ops o) M E w) (hx : tv Γ x = some (q, Ψ)) [hi : Im p q] (hp : p) (hm : x ∈ o.op.operands.toList) : ∃ v, ev E x = some v ∧ Ψ.p M w v :=
 tm_ev h hx (fun t e => by
  subst e
  unfold xQ
  exact List.mem_append_left _ (List.mem_filterMap.2 ⟨_, hm, rfl⟩)) (hi.h hp)
section rules
variable {P : Program} {r : Option Nat} {N : Nat} {X : Cx} {Kn Kr : TK} {Ke : Nat → TK} {Γ : TE} {S : List Ow} {ops : Array Oper}
theorem wp_kn {c : Code} {K K' Kr : Pd} {Ke Ke' : Nat → Pd} {D : List Deferred} {E : Env} {w : World} (h : Wp P r N c K Ke Kr D E w) (hk : ∀ D E w, K D E w → K' D E w) (he : ∀ i D E w, Ke i D E w → Ke' i D E w) : Wp P r N c K' Ke' Kr D E w := by
 intro a ha hd
 refine wpIn_mono (h a ha hd) fun e a' w' hq => ?_
 cases e with
 | normal => obtain ⟨E', h1, h2⟩ := hq; exact ⟨E', h1, hk _ _ _ h2⟩
 | exit id => obtain ⟨E', h1, h2⟩ := hq; exact ⟨E', h1, he _ _ _ _ h2⟩
 | ret => exact hq
 | goto l => exact hq
 | panic c => exact hq
 | outgrown => exact hq
theorem yQ {x y : Code} (h : TW P r N X x (TW P r N X y Kn Ke Kr) Ke Kr Γ S) : TW P r N X (.seq x y) Kn Ke Kr Γ S := fun D E w hs =>
 zG (wp_cut (h D E w hs) fun D' E' w' ⟨h1, Γ', S', h2, h3⟩ => by subst h1; exact h2 D' E' w' h3)
theorem gV (h : Kn Γ S) : TW P r N X .skip Kn Ke Kr Γ S := fun D E w hs => yF ⟨rfl, _, _, h, hs⟩
theorem qR (h : Kr Γ S) : TW P r N X .ret Kn Ke Kr Γ S := fun D E w hs => zR ⟨rfl, _, _, h, hs⟩
theorem bN {id : Nat} (h : Ke id Γ S) : TW P r N X (.exit id) Kn Ke Kr Γ S := fun D E w hs => xN ⟨rfl, _, _, h, hs⟩
theorem gW {id : Nat} {c : Code} (h : TW P r N X c Kn (updT Ke id Kn) Kr Γ S) : TW P r N X (.block id c) Kn Ke Kr Γ S := fun D E w hs =>
 zZ (wp_kn (h D E w hs) (fun _ _ _ h => h) fun i D' E' w' h => by
  unfold upd
  cases hb : Nat.beq i id with
  | true => obtain rfl := Nat.eq_of_beq_eq_true hb; rw [if_pos rfl]; simpa [updT] using h
  | false => rw [if_neg (Nat.ne_of_beq_eq_false hb)]; simpa [updT, hb] using h)
theorem t_scope {c : Code} (h : TW P r N X c Kn Ke Kr Γ S) : TW P r N X (.scope c) Kn Ke Kr Γ S := fun D E w hs => dD (h D E w hs)
theorem t_label {l : Nat} (h : Kn Γ S) : TW P r N X (.label l) Kn Ke Kr Γ S := fun D E w hs => dF ⟨rfl, _, _, h, hs⟩
theorem fF {c : Code} {Γ' : TE} {S' : List Ow} (hs : Ts X Γ S Γ' S') (h : TW P r N X c Kn Ke Kr Γ' S') : TW P r N X c Kn Ke Kr Γ S := fun D E w h1 => h D E w (hs E w h1)
theorem iV {E : Env} {w : World} {x : Operand} {q : Prop} {Ψ : PV} (hs : St X Γ S E w) (hx : tv Γ x = some (q, Ψ)) [hq : Tr q] : ∃ v, ev E x = some v ∧ Ψ.p (Mk S X.M) w v := by
 cases x with
 | tmp t => exact (hs.tm t _ hx).1 hq.h
 | const u => obtain ⟨rfl, rfl⟩ := Prod.mk.inj (Option.some.inj hx); exact ⟨u, rfl, rfl⟩
 | global g => obtain ⟨rfl, rfl⟩ := Prod.mk.inj (Option.some.inj hx); exact ⟨_, rfl, rfl⟩
 | func f => obtain ⟨rfl, rfl⟩ := Prod.mk.inj (Option.some.inj hx); exact ⟨_, rfl, rfl⟩
theorem aN {c : Operand} {x y : Code} {q : Prop} {Ψ : PV} {b : Bool} (hx : tv Γ c = some (q, Ψ)) [Tr q] [hb : VB Ψ b] (ht : Tr (b = true) → TW P r N X x Kn Ke Kr Γ S) (hf : Tr (b = false) → TW P r N X y Kn Ke Kr Γ S) :
  TW P r N X (.cond c x y) Kn Ke Kr Γ S := fun D E w hs => by
 obtain ⟨v, h1, h2⟩ := iV hs hx
 obtain rfl := hb.h h2
 exact qE h1 (fun e => ht ⟨e⟩ D E w hs) (fun e => hf ⟨e⟩ D E w hs)
theorem xD {id : Nat} {l : List Oper} (hN : okN N l = true) (h : TO P r N l.toArray X Kn l Γ S) : TW P r N X (.region id l.toArray false) Kn Ke Kr Γ S := fun D E w hs => zB (h hN D E w hs)
theorem wp_loopI {σ : Type} {body : Code} {Kn Kr : Pd} {Ke : Nat → Pd} {D : List Deferred} {E : Env} {w : World} (I : σ → Pd) (μ : σ → Nat) (s0 : σ) (hI : I s0 D E w)
  (round : ∀ s D E w, I s D E w → Wp P r N body (fun D' E' w' => ∃ s', I s' D' E' w' ∧ μ s' < μ s) Ke Kr D E w) : Wp P r N (.loop body) Kn Ke Kr D E w := by
 intro a ha hd
 have least : ∀ (p : Nat → Prop), (∃ j, p j) → ∃ j, p j ∧ ∀ k, p k → j ≤ k := by
  rintro p ⟨j, hj⟩
  induction j using Nat.strongRecOn with
  | _ j ih =>
   by_cases hm : ∃ k, k < j ∧ p k
   ·obtain ⟨k, hk, hs⟩ := hm; exact ih k hk hs
   ·refine ⟨j, hj, fun k hk => ?_⟩
    rcases Nat.lt_or_ge k j with h | h
    ·exact absurd ⟨k, h, hk⟩ hm
    ·exact h
 refine wpIn_loop (fun a' w' => ∃ j s E, μ s = j ∧ Has a' N E ∧ I s a'.defers E w') (fun a' w' => Classical.epsilon fun j => (∃ s E, μ s = j ∧ Has a' N E ∧ I s a'.defers E w') ∧ ∀ k, (∃ s E, μ s = k ∧ Has a' N E ∧ I s a'.defers E w') → j ≤ k) ⟨_, s0, E, rfl, ha, by rw [hd]; exact hI⟩ ?_
 intro a1 w1 hI1
 obtain ⟨⟨s, E1, hs, hE1, hJ1⟩, hmin⟩ := Classical.epsilon_spec (least _ hI1)
 refine wpIn_mono (round s _ E1 w1 hJ1 a1 hE1 rfl) ?_
 intro e a2 w2 hq
 cases e with
 | normal =>
  obtain ⟨E', hE', s', hJ', hlt⟩ := hq
  have h2 : ∃ s E, μ s = μ s' ∧ Has a2 N E ∧ I s a2.defers E w2 := ⟨s', E', rfl, hE', hJ'⟩
  refine ⟨⟨_, h2⟩, ?_⟩
  have hsp2 := Classical.epsilon_spec (least (fun j => ∃ s E, μ s = j ∧ Has a2 N E ∧ I s a2.defers E w2) ⟨_, h2⟩)
  exact Nat.lt_of_le_of_lt (hsp2.2 _ h2) (by rw [← hs]; exact hlt)
 | exit id => exact hq
 | ret => exact hq
 | goto l => exact hq
 | panic c => exact hq
 | outgrown => exact hq
theorem cL {σ : Type} {body : Code} (Γi : σ → TE) (Si : σ → List Ow) (J : σ → Prop) (μ : σ → Nat) (s0 : σ) (h0 : Ts X Γ S (Γi s0) (Si s0)) (hJ : J s0)
  (round : ∀ s, J s → TW P r N X body (fun Γ' S' => ∃ s', Ts X Γ' S' (Γi s') (Si s') ∧ J s' ∧ μ s' < μ s) Ke Kr (Γi s) (Si s)) : TW P r N X (.loop body) Kn Ke Kr Γ S := fun D E w hs => by
 refine wp_loopI (fun s D' E' w' => D' = D ∧ J s ∧ St X (Γi s) (Si s) E' w') μ s0 ⟨rfl, hJ, h0 E w hs⟩ fun s D' E' w' ⟨hD, h1, h2⟩ => ?_
 subst hD
 exact wp_cut (round s h1 D' E' w' h2) fun D2 E2 w2 ⟨e, Γ2, S2, ⟨s', k1, k2, k3⟩, k4⟩ => ⟨s', ⟨e, k2, k1 _ _ k4⟩, k3⟩
end rules
section ops
variable {P : Program} {r : Option Nat} {N : Nat} {X : Cx} {K : TK} {Γ : TE} {S : List Ow} {ops : Array Oper} {M : Nat → Prop}
theorem t0 (h : K Γ S) : TO P r N ops X K [] Γ S := fun _ D E w hs => zD ⟨rfl, _, _, h, hs⟩
theorem o_of {o : Oper} {Ψ : PV} (h : Ob P r N ops M S True o Γ Ψ) : O2 P r N ops M S o Γ (True, Ψ) := fun D E w d hd hN hg hT a Q ha hD hk =>
 h D E w d hd hN hg trivial hT a Q ha hD fun a' w' E' h1 ⟨h2, h3, v, h4, h5⟩ => hk a' w' E' h1 ⟨h2, h3, v, h4, fun _ => h5, fun c => absurd trivial c⟩
theorem ops_guard_n {D : List Deferred} {E : Env} {w : World} {K : Pd} {rest : List Oper} {d : Nat} {op : Op} {t : TypeId} {pos : String} {af : Array Edge} {j dj : Nat} {b : Bool} (hd : Nat.blt d N = true) (hj : (ops[j]?).bind (·.dst) = some dj) (hv : get E dj = some undef)
  (h : Ops P r N ops K rest D ((d, undef) :: E) w) : Ops P r N ops K (⟨some d, op, t, pos, af, some (j, b)⟩ :: rest) D E w := by
 intro a Q ha hD hk
 have h1 := h (a.put (some d) undef) Q (ha.put hd undef) hD hk
 have hy : yielded ops a.tmps j = none := by simp [yielded, hj, ha.at_ dj _ hv, undef]
 unfold wpListIn
 simp only [Region.wanted, hy]
 rw [if_neg (by simp)]
 exact ⟨fun _ _ => trivial, h1⟩
theorem og {d : Nat} {op : Op} {t : TypeId} {pos : String} {af : Array Edge} {j dj : Nat} {b γ : Bool} {q : Prop} {Φ Ψ : PV} (hj : (ops[j]?).bind (·.dst) = some dj) (hΓ : tf Γ dj = some (q, Φ)) [hb : VB Φ γ] (h : Ob P r N ops M S (q ∧ γ = b) ⟨some d, op, t, pos, af, none⟩ Γ Ψ) :
  O2 P r N ops M S ⟨some d, op, t, pos, af, some (j, b)⟩ Γ (q ∧ γ = b, Ψ) := fun D E w d' hd hN hg hT => by
 obtain rfl := Option.some.inj hd
 have hjs : dj ∈ xQ ops ⟨some d, op, t, pos, af, some (j, b)⟩ := by unfold xQ; simp only [hj]; exact List.mem_append_right _ (by simp)
 have hT' : Tm Γ (xQ ops ⟨some d, op, t, pos, af, none⟩) M E w := fun s hs => hT s (by unfold xQ at hs ⊢; exact List.mem_append_left _ (by simpa using hs))
 have hk := hT dj hjs _ hΓ
 by_cases hq : q
 ·obtain ⟨v, h1, h2⟩ := hk.1 hq
  obtain rfl := hb.h h2
  by_cases hγ : γ = b
  ·subst hγ
   refine yC hj h1 fun a Q ha hD hk => h D E w d rfl hN hg ⟨hq, rfl⟩ hT' a Q ha hD fun a' w' E' k1 ⟨k2, k3, v, k4, k5⟩ => hk a' w' E' k1 ⟨k2, k3, v, k4, fun _ => k5, fun c => absurd ⟨hq, rfl⟩ c⟩
  ·exact zY hN hj h1 (by simpa using hγ) (zD ⟨rfl, xF _, undef, uA (by simp), fun c => absurd c.2 hγ, fun _ => rfl⟩)
 ·exact ops_guard_n hN hj (hk.2 hq) (zD ⟨rfl, xF _, undef, uA (by simp), fun c => absurd c.1 hq, fun _ => rfl⟩)
theorem ops_then {D : List Deferred} {E : Env} {w : World} {K : Pd} {rest : List Oper} {o : Oper} {d : Nat} {Q : Value → World → Prop} (ho : o.dst = some d) (hd : Nat.blt d N = true)
  (h1 : Ops P r N ops (fun D' E' w' => D' = D ∧ Rb w w' ∧ ∃ v, get E' d = some v ∧ Q v w') [o] D E w) (h2 : ∀ v w', Rb w w' → Q v w' → Ops P r N ops K rest D ((d, v) :: E) w') :
  Ops P r N ops K (o :: rest) D E w := by
 intro a Qx ha hD hk
 have h3 := h1 a (fun e a' w' => match e with | .normal => a'.defers = D ∧ Rb w w' ∧ ∃ E', Has a' N E' ∧ ∃ v, get E' d = some v ∧ Q v w' | e => Qx e a' w') ha hD (fun a' w' E' h4 h5 => ⟨h5.1, h5.2.1, E', h4, h5.2.2⟩)
 have key : ∀ (a' : Act) (w' : World), (a'.defers = D ∧ Rb w w' ∧ ∃ E', Has a' N E' ∧ ∃ v, get E' d = some v ∧ Q v w') → (∃ v, a'.tmps = (a.put o.dst v).tmps) → wpListIn (Fr r) 0 P ops Qx rest a' w' := by
  rintro a' w' ⟨g1, g2, E', g3, v, g4, g5⟩ ⟨u, g6⟩
  have hp := (ha.put hd u)
  rw [ho] at g6
  have e1 := g3.at_ d v g4
  have e2 := hp.at_ d u (uA (by simp))
  rw [g6] at e1
  rw [e2] at e1
  obtain rfl := Option.some.inj e1
  exact h2 u w' g2 g5 a' Qx ⟨by rw [g6]; exact hp.size, fun i x hi => by rw [g6]; exact hp.at_ i x hi⟩ g1 hk
 unfold wpListIn at h3 ⊢
 split
 ·rename_i hw
  rw [if_pos hw] at h3
  exact wpIn_frame h3 (fun a' w' hk' hf => key a' w' hk' hf) (fun c a w h => h) (fun h => h)
 ·rename_i hw
  rw [if_neg hw] at h3
  exact ⟨fun _ _ => trivial, key _ _ h3.2 ⟨_, rfl⟩⟩
theorem t2 {o : Oper} {d : Nat} {q : Prop × PV} {l : List Oper} (hd : o.dst = some d) (h1 : O2 P r N ops (Mk S X.M) S o Γ q) (h2 : TO P r N ops X K l ((d, q) :: Γ) S) : TO P r N ops X K (o :: l) Γ S := fun hN D E w hs => by
 unfold okN at hN
 simp only [List.all_cons, Bool.and_eq_true] at hN
 have hdN : Nat.blt d N = true := by have := hN.1; rw [hd] at this; exact this
 exact ops_then hd hdN (h1 D E w d hd hdN hs.gd (hs.tm.tm _)) fun v w' hr ⟨hv, hu⟩ => h2 hN.2 D _ w' (hs.put hr hv hu)
theorem t1 {d : Nat} {op : Op} {t : TypeId} {pos : String} {af : Array Edge} {Ψ : PV} {l : List Oper} (h1 : Ob P r N ops (Mk S X.M) S True ⟨some d, op, t, pos, af, none⟩ Γ Ψ) (h2 : TO P r N ops X K l ((d, True, Ψ) :: Γ) S) : TO P r N ops X K (⟨some d, op, t, pos, af, none⟩ :: l) Γ S :=
 t2 rfl (o_of h1) h2
theorem t1g {d : Nat} {op : Op} {t : TypeId} {pos : String} {af : Array Edge} {j dj : Nat} {b γ : Bool} {q : Prop} {Φ Ψ : PV} {l : List Oper} (hj : (ops[j]?).bind (·.dst) = some dj) (hΓ : tf Γ dj = some (q, Φ)) [hb : VB Φ γ]
  (h1 : Ob P r N ops (Mk S X.M) S (q ∧ γ = b) ⟨some d, op, t, pos, af, none⟩ Γ Ψ) (h2 : TO P r N ops X K l ((d, q ∧ γ = b, Ψ) :: Γ) S) : TO P r N ops X K (⟨some d, op, t, pos, af, some (j, b)⟩ :: l) Γ S :=
 t2 rfl (og hj hΓ h1) h2
variable {F : TE → Prop}
theorem d0 (h : F Γ) : TD P r N ops S F [] Γ := h
theorem d1 {d : Nat} {op : Op} {t : TypeId} {pos : String} {af : Array Edge} {Ψ : PV} {l : List Oper} (h1 : ∀ {M}, Ob P r N ops M S True ⟨some d, op, t, pos, af, none⟩ Γ Ψ) (h2 : TD P r N ops S F l ((d, True, Ψ) :: Γ)) : TD P r N ops S F (⟨some d, op, t, pos, af, none⟩ :: l) Γ :=
 ⟨d, _, rfl, fun _ => o_of h1, h2⟩
theorem d1g {d : Nat} {op : Op} {t : TypeId} {pos : String} {af : Array Edge} {j dj : Nat} {b γ : Bool} {q : Prop} {Φ Ψ : PV} {l : List Oper} (hj : (ops[j]?).bind (·.dst) = some dj) (hΓ : tf Γ dj = some (q, Φ)) [hb : VB Φ γ]
  (h1 : ∀ {M}, Ob P r N ops M S (q ∧ γ = b) ⟨some d, op, t, pos, af, none⟩ Γ Ψ) (h2 : TD P r N ops S F l ((d, q ∧ γ = b, Ψ) :: Γ)) : TD P r N ops S F (⟨some d, op, t, pos, af, some (j, b)⟩ :: l) Γ :=
 ⟨d, _, rfl, fun _ => og hj hΓ h1, h2⟩
end ops
theorem dJ {s : Nat} : ∀ {l Γ : TE}, tf (l ++ Γ) s = (match tf l s with | some q => some q | none => tf Γ s)
 | [], Γ => rfl
 | (k, q) :: l, Γ => by
  show (bif Nat.beq k s then some q else tf (l ++ Γ) s) = (match (bif Nat.beq k s then some q else tf l s) with | some q => some q | none => tf Γ s)
  cases Nat.beq k s with
  | true => rfl
  | false => exact dJ (l := l) (Γ := Γ)
theorem tf_mem : ∀ {Γ : TE} {s : Nat} {q : Prop × PV}, tf Γ s = some q → s ∈ Γ.map (·.1)
 | [], s, q, h => by simp [tf] at h
 | (k, Φ) :: Γ, s, q, h => by
  unfold tf at h
  cases hb : Nat.beq k s with
  | true => obtain rfl := Nat.eq_of_beq_eq_true hb; simp
  | false => rw [hb] at h; exact List.mem_cons_of_mem _ (tf_mem h)
section
variable {P : Program} {r : Option Nat} {N : Nat} {ops : Array Oper} {D : List Deferred} {E : Env} {w : World}
theorem tok_hit {q : Prop × PV} {M : Nat → Prop} {F : Env} {s : Nat} {v : Value} (h : get F s = some v) (hv : (q.1 → q.2.p M w v) ∧ (¬ q.1 → v = undef)) : Tok q M F w s := ⟨fun c => ⟨v, h, hv.1 c⟩, fun c => by rw [h, hv.2 c]⟩
theorem Gd.rb {M : Nat → Prop} {S : List Ow} {w w' : World} (h : Gd M S w) (k : Rb w w') : Gd M S w' := h.bel k
end
class TSl (P : Program) (t : TypeId) (e : outParam TypeId) (sz bytes : outParam Nat) : Prop where
 u : P.underlying t = some (.slice e)
 n : Nat.beq sz 0 = false
 s : ∃ z, Sz P e sz bytes z ∧ z.cells.size = sz
class TLd (P : Program) (t : TypeId) (a : outParam Bool) (sz : outParam Nat) : Prop where
 s : ∃ bytes z, Sz P t sz bytes z
 h : bif a then fC P t else bH P t ∧ sz = 1
class TFd (P : Program) (s : TypeId) (f : Nat) (a : outParam Bool) (off sz : outParam Nat) : Prop where
 h : ∃ fields fd bytes z, P.underlying s = some (.struct fields) ∧ fields[f]? = some fd ∧ fd.offset = off ∧ Sz P fd.type sz bytes z ∧ Nat.beq sz 0 = false ∧ bif a then fC P fd.type else bH P fd.type ∧ sz = 1
class TPl (P : Program) (t : TypeId) (szs : outParam (List Nat)) : Prop where
 h : Plc P t szs
class LdA (a : Bool) (c : CT) (Ψ : outParam PV) : Prop where
 h : ∀ {M w us}, c.p M w us → bif a then Ψ.p M w (.agg us.toArray) else ∀ v, us = [v] → Ψ.p M w v
instance {c : CT} : LdA true c (ag c) := ⟨fun h => ⟨_, rfl, h⟩⟩
instance (priority := low) {c : CT} : LdA false c (sv c) := ⟨fun h v e => by subst e; exact h⟩
instance {v : Value} : LdA false (xc v) (exP v) := ⟨fun h u e => by subst e; exact List.singleton_inj.1 h.1⟩
class CtOf (Ψ : PV) (c : outParam CT) : Prop where
 h : ∀ {M w v}, Ψ.p M w v → ∃ us : List Value, v.cells = us.toArray ∧ c.p M w us
instance {c : CT} : CtOf (ag c) c := ⟨fun ⟨us, e, h⟩ => ⟨us, by rw [e]; rfl, h⟩⟩
instance {c : CT} : CtOf (sv c) c := ⟨fun {M w v} h => ⟨[v], gG (c.one h v (by simp)), h⟩⟩
instance {b : Bool} : CtOf (exP (.bool b)) (xc (.bool b)) := ⟨fun h => ⟨[_], by rw [h]; rfl, rfl, rfl⟩⟩
instance {k : IntKind} {b : Int} : CtOf (exP (.int k b)) (xc (.int k b)) := ⟨fun h => ⟨[_], by rw [h]; rfl, rfl, rfl⟩⟩
instance {a : Option Addr} {i j : Nat} : CtOf (exP (.slice a i j)) (xc (.slice a i j)) := ⟨fun h => ⟨[_], by rw [h]; rfl, rfl, rfl⟩⟩
class CtL (l : List PV) (cs : outParam (List CT)) : Prop where
 h : ∀ {M w vs}, Fa l M w vs → ∃ uss : List (List Value), Cls vs uss ∧ stp cs M w uss.flatten ∧ uss.map List.length = cs.map CT.sz
instance : CtL [] [] := ⟨fun h => ⟨[], by rw [show _ = [] from h]; trivial, rfl, rfl⟩⟩
instance {Ψ : PV} {l : List PV} {c : CT} {cs : List CT} [h1 : CtOf Ψ c] [h2 : CtL l cs] : CtL (Ψ :: l) (c :: cs) := ⟨fun ⟨v, us, e, k1, k2⟩ => by
 obtain ⟨a, g1, g2⟩ := h1.h k1
 obtain ⟨az, g3, g4, g5⟩ := h2.h k2
 subst e
 exact ⟨a :: az, ⟨g1, g3⟩, ⟨a, _, rfl, g2, g4⟩, by simp [g5, c.len g2]⟩⟩
class VS (Ψ : PV) (k : outParam Nat) (l : outParam (List CT)) : Prop where
 h : ∀ {M w v}, Ψ.p M w v → (sl k l).p M w [v]
instance {k : Nat} {l : List CT} : VS (sv (sl k l)) k l := ⟨id⟩
class LL (l : List CT) (n : outParam Nat) : Prop where
 h : l.length = n
instance {α : Type} {f : α → CT} {xs : List α} : LL (xs.map f) xs.length := ⟨by simp⟩
instance (priority := low) {l : List CT} : LL l l.length := ⟨rfl⟩
class Df (α : Type) where
 d : α
class LA (l : List CT) (j : Nat) (c : outParam CT) : Prop where
 h : j < l.length → l[j]? = some c
instance {α : Type} [Df α] {f : α → CT} {xs : List α} {j : Nat} : LA (xs.map f) j (f (xs.getD j Df.d)) := ⟨fun h => by
 have h : j < xs.length := by simpa using h
 simp [List.getElem?_eq_getElem h]⟩
instance {c : CT} {l : List CT} : LA (c :: l) 0 c := ⟨fun _ => rfl⟩
instance {c d : CT} {l : List CT} {j : Nat} [h : LA l j d] : LA (c :: l) (j + 1) d := ⟨fun k => h.h (by simpa using k)⟩
class LP (S : List Ow) (Ψ : PV) (c : outParam CT) : Prop where
 h : ∀ {M w v}, Gd M S w → Ψ.p M w v → ∃ b o us, v = .pointer (some ⟨b, o, none⟩) ∧ (∀ (j : Nat) (u : Value), us[j]? = some u → w.cell? ⟨b, o + j, none⟩ = some u) ∧ c.p M w us
instance {S : List Ow} {c : CT} : LP S (pa c) c := ⟨fun _ ⟨b, o, us, e, _, h2, h3⟩ => ⟨b, o, us, e, fun _ _ hj => h2.cell hj, h3⟩⟩
def fP : List CT → Nat → Option CT
 | [], _ => none
 | c :: r, o => bif Nat.beq o 0 then some c else bif Nat.ble c.sz o then fP r (o - c.sz) else none
theorem atOff_at : ∀ {l : List CT} {o : Nat} {c : CT}, fP l o = some c → ∃ i, l[i]? = some c ∧ szs (l.take i) = o
 | [], o, c, h => by cases h
 | d :: r, o, c, h => by
  unfold fP at h
  cases h1 : Nat.beq o 0 with
  | true => rw [h1] at h; have := Nat.eq_of_beq_eq_true h1; exact ⟨0, h, this.symm⟩
  | false =>
   rw [h1] at h
   cases h2 : Nat.ble d.sz o with
   | false => rw [h2] at h; cases h
   | true =>
    rw [h2] at h
    have hle := Nat.le_of_ble_eq_true h2
    obtain ⟨i, k1, k2⟩ := atOff_at (l := r) h
    exact ⟨i + 1, by simpa using k1, by rw [List.take_succ_cons, szs, k2]; omega⟩
theorem dA {M : Nat → Prop} {w : World} {l : List CT} {o : Nat} {c : CT} {cs : List Value} (h : stp l M w cs) (ha : fP l o = some c) : c.p M w ((cs.drop o).take c.sz) := by
 obtain ⟨i, h1, h2⟩ := atOff_at ha
 rw [← h2]; exact fW h h1
def fn (f : FuncId) (l : List PV) : PV := ⟨fun M w v => ∃ vs : List Value, v = .func (.func f) #[] vs.toArray ∧ Fa l M w vs, fun h k => let ⟨us, e, h⟩ := h; ⟨us, e, h.mono k⟩⟩
class VF (Ψ : PV) (f : outParam FuncId) (l : outParam (List PV)) : Prop where
 h : ∀ {M w v}, Ψ.p M w v → (fn f l).p M w v
instance {f : FuncId} : VF (exP (.func (.func f) #[] #[])) f [] := ⟨fun h => ⟨[], h, rfl⟩⟩
instance {f : FuncId} {l : List PV} : VF (fn f l) f l := ⟨id⟩
structure CTy (P : Program) (f : FuncId) (τs : List PV) (ρ : PV) : Prop where
 bod : Bod P f
 run : ∀ (M : Nat → Prop) (w : World) (vs : List Value), OkM M w → Tab M w → Fa τs M w vs → CallsV P f vs w fun v w' => Rb w w' ∧ ρ.p M w' v
def tvs (Γ : TE) : List Operand → Option (Prop × List PV)
 | [] => some (True, [])
 | x :: r => match tv Γ x, tvs Γ r with
  | some (q, Ψ), some (qs, l) => some (q ∧ qs, Ψ :: l)
  | _, _ => none
theorem Fa.app {M : Nat → Prop} {w : World} : ∀ {l m : List PV} {a b : List Value}, Fa l M w a → Fa m M w b → Fa (l ++ m) M w (a ++ b)
 | [], _, _, _, h, k => by rw [show _ = [] from h]; exact k
 | τ :: l, _, _, _, ⟨v, us, e, h1, h2⟩, k => ⟨v, us ++ _, by rw [e]; rfl, h1, Fa.app h2 k⟩
theorem Fa.at_ {M : Nat → Prop} {w : World} : ∀ {l : List PV} {vs : List Value} {i : Nat} {Ψ : PV}, Fa l M w vs → l[i]? = some Ψ → ∃ v, vs[i]? = some v ∧ Ψ.p M w v
 | [], _, _, _, _, h => by simp at h
 | τ :: l, _, 0, Ψ, ⟨v, us, e, h1, h2⟩, h => by simp at h; subst h; subst e; exact ⟨v, rfl, h1⟩
 | τ :: l, _, i + 1, Ψ, ⟨v, us, e, h1, h2⟩, h => by
  subst e
  obtain ⟨u, k1, k2⟩ := Fa.at_ (l := l) (vs := us) (i := i) h2 (by simpa using h)
  exact ⟨u, by simpa using k1, k2⟩
theorem fU {Γ : TE} {M : Nat → Prop} {E : Env} {w : World} {ss : List Nat} (h : Tm Γ ss M E w) : ∀ {xs : List Operand} {q : Prop} {l : List PV}, tvs Γ xs = some (q, l) → q → (∀ x ∈ xs, ∀ t, x = .tmp t → t ∈ ss) → ∃ vs, evs E xs = some vs ∧ Fa l M w vs
 | [], q, l, hx, _, _ => by
  obtain ⟨rfl, rfl⟩ := Prod.mk.inj (Option.some.inj hx); exact ⟨[], rfl, rfl⟩
 | x :: r, q, l, hx, hq, hm => by
  unfold tvs at hx
  cases h1 : tv Γ x with
  | none => rw [h1] at hx; cases hx
  | some a =>
   obtain ⟨q1, Ψ⟩ := a
   cases h2 : tvs Γ r with
   | none => rw [h1, h2] at hx; cases hx
   | some b =>
    obtain ⟨q2, l2⟩ := b
    rw [h1, h2] at hx
    obtain ⟨rfl, rfl⟩ := Prod.mk.inj (Option.some.inj hx)
    obtain ⟨v, k1, k2⟩ := tm_ev h h1 (hm x (by simp)) hq.1
    obtain ⟨vs, k3, k4⟩ := fU h h2 hq.2 fun y hy => hm y (by simp [hy])
    exact ⟨v :: vs, by unfold evs; rw [k1, k3], v, vs, rfl, k2, k4⟩
theorem eR {ops : Array Oper} {o : Oper} {x : Operand} (hm : x ∈ o.op.operands.toList) : ∀ t, x = .tmp t → t ∈ xQ ops o := fun t e => by
 subst e
 unfold xQ
 exact List.mem_append_left _ (List.mem_filterMap.2 ⟨_, hm, rfl⟩)
class Pk (γ : Bool) (Ψ Φ : PV) (Θ : outParam PV) : Prop where
 t : γ = true → PSub Ψ Θ
 f : γ = false → PSub Φ Θ
instance {γ a : Bool} : Pk γ (exP (.bool true)) (exP (.bool a)) (exP (.bool (γ || a))) := ⟨fun e _ _ _ h => by rw [show _ = _ from h, e]; rfl, fun e _ _ _ h => by rw [show _ = _ from h, e]; rfl⟩
instance {γ a : Bool} : Pk γ (exP (.bool a)) (exP (.bool false)) (exP (.bool (γ && a))) := ⟨fun e _ _ _ h => by rw [show _ = _ from h, e]; rfl, fun e _ _ _ h => by rw [show _ = _ from h, e]; rfl⟩
instance (priority := low) {γ a b : Bool} : Pk γ (exP (.bool a)) (exP (.bool b)) (exP (.bool (bif γ then a else b))) := ⟨fun e _ _ _ h => by rw [show _ = _ from h, e]; rfl, fun e _ _ _ h => by rw [show _ = _ from h, e]; rfl⟩
instance {γ : Bool} {k : IntKind} {a b : Int} : Pk γ (exP (.int k a)) (exP (.int k b)) (exP (.int k (bif γ then a else b))) := ⟨fun e _ _ _ h => by rw [show _ = _ from h, e]; rfl, fun e _ _ _ h => by rw [show _ = _ from h, e]; rfl⟩
section ops
variable {P : Program} {r : Option Nat} {N : Nat} {ops : Array Oper} {M : Nat → Prop} {S : List Ow} {p qx qy qc q : Prop} {Γ : TE} {Ψx Ψy Ψc Ψ : PV}
variable {d : Nat} {x y c : Operand} {t t' tx ty : TypeId} {pos : String} {af : Array Edge}
theorem fin {D : List Deferred} {E : Env} {w : World} {v : Value} (h : Ψ.p M w v) : Ops P r N ops (fun D' E' w' => D' = D ∧ Rb w w' ∧ ∃ v, get E' d = some v ∧ Ψ.p M w' v) [] D ((d, v) :: E) w :=
 zD ⟨rfl, xF _, v, uA (by simp), h⟩
theorem omv (hx : tv Γ x = some (qx, Ψx)) [Im p qx] : Ob P r N ops M S p ⟨some d, .move x, t', pos, af, none⟩ Γ Ψx := fun D E w d' hd hN hg hp hT => by
 obtain rfl := Option.some.inj hd
 obtain ⟨v, e1, h1⟩ := uT hT hx hp (by simp [Op.operands])
 exact zA hN e1 (fin h1)
theorem oas (hx : tv Γ x = some (qx, Ψx)) [Im p qx] : Ob P r N ops M S p ⟨some d, .assign x, t', pos, af, none⟩ Γ Ψx := fun D E w d' hd hN hg hp hT => by
 obtain rfl := Option.some.inj hd
 obtain ⟨v, e1, h1⟩ := uT hT hx hp (by simp [Op.operands])
 exact zC hN e1 (fin h1)
theorem opk {γ : Bool} (hc : tv Γ c = some (qc, Ψc)) (hx : tv Γ x = some (qx, Ψx)) (hy : tv Γ y = some (qy, Ψy)) [Im p qc] [hb : VB Ψc γ] [h1 : Im (p ∧ γ = true) qx] [h2 : Im (p ∧ γ = false) qy] [hk : Pk γ Ψx Ψy Ψ] :
  Ob P r N ops M S p ⟨some d, .pick c x y, t', pos, af, none⟩ Γ Ψ := fun D E w d' hd hN hg hp hT => by
 obtain rfl := Option.some.inj hd
 obtain ⟨v, e1, k1⟩ := uT hT hc hp (by simp [Op.operands])
 obtain rfl := hb.h k1
 cases hγ : γ with
 | true =>
  obtain ⟨u, e2, k2⟩ := uT hT hx (And.intro hp hγ) (by simp [Op.operands])
  exact xZ (b := γ) hN e1 (by rw [hγ]; exact e2) (fin (hk.t hγ _ _ _ k2))
 | false =>
  obtain ⟨u, e2, k2⟩ := uT hT hy (And.intro hp hγ) (by simp [Op.operands])
  exact xZ (b := γ) hN e1 (by rw [hγ]; exact e2) (fin (hk.f hγ _ _ _ k2))
theorem ont {γ : Bool} (hx : tv Γ x = some (qx, Ψx)) [Im p qx] [hb : VB Ψx γ] : Ob P r N ops M S p ⟨some d, .unOp .not t x, t', pos, af, none⟩ Γ (exP (.bool (!γ))) := fun D E w d' hd hN hg hp hT => by
 obtain rfl := Option.some.inj hd
 obtain ⟨v, e1, h1⟩ := uT hT hx hp (by simp [Op.operands])
 obtain rfl := hb.h h1
 exact qY hN e1 (fin rfl)
theorem oex {i : Nat} {l : List PV} (hx : tv Γ x = some (qx, tu l)) (hi : l[i]? = some Ψ) [Im p qx] : Ob P r N ops M S p ⟨some d, .extract x i, t', pos, af, none⟩ Γ Ψ := fun D E w d' hd hN hg hp hT => by
 obtain rfl := Option.some.inj hd
 obtain ⟨v, e1, vs, rfl, h1⟩ := uT hT hx hp (by simp [Op.operands])
 obtain ⟨u, h2, h3⟩ := h1.at_ hi
 exact zW hN e1 (by simpa using h2) (fin h3)
theorem ob1 {op : Op} (hx : tv Γ x = some (qx, Ψx)) [Im p qx] (hm : x ∈ op.operands.toList)
  (h : ∀ D E w u, Nat.blt d N = true → Gd M S w → ev E x = some u → Ψx.p M w u → Ops P r N ops (fun D' E' w' => D' = D ∧ Rb w w' ∧ ∃ v, get E' d = some v ∧ Ψ.p M w' v) [⟨some d, op, t', pos, af, none⟩] D E w) : Ob P r N ops M S p ⟨some d, op, t', pos, af, none⟩ Γ Ψ := fun D E w d' hd hN hg hp hT => by
 obtain rfl := Option.some.inj hd
 obtain ⟨u, e1, h1⟩ := uT hT hx hp hm
 exact h D E w u hN hg e1 h1
theorem ob2 {op : Op} (hx : tv Γ x = some (qx, Ψx)) (hy : tv Γ y = some (qy, Ψy)) [Im p qx] [Im p qy] (hm : x ∈ op.operands.toList) (hn : y ∈ op.operands.toList)
  (h : ∀ D E w u v, Nat.blt d N = true → Gd M S w → ev E x = some u → ev E y = some v → Ψx.p M w u → Ψy.p M w v → Ops P r N ops (fun D' E' w' => D' = D ∧ Rb w w' ∧ ∃ v, get E' d = some v ∧ Ψ.p M w' v) [⟨some d, op, t', pos, af, none⟩] D E w) : Ob P r N ops M S p ⟨some d, op, t', pos, af, none⟩ Γ Ψ := fun D E w d' hd hN hg hp hT => by
 obtain rfl := Option.some.inj hd
 obtain ⟨u, e1, h1⟩ := uT hT hx hp hm
 obtain ⟨v, e2, h2⟩ := uT hT hy hp hn
 exact h D E w u v hN hg e1 e2 h1 h2
section
variable {k : IntKind} {a b : Int} {γ δ : Bool}
theorem olt (hx : tv Γ x = some (qx, Ψx)) (hy : tv Γ y = some (qy, Ψy)) [Im p qx] [Im p qy] [ha : VI Ψx k a] [hb : VI Ψy k b] : Ob P r N ops M S p ⟨some d, .binOp .lss tx x y ty, t', pos, af, none⟩ Γ (exP (.bool (decide (a < b)))) :=
 ob2 hx hy (by simp [Op.operands]) (by simp [Op.operands]) fun D E w u v hN _ e1 e2 h1 h2 => by rw [ha.h h1] at e1; rw [hb.h h2] at e2; exact jG hN e1 e2 (fin rfl)
theorem ole (hx : tv Γ x = some (qx, Ψx)) (hy : tv Γ y = some (qy, Ψy)) [Im p qx] [Im p qy] [ha : VI Ψx k a] [hb : VI Ψy k b] : Ob P r N ops M S p ⟨some d, .binOp .leq tx x y ty, t', pos, af, none⟩ Γ (exP (.bool (decide (a ≤ b)))) :=
 ob2 hx hy (by simp [Op.operands]) (by simp [Op.operands]) fun D E w u v hN _ e1 e2 h1 h2 => by rw [ha.h h1] at e1; rw [hb.h h2] at e2; exact ops_le hN e1 e2 (fin rfl)
theorem ogt (hx : tv Γ x = some (qx, Ψx)) (hy : tv Γ y = some (qy, Ψy)) [Im p qx] [Im p qy] [ha : VI Ψx k a] [hb : VI Ψy k b] : Ob P r N ops M S p ⟨some d, .binOp .gtr tx x y ty, t', pos, af, none⟩ Γ (exP (.bool (decide (b < a)))) :=
 ob2 hx hy (by simp [Op.operands]) (by simp [Op.operands]) fun D E w u v hN _ e1 e2 h1 h2 => by rw [ha.h h1] at e1; rw [hb.h h2] at e2; exact kO hN e1 e2 (fin rfl)
theorem oge (hx : tv Γ x = some (qx, Ψx)) (hy : tv Γ y = some (qy, Ψy)) [Im p qx] [Im p qy] [ha : VI Ψx k a] [hb : VI Ψy k b] : Ob P r N ops M S p ⟨some d, .binOp .geq tx x y ty, t', pos, af, none⟩ Γ (exP (.bool (decide (b ≤ a)))) :=
 ob2 hx hy (by simp [Op.operands]) (by simp [Op.operands]) fun D E w u v hN _ e1 e2 h1 h2 => by rw [ha.h h1] at e1; rw [hb.h h2] at e2; exact uZ hN e1 e2 (fin rfl)
theorem oeq (hx : tv Γ x = some (qx, Ψx)) (hy : tv Γ y = some (qy, Ψy)) [Im p qx] [Im p qy] [ha : VI Ψx k a] [hb : VI Ψy k b] : Ob P r N ops M S p ⟨some d, .binOp .eql tx x y ty, t', pos, af, none⟩ Γ (exP (.bool (decide (a = b)))) :=
 ob2 hx hy (by simp [Op.operands]) (by simp [Op.operands]) fun D E w u v hN _ e1 e2 h1 h2 => by rw [ha.h h1] at e1; rw [hb.h h2] at e2; exact gN hN e1 e2 (fin rfl)
theorem oni (hx : tv Γ x = some (qx, Ψx)) (hy : tv Γ y = some (qy, Ψy)) [Im p qx] [Im p qy] [ha : VI Ψx k a] [hb : VI Ψy k b] : Ob P r N ops M S p ⟨some d, .binOp .neq tx x y ty, t', pos, af, none⟩ Γ (exP (.bool (decide (a ≠ b)))) :=
 ob2 hx hy (by simp [Op.operands]) (by simp [Op.operands]) fun D E w u v hN _ e1 e2 h1 h2 => by rw [ha.h h1] at e1; rw [hb.h h2] at e2; exact eN hN e1 e2 (fin rfl)
theorem oad (hx : tv Γ x = some (qx, Ψx)) (hy : tv Γ y = some (qy, Ψy)) [Im p qx] [Im p qy] [ha : VI Ψx .i64 a] [hb : VI Ψy .i64 b] (hs : -9223372036854775808 ≤ a + b ∧ a + b ≤ 9223372036854775807) : Ob P r N ops M S p ⟨some d, .binOp .add tx x y ty, t', pos, af, none⟩ Γ (exP (.int .i64 (a + b))) :=
 ob2 hx hy (by simp [Op.operands]) (by simp [Op.operands]) fun D E w u v hN _ e1 e2 h1 h2 => by rw [ha.h h1] at e1; rw [hb.h h2] at e2; exact yZ hN e1 e2 hs (fin rfl)
theorem osb (hx : tv Γ x = some (qx, Ψx)) (hy : tv Γ y = some (qy, Ψy)) [Im p qx] [Im p qy] [ha : VI Ψx .i64 a] [hb : VI Ψy .i64 b] (hs : -9223372036854775808 ≤ a - b ∧ a - b ≤ 9223372036854775807) : Ob P r N ops M S p ⟨some d, .binOp .sub tx x y ty, t', pos, af, none⟩ Γ (exP (.int .i64 (a - b))) :=
 ob2 hx hy (by simp [Op.operands]) (by simp [Op.operands]) fun D E w u v hN _ e1 e2 h1 h2 => by rw [ha.h h1] at e1; rw [hb.h h2] at e2; exact jJ hN e1 e2 hs (fin rfl)
theorem ort (hx : tv Γ x = some (qx, Ψx)) (hy : tv Γ y = some (qy, Ψy)) [Im p qx] [Im p qy] [ha : VI Ψx k a] [hb : VI Ψy k b] (hs : b ≠ 0) : Ob P r N ops M S p ⟨some d, .binOp .rem tx x y ty, t', pos, af, none⟩ Γ (exP (.int k (a.tmod b))) :=
 ob2 hx hy (by simp [Op.operands]) (by simp [Op.operands]) fun D E w u v hN _ e1 e2 h1 h2 => by rw [ha.h h1] at e1; rw [hb.h h2] at e2; exact cT hN (.inr rfl) e1 e2 hs rfl (fin rfl)
end
theorem oln {e : TypeId} {sz bytes : Nat} {k n : Nat} {l : List CT} (hx : tv Γ x = some (qx, Ψx)) [Im p qx] [ht : TSl P t e sz bytes] [hv : VS Ψx k l] [hl : LL l n] : Ob P r N ops M S p ⟨some d, .call ⟨.builtin .len, #[x], #[t]⟩, t', pos, af, none⟩ Γ (exP (.int .i64 (n : Int))) :=
 ob1 hx (by simp [Op.operands, Call.operands]) fun D E w u hN _ e1 h1 => by
  obtain ⟨v, us, e, h2, h3, h4⟩ := hv.h h1
  obtain rfl := List.singleton_inj.1 e
  have := yL (rest := []) (K := fun D' E' w' => D' = D ∧ Rb w w' ∧ ∃ v, get E' d = some v ∧ (exP (.int .i64 (n : Int))).p M w' v) (r := r) (all := ops) (D := D) (t' := t') (pos := pos) (af := af) hN ht.u e1 h2 (by rw [hl.h]; exact fin rfl)
  exact this
theorem oix {ix : Operand} {qi : Prop} {Ψi : PV} {e : TypeId} {sz bytes : Nat} {k n : Nat} {l : List CT} {ki : IntKind} {i : Int} {c : CT} (j : Nat) (hx : tv Γ x = some (qx, Ψx)) (hi : tv Γ ix = some (qi, Ψi)) [Im p qx] [Im p qi] [ht : TSl P t e sz bytes] [hv : VS Ψx k l] [hki : VI Ψi ki i] [hl : LL l n] [ha : LA l j c]
  (hk : Nat.beq k sz = true) (hij : p → i = (j : Int)) (hj : p → j < n) : Ob P r N ops M S p ⟨some d, .indexAddr t x ix, t', pos, af, none⟩ Γ (pa c) := fun D E w d' hd hN hg hp hT => by
 obtain rfl := Option.some.inj hd
 obtain ⟨u, e1, h1⟩ := uT hT hx hp (by simp [Op.operands])
 obtain ⟨u2, e2, h2⟩ := uT hT hi hp (by simp [Op.operands])
 rw [hki.h h2] at e2
 obtain rfl := Nat.eq_of_beq_eq_true hk
 obtain ⟨v, us, ee, h3, h4, h5⟩ := hv.h h1
 obtain rfl := List.singleton_inj.1 ee
 have hjl : j < l.length := by rw [hl.h]; exact hj hp
 have hcl := ha.h hjl
 have h6 := fW h4 hcl
 rw [szs_take h5 (Nat.le_of_lt hjl), h5 c (List.mem_of_getElem? hcl)] at h6
 obtain ⟨g1, g2, ad, cap, rfl, g3, g4⟩ := h3
 obtain ⟨z, hz, _⟩ := ht.s
 rcases g4 with g4 | ⟨b, off, rfl, g5, g6⟩
 ·omega
 ·refine xT hN (by intro c hc; cases hc) (fun a ha => ?_) (fin ⟨b, off + j * k, _, rfl, g5, g6.sub (j * k) k, h6⟩)
  have e3 : (Instr.indexAt t (.slice (some ⟨b, off, none⟩) l.length cap) (.int ki i)).run P w = .ok (.pointer (some ⟨b, off + j * k, none⟩)) w := by
   rw [hij hp]
   simp [Instr.indexAt, asIntOf, run_underlying ht.u, Result.andThen, qT hz, hjl, gU]
  simp only [execOp, ha.ev e1, ha.ev e2, Sem.run_bind, e3, Result.andThen]; rfl
theorem old {a : Bool} {sz : Nat} {c : CT} (hx : tv Γ x = some (qx, Ψx)) [Im p qx] [ht : TLd P t a sz] [hp : LP S Ψx c] (hs : Nat.beq c.sz sz = true) [hl : LdA a c Ψ] : Ob P r N ops M S p ⟨some d, .load t x, t', pos, af, none⟩ Γ Ψ :=
 ob1 hx (by simp [Op.operands]) fun D E w u hN hg e1 h1 => by
  obtain ⟨b, o, us, rfl, h2, h3⟩ := hp.h hg h1
  have h4 := hl.h h3
  have h5 := ht.h
  have h6 := Nat.eq_of_beq_eq_true hs
  have h7 := c.len h3
  cases a with
  | true =>
   obtain ⟨bytes, z, k2⟩ := ht.s
   exact qD hN h5 k2 e1 h2 (h7.trans h6) (fin h4)
  | false =>
   obtain ⟨k1, rfl⟩ := h5
   rw [h6] at h7
   obtain ⟨v, rfl⟩ := List.length_eq_one_iff.1 h7
   exact xM hN k1 e1 (by have := h2 0 v rfl; simpa using this) (fin (h4 v rfl))
theorem ofa {a : Bool} {f off sz : Nat} {l : List CT} {c : CT} (hx : tv Γ x = some (qx, pa (st l))) [Im p qx] [ht : TFd P t f a off sz] (ha : fP l off = some c) : Ob P r N ops M S p ⟨some d, .fieldAddr t x f, t', pos, af, none⟩ Γ (pa c) :=
 ob1 hx (by simp [Op.operands]) fun D E w u hN hg e1 ⟨b, o, us, e, h1, h2, h3⟩ => by
  subst e
  obtain ⟨fields, fd, bytes, z, k1, k2, k3, k4, k5, _⟩ := ht.h
  exact xB off hN k1 k2 k3 k4 k5 e1 (fin ⟨b, o + off, _, rfl, h1, h2.sub off c.sz, dA h3 ha⟩)
theorem obd {szs' : List Nat} {parts : List (Nat × Operand)} {τs : List PV} {cs : List CT} (hx : tvs Γ (parts.map (·.2)) = some (q, τs)) [hi : Im p q] [ht : TPl P t szs'] [hc : CtL τs cs] (hp : parts.map (·.1) = List.range szs'.length) (hs : cs.map CT.sz = szs') :
  Ob P r N ops M S p ⟨some d, .build t parts.toArray, t', pos, af, none⟩ Γ (ag (st cs)) := fun D E w d' hd hN hg hp' hT => by
 obtain rfl := Option.some.inj hd
 obtain ⟨vs, e1, h1⟩ := fU hT hx (hi.h hp') fun x hx => eR (by simpa [Op.operands] using hx)
 obtain ⟨uss, g1, g2, g3⟩ := hc.h h1
 exact xP hN ht.h (by simpa using hp) (by simpa using e1) g1 (g3.trans hs) (fin ⟨_, rfl, g2⟩)
theorem obs {e : TypeId} {sz bytes len : Nat} {parts : List (Nat × Operand)} {τs : List PV} {cs : List CT} (hx : tvs Γ (parts.map (·.2)) = some (q, τs)) [hi : Im p q] [ht : TSl P t e sz bytes] [hc : CtL τs cs] (hp : parts.map (·.1) = List.range len) (hs : (cs.all fun c => Nat.beq c.sz sz) = true) (hl : Nat.ble (len * sz) 1000 = true) (h0 : Nat.beq len 0 = false) (hn : cs.length = len) :
  Ob P r N ops M S p ⟨some d, .buildSlice t len parts.toArray, t', pos, af, none⟩ Γ (sv (sl sz cs)) := fun D E w d' hd hN hg hp' hT => by
 obtain rfl := Option.some.inj hd
 obtain ⟨vs, e1, h1⟩ := fU hT hx (hi.h hp') fun x hx => eR (by simpa [Op.operands] using hx)
 obtain ⟨uss, g1, g2, g3⟩ := hc.h h1
 have hall : dC sz cs := fun c hc => Nat.eq_of_beq_eq_true (List.all_eq_true.1 hs c hc)
 have hlen := cO g2
 rw [szs_all hall, hn] at hlen
 obtain ⟨z, hz, hzc⟩ := ht.s
 refine xL hN ht.u hz hzc ht.n (by simpa using hp) (by simpa using e1) g1 ?_ hl h0 fun w' b hw => ?_
 ·refine List.all_eq_true.2 fun c hc => ?_
  have : c.length ∈ uss.map List.length := List.mem_map_of_mem hc
  rw [g3] at this
  obtain ⟨ct, h3, h4⟩ := List.mem_map.1 this
  rw [← h4, hall ct h3]; simp
 ·refine zD ⟨rfl, hw.below, _, uA (by simp), _, uss.flatten, rfl, ?_, qS g2 (Cl.bel hw.below), hall⟩
  rw [hn]
  have hle : len ≤ 1000 := by
   have := Nat.le_of_ble_eq_true hl
   have h0 := Nat.ne_of_beq_eq_false ht.n
   exact Nat.le_trans (Nat.le_mul_of_pos_right _ (Nat.pos_of_ne_zero h0)) this
  exact hw.blk.slc (hg.ok.new hw) hlen (fun j u hj => by simpa using hj) (by omega) (Nat.le_refl _)
theorem oca {f : FuncId} {xs : List Operand} {ts : Array TypeId} {τs ca : List PV} {ρ : PV} (hf : tv Γ x = some (qx, Ψx)) (hx : tvs Γ xs = some (q, τs)) [Im p qx] [hi : Im p q] [hv : VF Ψx f ca] (hk : p → CTy P f (τs ++ ca) ρ) :
  Ob P r N ops M S p ⟨some d, .call ⟨.value x, xs.toArray, ts⟩, t', pos, af, none⟩ Γ ρ := fun D E w d' hd hN hg hp hT => by
 obtain rfl := Option.some.inj hd
 obtain ⟨u, e1, h1⟩ := uT hT hf hp (by simp [Op.operands, Call.operands])
 obtain ⟨vs, e2, h2⟩ := fU hT hx (hi.h hp) fun x hx => eR (by simp [Op.operands, Call.operands, hx])
 obtain ⟨us, rfl, h3⟩ := hv.h h1
 refine zI hN (hk hp).bod e1 e2 (((hk hp).run M w (vs ++ us) hg.ok hg.tab (h2.app h3)).mono fun v w' ⟨k1, k2⟩ => ?_)
 exact zD ⟨rfl, k1, v, uA (by simp), k2⟩
end ops
def par : Nat → List PV → TE
 | _, [] => []
 | i, τ :: τs => (i, True, τ) :: par (i + 1) τs
theorem par_tm {M : Nat → Prop} {w : World} : ∀ {τs : List PV} {vs : List Value} {i : Nat}, Fa τs M w vs → TM (par i τs) M (iI i vs) w
 | [], _, i, h => fun s q hs => by simp [par, tf] at hs
 | τ :: τs, _, i, ⟨v, us, e, h1, h2⟩ => by
  subst e
  exact TM.put (par_tm h2) (fun _ => h1) (fun c => absurd trivial c)
def TR (rs : List Nat) (ρs : List PV) : TK := fun Γ S => ∃ q l, tvs Γ (rs.map .tmp) = some (q, l) ∧ q ∧ ∀ M w vs, Fa l M w vs → Fa ρs M w vs
theorem res_of {P : Program} {E : Env} {w : World} : ∀ {rs : List Nat} {vs : List Value}, evs E (rs.map .tmp) = some vs → Res P E w (rs.map .tmp) vs
 | [], vs, h => by obtain rfl := Option.some.inj h; trivial
 | t :: rs, vs, h => by
  rw [List.map_cons] at h
  unfold evs at h
  cases h1 : ev E (.tmp t) with
  | none => rw [h1] at h; cases h
  | some v =>
   cases h2 : evs E (rs.map .tmp) with
   | none => rw [h1, h2] at h; cases h
   | some us =>
    rw [h1, h2] at h
    obtain rfl := Option.some.inj h
    exact ⟨h1, res_of h2⟩
theorem ct {P : Program} {f : FuncId} {fn : Func} {c : Code} {N : Nat} {τs ρs : List PV} {ρ : PV} {rs : List Nat} (hf : P.funcs[f]? = some fn) (hb : fn.body = some c) (hn : fn.ntmps = N) (hN : Nat.ble τs.length N = true) (hr : fn.results.toList = rs.map .tmp)
    (hnm : (fn.name == "runtime.NumGoroutine") = false) (hρ : ∀ M w vs, Fa ρs M w vs → ρ.p M w (xI vs)) (h : ∀ X, TW P none N X c (TR rs ρs) (fun _ _ _ => False) (TR rs ρs) (par 0 τs) []) : CTy P f τs ρ := by
  refine ⟨⟨fn, hf, by rw [hb]; rfl, hnm⟩, fun M w vs hM hT hv => ?_⟩
  have hmk : Mk [] M = M := by funext k; simp [Mk]
  have hs : St ⟨M, w, fun _ => False⟩ (par 0 τs) [] (iI 0 vs) w := ⟨⟨rfl, Tp.refl _, rfl, Nat.le_refl _, fun _ _ _ => rfl⟩, ⟨by rw [hmk]; exact hM, by rw [hmk]; exact hT, by simp⟩, by simp, trivial, hM, fun _ h => h.elim, by rw [hmk]; exact par_tm hv⟩
  refine jC hf hb hn (by rw [hv.len]; exact hN) ?_
  have hfin : ∀ D E w', lf ⟨M, w, fun _ => False⟩ (TR rs ρs) [] D E w' → Fin P fn.results.toList (fun v w' => Rb w w' ∧ ρ.p M w' v) D E w' := by
    rintro D E w' ⟨rfl, Γ, S, ⟨q, l, h1, h2, h3⟩, h4⟩
    obtain ⟨us, e1, e2⟩ := fU (h4.tm.tm (rs)) h1 h2 fun x hx t e => by subst e; simpa using hx
    refine xC ⟨us, by rw [hr]; exact res_of e1, ⟨h4.bel.os, h4.bel.tape, h4.bel.output, h4.bel.size, fun k hk => h4.bel.block k hk id⟩, hρ _ _ _ (h3 _ _ _ (e2.mono (Cl.less fun k hk => .inr hk)))⟩
  have h1 := h ⟨M, w, fun _ => False⟩ [] _ w hs
  intro a ha hd
  refine wpIn_mono (h1 a ha hd) fun e a' w' hq => ?_
  cases e with
  | normal => obtain ⟨E', h1, h2⟩ := hq; exact ⟨E', h1, hfin _ _ _ h2⟩
  | exit id => obtain ⟨E', h1, _, _, _, h2, _⟩ := hq; exact h2.elim
  | ret => obtain ⟨E', h1, h2⟩ := hq; exact ⟨E', h1, hfin _ _ _ h2⟩
  | goto l => exact hq
  | panic c => exact hq
  | outgrown => exact hq
theorem eK {ρ : PV} : ∀ M w vs, Fa [ρ] M w vs → ρ.p M w (xI vs) := fun M w vs ⟨v, us, e, h1, h2⟩ => by
 subst e; rw [show us = [] from h2]; exact h1
theorem mk_cons {o : Ow} {S : List Ow} {M : Nat → Prop} {k : Nat} : Mk (o :: S) M k ↔ o.bk = some k ∨ Mk S M k := by
 unfold Mk; simp only [List.mem_cons]
 constructor
 ·rintro (⟨p, rfl | hp, h⟩ | h)
  ·exact .inl h
  ·exact .inr (.inl ⟨p, hp, h⟩)
  ·exact .inr (.inr h)
 ·rintro (h | ⟨p, hp, h⟩ | h)
  ·exact .inl ⟨o, .inl rfl, h⟩
  ·exact .inl ⟨p, .inr hp, h⟩
  ·exact .inr h
theorem tr1 {t : Nat} {q : Prop} {Ψ ρ : PV} {Γ : TE} {S : List Ow} (h : tv Γ (.tmp t) = some (q, Ψ)) [hq : Tr q] (hs : PSub Ψ ρ) : TR [t] [ρ] Γ S :=
 ⟨q ∧ True, [Ψ], by show tvs Γ [.tmp t] = _; unfold tvs; rw [h]; rfl, ⟨hq.h, trivial⟩, fun M w vs ⟨v, us, e, h1, h2⟩ => ⟨v, us, e, hs _ _ _ h1, h2⟩⟩
theorem psb {b c : Bool} (h : b = c) : PSub (exP (.bool b)) (exP (.bool c)) := fun _ _ _ k => h ▸ k
theorem orl {a b : Bool} (h : (a || b) = false) : a = false := (Bool.or_eq_false_iff.1 h).1
theorem orr {a b : Bool} (h : (a || b) = false) : b = false := (Bool.or_eq_false_iff.1 h).2
theorem Cl.new {M M' : Nat → Prop} {w w' : World} {b : Nat} (hb : Rb w w') (h1 : w.heap.size ≤ b) (hm : ∀ k, M' k → k = b ∨ M k) : Cl M w M' w' := fun k cur t fz hk hw => by
 have hlt := (Array.getElem?_eq_some_iff.1 hw).1
 exact ⟨fun c => (hm k c).elim (fun e => by omega) hk, (hb.block k hlt).trans hw⟩
section
variable {X : Cx} {w w' : World} {Γ : TE} {S : List Ow} {E : Env}
theorem St.okS (h : St X Γ S E w) : ∀ o ∈ S, ∀ k, o.bk = some k → k < w.heap.size := fun o ho k hk => h.gd.ok k (.inl ⟨o, ho, hk⟩)
theorem St.addb (h : St X Γ S E w) {b : Nat} {ty : TypeId} {cs : List CT} {us : List Value} (hn : New w w' b (.cells us.toArray ty (0, 0))) (hc : stp cs (Mk S X.M) w us) : St X Γ (.blk b ty cs :: S) E w' := by
 have hb := hn.below
 have hbs : w.heap.size ≤ b := by rw [hn.at_]; exact Nat.le_refl _
 have cl : Cl (Mk S X.M) w (Mk (.blk b ty cs :: S) X.M) w' := Cl.new hb hbs fun k hk => (mk_cons.1 hk).imp (fun e => (Option.some.inj e).symm) id
 refine ⟨h.bel.bel hb, ⟨fun k hk => ?_, h.gd.tab.cl cl, fun o ho => ?_⟩, fun o ho k hk => ?_, ⟨fun k hk p hp e => ?_, h.apt⟩, h.ok0, h.zm, h.tm.mono cl⟩
 ·rcases mk_cons.1 hk with e | hk
  ·rw [← Option.some.inj e, hn.size, hn.at_]; omega
  ·exact Nat.lt_of_lt_of_le (h.gd.ok k hk) hb.size
 ·rcases List.mem_cons.1 ho with rfl | ho
  ·exact ⟨us, by have := hn.blk; simpa using this, qS hc cl⟩
  ·exact Ow.ok_mono (h.gd.own o ho) cl fun k _ hlt => hb.block k hlt
 ·rcases List.mem_cons.1 ho with rfl | ho
  ·rw [← Option.some.inj hk]; exact .inl (Nat.le_trans h.bel.size hbs)
  ·exact h.new o ho k hk
 ·have := h.okS p hp k e
  rw [← Option.some.inj hk] at this
  omega
theorem iF : ∀ {S : List Ow} {i j : Nat} {o p : Ow} {b : Nat}, Apt S → S[i]? = some o → S[j]? = some p → i ≠ j → o.bk = some b → p.bk ≠ some b
 | [], _, _, _, _, _, _, h, _, _, _ => by simp at h
 | q :: S, 0, 0, o, p, b, _, _, _, hne, _ => absurd rfl hne
 | q :: S, 0, j + 1, o, p, b, ⟨h1, h2⟩, hi, hj, _, hb => by
  simp at hi hj; subst hi
  exact h1 b hb p (List.mem_of_getElem? hj)
 | q :: S, i + 1, 0, o, p, b, ⟨h1, h2⟩, hi, hj, _, hb => by
  simp at hi hj; subst hj
  exact fun e => h1 b e o (List.mem_of_getElem? hi) hb
 | q :: S, i + 1, j + 1, o, p, b, ⟨h1, h2⟩, hi, hj, hne, hb => iF h2 (by simpa using hi) (by simpa using hj) (by omega) hb
theorem apt_set : ∀ {S : List Ow} {i : Nat} {o p : Ow}, Apt S → S[i]? = some o → (∀ b, p.bk = some b → o.bk = some b ∨ ∀ q ∈ S, q.bk ≠ some b) → Apt (S.set i p)
 | [], _, _, _, _, h, _ => by simp at h
 | q :: S, 0, o, p, ⟨h1, h2⟩, h, hb => by
  simp at h; subst h
  exact ⟨fun b e r hr => (hb b e).elim (fun k => h1 b k r hr) (fun k => k r (by simp [hr])), h2⟩
 | q :: S, i + 1, o, p, ⟨h1, h2⟩, h, hb => by
  refine ⟨fun b e r hr => ?_, apt_set h2 (by simpa using h) fun b e => (hb b e).imp id fun k r hr => k r (by simp [hr])⟩
  rcases List.mem_or_eq_of_mem_set hr with hr | rfl
  ·exact h1 b e r hr
  ·intro c
   rcases hb b c with k | k
   ·exact h1 b e o (List.mem_of_getElem? (by simpa using h)) k
   ·exact k q (by simp) e
theorem mem_set_at {S : List Ow} {i : Nat} {p r : Ow} (h : r ∈ S.set i p) : r = p ∨ ∃ j, j ≠ i ∧ S[j]? = some r := by
 obtain ⟨j, hj⟩ := List.mem_iff_getElem?.1 h
 by_cases e : i = j
 ·subst e
  rw [List.getElem?_set_self (by have := (List.getElem?_eq_some_iff.1 hj).1; simpa using this)] at hj
  exact .inl (Option.some.inj hj).symm
 ·rw [List.getElem?_set_ne e] at hj
  exact .inr ⟨j, fun c => e c.symm, hj⟩
theorem St.setb (h : St X Γ S E w) {i b : Nat} {ty : TypeId} {cs ds : List CT} {us : List Value} (hi : S[i]? = some (.blk b ty cs)) (hc : Chg w w' b) (hB : Blk w' b ty us) (hd : stp ds (Mk S X.M) w us) : St X Γ (S.set i (.blk b ty ds)) E w' := by
 have hS : Ow.blk b ty cs ∈ S := List.mem_of_getElem? hi
 have hm : Mk S X.M b := .inl ⟨_, hS, rfl⟩
 have hmk : ∀ k, Mk (S.set i (.blk b ty ds)) X.M k → Mk S X.M k := fun k hk => hk.elim (fun ⟨o, ho, e⟩ => by
  rcases List.mem_or_eq_of_mem_set ho with ho | rfl
  ·exact .inl ⟨o, ho, e⟩
  ·exact Option.some.inj e ▸ hm) .inr
 have cl : Cl (Mk S X.M) w (Mk (S.set i (.blk b ty ds)) X.M) w' := fun k cur t fz hk hw => ⟨fun c => hk (hmk k c), (hc.other k fun e => hk (e ▸ hm)).trans hw⟩
 refine ⟨⟨hc.os.trans h.bel.os, hc.tape.trans h.bel.tape, hc.output.trans h.bel.output, by rw [hc.size]; exact h.bel.size, fun k hk hz => ?_⟩, ⟨fun k hk => by rw [hc.size]; exact h.gd.ok k (hmk k hk), h.gd.tab.cl cl, fun o ho => ?_⟩, fun o ho k hk => ?_, apt_set h.apt hi fun k e => .inl e, h.ok0, h.zm, h.tm.mono cl⟩
 ·refine (hc.other k fun e => ?_).trans (h.bel.block k hk hz)
  subst e
  exact (h.new _ hS _ rfl).elim (fun c => by omega) hz
 ·rcases mem_set_at ho with rfl | ⟨j, hj, hjo⟩
  ·exact ⟨us, hB, qS hd cl⟩
  ·exact Ow.ok_mono (h.gd.own o (List.mem_of_getElem? hjo)) cl fun k hk hlt => hc.other k fun e => iF h.apt hi hjo (fun c => hj c.symm) rfl (e ▸ hk)
 ·rcases mem_set_at ho with rfl | ⟨j, hj, hjo⟩
  ·exact h.new _ hS k hk
  ·exact h.new o (List.mem_of_getElem? hjo) k hk
end
def iQ : List CT → Nat → Option (List CT × List CT)
 | cs, 0 => some ([], cs)
 | [], _ + 1 => none
 | c :: r, o + 1 => bif Nat.ble c.sz (o + 1) then (match iQ r (o + 1 - c.sz) with | some (a, b) => some (c :: a, b) | none => none) else none
theorem cutT_app : ∀ {cs : List CT} {o : Nat} {a b : List CT}, iQ cs o = some (a, b) → cs = a ++ b ∧ szs a = o
 | cs, 0, a, b, h => by
  cases cs <;> (unfold iQ at h; obtain ⟨rfl, rfl⟩ := Prod.mk.inj (Option.some.inj h); exact ⟨rfl, rfl⟩)
 | [], o + 1, a, b, h => by simp [iQ] at h
 | c :: r, o + 1, a, b, h => by
  unfold iQ at h
  cases h1 : Nat.ble c.sz (o + 1) with
  | false => rw [h1] at h; cases h
  | true =>
   rw [h1] at h
   cases h2 : iQ r (o + 1 - c.sz) with
   | none => rw [h2] at h; cases h
   | some x =>
    obtain ⟨a', b'⟩ := x
    rw [h2] at h
    obtain ⟨rfl, rfl⟩ := Prod.mk.inj (Option.some.inj h)
    obtain ⟨k1, k2⟩ := cutT_app h2
    have := Nat.le_of_ble_eq_true h1
    exact ⟨by rw [k1]; rfl, by rw [szs, k2]; omega⟩
section ops
variable {P : Program} {r : Option Nat} {N : Nat} {X : Cx} {K : TK} {Γ : TE} {S : List Ow} {ops : Array Oper} {M : Nat → Prop} {p q qx qy : Prop} {Ψ Ψx Ψy : PV} {d : Nat} {x y : Operand} {t t' : TypeId} {pos : String} {af : Array Edge} {l : List Oper}
theorem obx {c : CT} (hx : tv Γ x = some (qx, Ψx)) [Im p qx] [hc : CtOf Ψx c] : Ob P r N ops M S p ⟨some d, .box t x, t', pos, af, none⟩ Γ (pa c) :=
 ob1 hx (by simp [Op.operands]) fun D E w u hN hg e1 h1 => by
  obtain ⟨us, k1, k2⟩ := hc.h h1
  refine yM hN e1 fun w' b hn => zD ⟨rfl, hn.below, _, uA (by simp), b, 0, us, rfl, hg.ok.new hn, ?_, c.mono k2 (Cl.bel hn.below)⟩
  exact ⟨u.cells, t, (0, 0), hn.obj, fun j v hj => by rw [k1]; simpa using hj⟩
theorem iG {a : Bool} {sz b o : Nat} {ty : TypeId} {cs : List CT} {c : CT} (i : Nat) (hx : tv Γ x = some (qx, exP (.pointer (some ⟨b, o, none⟩)))) [Im p qx] (hi : S[i]? = some (.blk b ty cs)) [ht : TLd P t a sz] (ha : fP cs o = some c) (hs : Nat.beq c.sz sz = true) [hl : LdA a c Ψ] : Ob P r N ops M S p ⟨some d, .load t x, t', pos, af, none⟩ Γ Ψ :=
 ob1 hx (by simp [Op.operands]) fun D E w u hN hg e1 h1 => by
  obtain rfl : u = _ := h1
  obtain ⟨vs, k3, k4⟩ := hg.own _ (List.mem_of_getElem? hi)
  have h3 := dA k4 ha
  have h4 := hl.h h3
  have h7 := c.len h3
  have h6 := Nat.eq_of_beq_eq_true hs
  have h2 : ∀ (j : Nat) (u : Value), ((vs.drop o).take c.sz)[j]? = some u → w.cell? ⟨b, o + j, none⟩ = some u := fun j u hj => by
   rw [k3.cell]
   rw [List.getElem?_take] at hj
   split at hj
   ·simpa using hj
   ·cases hj
  have h5 := ht.h
  cases a with
  | true =>
   obtain ⟨bytes, z, k2⟩ := ht.s
   exact qD hN h5 k2 e1 h2 (h7.trans h6) (fin h4)
  | false =>
   obtain ⟨k1, rfl⟩ := h5
   rw [h6] at h7 h2 h4
   obtain ⟨v, hv⟩ := List.length_eq_one_iff.1 h7
   rw [hv] at h2 h4
   exact xM hN k1 e1 (by have := h2 0 v rfl; simpa using this) (fin (h4 v rfl))
theorem tst {b o : Nat} {ty : TypeId} {cs A B B1 B2 : List CT} {c : CT} {a : Bool} {sz : Nat} (i : Nat) (hi : S[i]? = some (.blk b ty cs)) (hx : tv Γ x = some (qx, exP (.pointer (some ⟨b, o, none⟩)))) (hy : tv Γ y = some (qy, Ψy)) [Tr qx] [Tr qy] [hc : CtOf Ψy c] [ht : TLd P t a sz]
  (hs : Nat.beq c.sz sz = true) (hA : iQ cs o = some (A, B)) (hB : iQ B c.sz = some (B1, B2)) (h : TO P r N ops X K l Γ (S.set i (.blk b ty (A ++ c :: B2)))) :
  TO P r N ops X K (⟨none, .store t x y, t', pos, af, none⟩ :: l) Γ S := fun hN D E w hst => by
 unfold okN at hN
 simp only [List.all_cons, Bool.and_eq_true] at hN
 obtain ⟨u, e1, h1⟩ := iV hst hx
 obtain rfl : u = _ := h1
 obtain ⟨v, e2, h2⟩ := iV hst hy
 obtain ⟨us, k1, k2⟩ := hc.h h2
 obtain ⟨vs, k3, k4⟩ := hst.gd.own _ (List.mem_of_getElem? hi)
 obtain ⟨rfl, f2⟩ := cutT_app hA
 obtain ⟨rfl, f4⟩ := cutT_app hB
 obtain ⟨va, vb, rfl, g1, g2⟩ := bR k4
 obtain ⟨vc, vd, rfl, g3, g4⟩ := bR g2
 have hl1 := cO g1
 have hl3 := cO g3
 have hl := c.len k2
 have hsz := Nat.eq_of_beq_eq_true hs
 obtain ⟨bytes, z, hz⟩ := ht.s
 refine qN e1 e2 hz k3 (by rw [k1]; simp; omega) (by simp; omega) (by rw [k1]; exact fun u hu => c.one k2 u (by simpa using hu)) fun w' hch hB' => ?_
 refine h hN.2 D E w' (hst.setb hi hch hB' ?_)
 have e : va ++ (vc ++ vd) = va ++ (vc ++ vd) := rfl
 rw [k1]
 have e3 : (va ++ (vc ++ vd)).take o = va := by rw [← f2, ← hl1, List.take_left]
 have e4 : (va ++ (vc ++ vd)).drop (o + sz) = vd := by rw [← hsz, ← f4, ← hl3, ← f2, ← hl1, ← List.drop_drop, List.drop_left, List.drop_left]
 rw [e3, e4, List.append_assoc]
 exact eQ g1 ⟨us, vd, rfl, k2, g4⟩
end ops
class TZ (P : Program) (t : TypeId) (z : outParam Value) : Prop where
 s : ∃ sz bytes, Sz P t sz bytes z
 o : (z.cells.toList.all fun u => u.oneCell') = true
def zc (z : Value) : List CT := z.cells.toList.map xc
theorem stp_xc {M : Nat → Prop} {w : World} : ∀ {us : List Value}, (us.all fun u => u.oneCell') = true → stp (us.map xc) M w us
 | [], _ => rfl
 | u :: us, h => by
  simp only [List.all_cons, Bool.and_eq_true] at h
  exact ⟨[u], us, rfl, ⟨rfl, h.1⟩, stp_xc h.2⟩
section
variable {P : Program} {r : Option Nat} {N : Nat} {ops : Array Oper} {D : List Deferred} {E : Env}
theorem cF {G : Type} {F H : List (Nat × VPS G) → Prop} {x0 : World × G} {R : World × G → World × G → Prop} {R' : Nat → World × G → World × G → Prop} {Pr : Nat → World × G → Prop} {st : Option (Nat × (World × G → Prop) × (World × G → Prop))} (hFG : ∀ Γ, F Γ → H Γ) : ∀ {l : List Oper} {i : Nat} {Γ : List (Nat × VPS G)}, dV P r N ops D E x0 R R' Pr st F l i Γ → dV P r N ops D E x0 R R' Pr st H l i Γ
 | [], i, Γ, h => hFG Γ h
 | o :: l, i, Γ, ⟨Ψ, h1, h2⟩ => ⟨Ψ, h1, cF hFG h2⟩
end
def bks (S : List Ow) : Nat → Prop := fun b => ∃ o ∈ S, o.bk = some b
structure CTo (P : Program) (f : FuncId) (τs : List PV) (Si : List Ow) (Q : PV → List Ow → Prop) : Prop where
 bod : Bod P f
 run : ∀ (M : Nat → Prop) (w : World) (vs : List Value), Gd (Mk Si M) Si w → Apt Si → (∀ b, bks Si b → ¬ M b) → OkM M w → Fa τs (Mk Si M) w vs →
  CallsV P f vs w fun v w' => BZ ⟨M, w, bks Si⟩ w' ∧ ∃ ρ So, Q ρ So ∧ Gd (Mk So M) So w' ∧ Apt So ∧ (∀ b, bks So b → w.heap.size ≤ b ∨ bks Si b) ∧ ρ.p (Mk So M) w' v
theorem apt_sub : ∀ {S T : List Ow}, S.Sublist T → Apt T → Apt S
 | _, _, .slnil, h => h
 | _, _, .cons _ h, ⟨_, h2⟩ => apt_sub h h2
 | _, _, .cons_cons _ h, ⟨h1, h2⟩ => ⟨fun b hb p hp => h1 b hb p (h.subset hp), apt_sub h h2⟩
theorem eP {S T : List Ow} {M : Nat → Prop} (h : S.Sublist T) : ∀ k, Mk S M k → Mk T M k := fun k hk => hk.imp (fun ⟨o, ho, e⟩ => ⟨o, h.subset ho, e⟩) id
theorem Gd.sub {S T : List Ow} {M : Nat → Prop} {w : World} (h : Gd (Mk T M) T w) (hs : S.Sublist T) : Gd (Mk S M) S w :=
 ⟨fun k hk => h.ok k (eP hs k hk), h.tab.cl (Cl.less (eP hs)), fun o ho => Ow.ok_mono (h.own o (hs.subset ho)) (Cl.less (eP hs)) fun _ _ _ => rfl⟩
section ops
variable {P : Program} {r : Option Nat} {N : Nat} {X : Cx} {K : TK} {Γ : TE} {S Si Sr : List Ow} {ops : Array Oper} {M : Nat → Prop} {p q qx qy : Prop} {Ψ Ψx Ψy : PV} {d : Nat} {x y : Operand} {t t' : TypeId} {pos : String} {af : Array Edge} {l : List Oper}
end ops
theorem own_slr {M : Nat → Prop} {w : World} {v : Value} {ty : TypeId} {k n : Nat} {us : List Value} (h : w.ownsRow 0 ty k v n us) (hm : ∀ b, v.ownBlock = some b → ¬ M b) : Slc M w k v n us := by
 obtain ⟨h1, ⟨rfl, rfl⟩ | ⟨g, cap, cur, rfl, _, hg, hnc, hcm, hcs, htk⟩⟩ := h
 ·exact ⟨h1, by omega, none, 0, rfl, Nat.le_refl _, .inl rfl⟩
 ·refine ⟨h1, by simp [maxLen] at hcm; omega, _, cap, rfl, hnc, .inr ⟨g, 0, rfl, hm g rfl, cur, ty, _, hg, fun j u hj => ?_⟩⟩
  rw [← htk, List.getElem?_take] at hj
  split at hj
  ·simpa using hj
  ·cases hj
theorem mem_erase {S : List Ow} {i : Nat} {p : Ow} (h : p ∈ S.eraseIdx i) : ∃ j, j ≠ i ∧ S[j]? = some p := by
 obtain ⟨j, h1, h2⟩ := List.mem_eraseIdx_iff_getElem?.1 h
 exact ⟨j, h1, h2⟩
section
variable {X : Cx} {w w' : World} {Γ Γ' : TE} {S S' : List Ow} {E : Env}
theorem St.sub (h : St X Γ S E w) (hs : S'.Sublist S) : St X Γ S' E w :=
 ⟨h.bel, h.gd.sub hs, fun o ho => h.new o (hs.subset ho), apt_sub hs h.apt, h.ok0, h.zm, h.tm.mono (Cl.less (eP hs))⟩
theorem St.frz (h : St X Γ S E w) {i : Nat} {v : Value} {ty : TypeId} {k : Nat} {l : List CT} (hi : S[i]? = some (.row v ty k l)) : (sl k l).p (Mk (S.eraseIdx i) X.M) w [v] := by
 have hm : Ow.row v ty k l ∈ S := List.mem_of_getElem? hi
 obtain ⟨us, h1, h2, h3⟩ := h.gd.own _ hm
 refine ⟨v, us, rfl, own_slr h1 fun b hb c => ?_, qS h2 (Cl.less (eP (List.eraseIdx_sublist S i))), h3⟩
 rcases c with ⟨p, hp, e⟩ | c
 ·obtain ⟨j, hj, hp⟩ := mem_erase hp
  exact iF h.apt hi hp (fun c => hj c.symm) hb e
 ·rcases h.new _ hm b hb with h4 | h4
  ·have := h.ok0 b c; omega
  ·exact h.zm b h4 c
theorem St.setr (h : St X Γ S E w) {i : Nat} {v v' : Value} {ty : TypeId} {k : Nat} {l l' : List CT} {us : List Value} (hi : S[i]? = some (.row v ty k l)) (hg : Gro w w' v.ownBlock) (ho : w'.ownsRow 0 ty k v' l'.length us) (hv : v'.ownBlock = v.ownBlock ∨ v'.ownBlock = some w.heap.size) (hl : stp l' (Mk S X.M) w us) (ha : dC k l') (hv0 : ∀ b, v'.ownBlock = some b → b < w'.heap.size) : St X Γ (S.set i (.row v' ty k l')) E w' := by
 have hS : Ow.row v ty k l ∈ S := List.mem_of_getElem? hi
 have hmk : ∀ b, Mk (S.set i (.row v' ty k l')) X.M b → Mk S X.M b ∨ b = w.heap.size := fun b hk => hk.elim (fun ⟨o, ho', e⟩ => by
  rcases List.mem_or_eq_of_mem_set ho' with ho' | rfl
  ·exact .inl (.inl ⟨o, ho', e⟩)
  ·rcases hv with c | c
   ·exact .inl (.inl ⟨_, hS, c.symm.trans e⟩)
   ·exact .inr (Option.some.inj (e.symm.trans c))) (fun c => .inl (.inr c))
 have hown : ∀ b, Mk S X.M b ∨ some b ≠ v.ownBlock := fun b => by
  by_cases e : some b = v.ownBlock
  ·exact .inl (.inl ⟨_, hS, e.symm⟩)
  ·exact .inr e
 have cl : Cl (Mk S X.M) w (Mk (S.set i (.row v' ty k l')) X.M) w' := fun b cur t fz hk hw => by
  have hlt := (Array.getElem?_eq_some_iff.1 hw).1
  exact ⟨fun c => (hmk b c).elim hk (fun e => by omega), (hg.block b hlt ((hown b).elim (fun c => absurd c hk) id)).trans hw⟩
 refine ⟨⟨hg.os.trans h.bel.os, hg.tape.trans h.bel.tape, hg.output.trans h.bel.output, Nat.le_trans h.bel.size hg.size, fun b hb hz => ?_⟩, ⟨fun b hb => ?_, h.gd.tab.cl cl, fun o ho' => ?_⟩, fun o ho' b hb => ?_, apt_set h.apt hi fun b e => ?_, h.ok0, h.zm, h.tm.mono cl⟩
 ·refine (hg.block b (Nat.lt_of_lt_of_le hb h.bel.size) fun e => ?_).trans (h.bel.block b hb hz)
  exact (h.new _ hS b e.symm).elim (fun c => by omega) hz
 ·rcases hb with ⟨o, ho', e⟩ | c
  ·rcases List.mem_or_eq_of_mem_set ho' with ho' | rfl
   ·exact Nat.lt_of_lt_of_le (h.okS o ho' b e) hg.size
   ·exact hv0 b e
  ·exact Nat.lt_of_lt_of_le (h.gd.ok b (.inr c)) hg.size
 ·rcases mem_set_at ho' with rfl | ⟨j, hj, hjo⟩
  ·exact ⟨us, ho, qS hl cl, ha⟩
  ·exact Ow.ok_mono (h.gd.own o (List.mem_of_getElem? hjo)) cl fun b hb hlt => hg.block b hlt fun e => iF h.apt hi hjo (fun c => hj c.symm) e.symm hb
 ·rcases mem_set_at ho' with rfl | ⟨j, hj, hjo⟩
  ·rcases hv with c | c
   ·exact h.new _ hS b (c.symm.trans hb)
   ·obtain rfl : w.heap.size = b := Option.some.inj (c.symm.trans hb)
    exact .inl h.bel.size
  ·exact h.new o (List.mem_of_getElem? hjo) b hb
 ·rcases hv with c | c
  ·exact .inl (c.symm.trans e)
  ·obtain rfl : w.heap.size = b := Option.some.inj (c.symm.trans e)
   exact .inr fun q hq e2 => by have := h.okS q hq _ e2; omega
theorem ts_nil (ty : TypeId) (k : Nat) : Ts X Γ S Γ (.row (.slice none 0 0) ty k [] :: S) := fun E w h => by
 have hmk : ∀ M, Mk (.row (.slice none 0 0) ty k [] :: S) M = Mk S M := fun M => funext fun b => propext (by rw [mk_cons]; exact ⟨fun c => c.elim (fun e => by cases e) id, .inr⟩)
 refine ⟨h.bel, ⟨by rw [hmk]; exact h.gd.ok, by rw [hmk]; exact h.gd.tab, fun o ho => ?_⟩, fun o ho b e => ?_, ⟨fun b e => (by cases e), h.apt⟩, h.ok0, h.zm, by rw [hmk]; exact h.tm⟩
 ·rw [hmk]
  rcases List.mem_cons.1 ho with rfl | ho
  ·exact ⟨[], World.ownsRow_nil w 0 ty k, rfl, by simp [dC]⟩
  ·exact h.gd.own o ho
 ·rcases List.mem_cons.1 ho with rfl | ho
  ·cases e
  ·exact h.new o ho b e
theorem ts_frz {v : Value} {ty : TypeId} {k s : Nat} {l : List CT} {q : Prop} (i : Nat) (hi : S[i]? = some (.row v ty k l)) (hs : tf Γ s = some (q, exP v)) : Ts X Γ S ((s, q, sv (sl k l)) :: Γ) (S.eraseIdx i) := fun E w h => by
 have h1 := h.frz hi
 have h2 := h.sub (List.eraseIdx_sublist S i)
 refine ⟨h2.bel, h2.gd, h2.new, h2.apt, h2.ok0, h2.zm, fun t q' ht => ?_⟩
 unfold tf at ht
 cases hb : Nat.beq s t with
 | true =>
  rw [hb] at ht
  obtain rfl := Nat.eq_of_beq_eq_true hb
  obtain rfl := Option.some.inj ht
  have h3 := h.tm s _ hs
  exact ⟨fun c => let ⟨u, h4, h5⟩ := h3.1 c; ⟨u, h4, by rw [show u = v from h5]; exact h1⟩, h3.2⟩
 | false => rw [hb] at ht; exact h2.tm t q' ht
theorem ts_sub (hs : S'.Sublist S) : Ts X Γ S Γ S' := fun E w h => h.sub hs
theorem Ts.trans {Γ1 Γ2 Γ3 : TE} {S1 S2 S3 : List Ow} (h : Ts X Γ1 S1 Γ2 S2) (k : Ts X Γ2 S2 Γ3 S3) : Ts X Γ1 S1 Γ3 S3 := fun E w h1 => k E w (h E w h1)
def Tsub (Γ Γ' : TE) : Prop := ∀ s q, tf Γ' s = some q → ∃ q0, tf Γ s = some q0 ∧ (q.1 ↔ q0.1) ∧ PSub q0.2 q.2
theorem tn : Tsub Γ [] := fun s q h => by cases h
theorem tc {s : Nat} {q : Prop} {Ψ Φ : PV} (h : tf Γ s = some (q, Ψ)) [hq : Tr q] (hp : PSub Ψ Φ) (k : Tsub Γ Γ') : Tsub Γ ((s, True, Φ) :: Γ') := fun t r ht => by
 unfold tf at ht
 cases hb : Nat.beq s t with
 | true =>
  rw [hb] at ht
  obtain rfl := Nat.eq_of_beq_eq_true hb
  obtain rfl := Option.some.inj ht
  exact ⟨_, h, ⟨fun _ => hq.h, fun _ => trivial⟩, hp⟩
 | false => rw [hb] at ht; exact k t r ht
theorem kJ (h : Tsub Γ Γ') (e : S = S') : Ts X Γ S Γ' S' := fun E w k => by
 subst e
 refine ⟨k.bel, k.gd, k.new, k.apt, k.ok0, k.zm, fun s q hs => ?_⟩
 obtain ⟨q0, h1, h2, h3⟩ := h s q hs
 have h4 := k.tm s q0 h1
 exact ⟨fun c => let ⟨v, g1, g2⟩ := h4.1 (h2.1 c); ⟨v, g1, h3 _ _ _ g2⟩, fun c => h4.2 fun d => c (h2.2 d)⟩
end
theorem gR (Ψ : PV) : PSub Ψ Ψ := PSub.refl Ψ
theorem kH {k : IntKind} {a b : Int} (h : a = b) : PSub (exP (.int k a)) (exP (.int k b)) := fun _ _ _ k => h ▸ k
theorem ps_p {Ψ Φ : PV} (h : Ψ = Φ) : PSub Ψ Φ := fun _ _ _ k => h ▸ k
class DT (l : List CT) (a b : Nat) (l' : outParam (List CT)) : Prop where
 h : (l.drop a).take (b - a) = l'
instance {α : Type} {f : α → CT} {xs : List α} {a b : Nat} : DT (xs.map f) a b (((xs.drop a).take (b - a)).map f) := ⟨by rw [← List.map_drop, ← List.map_take]⟩
theorem stp_cut {k a : Nat} {l : List CT} {us : List Value} {M : Nat → Prop} {w : World} (h3 : dC k l) (h : stp l M w us) (ha : a ≤ l.length) : stp (l.take a) M w (us.take (a * k)) ∧ stp (l.drop a) M w (us.drop (a * k)) := by
 rw [← List.take_append_drop a l] at h
 obtain ⟨x, y, rfl, h1, h2⟩ := bR h
 have hx := cO h1
 rw [szs_take h3 ha] at hx
 rw [← hx, List.take_left, List.drop_left]
 exact ⟨h1, h2⟩
section ops
variable {P : Program} {r : Option Nat} {N : Nat} {X : Cx} {K : TK} {Γ : TE} {S : List Ow} {ops : Array Oper} {M : Nat → Prop} {p q qx qy qi : Prop} {Ψ Ψx Ψy Ψi : PV} {d : Nat} {x y ix : Operand} {t t' : TypeId} {pos : String} {af : Array Edge} {l : List Oper}
variable {v : Value} {ty e : TypeId} {k bytes : Nat} {cs : List CT} {c : CT}
theorem tap {m : List CT} (i : Nat) (hi : S[i]? = some (.row v e k cs)) (hx : tv Γ x = some (qx, exP v)) (hy : tv Γ y = some (qy, Ψy)) [Tr qx] [Tr qy] [ht : TSl P t e k bytes] [hv : VS Ψy k m] (hn : cs.length + m.length ≤ 1000000000) (hb : Nat.ble bytes 1000 = true)
  (h : ∀ v', TO P r N ops X K l ((d, True, exP v') :: Γ) (S.set i (.row v' e k (cs ++ m)))) : TO P r N ops X K (⟨some d, .call ⟨.builtin .append, #[x, y], #[t, t]⟩, t', pos, af, none⟩ :: l) Γ S := fun hN D E w hs => by
 unfold okN at hN
 simp only [List.all_cons, Bool.and_eq_true] at hN
 obtain ⟨u, e1, h1⟩ := iV hs hx
 obtain rfl : u = v := h1
 obtain ⟨u2, e2, h2⟩ := iV hs hy
 obtain ⟨us, g1, g2, g3⟩ := hs.gd.own _ (List.mem_of_getElem? hi)
 obtain ⟨u3, vs, e3, h3, h4, h5⟩ := hv.h h2
 obtain rfl := List.singleton_inj.1 e3
 obtain ⟨z, hz, hzc⟩ := ht.s
 have hbb := Nat.le_of_ble_eq_true hb
 refine ops_appendk hN.1 ht.u hz hzc (by have := Nat.ne_of_beq_eq_false ht.n; rw [Nat.blt_eq]; omega) e1 e2 g1 h3 (stp_one h4) (by omega) ?_ fun v' w' k1 k2 k3 => ?_
 ·exact Nat.le_trans (Nat.mul_le_mul hn hbb) (by omega)
 ·have hb2 : ∀ b, v'.ownBlock = some b → b < w'.heap.size := fun b hb => by
   obtain ⟨_, ⟨rfl, _⟩ | ⟨g, cap, cur, rfl, _, hg, _⟩⟩ := k1
   ·cases hb
   ·rw [← Option.some.inj hb]; exact (Array.getElem?_eq_some_iff.1 hg).1
  have h6 := hs.setr (l' := cs ++ m) hi k2 (by rw [List.length_append]; exact k1) k3 (eQ g2 h4) (fun c hc => (List.mem_append.1 hc).elim (g3 c) (h5 c)) hb2
  exact h v' hN.2 D _ w' (h6.put (xF _) (fun _ => rfl) (fun c => absurd trivial c))
theorem osl {lo hi : Option Operand} {cs' : List CT} (a b : Nat) (hx : tv Γ x = some (qx, Ψx)) [hq : Im p qx] [ht : TSl P t e k bytes] [hv : VS Ψx k cs] [hd' : DT cs a b cs']
  (hlo : match lo with | none => a = 0 | some o => ∃ q Ψ ki i, tv Γ o = some (q, Ψ) ∧ (p → q) ∧ VI Ψ ki i ∧ (p → i = (a : Int))) (hhi : match hi with | none => p → b = cs.length | some o => ∃ q Ψ ki i, tv Γ o = some (q, Ψ) ∧ (p → q) ∧ VI Ψ ki i ∧ (p → i = (b : Int))) (hab : p → a ≤ b) (hbl : p → b ≤ cs.length) :
  Ob P r N ops M S p ⟨some d, .slice t x lo hi none, t', pos, af, none⟩ Γ (sv (sl k cs')) := fun D E w d' hd hN hg hp hT => by
 obtain rfl := Option.some.inj hd
 obtain ⟨u, e1, h1⟩ := uT hT hx hp (by simp [Op.operands])
 obtain ⟨u2, us, e2, h2, h3, h4⟩ := hv.h h1
 obtain rfl := List.singleton_inj.1 e2
 obtain ⟨z, hz, _⟩ := ht.s
 have hab := hab hp
 have hbl := hbl hp
 refine gC a b hN ht.u hz e1 h2 ?_ ?_ trivial hab hbl fun u hu => fin (Ψ := sv (sl k cs')) (show ∃ v us, [u] = [v] ∧ Slc M w k v cs'.length us ∧ stp cs' M w us ∧ dC k cs' from ⟨u, (us.drop (a * k)).take ((b - a) * k), rfl, ?_, ?_, ?_⟩)
 ·cases lo with
  | none => exact hlo
  | some o =>
   obtain ⟨q, Ψ, ki, i, g1, g2, g3, g4⟩ := hlo
   obtain ⟨v, g5, g6⟩ := tm_ev hT g1 (fun s e => by subst e; exact eR (o := ⟨some d, .slice t x (some (.tmp s)) hi none, t', pos, af, none⟩) (by cases hi <;> simp [Op.operands]) s rfl) (g2 hp)
   exact ⟨ki, by rw [g5, g3.h g6, g4 hp]⟩
 ·cases hi with
  | none => exact hhi hp
  | some o =>
   obtain ⟨q, Ψ, ki, i, g1, g2, g3, g4⟩ := hhi
   obtain ⟨v, g5, g6⟩ := tm_ev hT g1 (fun s e => by subst e; exact eR (o := ⟨some d, .slice t x lo (some (.tmp s)) none, t', pos, af, none⟩) (by cases lo <;> simp [Op.operands]) s rfl) (g2 hp)
   exact ⟨ki, by rw [g5, g3.h g6, g4 hp]⟩
 ·have e3 : cs'.length = b - a := by rw [← hd'.h, List.length_take, List.length_drop]; omega
  rw [e3]; exact hu
 ·rw [← hd'.h]
  exact (stp_cut (fun c hc => h4 c (List.mem_of_mem_drop hc)) (stp_cut h4 h3 (by omega)).2 (by rw [List.length_drop]; omega)).1
 ·rw [← hd'.h]
  exact fun c hc => h4 c (List.mem_of_mem_drop (List.mem_of_mem_take hc))
end ops
inductive Pv : Type 1 where
 | non
 | slot (g d : Nat) {α : Type} (sh : α → Value × Ow)
 | st (g d : Nat) {α : Type} (sh : α → Value × Ow) (g0 : Nat) (sh0 : α → Value × Ow)
 | val (v : Value) (o : Ow)
abbrev Gh := Nat → Option (Value × Ow)
def QS (g i : Nat) {α : Type} (sh0 sh : α → Value × Ow) : World × Gh → Prop := fun x => ∃ a, x.2 g = some (sh0 a) ∧ x.2 (i + 1) = some (sh a)
def bkM (o : Ow) (M : Nat → Prop) : Nat → Prop := fun b => o.bk = some b ∨ M b
section
variable (P : Program) (r : Option Nat) (N : Nat) (ops : Array Oper) (S : List Ow) (k0 : Option Nat) (Q : World × Gh → Prop)
def CkN (o : Oper) (Γ : TE) {α : Type} (sh : α → Value × Ow) : Prop := ∀ (M : Nat → Prop) (D : List Deferred) (E : Env) (w : World) (d : Nat), o.dst = some d → Nat.blt d N = true → Gd M S w → Tm Γ (xQ ops o) M E w →
 Ops P r N ops (fun D' E' w' => D' = D ∧ Rb w w' ∧ ∃ a, get E' d = some (sh a).1 ∧ (∀ b, (sh a).2.bk = some b → w.heap.size ≤ b) ∧ (sh a).2.ok (bkM (sh a).2 M) w') [o] D E w
def CkA (o : Oper) (Γ : TE) (ev : Env → Value → Prop) (os : Value → Ow → Prop) {α : Type} (sh : α → Value × Ow) : Prop := ∀ (M : Nat → Prop) (D : List Deferred) (E : Env) (w : World) (d : Nat) (v : Value) (ob : Ow), o.dst = some d → Nat.blt d N = true → Gd M S w → Tm Γ (xQ ops o) M E w → ev E v → os v ob → ob.ok M w → (∀ b, ob.bk = some b → M b) →
 Ops P r N ops (fun D' E' w' => D' = D ∧ Gro w w' ob.bk ∧ ∃ a, get E' d = some (sh a).1 ∧ ((sh a).2.bk = ob.bk ∨ (sh a).2.bk = some w.heap.size) ∧ (sh a).2.ok (bkM (sh a).2 M) w') [o] D E w
def CkS (o : Oper) (Γ : TE) (dp : Nat) {α : Type} (sh0 sh : α → Value × Ow) : Prop := (∀ a, (sh a).1 = (sh0 a).1 ∧ (sh a).2.bk = (sh0 a).2.bk) ∧ ∀ (M : Nat → Prop) (D : List Deferred) (E : Env) (w : World) (a : α), Gd M S w → Tm Γ (xQ ops o) M E w → get E dp = some (sh0 a).1 → (sh0 a).2.ok M w → (∀ b, (sh0 a).2.bk = some b → M b) →
 Ops P r N ops (fun D' E' w' => D' = D ∧ Gro w w' (sh0 a).2.bk ∧ (sh a).2.ok M w') [o] D E w
def CkP (o : Oper) (Γ : TE) {α : Type} (sh : α → Value × Ow) : Pv → Prop
 | .non => CkN P r N ops S o Γ sh
 | .slot _ d sh0 => (xQ ops o).any (Nat.beq d) = true ∧ CkA P r N ops S o Γ (fun E v => get E d = some v) (fun v ob => ∃ a, (v, ob) = sh0 a) sh
 | .val v0 o0 => CkA P r N ops S o Γ (fun _ v => v = v0) (fun v ob => v = v0 ∧ ob = o0) sh
 | .st _ _ _ _ _ => False
def TDC (F : List Pv → TE → Prop) : List Oper → Nat → List Pv → List (Nat × Nat × Nat) → TE → Prop
 | [], _, ps, cs, Γ => cs = [] ∧ F ps Γ
 | o :: l, i, ps, cs, Γ => (∃ d q, o.dst = some d ∧ (∀ c ∈ cs, c.1 ≠ i) ∧ (∀ M, O2 P r N ops M S o Γ q) ∧ TDC F l (i + 1) ps cs ((d, q) :: Γ)) ∨
  (∃ d c cs' p, ∃ (α : Type) (sh : α → Value × Ow), cs = (i, d, c) :: cs' ∧ o.dst = some d ∧ ps[c]? = some p ∧ CkP P r N ops S o Γ sh p ∧ TDC F l (i + 1) (ps.set c (.slot (i + 1) d sh)) cs' Γ) ∨
  ∃ dd c cs' g dp, ∃ (α : Type) (sh0 sh : α → Value × Ow), cs = (i, dd, c) :: cs' ∧ k0 = some i ∧ o.dst = none ∧ ps[c]? = some (.slot g dp sh0) ∧ (xQ ops o).any (Nat.beq dp) = true ∧ CkS P r N ops S o Γ dp sh0 sh ∧ Q = QS g i sh0 sh ∧ TDC F l (i + 1) (ps.set c (.st (i + 1) dp sh g sh0)) cs' Γ
end
section
variable {P : Program} {r : Option Nat} {N : Nat} {ops : Array Oper} {S : List Ow} {k0 : Option Nat} {Q : World × Gh → Prop} {F : List Pv → TE → Prop} {Γ : TE} {i d c : Nat} {l : List Oper} {ps : List Pv} {cs : List (Nat × Nat × Nat)}
theorem cE (h : F ps Γ) : TDC P r N ops S k0 Q F [] i ps [] Γ := ⟨rfl, h⟩
theorem cx1 {op : Op} {t : TypeId} {pos : String} {af : Array Edge} {Ψ : PV} (h1 : ∀ {M}, Ob P r N ops M S True ⟨some d, op, t, pos, af, none⟩ Γ Ψ) (hi : (cs.all fun c => !Nat.beq c.1 i) = true) (h2 : TDC P r N ops S k0 Q F l (i + 1) ps cs ((d, True, Ψ) :: Γ)) :
  TDC P r N ops S k0 Q F (⟨some d, op, t, pos, af, none⟩ :: l) i ps cs Γ := .inl ⟨d, _, rfl, fun c hc e => (by have := List.all_eq_true.1 hi c hc; rw [e] at this; simp at this), fun _ => o_of h1, h2⟩
theorem cN {α : Type} {sh : α → Value × Ow} {o : Oper} (ho : o.dst = some d) (hc : ps[c]? = some .non) (h1 : CkN P r N ops S o Γ sh) (h2 : TDC P r N ops S k0 Q F l (i + 1) (ps.set c (.slot (i + 1) d sh)) cs Γ) : TDC P r N ops S k0 Q F (o :: l) i ps ((i, d, c) :: cs) Γ := .inr (.inl ⟨d, c, cs, _, α, sh, rfl, ho, hc, h1, h2⟩)
theorem cA {α β : Type} {sh0 : β → Value × Ow} {sh : α → Value × Ow} {o : Oper} {g dp : Nat} (ho : o.dst = some d) (hc : ps[c]? = some (.slot g dp sh0)) (hs : (xQ ops o).any (Nat.beq dp) = true) (h1 : CkA P r N ops S o Γ (fun E v => get E dp = some v) (fun v ob => ∃ a, (v, ob) = sh0 a) sh) (h2 : TDC P r N ops S k0 Q F l (i + 1) (ps.set c (.slot (i + 1) d sh)) cs Γ) : TDC P r N ops S k0 Q F (o :: l) i ps ((i, d, c) :: cs) Γ := .inr (.inl ⟨d, c, cs, _, α, sh, rfl, ho, hc, ⟨hs, h1⟩, h2⟩)
theorem cB {α : Type} {sh : α → Value × Ow} {o : Oper} {v0 : Value} {o0 : Ow} (ho : o.dst = some d) (hc : ps[c]? = some (.val v0 o0)) (h1 : CkA P r N ops S o Γ (fun _ v => v = v0) (fun v ob => v = v0 ∧ ob = o0) sh) (h2 : TDC P r N ops S k0 Q F l (i + 1) (ps.set c (.slot (i + 1) d sh)) cs Γ) : TDC P r N ops S k0 Q F (o :: l) i ps ((i, d, c) :: cs) Γ := .inr (.inl ⟨d, c, cs, _, α, sh, rfl, ho, hc, h1, h2⟩)
theorem cS {α : Type} {sh0 sh : α → Value × Ow} {o : Oper} {g dp dd : Nat} (ho : o.dst = none) (hc : ps[c]? = some (.slot g dp sh0)) (hs : (xQ ops o).any (Nat.beq dp) = true) (h1 : CkS P r N ops S o Γ dp sh0 sh) (h2 : TDC P r N ops S (some i) (QS g i sh0 sh) F l (i + 1) (ps.set c (.st (i + 1) dp sh g sh0)) cs Γ) : TDC P r N ops S (some i) (QS g i sh0 sh) F (o :: l) i ps ((i, dd, c) :: cs) Γ := .inr (.inr ⟨dd, c, cs, g, dp, α, sh0, sh, rfl, rfl, ho, hc, hs, h1, rfl, h2⟩)
end
def gup (g : Gh) (i : Nat) (a : Value × Ow) : Gh := fun j => if j = i then some a else g j
def gbk (g : Gh) : Nat → Prop := fun b => ∃ i a, g i = some a ∧ a.2.bk = some b
def MH (S : List Ow) (M : Nat → Prop) (g : Gh) : Nat → Prop := fun b => gbk g b ∨ Mk S M b
structure GI (n : Nat) (b0 : Option Nat) (S : List Ow) (M : Nat → Prop) (ic : Nat → Prop) (ch : Nat → Nat) (x : World × Gh) : Prop where
 dom : ∀ i a, x.2 i = some a → ic i
 lo : ∀ i a, x.2 i = some a → ∀ b, a.2.bk = some b → ¬ Mk S M b ∧ (n ≤ b ∨ b0 = some b) ∧ b < x.1.heap.size
 cl : ∀ i j a, j < i → ch j = ch i → ic j → x.2 i = some a → x.2 j ≠ none
 dis : ∀ i j a c, x.2 i = some a → x.2 j = some c → ch i ≠ ch j → ∀ b, a.2.bk = some b → c.2.bk ≠ some b
 row : ∀ i a, x.2 i = some a → (∀ j, i < j → ch j = ch i → x.2 j = none) → a.2.ok (MH S M x.2) x.1
structure RH (I : World × Gh → Prop) (a b : World × Gh) : Prop where
 os : b.1.os = a.1.os
 tape : Tp a.1 b.1
 output : b.1.output = a.1.output
 size : a.1.heap.size ≤ b.1.heap.size
 blk : ∀ i, i < a.1.heap.size → ¬ gbk a.2 i → b.1.heap[i]? = a.1.heap[i]?
 mon : ∀ i c, a.2 i = some c → b.2 i = some c
 new : ∀ i, gbk b.2 i → gbk a.2 i ∨ a.1.heap.size ≤ i
 inv : I a → I b
theorem RH.trans {I : World × Gh → Prop} {a b c : World × Gh} (h : RH I a b) (g : RH I b c) : RH I a c :=
 ⟨g.os.trans h.os, g.tape.trans h.tape, g.output.trans h.output, Nat.le_trans h.size g.size, fun i hi hn => (g.blk i (Nat.lt_of_lt_of_le hi h.size) fun c => (h.new i c).elim hn fun c => by omega).trans (h.blk i hi hn), fun i c hc => g.mon i c (h.mon i c hc), fun i hi => (g.new i hi).elim (h.new i) fun c => .inr (Nat.le_trans h.size c), fun hI => g.inv (h.inv hI)⟩
theorem RH.cl {I : World × Gh → Prop} {S : List Ow} {M : Nat → Prop} {a b : World × Gh} (h : RH I a b) : Cl (MH S M a.2) a.1 (MH S M b.2) b.1 := fun i cur t fz hk hw => by
 have hlt := (Array.getElem?_eq_some_iff.1 hw).1
 refine ⟨fun c => ?_, (h.blk i hlt fun c => hk (.inl c)).trans hw⟩
 rcases c with c | c
 ·rcases h.new i c with c | c
  ·exact hk (.inl c)
  ·omega
 ·exact hk (.inr c)
theorem Ow.ok_lt {o : Ow} {M : Nat → Prop} {w : World} (h : o.ok M w) {b : Nat} (hb : o.bk = some b) : b < w.heap.size := by
 cases o with
 | blk b' ty cs => obtain ⟨us, h1, _⟩ := h; obtain rfl := Option.some.inj hb; exact h1.lt
 | row v ty k l =>
  obtain ⟨us, ⟨_, ⟨rfl, _⟩ | ⟨c, cap, cur, rfl, _, h6, _⟩⟩, _⟩ := h
  ·cases hb
  ·rw [← Option.some.inj (show some c = some b from hb)]; exact (Array.getElem?_eq_some_iff.1 h6).1
section
variable {n : Nat} {b0 : Option Nat} {S : List Ow} {M : Nat → Prop} {ic : Nat → Prop} {ch : Nat → Nat} {w w' : World} {g : Gh}
theorem rh_pure (h : Rb w w') : RH (GI n b0 S M ic ch) (w, g) (w', g) :=
 ⟨h.os, h.tape, h.output, h.size, fun i hi _ => h.block i hi, fun _ _ h => h, fun i h => .inl h, fun hI => ⟨hI.dom, fun i a ha b hb => let q := hI.lo i a ha b hb; ⟨q.1, q.2.1, Nat.lt_of_lt_of_le q.2.2 h.size⟩, hI.cl, hI.dis, fun i a ha hn =>
  Ow.ok_mono (hI.row i a ha hn) (Cl.bel h) fun b _ hlt => h.block b hlt⟩⟩
theorem rh_row {i : Nat} {a : Value × Ow} {rw : Option Nat} (hg : Gro w w' rw) (hrw : ∀ b, rw = some b → ∃ j c, g j = some c ∧ c.2.bk = some b ∧ ch j = ch i) (hM : OkM (Mk S M) w) (hi : g i = none) (hic : ic i) (hpast : ∀ j, j < i → ch j = ch i → ic j → g j ≠ none) (hfut : ∀ j, i < j → ch j = ch i → g j = none) (hv : ∀ b, a.2.bk = some b → (∃ j c, g j = some c ∧ c.2.bk = some b ∧ ch j = ch i) ∨ w.heap.size ≤ b) (hn : n ≤ w.heap.size)
  (ho : a.2.ok (MH S M (gup g i a)) w') : RH (GI n b0 S M ic ch) (w, g) (w', gup g i a) := by
 have hup : ∀ j c, gup g i a j = some c → (j = i ∧ c = a) ∨ (j ≠ i ∧ g j = some c) := fun j c h => by
  unfold gup at h
  split at h
  ·rename_i e; exact .inl ⟨e, (Option.some.inj h).symm⟩
  ·rename_i e; exact .inr ⟨e, h⟩
 have hself : gup g i a i = some a := if_pos rfl
 have hoth : ∀ j, j ≠ i → gup g i a j = g j := fun j e => if_neg e
 have hnb : ∀ b, gbk (gup g i a) b → gbk g b ∨ w.heap.size ≤ b := fun b ⟨j, c, h1, h2⟩ => by
  rcases hup j c h1 with ⟨rfl, rfl⟩ | ⟨e, h1⟩
  ·exact (hv b h2).imp (fun ⟨j, c, h3, h4, _⟩ => ⟨j, c, h3, h4⟩) id
  ·exact .inl ⟨j, c, h1, h2⟩
 refine ⟨hg.os, hg.tape, hg.output, hg.size, fun b hb hnb => hg.block b hb fun e => hnb (let ⟨j, c, h1, h2, _⟩ := hrw b e.symm; ⟨j, c, h1, h2⟩), fun j c hc => ?_, hnb, fun hI => ⟨fun j c h => ?_, fun j c h b hb => ?_, fun j q c hq hch hiq h => ?_, fun j q c e h1 h2 hne b hb hb2 => ?_, fun j c h hno => ?_⟩⟩
 ·show gup g i a j = some c
  rw [hoth j fun e => by subst e; rw [show g j = some c from hc] at hi; cases hi]; exact hc
 ·rcases hup j c h with ⟨rfl, _⟩ | ⟨_, h⟩
  ·exact hic
  ·exact hI.dom j c h
 ·rcases hup j c h with ⟨rfl, rfl⟩ | ⟨_, h⟩
  ·refine ⟨?_, ?_, Ow.ok_lt ho hb⟩
   ·rcases hv b hb with ⟨q, e, h1, h2, _⟩ | h2
    ·exact (hI.lo q e h1 b h2).1
    ·exact fun c => by have := hM b c; omega
   ·rcases hv b hb with ⟨q, e, h1, h2, _⟩ | h2
    ·exact (hI.lo q e h1 b h2).2.1
    ·exact .inl (Nat.le_trans hn h2)
  ·have := hI.lo j c h b hb
   exact ⟨this.1, this.2.1, Nat.lt_of_lt_of_le this.2.2 hg.size⟩
 ·by_cases e : q = i
  ·subst e
   show gup g q a q ≠ none
   rw [hself]; simp
  ·show gup g i a q ≠ none
   rw [hoth q e]
   rcases hup j c h with ⟨rfl, _⟩ | ⟨_, h⟩
   ·exact hpast q hq hch hiq
   ·exact hI.cl j q c hq hch hiq h
 ·have key : ∀ (k : Nat) (f : Value × Ow), g k = some f → ch k ≠ ch i → a.2.bk = some b → f.2.bk ≠ some b := fun k f hk hne hab hfb => by
   rcases hv b hab with ⟨m, c, h3, h4, h5⟩ | h3
   ·exact hI.dis m k c f h3 hk (fun e => hne (e.symm.trans h5)) b h4 hfb
   ·have := (hI.lo k f hk b hfb).2.2; simp only at this; omega
  rcases hup j c h1 with ⟨ej, ea⟩ | ⟨_, h1'⟩
  ·rcases hup q e h2 with ⟨eq, _⟩ | ⟨_, h2'⟩
   ·exact hne (by rw [ej, eq])
   ·exact key q e h2' (fun e => hne (by rw [ej]; exact e.symm)) (ea ▸ hb) hb2
  ·rcases hup q e h2 with ⟨eq, ea⟩ | ⟨_, h2'⟩
   ·exact key j c h1' (fun e => hne (by rw [eq]; exact e)) (ea ▸ hb2) hb
   ·exact hI.dis j q c e h1' h2' hne b hb hb2
 ·rcases hup j c h with ⟨rfl, rfl⟩ | ⟨e, h⟩
  ·exact ho
  ·by_cases hcc : ch j = ch i
   ·rcases Nat.lt_trichotomy j i with c2 | c2 | c2
    ·have this : gup g i a i = none := hno i c2 hcc.symm
     rw [hself] at this; cases this
    ·exact absurd c2 e
    ·have h : g j = some c := h
     rw [hfut j c2 hcc] at h; cases h
   ·have h1 := hI.row j c h fun q hq hch => by
     have : gup g i a q = none := hno q hq hch
     unfold gup at this
     split at this
     ·cases this
     ·exact this
    refine Ow.ok_mono h1 (fun b cur t fz hk hw => ?_) fun b hb hlt => hg.block b hlt fun e2 => ?_
    ·have hlt : b < w.heap.size := (Array.getElem?_eq_some_iff.1 hw).1
     refine ⟨fun c => ?_, (hg.block b hlt fun e2 => hk (.inl (let ⟨j, c, h1, h2, _⟩ := hrw b e2.symm; ⟨j, c, h1, h2⟩))).trans hw⟩
     rcases c with c | c
     ·exact (hnb b c).elim (fun c => hk (.inl c)) fun c => by omega
     ·exact hk (.inr c)
    ·obtain ⟨m, f, h3, h4, h5⟩ := hrw b e2.symm
     exact hI.dis j m c f h h3 (fun e => hcc (e.trans h5)) b hb h4
end
def vph (S : List Ow) (M : Nat → Prop) (q : Prop × PV) : VPS Gh := fun v x => (q.1 → q.2.p (MH S M x.2) x.1 v) ∧ (¬ q.1 → v = undef)
def vpg (i : Nat) {α : Type} (sh : α → Value × Ow) : VPS Gh := fun v x => ∃ a, x.2 i = some (sh a) ∧ v = (sh a).1
theorem vph_mono {I : World × Gh → Prop} {S : List Ow} {M : Nat → Prop} {q : Prop × PV} : ∀ v a b, vph S M q v a → RH I a b → vph S M q v b := fun v a b h r => ⟨fun c => q.2.mono (h.1 c) r.cl, h.2⟩
def RelH (S : List Ow) (M : Nat → Prop) (sl : Nat → Prop) (Γ0 : List (Nat × VPS Gh)) (dr : TE) : Prop := ∀ s, ¬ sl s → match Γ0.find? (fun p => Nat.beq p.1 s) with
 | some p => ∃ q, tf dr s = some q ∧ p.2 = vph S M q
 | none => tf dr s = none
theorem eB {E : Env} {S : List Ow} {M : Nat → Prop} {sl : Nat → Prop} {Γ0 : List (Nat × VPS Gh)} {dr Γ : TE} {x : World × Gh} {body : Env → Prop} (hR : RelH S M sl Γ0 dr) (hda : ∀ s, sl s → tf (dr ++ Γ) s = none) (hE : TM Γ (MH S M x.2) E x.1) : ∀ (ss : List Nat) (F : Env) (done : List Nat), Tm (dr ++ Γ) done (MH S M x.2) F x.1 →
  (∀ s ∈ done, ∀ p, Γ0.find? (fun p => Nat.beq p.1 s) = some p → ∃ v, get F s = some v ∧ p.2 v x) → (∀ F', Tm (dr ++ Γ) (ss ++ done) (MH S M x.2) F' x.1 → (∀ s ∈ ss ++ done, ∀ p, Γ0.find? (fun p => Nat.beq p.1 s) = some p → ∃ v, get F' s = some v ∧ p.2 v x) → body F') → kS Γ0 E x body ss F
 | [], F, done, h, h0, hb => hb F (by simpa using h) (by simpa using h0)
 | s :: ss, F, done, h, h0, hb => by
  have next : ∀ v, (∀ q, tf (dr ++ Γ) s = some q → (q.1 → q.2.p (MH S M x.2) x.1 v) ∧ (¬ q.1 → v = undef)) → (∀ p, Γ0.find? (fun p => Nat.beq p.1 s) = some p → p.2 v x) → kS Γ0 E x body ss ((s, v) :: F) := fun v hv hp => by
   refine eB hR hda hE ss _ (s :: done) (fun i hi q hq => ?_) (fun i hi p hf => ?_) (fun F' hF hG => hb F' (fun i hi => hF i (by simp only [List.mem_append, List.mem_cons] at hi ⊢; rcases hi with (h1 | h1) | h1 <;> simp [h1])) fun i hi => hG i (by simp only [List.mem_append, List.mem_cons] at hi ⊢; rcases hi with (h1 | h1) | h1 <;> simp [h1]))
   ·cases hbq : Nat.beq s i with
    | true =>
     obtain rfl := Nat.eq_of_beq_eq_true hbq
     exact tok_hit (uA (by simp)) (hv q hq)
    | false =>
     rcases List.mem_cons.1 hi with rfl | hi
     ·simp at hbq
     ·have := h i hi q hq
      exact ⟨fun c => by rw [dP hbq]; exact this.1 c, fun c => by rw [dP hbq]; exact this.2 c⟩
   ·cases hbq : Nat.beq s i with
    | true =>
     obtain rfl := Nat.eq_of_beq_eq_true hbq
     exact ⟨v, uA (by simp), hp p hf⟩
    | false =>
     rcases List.mem_cons.1 hi with rfl | hi
     ·simp at hbq
     ·obtain ⟨u, h1, h2⟩ := h0 i hi p hf
      exact ⟨u, by rw [dP hbq]; exact h1, h2⟩
  unfold kS
  cases hf : Γ0.find? (fun p => Nat.beq p.1 s) with
  | some p =>
   intro v hv
   refine next v (fun Φ hΦ => ?_) (fun p' hp' => by rw [hf] at hp'; obtain rfl := Option.some.inj hp'; exact hv)
   by_cases hsl : sl s
   ·rw [hda s hsl] at hΦ; cases hΦ
   ·have hr := hR s hsl
    rw [hf] at hr
    obtain ⟨q, h1, h2⟩ := hr
    rw [dJ, h1] at hΦ
    obtain rfl := Option.some.inj hΦ
    rw [h2] at hv; exact hv
  | none =>
   have hno : ∀ p, Γ0.find? (fun p => Nat.beq p.1 s) = some p → ∀ v, p.2 v x := fun p hp => by rw [hf] at hp; cases hp
   have hdr : ∀ q, tf (dr ++ Γ) s = some q → tf Γ s = some q := fun q hq => by
    by_cases hsl : sl s
    ·rw [hda s hsl] at hq; cases hq
    ·have hr := hR s hsl
     rw [hf] at hr
     rw [dJ, hr] at hq; exact hq
   cases hg : get E s with
   | some v =>
    refine next v (fun Φ hΦ => ?_) fun p hp => hno p hp v
    have h2 := hE s Φ (hdr Φ hΦ)
    refine ⟨fun c => ?_, fun c => ?_⟩
    ·obtain ⟨u, h3, h4⟩ := h2.1 c
     rw [hg] at h3
     obtain rfl := Option.some.inj h3
     exact h4
    ·have := h2.2 c
     rw [hg] at this
     exact Option.some.inj this
   | none =>
    refine eB hR hda hE ss _ (s :: done) (fun i hi q hq => ?_) (fun i hi p hf' => ?_) (fun F' hF hG => hb F' (fun i hi => hF i (by simp only [List.mem_append, List.mem_cons] at hi ⊢; rcases hi with (h1 | h1) | h1 <;> simp [h1])) fun i hi => hG i (by simp only [List.mem_append, List.mem_cons] at hi ⊢; rcases hi with (h1 | h1) | h1 <;> simp [h1]))
    ·rcases List.mem_cons.1 hi with rfl | hi
     ·have h2 := hE _ q (hdr q hq)
      by_cases c : q.1
      ·obtain ⟨u, h3, _⟩ := h2.1 c; rw [hg] at h3; cases h3
      ·have := h2.2 c; rw [hg] at this; cases this
     ·exact h i hi q hq
    ·rcases List.mem_cons.1 hi with rfl | hi
     ·rw [hf] at hf'; cases hf'
     ·exact h0 i hi p hf'
def lL : Pv → Option Nat
 | .non => none
 | .slot g _ _ => some g
 | .val _ _ => some 0
 | .st g _ _ _ _ => some g
def lN (ps : List Pv) (ch : Nat → Nat) (j : Nat) : Prop := ∃ p g, ps[ch j]? = some p ∧ lL p = some g ∧ j ≤ g
def pok (Q : World × Gh → Prop) (sl : Nat → Prop) (g0 : Gh) (Γ0 : List (Nat × VPS Gh)) : Pv → Prop
 | .non => True
 | .slot g d sh => sl d ∧ Γ0.find? (fun p => Nat.beq p.1 d) = some (d, vpg g sh)
 | .val v o => g0 0 = some (v, o)
 | .st g d sh g1 sh0 => sl d ∧ Γ0.find? (fun p => Nat.beq p.1 d) = some (d, vpg g1 sh0) ∧ (∀ a, (sh a).1 = (sh0 a).1) ∧ ∀ x, Q x → ∃ a, x.2 g1 = some (sh0 a) ∧ x.2 g = some (sh a)
def psl (d : Nat) : Pv → Prop
 | .slot _ d' _ => d = d'
 | .st _ d' _ _ _ => d = d'
 | _ => False
section
variable {P : Program} {r : Option Nat} {N : Nat} {ops : Array Oper} {D : List Deferred} {E : Env} {S : List Ow} {M : Nat → Prop} {n : Nat} {b0 : Option Nat} {ic sl : Nat → Prop} {ch : Nat → Nat} {w : World} {g0 : Gh} {Γ : TE} {F : List Pv → TE → Prop} {k0 : Option Nat} {Q : World × Gh → Prop}
theorem tdc_drs (hT : TM Γ (MH S M g0) E w) (hG : Gd (MH S M g0) S w) (hok : OkM (Mk S M) w) (hI : GI n b0 S M ic ch (w, g0)) (hn : n ≤ w.heap.size) (hsl : ∀ s, sl s → tf Γ s = none) : ∀ (l : List Oper) (i : Nat) (ps : List Pv) (cs : List (Nat × Nat × Nat)) (dr : TE) (Γ0 : List (Nat × VPS Gh)), okN N l = true →
  (∀ j o, l[j]? = some o → k0 = some (i + j) → o.dst = none) → TDC P r N ops S k0 Q F l i ps cs (dr ++ Γ) → RelH S M sl Γ0 dr → (∀ s, sl s → tf dr s = none) → (∀ j o d, l[j]? = some o → o.dst = some d → sl d → ∃ c, (i + j, d, c) ∈ cs) → cs.Pairwise (fun a b => a.1 < b.1 ∧ a.2.1 ≠ b.2.1) → (∀ c ∈ cs, i ≤ c.1 ∧ ic (c.1 + 1) ∧ sl c.2.1 ∧ ch (c.1 + 1) = c.2.2) → (∀ j, ic j → lN ps ch j ∨ ∃ c ∈ cs, j = c.1 + 1) →
  (∀ (c : Nat) (p : Pv) (g : Nat), ps[c]? = some p → lL p = some g → g ≤ i ∧ ch g = c) → (∀ (c : Nat) (p : Pv), ps[c]? = some p → pok Q sl g0 Γ0 p ∧ ∀ d, psl d p → ∀ c' ∈ cs, c'.2.1 ≠ d) →
  dV P r N ops D E (w, g0) (RH (GI n b0 S M ic ch)) (fun i a b => RH (GI n b0 S M ic ch) a b ∧ ∀ j, j ≠ i + 1 → b.2 j = a.2 j) (fun i x => x.2 (i + 1) = none) (k0.map fun k => (k, fun x => x.2 (k + 1) = none, Q))
   (fun Γ1 => ∃ dr' ps', RelH S M sl Γ1 dr' ∧ (∀ s, sl s → tf dr' s = none) ∧ (∀ j, ic j → lN ps' ch j) ∧ (∀ (c : Nat) (p : Pv), ps'[c]? = some p → pok Q sl g0 Γ1 p ∧ ∀ g, lL p = some g → ch g = c) ∧ (∀ s, s ∈ dr'.map (·.1) → s ∈ (l.filterMap (·.dst)) ++ dr.map (·.1)) ∧ F ps' (dr' ++ Γ)) l i Γ0
 | [], i, ps, cs, dr, Γ0, _, _, ⟨hc, h⟩, hR, hd, _, _, _, hic, hpi, hp => ⟨dr, ps, hR, hd, fun j hj => (hic j hj).elim id fun ⟨c, hc', _⟩ => (by subst hc; cases hc'), fun c p h => ⟨(hp c p h).1, fun g hg => (hpi c p g h hg).2⟩, by simp, h⟩
 | o :: l, i, ps, cs, dr, Γ0, hN, hk0, h, hR, hd, hdst, hcs, hc, hic, hpi, hp => by
  unfold okN at hN
  simp only [List.all_cons, Bool.and_eq_true] at hN
  have hx : ∀ x, RH (GI n b0 S M ic ch) (w, g0) x → TM Γ (MH S M x.2) E x.1 ∧ Gd (MH S M x.2) S x.1 ∧ GI n b0 S M ic ch x ∧ OkM (Mk S M) x.1 ∧ n ≤ x.1.heap.size := fun x hr => by
   have hg := hr.inv hI
   refine ⟨hT.mono hr.cl, ⟨fun b hb => ?_, hG.tab.cl hr.cl, fun o ho => Ow.ok_mono (hG.own o ho) hr.cl fun b hb hlt => hr.blk b hlt fun ⟨j, a, h1, h2⟩ => ?_⟩, hg, fun b hb => Nat.lt_of_lt_of_le (hok b hb) hr.size, Nat.le_trans hn hr.size⟩
   ·rcases hb with ⟨j, a, h1, h2⟩ | hb
    ·exact (hg.lo j a h1 b h2).2.2
    ·exact Nat.lt_of_lt_of_le (hok b hb) hr.size
   ·exact (hI.lo j a h1 b h2).1 (.inl ⟨o, ho, hb⟩)
  have hk1 : ∀ j o, l[j]? = some o → k0 = some (i + 1 + j) → o.dst = none := fun j o hj e => hk0 (j + 1) o (by simpa using hj) (by rw [e, show i + 1 + j = i + (j + 1) by omega])
  have hst : ∀ d, o.dst = some d → ∀ k pre post, (k0.map fun k => (k, (fun x : World × Gh => x.2 (k + 1) = none), Q)) = some (k, pre, post) → i ≠ k := fun d ho k pre post h e => by
   cases k0 with
   | none => cases h
   | some k' =>
    obtain rfl : k' = k := (Prod.mk.inj (Option.some.inj h)).1
    have := hk0 0 o rfl (by rw [e]; rfl)
    rw [ho] at this; cases this
  rcases h with ⟨d, q, ho, hne, h1, h2⟩ | ⟨d, c, cs', p, α, sh, rfl, ho, hpc, h1, h2⟩ | ⟨dd, c, cs', g, dp, α, sh0, sh, rfl, hke, ho, hpc, hsd, h1, hQe, h2⟩
  ·have hdN : Nat.blt d N = true := by have := hN.1; rw [ho] at this; exact this
   have hnsl : ¬ sl d := fun c => let ⟨c', h3⟩ := hdst 0 o d rfl ho c; hne _ h3 rfl
   have hbeq : ∀ s, sl s → Nat.beq d s = false := fun s hs => by cases hb : Nat.beq d s with | true => (obtain rfl := Nat.eq_of_beq_eq_true hb; exact absurd hs hnsl) | false => rfl
   have h3 := tdc_drs hT hG hok hI hn hsl l (i + 1) ps cs ((d, q) :: dr) ((d, vph S M q) :: Γ0) hN.2 hk1 h2 (fun s hs => by
    rw [List.find?_cons]
    show match (match Nat.beq d s with | true => some (d, vph S M q) | false => Γ0.find? fun p => Nat.beq p.1 s) with | some p => ∃ q', (bif Nat.beq d s then some q else tf dr s) = some q' ∧ p.2 = vph S M q' | none => (bif Nat.beq d s then some q else tf dr s) = none
    cases hb : Nat.beq d s with
    | true => exact ⟨q, rfl, rfl⟩
    | false => exact hR s hs) (fun s hs => by unfold tf; rw [hbeq s hs]; exact hd s hs) (fun j o' d' hj hd' hs' => by have := hdst (j + 1) o' d' (by simpa using hj) hd' hs'; rwa [show i + 1 + j = i + (j + 1) by omega]) hcs
    (fun c hc' => ⟨by have := (hc c hc').1; have := hne c hc'; omega, (hc c hc').2⟩) hic (fun c p g h4 hg => ⟨by have := (hpi c p g h4 hg).1; omega, (hpi c p g h4 hg).2⟩) (fun c p h4 => ⟨by
     have h5 := (hp c p h4).1
     cases p with
     | non => trivial
     | slot g d' sh => exact ⟨h5.1, by rw [List.find?_cons]; simp only [hbeq _ h5.1]; exact h5.2⟩
     | st g d' sh g1 sh0 => exact ⟨h5.1, by rw [List.find?_cons]; simp only [hbeq _ h5.1]; exact h5.2.1, h5.2.2⟩
     | val v l0 => exact h5, (hp c p h4).2⟩)
   refine ⟨vph S M q, ?_, ?_⟩
   ·unfold dT
    rw [ho]
    refine ⟨vph_mono, .inl ⟨hst d ho, fun x hr _ _ => ?_⟩⟩
    obtain ⟨k1, k2, k3, k4, k5⟩ := hx x hr
    refine eB hR (fun s hs => by rw [dJ, hd s hs]; exact hsl s hs) k1 _ _ [] (fun i hi => by simp at hi) (fun i hi => by simp at hi) fun F' hF' _ => ?_
    intro a Q ha hD hk
    refine h1 _ D F' x.1 d ho hdN k2 (by simpa using hF') a Q ha hD fun a' w' E' g1 ⟨g2, g3, v, g4, g5⟩ => hk a' w' E' g1 ⟨g2, x.2, ⟨rh_pure g3, fun _ _ => rfl⟩, v, g4, g5⟩
   ·unfold fO
    rw [ho]
    refine cF (fun Γ1 ⟨dr', p', g1, g2, g3, g4, g5, g6⟩ => ⟨dr', p', g1, g2, g3, g4, fun s hs => ?_, g6⟩) h3
    have := g5 s hs
    simp only [List.mem_append, List.filterMap_cons, ho, List.mem_cons, List.map_cons] at this ⊢
    rcases this with c | c | c
    ·exact .inl (.inr c)
    ·exact .inl (.inl c)
    ·exact .inr c
  ·have hdN : Nat.blt d N = true := by have := hN.1; rw [ho] at this; exact this
   obtain ⟨_, hici, hsld, hchi⟩ := hc (i, d, c) (by simp)
   have hchi : ch (i + 1) = c := hchi
   have hlt : ∀ c' ∈ cs', i < c'.1 ∧ d ≠ c'.2.1 := fun c' hc' => (List.pairwise_cons.1 hcs).1 c' hc'
   have hcl : c < ps.length := (List.getElem?_eq_some_iff.1 hpc).1
   have h3 := tdc_drs hT hG hok hI hn hsl l (i + 1) (ps.set c (.slot (i + 1) d sh)) cs' dr ((d, vpg (i + 1) sh) :: Γ0) hN.2 hk1 h2 (fun s hs => by
    have hb : Nat.beq d s = false := by cases hb : Nat.beq d s with | true => (obtain rfl := Nat.eq_of_beq_eq_true hb; exact absurd hsld hs) | false => rfl
    rw [List.find?_cons]; simp only [hb]; exact hR s hs) hd (fun j o' d' hj hd' hs' => by
     obtain ⟨c2, h4⟩ := hdst (j + 1) o' d' (by simpa using hj) hd' hs'
     rw [show i + 1 + j = i + (j + 1) by omega]
     rcases List.mem_cons.1 h4 with e | e
     ·have := (Prod.mk.inj e).1; omega
     ·exact ⟨c2, e⟩) (List.pairwise_cons.1 hcs).2 (fun c' hc' => ⟨(hlt c' hc').1, (hc c' (by simp [hc'])).2⟩) (fun j hj => by
     rcases hic j hj with ⟨p1, g, h5, h6, h7⟩ | ⟨c', hc', e⟩
     ·by_cases e : ch j = c
      ·exact .inl ⟨_, i + 1, by rw [e, List.getElem?_set_self hcl], rfl, by have := (hpi _ _ _ h5 h6).1; omega⟩
      ·exact .inl ⟨p1, g, by rw [List.getElem?_set_ne (fun e2 => e e2.symm)]; exact h5, h6, h7⟩
     ·rcases List.mem_cons.1 hc' with rfl | hc'
      ·exact .inl ⟨_, i + 1, by rw [e, hchi, List.getElem?_set_self hcl], rfl, by rw [e]; exact Nat.le_refl _⟩
      ·exact .inr ⟨c', hc', e⟩) (fun c' p1 g h5 h6 => by
     by_cases e : c = c'
     ·subst e
      rw [List.getElem?_set_self hcl] at h5
      obtain rfl := Option.some.inj h5
      obtain rfl := Option.some.inj h6
      exact ⟨Nat.le_refl _, hchi⟩
     ·rw [List.getElem?_set_ne e] at h5
      exact ⟨Nat.le_succ_of_le (hpi _ _ _ h5 h6).1, (hpi _ _ _ h5 h6).2⟩) (fun c' p1 h5 => by
     by_cases e : c = c'
     ·subst e
      rw [List.getElem?_set_self hcl] at h5
      obtain rfl := Option.some.inj h5
      exact ⟨⟨hsld, by rw [List.find?_cons]; simp⟩, fun d' hd' c2 hc2 => by obtain rfl : d' = d := hd'; exact fun e => (hlt c2 hc2).2 e.symm⟩
     ·rw [List.getElem?_set_ne e] at h5
      have h6 := hp c' p1 h5
      refine ⟨?_, fun d' hd' c2 hc2 => h6.2 d' hd' c2 (by simp [hc2])⟩
      cases p1 with
      | non => trivial
      | slot g d' sh1 =>
       have hne : d ≠ d' := h6.2 d' rfl (i, d, c) (by simp)
       have hb : Nat.beq d d' = false := by cases hb : Nat.beq d d' with | true => exact absurd (Nat.eq_of_beq_eq_true hb) hne | false => rfl
       exact ⟨h6.1.1, by rw [List.find?_cons]; simp only [hb]; exact h6.1.2⟩
      | st g d' sh1 g1 sh0 =>
       have hne : d ≠ d' := h6.2 d' rfl (i, d, c) (by simp)
       have hb : Nat.beq d d' = false := by cases hb : Nat.beq d d' with | true => exact absurd (Nat.eq_of_beq_eq_true hb) hne | false => rfl
       exact ⟨h6.1.1, by rw [List.find?_cons]; simp only [hb]; exact h6.1.2.1, h6.1.2.2⟩
      | val v l0 => exact h6.1)
   have hall : ∀ x, RH (GI n b0 S M ic ch) (w, g0) x → x.2 (i + 1) = none → (∀ j, i + 1 < j → ch j = c → x.2 j = none) ∧ ∀ g, lL p = some g → ∀ a, x.2 g = some a → (∀ j, j < i + 1 → ch j = c → ic j → x.2 j ≠ none) ∧ ∀ j, g < j → ch j = c → x.2 j = none := fun x hr hpr => by
    have hg := hr.inv hI
    have hf : ∀ j, i + 1 < j → ch j = c → x.2 j = none := fun j hj hcj => by
     cases hxj : x.2 j with
     | none => rfl
     | some a => exact absurd hpr (hg.cl j (i + 1) a hj (hchi.trans hcj.symm) hici hxj)
    refine ⟨hf, fun g hgp a ha => ⟨fun j hj hcj hjc => ?_, fun j hj hcj => ?_⟩⟩
    ·rcases hic j hjc with ⟨p1, g', h5, h6, h7⟩ | ⟨c', hc', e⟩
     ·rw [hcj, hpc] at h5
      obtain rfl := Option.some.inj h5
      obtain rfl : g = g' := Option.some.inj (hgp.symm.trans h6)
      rcases Nat.lt_or_ge j g with c2 | c2
      ·exact hg.cl g j a c2 (hcj.trans (hpi _ _ _ hpc hgp).2.symm) hjc ha
      ·obtain rfl : j = g := by omega
       rw [ha]; simp
     ·have := (hc c' hc').1; omega
    ·cases hxj : x.2 j with
     | none => rfl
     | some b =>
      rcases hic j (hg.dom j b hxj) with ⟨p1, g', h5, h6, h7⟩ | ⟨c', hc', e⟩
      ·rw [hcj, hpc] at h5
       obtain rfl := Option.some.inj h5
       obtain rfl : g = g' := Option.some.inj (hgp.symm.trans h6)
       omega
      ·have := (hc c' hc').1
       rcases Nat.lt_or_ge (i + 1) j with c2 | c2
       ·rw [hf j c2 hcj] at hxj; cases hxj
       ·obtain rfl : j = i + 1 := by omega
        rw [hpr] at hxj; cases hxj
   refine ⟨vpg (i + 1) sh, ?_, ?_⟩
   ·unfold dT
    rw [ho]
    refine ⟨fun v a b ⟨q, h4, h5⟩ hr => ⟨q, hr.mon _ _ h4, h5⟩, .inl ⟨hst d ho, fun x hr _ hpr => ?_⟩⟩
    obtain ⟨k1, k2, k3, k4, k5⟩ := hx x hr
    obtain ⟨a1, a2⟩ := hall x hr hpr
    have hpr : x.2 (i + 1) = none := hpr
    refine eB hR (fun s hs => by rw [dJ, hd s hs]; exact hsl s hs) k1 _ _ [] (fun i hi => by simp at hi) (fun i hi => by simp at hi) fun F' hF' hV => ?_
    have lift : ∀ (a : α) (w' : World), (sh a).2.ok (bkM (sh a).2 (MH S M x.2)) w' → (sh a).2.ok (MH S M (gup x.2 (i + 1) (sh a))) w' := fun a w' h4 =>
     Ow.ok_mono h4 (Cl.less fun b hb => by
      rcases hb with ⟨j, f, h6, h7⟩ | f
      ·unfold gup at h6
       split at h6
       ·obtain rfl := Option.some.inj h6
        exact .inl h7
       ·exact .inr (.inl ⟨j, f, h6, h7⟩)
      ·exact .inr (.inr f)) fun _ _ _ => rfl
    have chg : ∀ (v : Value) (ob : Ow) (g : Nat), lL p = some g → x.2 g = some (v, ob) → (ob.ok (MH S M x.2) x.1 → (∀ b, ob.bk = some b → MH S M x.2 b) → Ops P r N ops (fun D' E' w' => D' = D ∧ Gro x.1 w' ob.bk ∧ ∃ a, get E' d = some (sh a).1 ∧ ((sh a).2.bk = ob.bk ∨ (sh a).2.bk = some x.1.heap.size) ∧ (sh a).2.ok (bkM (sh a).2 (MH S M x.2)) w') [o] D F' x.1) →
      Ops P r N ops (fun D' E' w' => D' = D ∧ ∃ g', (RH (GI n b0 S M ic ch) x (w', g') ∧ ∀ j, j ≠ i + 1 → g' j = x.2 j) ∧ ∃ v, get E' d = some v ∧ vpg (i + 1) sh v (w', g')) [o] D F' x.1 := fun v ob g hgp hxg h5 => by
     obtain ⟨b1, b2⟩ := a2 g hgp _ hxg
     have hcg := (hpi _ _ _ hpc hgp).2
     have r1 := k3.row g _ hxg fun j hj hcj => b2 j hj (hcj.trans hcg)
     intro a Q ha hD hk
     refine h5 r1 (fun b hb => .inl ⟨g, _, hxg, hb⟩) a Q ha hD fun a' w' E' g1 ⟨g2, g3, q, g4, g5, g6⟩ => hk a' w' E' g1 ⟨g2, gup x.2 (i + 1) (sh q), ⟨?_, fun j hj => if_neg hj⟩, _, g4, q, if_pos rfl, rfl⟩
     have hmine : ∀ b, ob.bk = some b → ∃ j e, x.2 j = some e ∧ e.2.bk = some b ∧ ch j = ch (i + 1) := fun b hb => ⟨g, _, hxg, hb, hcg.trans hchi.symm⟩
     refine rh_row g3 hmine k4 hpr hici (fun j hj hcj hjc => b1 j hj (hcj.trans hchi) hjc) (fun j hj hcj => a1 j hj (hcj.trans hchi)) (fun b hb => g5.elim (fun e => .inl (hmine b (e.symm.trans hb))) fun e => .inr (Nat.le_of_eq (Option.some.inj (e.symm.trans hb)))) k5 (lift q w' g6)
    cases p with
    | non =>
     have h1 : CkN P r N ops S o (dr ++ Γ) sh := h1
     intro a Q ha hD hk
     refine h1 _ D F' x.1 d ho hdN k2 (by simpa using hF') a Q ha hD fun a' w' E' g1 ⟨g2, g3, q, g4, g5, g6⟩ => hk a' w' E' g1 ⟨g2, gup x.2 (i + 1) (sh q), ⟨?_, fun j hj => if_neg hj⟩, _, g4, q, if_pos rfl, rfl⟩
     refine rh_row (rw := none) ⟨⟨g3.os, g3.tape.eq, g3.output, g3.size, fun b hb _ => g3.block b hb⟩, g3.tape.le⟩ (fun b hb => by cases hb) k4 hpr hici (fun j hj hcj hjc => ?_) (fun j hj hcj => a1 j hj (hcj.trans hchi)) (fun b hb => .inr (g5 b hb)) k5 (lift q w' g6)
     rcases hic j hjc with ⟨p1, g', h5, h6, _⟩ | ⟨c', hc', e⟩
     ·rw [hcj, hchi, hpc] at h5
      obtain rfl := Option.some.inj h5
      cases h6
     ·have := (hc c' hc').1; omega
    | slot g dp sh0 =>
     obtain ⟨h5, h6⟩ : (xQ ops o).any (Nat.beq dp) = true ∧ CkA P r N ops S o (dr ++ Γ) (fun E v => get E dp = some v) (fun v ob => ∃ a, (v, ob) = sh0 a) sh := h1
     have hm : dp ∈ xQ ops o := by
      obtain ⟨s, h7, h8⟩ := List.any_eq_true.1 h5
      obtain rfl := Nat.eq_of_beq_eq_true h8
      exact h7
     obtain ⟨v, h7, q, h8, h9⟩ := hV dp (by simpa using hm) _ (hp c _ hpc).1.2
     refine chg (sh0 q).1 (sh0 q).2 g rfl h8 fun r1 r2 => h6 _ D F' x.1 d _ _ ho hdN k2 (by simpa using hF') (show get F' dp = some (sh0 q).1 by rw [h7, h9]) ⟨q, rfl⟩ r1 r2
    | st g d2 sh2 g1 sh0 => exact (show False from h1).elim
    | val v0 o0 =>
     have h6 : CkA P r N ops S o (dr ++ Γ) (fun _ v => v = v0) (fun v ob => v = v0 ∧ ob = o0) sh := h1
     have h8 : x.2 0 = some (v0, o0) := hr.mon 0 _ (hp c _ hpc).1
     exact chg v0 o0 0 rfl h8 fun r1 r2 => h6 _ D F' x.1 d v0 o0 ho hdN k2 (by simpa using hF') rfl ⟨rfl, rfl⟩ r1 r2
   ·unfold fO
    rw [ho]
    refine cF (fun Γ1 ⟨dr', p', g1, g2, g3, g4, g5, g6⟩ => ⟨dr', p', g1, g2, g3, g4, fun s hs => ?_, g6⟩) h3
    have := g5 s hs
    simp only [List.mem_append, List.filterMap_cons, ho, List.mem_cons] at this ⊢
    rcases this with c | c
    ·exact .inl (.inr c)
    ·exact .inr c
  ·obtain ⟨_, hici, hsld, hchi⟩ := hc (i, dd, c) (by simp)
   have hchi : ch (i + 1) = c := hchi
   have hlt : ∀ c' ∈ cs', i < c'.1 ∧ dd ≠ c'.2.1 := fun c' hc' => (List.pairwise_cons.1 hcs).1 c' hc'
   have hcl : c < ps.length := (List.getElem?_eq_some_iff.1 hpc).1
   obtain ⟨h0, h1⟩ := h1
   have hpg := hp c _ hpc
   have h3 := tdc_drs hT hG hok hI hn hsl l (i + 1) (ps.set c (.st (i + 1) dp sh g sh0)) cs' dr Γ0 hN.2 hk1 h2 hR hd (fun j o' d' hj hd' hs' => by
     obtain ⟨c2, h4⟩ := hdst (j + 1) o' d' (by simpa using hj) hd' hs'
     rw [show i + 1 + j = i + (j + 1) by omega]
     rcases List.mem_cons.1 h4 with e | e
     ·have := (Prod.mk.inj e).1; omega
     ·exact ⟨c2, e⟩) (List.pairwise_cons.1 hcs).2 (fun c' hc' => ⟨(hlt c' hc').1, (hc c' (by simp [hc'])).2⟩) (fun j hj => by
     rcases hic j hj with ⟨p1, g', h5, h6, h7⟩ | ⟨c', hc', e⟩
     ·by_cases e : ch j = c
      ·exact .inl ⟨_, i + 1, by rw [e, List.getElem?_set_self hcl], rfl, by have := (hpi _ _ _ h5 h6).1; omega⟩
      ·exact .inl ⟨p1, g', by rw [List.getElem?_set_ne (fun e2 => e e2.symm)]; exact h5, h6, h7⟩
     ·rcases List.mem_cons.1 hc' with rfl | hc'
      ·exact .inl ⟨_, i + 1, by rw [e, hchi, List.getElem?_set_self hcl], rfl, by rw [e]; exact Nat.le_refl _⟩
      ·exact .inr ⟨c', hc', e⟩) (fun c' p1 g' h5 h6 => by
     by_cases e : c = c'
     ·subst e
      rw [List.getElem?_set_self hcl] at h5
      obtain rfl := Option.some.inj h5
      obtain rfl := Option.some.inj h6
      exact ⟨Nat.le_refl _, hchi⟩
     ·rw [List.getElem?_set_ne e] at h5
      exact ⟨Nat.le_succ_of_le (hpi _ _ _ h5 h6).1, (hpi _ _ _ h5 h6).2⟩) (fun c' p1 h5 => by
     by_cases e : c = c'
     ·subst e
      rw [List.getElem?_set_self hcl] at h5
      obtain rfl := Option.some.inj h5
      exact ⟨⟨hpg.1.1, hpg.1.2, fun a => (h0 a).1, fun x hx => by rw [hQe] at hx; exact hx⟩, fun d' hd' c2 hc2 => hpg.2 d' hd' c2 (by simp [hc2])⟩
     ·rw [List.getElem?_set_ne e] at h5
      have h6 := hp c' p1 h5
      exact ⟨h6.1, fun d' hd' c2 hc2 => h6.2 d' hd' c2 (by simp [hc2])⟩)
   refine ⟨fun _ _ => True, ?_, ?_⟩
   ·unfold dT
    rw [ho]
    refine ⟨_, _, by rw [hke]; rfl, fun x hr hpr => ?_⟩
    obtain ⟨k1, k2, k3, k4, k5⟩ := hx x hr
    have hpr : x.2 (i + 1) = none := hpr
    refine eB hR (fun s hs => by rw [dJ, hd s hs]; exact hsl s hs) k1 _ _ [] (fun i hi => by simp at hi) (fun i hi => by simp at hi) fun F' hF' hV => ?_
    have hm : dp ∈ xQ ops o := by
     obtain ⟨s, h7, h8⟩ := List.any_eq_true.1 hsd
     obtain rfl := Nat.eq_of_beq_eq_true h8
     exact h7
    obtain ⟨v, h7, q, h8, h9⟩ := hV dp (by simpa using hm) _ hpg.1.2
    have hcg := (hpi _ _ _ hpc rfl).2
    have hfut : ∀ j, g < j → ch j = c → x.2 j = none := fun j hj hcj => by
     cases hxj : x.2 j with
     | none => rfl
     | some b =>
      rcases hic j (k3.dom j b hxj) with ⟨p1, g', h5, h6, h10⟩ | ⟨c', hc', e⟩
      ·rw [hcj, hpc] at h5
       obtain rfl := Option.some.inj h5
       have := Option.some.inj h6
       omega
      ·have := (hc c' hc').1
       rcases Nat.lt_or_ge (i + 1) j with c2 | c2
       ·exact absurd hpr (k3.cl j (i + 1) b c2 (hchi.trans hcj.symm) hici hxj)
       ·obtain rfl : j = i + 1 := by omega
        rw [hpr] at hxj; cases hxj
    have r1 := k3.row g _ h8 fun j hj hcj => hfut j hj (hcj.trans hcg)
    intro a Q2 ha hD hk
    refine h1 _ D F' x.1 q k2 (by simpa using hF') (by rw [h7, h9]) r1 (fun b hb => .inl ⟨g, _, h8, hb⟩) a Q2 ha hD fun a' w' E' g1 ⟨g2, g3, g6⟩ => hk a' w' E' g1 ⟨g2, gup x.2 (i + 1) (sh q), ⟨?_, fun j hj => if_neg hj⟩, by rw [hQe]; exact ⟨q, by (show gup x.2 (i + 1) (sh q) g = _); unfold gup; rw [if_neg (by have := (hpi _ _ _ hpc rfl).1; omega)]; exact h8, if_pos rfl⟩⟩
    ·have hmine : ∀ b, (sh0 q).2.bk = some b → ∃ j e, x.2 j = some e ∧ e.2.bk = some b ∧ ch j = ch (i + 1) := fun b hb => ⟨g, _, h8, hb, hcg.trans hchi.symm⟩
     refine rh_row g3 hmine k4 hpr hici (fun j hj hcj hjc => ?_) (fun j hj hcj => ?_) (fun b hb => .inl (hmine b ((h0 q).2.symm.trans hb))) k5 (Ow.ok_mono g6 (Cl.less fun b hb => ?_) fun _ _ _ => rfl)
     ·rcases hic j hjc with ⟨p1, g', h5, h6, h10⟩ | ⟨c', hc', e⟩
      ·rw [hcj, hchi, hpc] at h5
       obtain rfl := Option.some.inj h5
       obtain rfl : g = g' := Option.some.inj h6
       rcases Nat.lt_or_ge j g with c2 | c2
       ·exact k3.cl g j _ c2 ((hcj.trans hchi).trans hcg.symm) hjc h8
       ·obtain rfl : j = g := by omega
        rw [h8]; simp
      ·have := (hc c' hc').1; omega
     ·exact hfut j (by have := (hpi _ _ _ hpc rfl).1; omega) (hcj.trans hchi)
     ·rcases hb with ⟨j, f, h10, h11⟩ | f
      ·unfold gup at h10
       split at h10
       ·obtain rfl := Option.some.inj h10
        exact .inl ⟨g, _, h8, (h0 q).2.symm.trans h11⟩
       ·exact .inl ⟨j, f, h10, h11⟩
      ·exact .inr f
   ·unfold fO
    rw [ho]
    refine cF (fun Γ1 ⟨dr', p', g1, g2, g3, g4, g5, g6⟩ => ⟨dr', p', g1, g2, g3, g4, fun s hs => ?_, g6⟩) h3
    have := g5 s hs
    simp only [List.mem_append, List.filterMap_cons, ho] at this ⊢
    exact this
end
def lE (ops : Array Oper) (m k : Nat) (cs : List (Nat × Nat × Nat)) : Bool := decide (cs.Pairwise fun a b => a.1 < b.1 ∧ a.2.1 ≠ b.2.1) && cs.all (fun c => Nat.blt c.2.2 k) && (ops.toList.take m).zipIdx.all fun (o, j) => match o.dst with
 | some d => cs.all fun c => !Nat.beq c.2.1 d || Nat.beq c.1 j
 | none => true
def fK (cs : List (Nat × Nat × Nat)) (j : Nat) : Nat := match cs.find? (fun c => Nat.beq (c.1 + 1) j) with
 | some c => c.2.2
 | none => 0
theorem chOf_at : ∀ {cs : List (Nat × Nat × Nat)}, cs.Pairwise (fun a b => a.1 < b.1 ∧ a.2.1 ≠ b.2.1) → ∀ {c}, c ∈ cs → fK cs (c.1 + 1) = c.2.2
 | a :: cs, h, c, hc => by
  obtain ⟨h1, h2⟩ := List.pairwise_cons.1 h
  unfold fK
  rw [List.find?_cons]
  rcases List.mem_cons.1 hc with rfl | hc
  ·simp
  ·have hne : Nat.beq (a.1 + 1) (c.1 + 1) = false := by
    have := (h1 c hc).1
    cases hb : Nat.beq (a.1 + 1) (c.1 + 1) with
    | true => have := Nat.eq_of_beq_eq_true hb; omega
    | false => rfl
   simp only [hne]
   exact chOf_at h2 hc
section
variable {P : Program} {r : Option Nat} {N : Nat} {ops : Array Oper} {S S0 : List Ow} {X : Cx} {Γ : TE} {Kn Kr : TK} {Ke : Nat → TK} {rid : Nat} {k0 : Option Nat} {Q : World × Gh → Prop}
def lG (P : Program) (r : Option Nat) (N : Nat) (ops : Array Oper) (X : Cx) (Kn : TK) (m : Nat) : List Pv → TE → List Ow → Prop
 | [], Γ, S => TO P r N ops X Kn (ops.toList.drop m) Γ S
 | .slot _ d sh :: ps, Γ, S | .st _ d sh _ _ :: ps, Γ, S => ∀ a, lG P r N ops X Kn m ps ((d, True, exP (sh a).1) :: Γ) ((sh a).2 :: S)
 | _ :: _, _, _ => False
def accΓ : List (Nat × Value × Ow) → TE → TE
 | [], Γ => Γ
 | x :: os, Γ => accΓ os ((x.1, True, exP x.2.1) :: Γ)
def lF : List (Nat × Value × Ow) → List Ow → List Ow
 | [], S => S
 | x :: os, S => lF os (x.2.2 :: S)
theorem finM_os {m : Nat} {x2 : Gh} {E : Env} : ∀ {ps : List Pv} {c0 : Nat} {Γ : TE} {S : List Ow}, lG P r N ops X Kn m ps Γ S → (∀ (c : Nat) (p : Pv), ps[c]? = some p → match p with
  | .slot g d sh | .st g d sh _ _ => ∃ a, x2 g = some (sh a) ∧ get E d = some (sh a).1 ∧ True
  | _ => True) →
  ∃ os : List (Nat × Value × Ow), TO P r N ops X Kn (ops.toList.drop m) (accΓ os Γ) (lF os S) ∧ os.length = ps.length ∧ ∀ (c : Nat) (x : Nat × Value × Ow), os[c]? = some x → get E x.1 = some x.2.1 ∧ ∃ g p, ps[c]? = some p ∧ lL p = some g ∧ x2 g = some x.2
 | [], _, Γ, S, h, _ => ⟨[], h, rfl, fun c x hx => by simp at hx⟩
 | .non :: _, _, _, _, h, _ => h.elim
 | .val _ _ :: _, _, _, _, h, _ => h.elim
 | .slot g d sh :: ps, c0, Γ, S, h, hp | .st g d sh _ _ :: ps, c0, Γ, S, h, hp => by
  obtain ⟨a, h1, h2, _⟩ := hp 0 _ rfl
  obtain ⟨os, h3, h4, h5⟩ := finM_os (c0 := c0 + 1) (h a) fun c p hc => hp (c + 1) p (by simpa using hc)
  refine ⟨(d, sh a) :: os, h3, by simp [h4], fun c x hx => ?_⟩
  cases c with
  | zero => simp at hx; subst hx; exact ⟨h2, g, _, rfl, rfl, h1⟩
  | succ c =>
   obtain ⟨h6, g', p, h7, h8, h9⟩ := h5 c x (by simpa using hx)
   exact ⟨h6, g', p, by simpa using h7, h8, h9⟩
theorem mem_accS : ∀ {os : List (Nat × Value × Ow)} {S : List Ow} {o : Ow}, o ∈ lF os S ↔ (∃ x ∈ os, o = x.2.2) ∨ o ∈ S
 | [], S, o => by simp [lF]
 | x :: os, S, o => by
  unfold lF
  rw [mem_accS]
  simp only [List.mem_cons]
  constructor
  ·rintro (⟨y, h1, h2⟩ | h | h)
   ·exact .inl ⟨y, .inr h1, h2⟩
   ·exact .inl ⟨x, .inl rfl, h⟩
   ·exact .inr h
  ·rintro (⟨y, h1 | h1, h2⟩ | h)
   ·subst h1; exact .inr (.inl h2)
   ·exact .inl ⟨y, h1, h2⟩
   ·exact .inr (.inr h)
theorem apt_accS : ∀ {os : List (Nat × Value × Ow)} {S : List Ow}, Apt S → (∀ x ∈ os, ∀ b, x.2.2.bk = some b → ∀ p ∈ S, p.bk ≠ some b) → os.Pairwise (fun x y => ∀ b, x.2.2.bk = some b → y.2.2.bk ≠ some b) → Apt (lF os S)
 | [], _, h, _, _ => h
 | x :: os, S, h, h1, h2 => by
  obtain ⟨h3, h4⟩ := List.pairwise_cons.1 h2
  refine apt_accS (S := x.2.2 :: S) ⟨h1 x (by simp), h⟩ (fun y hy b hb p hp => ?_) h4
  rcases List.mem_cons.1 hp with rfl | hp
  ·exact fun e => h3 y hy b e hb
  ·exact h1 y (by simp [hy]) b hb p hp
theorem tm_accΓ {M : Nat → Prop} {E : Env} {w : World} : ∀ {os : List (Nat × Value × Ow)} {Γ : TE}, TM Γ M E w → (∀ x ∈ os, get E x.1 = some x.2.1) → TM (accΓ os Γ) M E w
 | [], _, h, _ => h
 | x :: os, Γ, h, h1 => tm_accΓ (os := os) (fun s q hq => by
  unfold tf at hq
  cases hb : Nat.beq x.1 s with
  | true =>
   rw [hb] at hq
   obtain rfl := Nat.eq_of_beq_eq_true hb
   obtain rfl := Option.some.inj hq
   exact ⟨fun _ => ⟨_, h1 x (by simp), rfl⟩, fun c => absurd trivial c⟩
  | false => rw [hb] at hq; exact h s q hq) fun y hy => h1 y (by simp [hy])
theorem t_drawG (m : Nat) (cs : List (Nat × Nat × Nat)) (g0 : Gh) (b0 : Option Nat) (ps0 : List Pv) (hcs : lE ops m ps0.length cs = true) (hda : (cs.all fun c => (tf Γ c.2.1).isNone) = true) (hm : P.follows .mixedOrders = true) (hlook : uO ops m = true) (hN : okN N ops.toList = true)
  (hg0 : ∀ i, g0 (i + 1) = none) (hp0 : ∀ (c : Nat) (p : Pv), ps0[c]? = some p → match p with | .non => True | .slot _ _ _ | .st _ _ _ _ _ => False | .val v o => g0 0 = some (v, o) ∧ c = 0)
  (hst : ∀ E w, St X Γ S0 E w → TM Γ (MH S X.M g0) E w ∧ Gd (MH S X.M g0) S w ∧ OkM (Mk S X.M) w ∧ GI w.heap.size b0 S X.M (fun j => lN ps0 (fK cs) j ∨ ∃ c ∈ cs, j = c.1 + 1) (fK cs) (w, g0) ∧ (∀ b, b0 = some b → X.w.heap.size ≤ b ∨ X.z b) ∧ (∀ b, gbk g0 b → X.w.heap.size ≤ b ∨ X.z b) ∧ Apt S ∧ (∀ o ∈ S, ∀ b, o.bk = some b → X.w.heap.size ≤ b ∨ X.z b))
  (hk : (match k0 with | none => true | some k => Nat.blt k m && (match ops[k]? with | some o => o.dst.isNone | none => false)) = true) (hQ : ∀ a b : World × Gh, (∀ j v, a.2 j = some v → b.2 j = some v) → Q a → Q b)
  (hQn : k0 = none → ∀ x, Q x) (h : TDC P r N ops S k0 Q (fun ps Γ' => lG P r N ops X Kn m ps Γ' S) (ops.toList.take m) 0 ps0 cs Γ) : TW P r N X (.region rid ops true) Kn Ke Kr Γ S0 := fun D E w hs => by
 obtain ⟨s1, s2, s3, s4, s5, s6, s7, s8⟩ := hst E w hs
 have hN1 : okN N (ops.toList.take m) = true := List.all_eq_true.2 fun o ho => List.all_eq_true.1 hN o (List.mem_of_mem_take ho)
 have hN2 : okN N (ops.toList.drop m) = true := List.all_eq_true.2 fun o ho => List.all_eq_true.1 hN o (List.mem_of_mem_drop ho)
 unfold lE at hcs
 simp only [Bool.and_eq_true, decide_eq_true_eq] at hcs
 obtain ⟨⟨hc1, hc2⟩, hc3⟩ := hcs
 have hsl : ∀ s, (∃ c ∈ cs, c.2.1 = s) → tf Γ s = none := fun s ⟨c, hc, e⟩ => by
  have := List.all_eq_true.1 hda c hc
  subst e; simpa using this
 have hch0 : fK cs 0 = 0 := by
  unfold fK
  have : cs.find? (fun c => Nat.beq (c.1 + 1) 0) = none := List.find?_eq_none.2 fun c _ => by
   have : Nat.beq (c.1 + 1) 0 = false := rfl
   simp
  rw [this]
 have h1 := tdc_drs (D := D) (sl := fun s => ∃ c ∈ cs, c.2.1 = s) s1 s2 s3 s4 (Nat.le_refl _) hsl (ops.toList.take m) 0 ps0 cs [] [] hN1 (fun j o hj e => by
   rw [e] at hk
   simp only [Nat.zero_add, Bool.and_eq_true, Nat.blt_eq] at hk
   have h2 : ops[j]? = some o := by rw [List.getElem?_take, if_pos hk.1] at hj; simpa using hj
   rw [h2] at hk
   simpa using hk.2) h (fun s _ => rfl) (fun s _ => rfl) (fun j o d hj hd ⟨c, hc, e⟩ => by
   have h2 := cJ hc3 hj
   simp only [hd] at h2
   have h3 := List.all_eq_true.1 h2 c hc
   rw [e] at h3
   have : c.1 = j := by simpa using h3
   exact ⟨c.2.2, by rw [Nat.zero_add, ← this, ← e]; exact hc⟩) hc1 (fun c hc => ⟨Nat.zero_le _, .inr ⟨c, hc, rfl⟩, ⟨c, hc, rfl⟩, chOf_at hc1 hc⟩) (fun j hj => hj) (fun c p g hp hg => by
   have h2 := hp0 c p hp
   cases p with
   | non => cases hg
   | slot _ _ _ => exact h2.elim
   | st _ _ _ _ _ => exact h2.elim
   | val v l => obtain rfl := Option.some.inj hg; exact ⟨Nat.le_refl _, by rw [hch0, h2.2]⟩) (fun c p hp => by
   have h2 := hp0 c p hp
   cases p with
   | non => exact ⟨trivial, fun d hd => hd.elim⟩
   | slot _ _ _ => exact h2.elim
   | st _ _ _ _ _ => exact h2.elim
   | val v l => exact ⟨h2.1, fun d hd => hd.elim⟩)
 refine wp_drawS (g0 := g0) (R := RH (GI w.heap.size b0 S X.M (fun j => lN ps0 (fK cs) j ∨ ∃ c ∈ cs, j = c.1 + 1) (fK cs))) (R' := fun i a b => RH (GI w.heap.size b0 S X.M (fun j => lN ps0 (fK cs) j ∨ ∃ c ∈ cs, j = c.1 + 1) (fK cs)) a b ∧ ∀ j, j ≠ i + 1 → b.2 j = a.2 j) (Pr := fun i x => x.2 (i + 1) = none) (st := k0.map fun k => (k, (fun x : World × Gh => x.2 (k + 1) = none), Q)) hm m (((ops.toList.take m).filterMap (·.dst)) ++ cs.map (·.2.1) ++ Γ.map (·.1)) (kE hlook) (fun _ _ _ h g => h.trans g) (fun _ _ _ h => h.1)
  (rh_pure (rb_drew _)) (fun k pre post e => by
   cases k0 with
   | none => cases e
   | some k' =>
    obtain ⟨rfl, e2⟩ := Prod.mk.inj (Option.some.inj e)
    obtain ⟨rfl, rfl⟩ := Prod.mk.inj e2
    simp only [Bool.and_eq_true, Nat.blt_eq] at hk
    refine ⟨hk.1, hg0 k', fun i a b hi hp ⟨_, h2⟩ => (h2 (k' + 1) (by omega)).trans hp, fun i a b hi hq ⟨h1, _⟩ => hQ a b (fun j v => h1.mon j v) hq, ?_⟩
    cases ho : ops[k']? with
    | some o => exact ⟨o, rfl⟩
    | none => rw [ho] at hk; cases hk.2) (fun i => hg0 i) (fun i j a b hij hp ⟨_, h2⟩ => (h2 (i + 1) (by omega)).trans hp) ?_
 refine cF (fun Γ1 ⟨dr', ps', hR, hd', hpast, hp', hkeys, hF⟩ => ?_) h1
 intro x hr hpo
 have hg := hr.inv s4
 refine eB hR (fun s hs => by rw [dJ, hd' s hs]; exact hsl s hs) (s1.mono hr.cl) _ _ [] (fun i hi => by simp at hi) (fun i hi => by simp at hi) fun F' hF' hV => ?_
 obtain ⟨os, q1, q2, q3⟩ := finM_os (x2 := x.2) (E := F') (c0 := 0) hF fun c p hc => by
  cases p with
  | non => trivial
  | val _ _ => trivial
  | st g d sh g1 sh0 =>
   obtain ⟨⟨⟨c2, h5, h6⟩, h7, h8, h9⟩, _⟩ := hp' c _ hc
   obtain ⟨v, hv1, a, hv2, hv3⟩ := hV d (by simp only [List.append_nil, List.mem_append]; exact .inl (.inr (List.mem_map.2 ⟨c2, h5, h6⟩))) _ h7
   have hq : Q x := by
    cases k0 with
    | none => exact hQn rfl x
    | some k => exact hpo k _ _ rfl
   obtain ⟨a', h10, h11⟩ := h9 x hq
   have e := Option.some.inj (hv2.symm.trans h10)
   exact ⟨a', h11, by rw [hv1, hv3, h8, e], trivial⟩
  | slot g d sh =>
   obtain ⟨⟨⟨c2, h5, h6⟩, h7⟩, _⟩ := hp' c _ hc
   obtain ⟨v, hv1, a, hv2, hv3⟩ := hV d (by simp only [List.append_nil, List.mem_append]; exact .inl (.inr (List.mem_map.2 ⟨c2, h5, h6⟩))) _ h7
   exact ⟨a, hv2, by rw [hv1, hv3], trivial⟩
 have q4 : ∀ y ∈ os, ∃ c g, os[c]? = some y ∧ x.2 g = some y.2 ∧ fK cs g = c ∧ get F' y.1 = some y.2.1 ∧ y.2.2.ok (MH S X.M x.2) x.1 := fun y hy => by
  obtain ⟨c, hc⟩ := List.mem_iff_getElem?.1 hy
  obtain ⟨h5, g, p, h6, h7, h8⟩ := q3 c y hc
  have h9 := (hp' c p h6).2 g h7
  refine ⟨c, g, hc, h8, h9, h5, hg.row g _ h8 fun j hj hcj => ?_⟩
  cases hxj : x.2 j with
  | none => rfl
  | some a =>
   obtain ⟨p2, g2, h10, h11, h12⟩ := hpast j (hg.dom j a hxj)
   rw [hcj, h9, h6] at h10
   obtain rfl := Option.some.inj h10
   have := Option.some.inj (h7.symm.trans h11)
   omega
 have hsub : ∀ b, Mk (lF os S) X.M b → MH S X.M x.2 b := fun b hb => by
  rcases hb with ⟨o, ho, e⟩ | hb
  ·rcases mem_accS.1 ho with ⟨y, hy, rfl⟩ | ho
   ·obtain ⟨c, g, _, h6, _⟩ := q4 y hy
    exact .inl ⟨g, _, h6, e⟩
   ·exact .inr (.inl ⟨o, ho, e⟩)
  ·exact .inr (.inr hb)
 have cl := Cl.less (w := x.1) hsub
 have hgb := hr.cl (S := S) (M := X.M)
 have hpw : os.Pairwise (fun y z => ∀ b, y.2.2.bk = some b → z.2.2.bk ≠ some b) := by
  refine List.pairwise_iff_getElem.2 fun i j hi hj hij b hb hb2 => ?_
  obtain ⟨h5, g, p, h6, h7, h8⟩ := q3 i _ (List.getElem?_eq_getElem hi)
  obtain ⟨h5', g', p', h6', h7', h8'⟩ := q3 j _ (List.getElem?_eq_getElem hj)
  have e1 := (hp' i p h6).2 g h7
  have e2 := (hp' j p' h6').2 g' h7'
  exact hg.dis g g' _ _ h8 h8' (by rw [e1, e2]; omega) b hb hb2
 refine q1 hN2 D F' x.1 ⟨⟨hr.os.trans hs.bel.os, hr.tape.trans hs.bel.tape, hr.output.trans hs.bel.output, Nat.le_trans hs.bel.size hr.size, fun b hb hz => ?_⟩, ⟨fun b hb => ?_, (s2.tab.cl hgb).cl cl, fun o ho => ?_⟩, fun o ho b hb => ?_, apt_accS s7 (fun y hy b hb p hp e => ?_) hpw, hs.ok0, hs.zm, tm_accΓ (fun s q hq => ?_) fun y hy => ?_⟩
 ·refine (hr.blk b (Nat.lt_of_lt_of_le hb hs.bel.size) fun c => ?_).trans (hs.bel.block b hb hz)
  exact (s6 b c).elim (fun c => by omega) hz
 ·rcases hsub b hb with ⟨j, a, h5, h6⟩ | h5
  ·exact (hg.lo j a h5 b h6).2.2
  ·exact Nat.lt_of_lt_of_le (s3 b h5) hr.size
 ·rcases mem_accS.1 ho with ⟨y, hy, rfl⟩ | ho
  ·obtain ⟨c, g, _, _, _, _, h9⟩ := q4 y hy
   exact Ow.ok_mono h9 cl fun _ _ _ => rfl
  ·refine Ow.ok_mono (Ow.ok_mono (s2.own o ho) hgb fun b hb hlt => hr.blk b hlt fun ⟨j, a, h5, h6⟩ => ?_) cl fun _ _ _ => rfl
   exact (s4.lo j a h5 b h6).1 (.inl ⟨o, ho, hb⟩)
 ·rcases mem_accS.1 ho with ⟨y, hy, rfl⟩ | ho
  ·obtain ⟨c, g, _, h6, _⟩ := q4 y hy
   rcases (hg.lo g _ h6 b hb).2.1 with h5 | h5
   ·exact .inl (Nat.le_trans hs.bel.size h5)
   ·exact s5 b h5
  ·exact s8 o ho b hb
 ·obtain ⟨c, g, _, h6, _⟩ := q4 y hy
  exact (hg.lo g _ h6 b hb).1 (.inl ⟨p, hp, e⟩)
 ·have h3 : tf (dr' ++ Γ) s = some q := hq
  refine (hF' s ?_ q h3).mono cl
  rw [dJ] at h3
  simp only [List.append_nil, List.mem_append]
  cases h4 : tf dr' s with
  | some Φ =>
   have := hkeys s (tf_mem h4)
   simp only [List.map_nil, List.append_nil] at this
   exact .inl (.inl this)
  | none => rw [h4] at h3; exact .inr (tf_mem h3)
 ·obtain ⟨c, g, _, _, _, h8, _⟩ := q4 y hy
  exact h8
end
end Go.SL
