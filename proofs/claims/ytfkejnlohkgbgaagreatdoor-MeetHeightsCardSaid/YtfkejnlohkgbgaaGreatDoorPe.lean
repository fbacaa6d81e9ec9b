/- Walks of the functions that the statement reaches, and the lemmas they stand on; no statement of the seat is proved here. -/
import Derived.Test.YtfkejnlohkgbgaaGreatDoorPd
set_option linter.unusedVariables false
set_option linter.unusedSimpArgs false
set_option maxRecDepth 100000
namespace Go.Proofs.YtfkejnlohkgbgaaGreatDoor
open Go.SL Go.RowKit Go.Proofs Tryz
variable {M : Nat → Prop} {w : World}
theorem meets_a {s t : P2 × P2} (h : 0 < cP (loP s t) (hiP s t)) : aA s t = noneM := if_pos h
theorem meets_b {sa sb ta tb : P2} (h : ¬ 0 < cP (loP (sa, sb) (ta, tb)) (hiP (sa, sb) (ta, tb))) (h4 : (qV (sa, sb) (loP (sa, sb) (ta, tb)) ∧ qV (ta, tb) (loP (sa, sb) (ta, tb)) ∧ qV (sa, sb) (hiP (sa, sb) (ta, tb)) ∧ qV (ta, tb) (hiP (sa, sb) (ta, tb)))) (hc : cP (loP (sa, sb) (ta, tb)) (hiP (sa, sb) (ta, tb)) = 0) : aA (sa, sb) (ta, tb) = (1, loP (sa, sb) (ta, tb), hiP (sa, sb) (ta, tb)) := by unfold aA; rw [if_neg h, if_pos h4, if_pos hc]
theorem meets_c {sa sb ta tb : P2} (h : ¬ 0 < cP (loP (sa, sb) (ta, tb)) (hiP (sa, sb) (ta, tb))) (h4 : (qV (sa, sb) (loP (sa, sb) (ta, tb)) ∧ qV (ta, tb) (loP (sa, sb) (ta, tb)) ∧ qV (sa, sb) (hiP (sa, sb) (ta, tb)) ∧ qV (ta, tb) (hiP (sa, sb) (ta, tb)))) (hc : ¬ cP (loP (sa, sb) (ta, tb)) (hiP (sa, sb) (ta, tb)) = 0) : aA (sa, sb) (ta, tb) = (2, loP (sa, sb) (ta, tb), hiP (sa, sb) (ta, tb)) := by unfold aA; rw [if_neg h, if_pos h4, if_neg hc]
theorem meets_d {sa sb ta tb : P2} (h : ¬ 0 < cP (loP (sa, sb) (ta, tb)) (hiP (sa, sb) (ta, tb))) (h4 : ¬ (qV (sa, sb) (loP (sa, sb) (ta, tb)) ∧ qV (ta, tb) (loP (sa, sb) (ta, tb)) ∧ qV (sa, sb) (hiP (sa, sb) (ta, tb)) ∧ qV (ta, tb) (hiP (sa, sb) (ta, tb)))) (hl : ¬ (kB sa sb ta tb ∧ uB (sa, sb) (qJ sa sb ta tb) ∧ uB (ta, tb) (qJ sa sb ta tb))) : aA (sa, sb) (ta, tb) = noneM := by unfold aA; rw [if_neg h, if_neg h4]; exact if_neg hl
theorem meets_e {sa sb ta tb : P2} (h : ¬ 0 < cP (loP (sa, sb) (ta, tb)) (hiP (sa, sb) (ta, tb))) (h4 : ¬ (qV (sa, sb) (loP (sa, sb) (ta, tb)) ∧ qV (ta, tb) (loP (sa, sb) (ta, tb)) ∧ qV (sa, sb) (hiP (sa, sb) (ta, tb)) ∧ qV (ta, tb) (hiP (sa, sb) (ta, tb)))) (hl : (kB sa sb ta tb ∧ uB (sa, sb) (qJ sa sb ta tb) ∧ uB (ta, tb) (qJ sa sb ta tb))) : aA (sa, sb) (ta, tb) = (1, qJ sa sb ta tb, qJ sa sb ta tb) := by unfold aA; rw [if_neg h, if_neg h4]; exact if_pos hl
theorem mmeets_c {sa : P2} {n0 : Nat} {xs0 xt0 : Bool} {xa0 xd0 xb0 xe0 : Value} {sb : P2} {n0b : Nat} {xs0b xt0b : Bool} {xa0b xd0b xb0b xe0b : Value} {ta : P2} {n1 : Nat} {xs1 xt1 : Bool} {xa1 xd1 xb1 xe1 : Value} {tb : P2} {n1b : Nat} {xs1b xt1b : Bool} {xa1b xd1b xb1b xe1b : Value} (hT : Tab M w) (h0 : PQ M w n0 sa xs0 xa0 xd0 xt0 xb0 xe0) (h0b : PQ M w n0b sb xs0b xa0b xd0b xt0b xb0b xe0b) (h1 : PQ M w n1 ta xs1 xa1 xd1 xt1 xb1 xe1) (h1b : PQ M w n1b tb xs1b xa1b xd1b xt1b xb1b xe1b) (hl0 : n0 ≤ 80) (hl0b : n0b ≤ 80) (hl1 : n1 ≤ 80) (hl1b : n1b ≤ 80) (hM : OkM M w) :
    CallsV prog 84 [.agg #[.bool xs0, xa0, xd0, .bool xt0, xb0, xe0, .bool xs0b, xa0b, xd0b, .bool xt0b, xb0b, xe0b], .agg #[.bool xs1, xa1, xd1, .bool xt1, xb1, xe1, .bool xs1b, xa1b, xd1b, .bool xt1b, xb1b, xe1b]] w fun r w' => Below w.heap.size w w' ∧ ∃ xsr xar xdr xtr xbr xer xsrb xarb xdrb xtrb xbrb xerb, r = .agg #[.int .i8 (aA (sa, sb) (ta, tb)).1, .bool xsr, xar, xdr, .bool xtr, xbr, xer, .bool xsrb, xarb, xdrb, .bool xtrb, xbrb, xerb] ∧ PC M w' (8 * (n0 + n0b + n1 + n1b) + 80) ((aA (sa, sb) (ta, tb)).2.1) xsr xar xdr xtr xbr xer ∧ PC M w' (8 * (n0 + n0b + n1 + n1b) + 80) ((aA (sa, sb) (ta, tb)).2.2) xsrb xarb xdrb xtrb xbrb xerb := by
 obtain ⟨Fz, hFz, hF, LL⟩ := fz0 M w
 obtain ⟨oxa0, oxd0, oxb0, oxe0, _⟩ := h0.one
 obtain ⟨oxa0b, oxd0b, oxb0b, oxe0b, _⟩ := h0b.one
 obtain ⟨oxa1, oxd1, oxb1, oxe1, _⟩ := h1.one
 obtain ⟨oxa1b, oxd1b, oxb1b, oxe1b, _⟩ := h1b.one
 have hM0 := hM
 refine zP func84 rfl ntmps84 rfl ?_
 refine zF (zC (yL rfl rfl (fun w1 b2 N2 => ?_)))
 obtain ⟨_, nF2, nM2, Lw1, B2⟩ := nza hF hM N2
 obtain ⟨LL, hM, hF, hT, h0, h0b, h1, h1b⟩ := up8 Lw1 LL hM hF hT h0 h0b h1 h1b
 refine yL rfl rfl (fun w2 b3 N3 => ?_)
 obtain ⟨hBw2, nF3, nM3, Lw2, B3⟩ := nza hF hM N3
 obtain ⟨B2, ne2_3⟩ := bn B2 N3
 obtain ⟨LL, hM, hF, hT, h0, h0b, h1, h1b⟩ := up8 Lw2 LL hM hF hT h0 h0b h1 h1b
 refine yJ rfl uW (fun w3 b4 N4 => ?_)
 obtain ⟨hBw3, nF4, nM4, Lw3, B4⟩ := nza hF hM N4
 obtain ⟨B2, ne2_4⟩ := bn B2 N4
 obtain ⟨B3, ne3_4⟩ := bn B3 N4
 obtain ⟨LL, hM, hF, hT, h0, h0b, h1, h1b⟩ := up8 Lw3 LL hM hF hT h0 h0b h1 h1b
 refine zA (zF ?_)
 refine SL.wp_drawS (R := Rg 4) (R' := Rh [(4, (.agg #[(.bool false), (.slice none 0 0), (.slice none 0 0), (.bool false), (.slice none 0 0), (.slice none 0 0)]), 39), (5, (.agg #[(.bool false), (.slice none 0 0), (.slice none 0 0), (.bool false), (.slice none 0 0), (.slice none 0 0)]), 39)] 4 6) (Pr := PrA) (st := some (6, fT 4 (.agg #[(.bool false), (.slice none 0 0), (.slice none 0 0), (.bool false), (.slice none 0 0), (.slice none 0 0)]) 39, fD 4 (fun b w => ∃ xs5 xa5 xd5 xt5 xb5 xe5, Blk w.1 b 39 [.bool xs5, xa5, xd5, .bool xt5, xb5, xe5] ∧ PQ (Mg (Ins b4 (Ins b3 (Ins b2 M))) w.2) w.1 (n0) (sa) xs5 xa5 xd5 xt5 xb5 xe5))) g0 jJ 7 [2, 3, 4, 5, 6, 14] (by decide +kernel) rg_trans fH (rg_drew _) (fun _ _ _ h => by cases h; exact ⟨by decide, preB0, preB_mono rfl, postB_mono (fun b x y hb ⟨xs5, xa5, xd5, xt5, xb5, xe5, B, h0⟩ hl r => ⟨xs5, xa5, xd5, xt5, xb5, xe5, B.below hl, h0.mono r.le⟩), _, rfl⟩) prA0 prA_mono ?_
 apply jK rfl
 ·intro xq hR hst hPr
  obtain ⟨wq, gq⟩ := xq
  refine gM rfl rfl ?_
  refine yT ?_; dsimp only
  have Lq : Le Fz (Ins b4 (Ins b3 (Ins b2 M))) w3 (Mg (Ins b4 (Ins b3 (Ins b2 M))) gq) wq := hR.le0
  exact zJ 0 rfl yu110 rfl rfl xG rfl rfl (zA ⟨rfl, gq, jO rfl rfl (Below.refl _ _), _, rfl, rfl⟩)
 apply jK rfl
 ·intro xq hR hst hPr
  obtain ⟨wq, gq⟩ := xq
  refine gJ rfl ?_
  refine yT ?_; dsimp only
  have Lq : Le Fz (Ins b4 (Ins b3 (Ins b2 M))) w3 (Mg (Ins b4 (Ins b3 (Ins b2 M))) gq) wq := hR.le0
  replace B2 := B2.rg hR
  exact zL rfl yZ xG rfl B2 rfl rfl (zA ⟨rfl, gq, jO rfl rfl (Below.refl _ _), _, rfl, rfl⟩)
 apply jK rfl
 ·intro xq hR hst hPr
  obtain ⟨wq, gq⟩ := xq
  refine gM rfl rfl ?_
  refine yT ?_; dsimp only
  have Lq : Le Fz (Ins b4 (Ins b3 (Ins b2 M))) w3 (Mg (Ins b4 (Ins b3 (Ins b2 M))) gq) wq := hR.le0
  exact zJ 6 rfl yu110 rfl rfl xG rfl rfl (zA ⟨rfl, gq, jO rfl rfl (Below.refl _ _), _, rfl, rfl⟩)
 apply jK rfl
 ·intro xq hR hst hPr
  obtain ⟨wq, gq⟩ := xq
  refine gJ rfl ?_
  refine yT ?_; dsimp only
  have Lq : Le Fz (Ins b4 (Ins b3 (Ins b2 M))) w3 (Mg (Ins b4 (Ins b3 (Ins b2 M))) gq) wq := hR.le0
  replace B2 := B2.rg hR
  exact zL rfl yZ xG rfl B2 rfl rfl (zA ⟨rfl, gq, jO rfl rfl (Below.refl _ _), _, rfl, rfl⟩)
 refine jB rfl (Pb 4) pb_mono (fun xq hR hst hPr => ?_) ?_
 ·obtain ⟨wq, gq⟩ := xq; refine yT ?_; dsimp only
  exact yJ rfl xG (fun w4 b5 N5 => (zA ⟨rfl, _, eO rfl hPr N5, _, rfl, pb_new⟩))
 refine jB rfl (Pz 4 5 (.agg #[(.bool false), (.slice none 0 0), (.slice none 0 0), (.bool false), (.slice none 0 0), (.slice none 0 0)]) 39) pz_mono (fun xq hR hst hPr => ?_) ?_
 ·obtain ⟨wq, gq⟩ := xq; refine yT ?_; dsimp only
  exact yJ rfl xG (fun w5 b6 N6 => (zA ⟨rfl, _, eO rfl hPr N6, _, rfl, pz_new rfl hR N6⟩))
 refine drsS_eff rfl (fun xq hR hpre => ?_) ?_
 ·obtain ⟨wq, gq⟩ := xq
  refine jX rfl (fun v5 hp5 => ?_)
  obtain ⟨b5, rfl, hg5⟩ := hp5; dsimp only at hg5
  refine gJ rfl ?_
  refine yT ?_; dsimp only
  have ge5 := hR.ge hg5
  have nF5 : ¬ Fz b5 := fun c => Nat.not_lt.2 ge5 (hF _ c)
  have nM5 : ¬ (Ins b4 (Ins b3 (Ins b2 M))) b5 := fun c => Nat.not_lt.2 ge5 (hM _ c)
  have ne2_5 : b2 ≠ b5 := by have := B2.lt; omega
  have ne3_5 : b3 ≠ b5 := by have := B3.lt; omega
  have ne4_5 : b4 ≠ b5 := by have := B4.lt; omega
  have Lq : Le Fz (Ins b4 (Ins b3 (Ins b2 M))) w3 (Ins b5 (Mg (Ins b4 (Ins b3 (Ins b2 M))) gq)) wq := hR.le0.trans (Le.less (Mg.ins hg5))
  replace h0 := h0.mono Lq
  have B5 := hpre b5 hg5; rw [aC] at B5
  refine zW rfl rfl xG B5 rfl rfl (zU rfl (zU (by first | rfl | assumption) (zU (by first | rfl | assumption) (zU rfl (zU (by first | rfl | assumption) (zU (by first | rfl | assumption) jC)))))) rfl (fun w6 Cw6 B5 => ?_)
  have Lw6 := Le.of_chg (M := (Ins b5 (Mg (Ins b4 (Ins b3 (Ins b2 M))) gq))) Cw6 zR nF5
  replace h0 := h0.mono Lw6
  exact zA ⟨rfl, gq, rh_chg rfl hg5 Cw6, b5, hg5, _, _, _, _, _, _, B5, (h0).mono (Fz := fun _ => False) (Le.less (fun k c => .inr c))⟩
 refine drsS_nil (fun xq hR hpost => ?_)
 obtain ⟨wq1, gq⟩ := xq
 refine gM rfl rfl ?_
 refine gM rfl rfl ?_
 refine gM rfl rfl ?_
 refine jX rfl (fun v5 hp5 => ?_)
 obtain ⟨b5, rfl, hg5⟩ := hp5; dsimp only at hg5
 refine jX rfl (fun v6 hp6 => ?_)
 obtain ⟨b6, rfl, hg6, hne6, B6⟩ := hp6; dsimp only at hg6 B6
 refine gJ rfl ?_
 refine yT ?_; dsimp only
 simp only [List.drop_succ_cons, List.drop_zero, List.drop_nil, List.toList_toArray]
 obtain ⟨bx, hgx, hQ⟩ := hpost _ _ _ rfl; dsimp only at hgx; obtain rfl : b5 = bx := by rw [hg5] at hgx; exact Option.some.inj hgx
 obtain ⟨xs5, xa5, xd5, xt5, xb5, xe5, B5, hn5⟩ := hQ; dsimp only at B5
 have ge5 := hR.ge hg5
 have nF5 : ¬ Fz b5 := fun c => Nat.not_lt.2 ge5 (hF _ c)
 have nM5 : ¬ (Ins b4 (Ins b3 (Ins b2 M))) b5 := fun c => Nat.not_lt.2 ge5 (hM _ c)
 have ne2_5 : b2 ≠ b5 := by have := B2.lt; omega
 have ne3_5 : b3 ≠ b5 := by have := B3.lt; omega
 have ne4_5 : b4 ≠ b5 := by have := B4.lt; omega
 have ge6 := hR.ge hg6
 have nF6 : ¬ Fz b6 := fun c => Nat.not_lt.2 ge6 (hF _ c)
 have nM6 : ¬ (Ins b4 (Ins b3 (Ins b2 M))) b6 := fun c => Nat.not_lt.2 ge6 (hM _ c)
 have ne2_6 : b2 ≠ b6 := by have := B2.lt; omega
 have ne3_6 : b3 ≠ b6 := by have := B3.lt; omega
 have ne4_6 : b4 ≠ b6 := by have := B4.lt; omega
 have ne5_6 : b5 ≠ b6 := hR.ne hg5 hg6 rfl
 have hsub : ∀ k, (Ins b6 (Ins b5 (Ins b4 (Ins b3 (Ins b2 M))))) k → Mg (Ins b4 (Ins b3 (Ins b2 M))) gq k := (dI (.inl ⟨_, hg6⟩) (dI (.inl ⟨_, hg5⟩) Mg.base))
 have Lq : Le Fz (Ins b4 (Ins b3 (Ins b2 M))) w3 (Ins b6 (Ins b5 (Ins b4 (Ins b3 (Ins b2 M))))) wq1 := hR.le0.trans (Le.less hsub)
 obtain ⟨LL, hM, hF, hT, h0, h0b, h1, h1b⟩ := up8 Lq LL hM hF hT h0 h0b h1 h1b
 replace B2 := B2.rg hR
 replace B3 := B3.rg hR
 replace B4 := B4.rg hR
 replace hn5 : _ := hn5.less hsub
 rw [aC] at B6
 obtain ⟨oxa5, oxd5, oxb5, oxe5, _⟩ := hn5.one
 refine zW rfl rfl xG B6 rfl rfl (zU rfl (zU (by first | rfl | assumption) (zU (by first | rfl | assumption) (zU rfl (zU (by first | rfl | assumption) (zU (by first | rfl | assumption) jC)))))) rfl (fun w7 Cw7 B6 => ?_)
 have Lw7 := Le.of_chg (M := (Ins b6 (Ins b5 (Ins b4 (Ins b3 (Ins b2 M)))))) Cw7 zR nF6
 obtain ⟨LL, hM, hF, hT, h0, h0b, h1, h1b, hn5⟩ := up9 Lw7 LL hM hF hT h0 h0b h1 h1b hn5
 replace B2 := B2.other Cw7 ne2_6
 replace B3 := B3.other Cw7 ne3_6
 replace B4 := B4.other Cw7 ne4_6
 replace B5 := B5.other Cw7 ne5_6
 refine zA (zF (zF (zC (zJ 0 rfl yu110 rfl rfl xG rfl rfl (zL rfl yZ xG rfl B3 rfl rfl (zL rfl yZ xG rfl B5 rfl rfl (zH rfl eB rfl rfl ?_)))))))
 refine (dS hT h1 hn5 (by omega) (by omega) hM).mono ?_
 rintro v18 w8 ⟨hB18, rfl⟩
 obtain ⟨LL, hM, hF, hT, h0, h0b, h1, h1b, hn5, B2, B3, B4, B5, B6⟩ := ub14 hB18 LL hM hF hT h0 h0b h1 h1b hn5 B2 B3 B4 B5 B6
 refine uD rfl rfl rfl (zA ?_)
 refine SL.wp_cutb (fun w9 => Le (NB w8 b5) (Ins b6 (Ins b5 (Ins b4 (Ins b3 (Ins b2 M))))) w8 (Ins b6 (Ins b5 (Ins b4 (Ins b3 (Ins b2 M))))) w9 ∧ ∃ xs5j xa5j xd5j xt5j xb5j xe5j, Blk w9 b5 39 [.bool xs5j, xa5j, xd5j, .bool xt5j, xb5j, xe5j] ∧ PQ (Ins b6 (Ins b5 (Ins b4 (Ins b3 (Ins b2 M))))) w9 (n0 + n0b + n1 + n1b) (loP (sa, sb) (ta, tb)) xs5j xa5j xd5j xt5j xb5j xe5j) [(2, _), (3, _), (4, _), (5, _), (6, _), (14, _), (15, _), (16, _), (17, _), (18, _), (19, _)] (zG rfl (zG rfl (zG rfl (zG rfl (zG rfl (zG rfl (zG rfl (zG rfl (zG rfl (zG rfl (zG rfl yM))))))))))) ?_ (fun w9 hJ => ?_)
 ·obtain ⟨Fz, hFz2⟩ : ∃ Fz : Nat → Prop, Fz = NB w8 b5 := ⟨_, rfl⟩
  have hF : FOk Fz w8 := by rw [hFz2]; exact bF
  have nF5 : ¬ Fz b5 := by rw [hFz2]; exact kG
  have LC0 := Le.refl Fz (Ins b6 (Ins b5 (Ins b4 (Ins b3 (Ins b2 M))))) w8
  refine yC rfl (fun hc0 => ?_) (fun hc0 => ?_)
  ·have hlo1 : loP (sa, sb) (ta, tb) = ta := if_pos hc0
   refine zC (zJ 0 rfl yu110 rfl rfl xG rfl rfl (zL rfl yZ xG rfl B3 rfl rfl (zW rfl rfl xG B5 rfl rfl (zU rfl (zU (by first | rfl | assumption) (zU (by first | rfl | assumption) (zU rfl (zU (by first | rfl | assumption) (zU (by first | rfl | assumption) jC)))))) rfl (fun w10 Cw10 B5 => ?_))))
   have Lw10 := Le.of_chg (M := (Ins b6 (Ins b5 (Ins b4 (Ins b3 (Ins b2 M)))))) Cw10 (.inr zR) nF5
   obtain ⟨LC0, h1⟩ := up2 Lw10 LC0 h1
   exact zA (⟨rfl, (zG rfl (zG rfl (zG rfl (zG rfl (zG rfl (zG rfl (zG rfl (zG rfl (zG rfl (zG rfl (zG rfl yM))))))))))), by rw [← hFz2]; exact LC0, _, _, _, _, _, _, B5, by rw [hlo1]; exact (h1).up (by omega)⟩)
  ·have hlo1 : loP (sa, sb) (ta, tb) = sa := if_neg hc0
   exact yO (⟨rfl, (zG rfl (zG rfl (zG rfl (zG rfl (zG rfl (zG rfl (zG rfl (zG rfl (zG rfl (zG rfl (zG rfl yM))))))))))), by rw [← hFz2]; exact LC0, _, _, _, _, _, _, B5, by rw [hlo1]; exact (hn5).up (by omega)⟩)
 obtain ⟨LC00, hJ⟩ := hJ; have LC0 := LC00.refz nF5
 obtain ⟨LL, hM, hF, hT, h0, h0b, h1, h1b⟩ := up8 LC0 LL hM hF hT h0 h0b h1 h1b
 replace B2 := B2.nb LC00 ne2_5
 replace B3 := B3.nb LC00 ne3_5
 replace B4 := B4.nb LC00 ne4_5
 replace B6 := B6.nb LC00 ne5_6.symm
 clear B5
 obtain ⟨xs5j, xa5j, xd5j, xt5j, xb5j, xe5j, B5, hnj5⟩ := hJ; obtain ⟨oxa5j, oxd5j, oxb5j, oxe5j, _⟩ := hnj5.one
 refine zF (zF (zC (zJ 6 rfl yu110 rfl rfl xG rfl rfl (zL rfl yZ xG rfl B3 rfl rfl (zL rfl yZ xG rfl B6 rfl rfl (zH rfl eB rfl rfl ?_))))))
 refine (dS hT h1b h0b (by omega) (by omega) hM).mono ?_
 rintro v25 w11 ⟨hB25, rfl⟩
 obtain ⟨LL, hM, hF, hT, h0, h0b, h1, h1b, hnj5, B2, B3, B4, B5, B6⟩ := ub14 hB25 LL hM hF hT h0 h0b h1 h1b hnj5 B2 B3 B4 B5 B6
 refine jR rfl rfl rfl (zA ?_)
 refine SL.wp_cutb (fun w12 => Le (NB w11 b6) (Ins b6 (Ins b5 (Ins b4 (Ins b3 (Ins b2 M))))) w11 (Ins b6 (Ins b5 (Ins b4 (Ins b3 (Ins b2 M))))) w12 ∧ ∃ xs6j xa6j xd6j xt6j xb6j xe6j, Blk w12 b6 39 [.bool xs6j, xa6j, xd6j, .bool xt6j, xb6j, xe6j] ∧ PQ (Ins b6 (Ins b5 (Ins b4 (Ins b3 (Ins b2 M))))) w12 (n0 + n0b + n1 + n1b) (hiP (sa, sb) (ta, tb)) xs6j xa6j xd6j xt6j xb6j xe6j) [(2, _), (3, _), (4, _), (5, _), (6, _), (14, _), (15, _), (16, _), (17, _), (18, _), (19, _), (22, _), (23, _), (24, _), (25, _), (26, _)] (zG rfl (zG rfl (zG rfl (zG rfl (zG rfl (zG rfl (zG rfl (zG rfl (zG rfl (zG rfl (zG rfl (zG rfl (zG rfl (zG rfl (zG rfl (zG rfl yM)))))))))))))))) ?_ (fun w12 hJ => ?_)
 ·obtain ⟨Fz, hFz2⟩ : ∃ Fz : Nat → Prop, Fz = NB w11 b6 := ⟨_, rfl⟩
  have hF : FOk Fz w11 := by rw [hFz2]; exact bF
  have nF6 : ¬ Fz b6 := by rw [hFz2]; exact kG
  have LC1 := Le.refl Fz (Ins b6 (Ins b5 (Ins b4 (Ins b3 (Ins b2 M))))) w11
  refine yC rfl (fun hc1 => ?_) (fun hc1 => ?_)
  ·have hhi1 : hiP (sa, sb) (ta, tb) = tb := if_pos hc1
   refine zC (zJ 6 rfl yu110 rfl rfl xG rfl rfl (zL rfl yZ xG rfl B3 rfl rfl (zW rfl rfl xG B6 rfl rfl (zU rfl (zU (by first | rfl | assumption) (zU (by first | rfl | assumption) (zU rfl (zU (by first | rfl | assumption) (zU (by first | rfl | assumption) jC)))))) rfl (fun w13 Cw13 B6 => ?_))))
   have Lw13 := Le.of_chg (M := (Ins b6 (Ins b5 (Ins b4 (Ins b3 (Ins b2 M)))))) Cw13 zR nF6
   obtain ⟨LC1, h1b⟩ := up2 Lw13 LC1 h1b
   exact zA (⟨rfl, (zG rfl (zG rfl (zG rfl (zG rfl (zG rfl (zG rfl (zG rfl (zG rfl (zG rfl (zG rfl (zG rfl (zG rfl (zG rfl (zG rfl (zG rfl (zG rfl yM)))))))))))))))), by rw [← hFz2]; exact LC1, _, _, _, _, _, _, B6, by rw [hhi1]; exact (h1b).up (by omega)⟩)
  ·have hhi1 : hiP (sa, sb) (ta, tb) = sb := if_neg hc1
   exact yO (⟨rfl, (zG rfl (zG rfl (zG rfl (zG rfl (zG rfl (zG rfl (zG rfl (zG rfl (zG rfl (zG rfl (zG rfl (zG rfl (zG rfl (zG rfl (zG rfl (zG rfl yM)))))))))))))))), by rw [← hFz2]; exact LC1, _, _, _, _, _, _, B6, by rw [hhi1]; exact (h0b).up (by omega)⟩)
 obtain ⟨LC10, hJ⟩ := hJ; have LC1 := LC10.refz nF6
 obtain ⟨LL, hM, hF, hT, h0, h0b, h1, h1b, hnj5⟩ := up9 LC1 LL hM hF hT h0 h0b h1 h1b hnj5
 replace B2 := B2.nb LC10 ne2_6
 replace B3 := B3.nb LC10 ne3_6
 replace B4 := B4.nb LC10 ne4_6
 replace B5 := B5.nb LC10 ne5_6
 clear B6
 obtain ⟨xs6j, xa6j, xd6j, xt6j, xb6j, xe6j, B6, hnj6⟩ := hJ; obtain ⟨oxa6j, oxd6j, oxb6j, oxe6j, _⟩ := hnj6.one
 refine zF (zC (zL rfl yZ xG rfl B5 rfl rfl (zL rfl yZ xG rfl B6 rfl rfl (zH rfl eB rfl rfl ?_))))
 refine (dS hT hnj5 hnj6 (by omega) (by omega) hM).mono ?_
 rintro v31 w14 ⟨hB31, rfl⟩
 obtain ⟨LL, hM, hF, hT, h0, h0b, h1, h1b, hnj5, hnj6, B2, B3, B4, B5, B6⟩ := ub15 hB31 LL hM hF hT h0 h0b h1 h1b hnj5 hnj6 B2 B3 B4 B5 B6
 refine zE rfl rfl (zA (zF (zF (zC (zB rfl rfl (uD rfl rfl rfl (zA ?_)))))))
 refine yC rfl (fun hc2 => ?_) (fun hc2 => ?_)
 ·refine zF (zC (zH rfl bod151 rfl rfl ?_))
  refine (mnone_c   hM).mono ?_
  rintro v34 w15 ⟨hB34, xs34, xa34, xd34, xt34, xb34, xe34, xs34b, xa34b, xd34b, xt34b, xb34b, xe34b, rfl, hn34, hnb34⟩
  obtain ⟨LL, B4⟩ := ub2 hB34 LL B4
  obtain ⟨oxa34, oxd34, oxb34, oxe34, _⟩ := hn34.one; obtain ⟨oxa34b, oxd34b, oxb34b, oxe34b, _⟩ := hnb34.one
  refine zW rfl rfl uW B4 rfl rfl (zU rfl (zU rfl (zU (by first | rfl | assumption) (zU (by first | rfl | assumption) (zU rfl (zU (by first | rfl | assumption) (zU (by first | rfl | assumption) (zU rfl (zU (by first | rfl | assumption) (zU (by first | rfl | assumption) (zU rfl (zU (by first | rfl | assumption) (zU (by first | rfl | assumption) jC))))))))))))) rfl (fun w16 Cw16 B4 => ?_)
  have Lw16 := Le.of_chg (M := (Ins b6 (Ins b5 (Ins b4 (Ins b3 (Ins b2 M)))))) Cw16 (.inr (.inr zR)) nF4
  obtain ⟨LL, hn34, hnb34⟩ := up3 Lw16 LL hn34 hnb34
  refine zA (zY ?_)
  refine zN ⟨[_], ⟨⟨_, rfl, yU aO uW B4 rfl rfl⟩, trivial⟩, ?_⟩
  dsimp only [zV]
  rw [meets_a hc2]
  subst hFz
  exact ⟨LL.below (Nat.le_refl _), _, _, _, _, _, _, _, _, _, _, _, _, rfl, (hn34.less (fun k c => zI (zI (zI (zI (zI c)))))).up (by omega), (hnb34.less (fun k c => zI (zI (zI (zI (zI c)))))).up (by omega)⟩
 ·refine yO (zF (zF ?_))
  refine SL.wp_cutw (fun w17 => Below w14.heap.size w14 w17) [(52, .bool (decide (qV (sa, sb) (loP (sa, sb) (ta, tb)) ∧ qV (ta, tb) (loP (sa, sb) (ta, tb)) ∧ qV (sa, sb) (hiP (sa, sb) (ta, tb)) ∧ qV (ta, tb) (hiP (sa, sb) (ta, tb)))))] [(2, _), (3, _), (4, _), (5, _), (6, _), (7, _), (14, _), (15, _), (16, _), (17, _), (18, _), (19, _), (22, _), (23, _), (24, _), (25, _), (26, _), (29, _), (30, _), (31, _), (32, _), (33, _)] (zG rfl (zG rfl (zG rfl (zG rfl (zG rfl (zG rfl (zG rfl (zG rfl (zG rfl (zG rfl (zG rfl (zG rfl (zG rfl (zG rfl (zG rfl (zG rfl (zG rfl (zG rfl (zG rfl (zG rfl (zG rfl (zG rfl yM)))))))))))))))))))))) ?_ (fun w17 hJ => ?_)
  ·obtain ⟨Fz, hFz2, hF⟩ : ∃ Fz : Nat → Prop, Fz = (· < w14.heap.size) ∧ FOk Fz w14 := ⟨_, rfl, fun _ h => h⟩
   have LC9 := Le.refl Fz (Ins b6 (Ins b5 (Ins b4 (Ins b3 (Ins b2 M))))) w14
   refine zC (zL rfl kR bJ rfl B2 rfl rfl (zL rfl yZ xG rfl B5 rfl rfl (zH rfl bod152 rfl rfl ?_)))
   refine (mhas_c hT h0 h0b hnj5 (by omega) (by omega) (by omega) hM).mono ?_
   rintro v37 w18 ⟨hB37, rfl⟩
   obtain ⟨LC9, hM, hT, h0, h0b, h1, h1b, hnj5, hnj6, B2, B3, B5, B6⟩ := fY hB37 LC9 hM hT h0 h0b h1 h1b hnj5 hnj6 B2 B3 B5 B6
   refine zB rfl rfl (gE (d := 38) rfl (fun hg9_3 => ?_) (fun hg9_3 => ?_))
   ·refine zQ rfl rfl (zL rfl kR bJ rfl B3 rfl rfl (zQ rfl rfl (zL rfl yZ xG rfl B5 rfl rfl (zQ rfl rfl (zH rfl bod152 rfl rfl ?_)))))
    refine (mhas_c hT h1 h1b hnj5 (by omega) (by omega) (by omega) hM).mono ?_
    rintro v41 w19 ⟨hB41, rfl⟩
    obtain ⟨LC9, hM, hT, h0, h0b, h1, h1b, hnj6, B2, B3, B6⟩ := fS hB41 LC9 hM hT h0 h0b h1 h1b hnj6 B2 B3 B6
    refine xB rfl rfl rfl (zB rfl rfl (gE (d := 43) rfl (fun hg9_8 => ?_) (fun hg9_8 => ?_)))
    ·refine zQ rfl rfl (zL rfl kR bJ rfl B2 rfl rfl (zQ rfl rfl (zL rfl yZ xG rfl B6 rfl rfl (zQ rfl rfl (zH rfl bod152 rfl rfl ?_)))))
     refine (mhas_c hT h0 h0b hnj6 (by omega) (by omega) (by omega) hM).mono ?_
     rintro v46 w20 ⟨hB46, rfl⟩
     obtain ⟨LC9, hM, hT, h1, h1b, hnj6, B3, B6⟩ := ub8 hB46 LC9 hM hT h1 h1b hnj6 B3 B6
     refine xB rfl rfl rfl (zB rfl rfl (gE (d := 48) rfl (fun hg9_13 => ?_) (fun hg9_13 => ?_)))
     ·refine zQ rfl rfl (zL rfl kR bJ rfl B3 rfl rfl (zQ rfl rfl (zL rfl yZ xG rfl B6 rfl rfl (zQ rfl rfl (zH rfl bod152 rfl rfl ?_)))))
      refine (mhas_c hT h1 h1b hnj6 (by omega) (by omega) (by omega) hM).mono ?_
      rintro v51 w21 ⟨hB51, rfl⟩
      replace LC9 := ub1 hB51 LC9
      exact xB rfl rfl rfl (zA (⟨rfl, yB rfl (by congr 1; rw [decide_eq_decide]; exact ⟨fun c => ⟨hg9_3, hg9_8, hg9_13, c⟩, fun c => c.2.2.2⟩) (zG rfl (zG rfl (zG rfl (zG rfl (zG rfl (zG rfl (zG rfl (zG rfl (zG rfl (zG rfl (zG rfl (zG rfl (zG rfl (zG rfl (zG rfl (zG rfl (zG rfl (zG rfl (zG rfl (zG rfl (zG rfl (zG rfl yM)))))))))))))))))))))), by subst hFz2; exact LC9.below (Nat.le_refl _)⟩))
     ·exact zT rfl rfl rfl rfl (zT rfl rfl rfl rfl (zT rfl rfl rfl rfl (xB rfl rfl rfl (zA (⟨rfl, yB rfl (by rw [decide_eq_false fun c : (qV (sa, sb) (loP (sa, sb) (ta, tb)) ∧ qV (ta, tb) (loP (sa, sb) (ta, tb)) ∧ qV (sa, sb) (hiP (sa, sb) (ta, tb)) ∧ qV (ta, tb) (hiP (sa, sb) (ta, tb))) => hg9_13 c.2.2.1]) (zG rfl (zG rfl (zG rfl (zG rfl (zG rfl (zG rfl (zG rfl (zG rfl (zG rfl (zG rfl (zG rfl (zG rfl (zG rfl (zG rfl (zG rfl (zG rfl (zG rfl (zG rfl (zG rfl (zG rfl (zG rfl (zG rfl yM)))))))))))))))))))))), by subst hFz2; exact LC9.below (Nat.le_refl _)⟩)))))
    ·exact zT rfl rfl rfl rfl (zT rfl rfl rfl rfl (zT rfl rfl rfl rfl (xB rfl rfl rfl (zB rfl rfl (zT rfl rfl rfl rfl (zT rfl rfl rfl rfl (zT rfl rfl rfl rfl (xB rfl rfl rfl (zA (⟨rfl, yB rfl (by rw [decide_eq_false fun c : (qV (sa, sb) (loP (sa, sb) (ta, tb)) ∧ qV (ta, tb) (loP (sa, sb) (ta, tb)) ∧ qV (sa, sb) (hiP (sa, sb) (ta, tb)) ∧ qV (ta, tb) (hiP (sa, sb) (ta, tb))) => hg9_8 c.2.1]) (zG rfl (zG rfl (zG rfl (zG rfl (zG rfl (zG rfl (zG rfl (zG rfl (zG rfl (zG rfl (zG rfl (zG rfl (zG rfl (zG rfl (zG rfl (zG rfl (zG rfl (zG rfl (zG rfl (zG rfl (zG rfl (zG rfl yM)))))))))))))))))))))), by subst hFz2; exact LC9.below (Nat.le_refl _)⟩))))))))))
   ·exact zT rfl rfl rfl rfl (zT rfl rfl rfl rfl (zT rfl rfl rfl rfl (xB rfl rfl rfl (zB rfl rfl (zT rfl rfl rfl rfl (zT rfl rfl rfl rfl (zT rfl rfl rfl rfl (xB rfl rfl rfl (zB rfl rfl (zT rfl rfl rfl rfl (zT rfl rfl rfl rfl (zT rfl rfl rfl rfl (xB rfl rfl rfl (zA (⟨rfl, yB rfl (by rw [decide_eq_false fun c : (qV (sa, sb) (loP (sa, sb) (ta, tb)) ∧ qV (ta, tb) (loP (sa, sb) (ta, tb)) ∧ qV (sa, sb) (hiP (sa, sb) (ta, tb)) ∧ qV (ta, tb) (hiP (sa, sb) (ta, tb))) => hg9_3 c.1]) (zG rfl (zG rfl (zG rfl (zG rfl (zG rfl (zG rfl (zG rfl (zG rfl (zG rfl (zG rfl (zG rfl (zG rfl (zG rfl (zG rfl (zG rfl (zG rfl (zG rfl (zG rfl (zG rfl (zG rfl (zG rfl (zG rfl yM)))))))))))))))))))))), by subst hFz2; exact LC9.below (Nat.le_refl _)⟩)))))))))))))))
  obtain ⟨LL, hM, hF, hT, h0, h0b, h1, h1b, hnj5, hnj6, B2, B3, B4, B5, B6⟩ := ub15 hJ LL hM hF hT h0 h0b h1 h1b hnj5 hnj6 B2 B3 B4 B5 B6
  refine yC rfl (fun hc3 => ?_) (fun hc3 => ?_)
  ·refine zF (zC (zL rfl yZ xG rfl B5 rfl rfl (zL rfl yZ xG rfl B6 rfl rfl (xI rfl yu63 xG rfl rfl rfl rfl (zZ rfl (zZ rfl xF)) rfl rfl rfl (fun w22 b55 N55 => ?_)))))
   have hBw22 := N55.below
   have nM55 := hM.new N55
   have B55 := N55.blk
   obtain ⟨LL, hM, hT, h0, hnj5, hnj6, B4⟩ := ub7 hBw22 LL hM hT h0 hnj5 hnj6 B4
   refine zH rfl bod153 rfl rfl ?_
   refine (vnorm_c hT (pl2 ((KBlk.mk B55 nM55)) hnj5 hnj6) (by omega) (by first | omega | simp) hM).mono ?_
   rintro v56 w23 ⟨hB56, xa56, rfl, hn56⟩
   obtain ⟨LL, h0, B4⟩ := ub3 hB56 LL h0 B4
   obtain ⟨oxa56, _⟩ := hn56.one
   refine zE rfl rfl (zA (zF (zF (zC (zB rfl rfl (gI rfl rfl rfl (zA ?_)))))))
   refine yC rfl (fun hc4 => ?_) (fun hc4 => ?_)
   ·refine zF ?_
    refine xL (R := Rb) (R' := Rb) (st := none) jJ 6 [2, 3, 4, 8, 61, 64] (by decide +kernel) xJ xU (xS _) (fun _ _ _ h => by cases h) ?_
    refine zX (fun v w => ∃ xa59, v = xa59 ∧ PLc (Ins b6 (Ins b5 (Ins b4 (Ins b3 (Ins b2 M))))) w ((max ((n0 + n0b + n1 + n1b)) (n0 + n0b + n1 + n1b)) + 1) (([loP (sa, sb) (ta, tb), hiP (sa, sb) (ta, tb)])) xa59) (fun _ _ _ ⟨xa59, e, h0⟩ r => ⟨xa59, e, h0.mono (Fz := fun _ => False) (Le.of_below r)⟩) (fun wq hR hst => ?_) ?_
    ·refine zO rfl rfl (zD ?_)
     replace hn56 := ub1 hR hn56
     exact zB rfl rfl (zA ⟨rfl, yP _, _, rfl, ⟨_, rfl, hn56⟩⟩)
    refine zX (fun v w => ∃ b o xs60 xa60 xd60 xt60 xb60 xe60, v = .pointer (some ⟨b, o, none⟩) ∧ (∀ (q : Nat) (u : Value), [.bool xs60, xa60, xd60, .bool xt60, xb60, xe60][q]? = some u → w.cell? ⟨b, o + q, none⟩ = some u) ∧ PC (Ins b6 (Ins b5 (Ins b4 (Ins b3 (Ins b2 M))))) w ((max ((n0 + n0b + n1 + n1b)) (n0 + n0b + n1 + n1b)) + 1) ((([loP (sa, sb) (ta, tb), hiP (sa, sb) (ta, tb)])).getD 0 (0, 0)) xs60 xa60 xd60 xt60 xb60 xe60) (fun _ _ _ ⟨b, o, xs60, xa60, xd60, xt60, xb60, xe60, e, hc, h⟩ r => ⟨b, o, xs60, xa60, xd60, xt60, xb60, xe60, e, fun q u hq => jI r (hc q u hq), h.mono (Fz := fun _ => False) (Le.of_below r)⟩) (fun wq hR hst => ?_) ?_
    ·refine yE rfl (fun v59 hp59 => ?_)
     obtain ⟨xa59, rfl, hn59⟩ := hp59
     refine zD ?_
     refine gZ (dflt := ((0, 0) : P2)) (0) rfl yu63 xG rfl rfl hn59.row (by first | rfl | omega) (by first | omega | (simp; omega) | simp) (fun b60 o60 us60 hul60 hu60 hc60 => ?_)
     obtain ⟨xs60, xa60, xd60, xt60, xb60, xe60, rfl, hn60⟩ := hu60
     exact zA ⟨rfl, yP _, _, rfl, ⟨b60, o60, _, _, _, _, _, _, rfl, hc60, hn60⟩⟩
    refine zX (vPC (Ins b6 (Ins b5 (Ins b4 (Ins b3 (Ins b2 M))))) ((max ((n0 + n0b + n1 + n1b)) (n0 + n0b + n1 + n1b)) + 1) ((([loP (sa, sb) (ta, tb), hiP (sa, sb) (ta, tb)])).getD 0 (0, 0))) bA (fun wq hR hst => ?_) ?_
    ·refine yE rfl (fun v60 hp60 => ?_)
     obtain ⟨b60, o60, xs60, xa60, xd60, xt60, xb60, xe60, rfl, hc60, hn60⟩ := hp60
     refine zD ?_
     exact qN rfl yZ xG rfl hc60 rfl (zA ⟨rfl, yP _, _, rfl, ⟨_, _, _, _, _, _, rfl, hn60⟩⟩)
    refine zX (fun v w => ∃ xa62, v = xa62 ∧ PLc (Ins b6 (Ins b5 (Ins b4 (Ins b3 (Ins b2 M))))) w ((max ((n0 + n0b + n1 + n1b)) (n0 + n0b + n1 + n1b)) + 1) (([loP (sa, sb) (ta, tb), hiP (sa, sb) (ta, tb)])) xa62) (fun _ _ _ ⟨xa62, e, h0⟩ r => ⟨xa62, e, h0.mono (Fz := fun _ => False) (Le.of_below r)⟩) (fun wq hR hst => ?_) ?_
    ·refine zO rfl rfl (zD ?_)
     replace hn56 := ub1 hR hn56
     exact zB rfl rfl (zA ⟨rfl, yP _, _, rfl, ⟨_, rfl, hn56⟩⟩)
    refine zX (fun v w => ∃ b o xs63 xa63 xd63 xt63 xb63 xe63, v = .pointer (some ⟨b, o, none⟩) ∧ (∀ (q : Nat) (u : Value), [.bool xs63, xa63, xd63, .bool xt63, xb63, xe63][q]? = some u → w.cell? ⟨b, o + q, none⟩ = some u) ∧ PC (Ins b6 (Ins b5 (Ins b4 (Ins b3 (Ins b2 M))))) w ((max ((n0 + n0b + n1 + n1b)) (n0 + n0b + n1 + n1b)) + 1) ((([loP (sa, sb) (ta, tb), hiP (sa, sb) (ta, tb)])).getD 1 (0, 0)) xs63 xa63 xd63 xt63 xb63 xe63) (fun _ _ _ ⟨b, o, xs63, xa63, xd63, xt63, xb63, xe63, e, hc, h⟩ r => ⟨b, o, xs63, xa63, xd63, xt63, xb63, xe63, e, fun q u hq => jI r (hc q u hq), h.mono (Fz := fun _ => False) (Le.of_below r)⟩) (fun wq hR hst => ?_) ?_
    ·refine yE rfl (fun v62 hp62 => ?_)
     obtain ⟨xa62, rfl, hn62⟩ := hp62
     refine zD ?_
     refine gZ (dflt := ((0, 0) : P2)) (1) rfl yu63 xG rfl rfl hn62.row (by first | rfl | omega) (by first | omega | (simp; omega) | simp) (fun b63 o63 us63 hul63 hu63 hc63 => ?_)
     obtain ⟨xs63, xa63, xd63, xt63, xb63, xe63, rfl, hn63⟩ := hu63
     exact zA ⟨rfl, yP _, _, rfl, ⟨b63, o63, _, _, _, _, _, _, rfl, hc63, hn63⟩⟩
    refine zX (vPC (Ins b6 (Ins b5 (Ins b4 (Ins b3 (Ins b2 M))))) ((max ((n0 + n0b + n1 + n1b)) (n0 + n0b + n1 + n1b)) + 1) ((([loP (sa, sb) (ta, tb), hiP (sa, sb) (ta, tb)])).getD 1 (0, 0))) bA (fun wq hR hst => ?_) ?_
    ·refine yE rfl (fun v63 hp63 => ?_)
     obtain ⟨b63, o63, xs63, xa63, xd63, xt63, xb63, xe63, rfl, hc63, hn63⟩ := hp63
     refine zD ?_
     exact qN rfl yZ xG rfl hc63 rfl (zA ⟨rfl, yP _, _, rfl, ⟨_, _, _, _, _, _, rfl, hn63⟩⟩)
    refine xM (fun wq12 hR12 hpost12 => ?_)
    refine zO rfl rfl (zO rfl rfl (zO rfl rfl (zO rfl rfl (yE rfl (fun v61 hp61 => ?_)))))
    obtain ⟨xs61, xa61, xd61, xt61, xb61, xe61, rfl, hn61⟩ := hp61; obtain ⟨oxa61, oxd61, oxb61, oxe61, _⟩ := hn61.one
    refine yE rfl (fun v64 hp64 => ?_)
    obtain ⟨xs64, xa64, xd64, xt64, xb64, xe64, rfl, hn64⟩ := hp64; obtain ⟨oxa64, oxd64, oxb64, oxe64, _⟩ := hn64.one
    refine zD ?_
    simp only [List.drop_succ_cons, List.drop_zero, List.drop_nil, List.toList_toArray]
    obtain ⟨LL, B4⟩ := ub2 hR12 LL B4
    refine xP rfl eQ rfl rfl (zZ (gN rfl) (zZ (rfl) (zZ (rfl) xF))) rfl (zW rfl rfl uW B4 rfl rfl (zU rfl (zU rfl (zU (by first | rfl | assumption) (zU (by first | rfl | assumption) (zU rfl (zU (by first | rfl | assumption) (zU (by first | rfl | assumption) (zU rfl (zU (by first | rfl | assumption) (zU (by first | rfl | assumption) (zU rfl (zU (by first | rfl | assumption) (zU (by first | rfl | assumption) jC))))))))))))) rfl (fun w24 Cw24 B4 => ?_))
    have Lw24 := Le.of_chg (M := (Ins b6 (Ins b5 (Ins b4 (Ins b3 (Ins b2 M)))))) Cw24 (.inr (.inr zR)) nF4
    obtain ⟨LL, hn61, hn64⟩ := up3 Lw24 LL hn61 hn64
    refine zA (zY ?_)
    refine zN ⟨[_], ⟨⟨_, rfl, yU aO uW B4 rfl rfl⟩, trivial⟩, ?_⟩
    dsimp only [zV]
    rw [meets_b hc2 hc3 hc4]
    subst hFz
    exact ⟨LL.below (Nat.le_refl _), _, _, _, _, _, _, _, _, _, _, _, _, rfl, (hn61.less (fun k c => zI (zI (zI (zI (zI c)))))).up (by omega), (hn64.less (fun k c => zI (zI (zI (zI (zI c)))))).up (by omega)⟩
   ·refine yO (zF ?_)
    refine xL (R := Rb) (R' := Rb) (st := none) jJ 6 [2, 3, 4, 68, 71] (by decide +kernel) xJ xU (xS _) (fun _ _ _ h => by cases h) ?_
    refine zX (fun v w => ∃ xa66, v = xa66 ∧ PLc (Ins b6 (Ins b5 (Ins b4 (Ins b3 (Ins b2 M))))) w ((max ((n0 + n0b + n1 + n1b)) (n0 + n0b + n1 + n1b)) + 1) (([loP (sa, sb) (ta, tb), hiP (sa, sb) (ta, tb)])) xa66) (fun _ _ _ ⟨xa66, e, h0⟩ r => ⟨xa66, e, h0.mono (Fz := fun _ => False) (Le.of_below r)⟩) (fun wq hR hst => ?_) ?_
    ·refine zO rfl rfl (zD ?_)
     replace hn56 := ub1 hR hn56
     exact zB rfl rfl (zA ⟨rfl, yP _, _, rfl, ⟨_, rfl, hn56⟩⟩)
    refine zX (fun v w => ∃ b o xs67 xa67 xd67 xt67 xb67 xe67, v = .pointer (some ⟨b, o, none⟩) ∧ (∀ (q : Nat) (u : Value), [.bool xs67, xa67, xd67, .bool xt67, xb67, xe67][q]? = some u → w.cell? ⟨b, o + q, none⟩ = some u) ∧ PC (Ins b6 (Ins b5 (Ins b4 (Ins b3 (Ins b2 M))))) w ((max ((n0 + n0b + n1 + n1b)) (n0 + n0b + n1 + n1b)) + 1) ((([loP (sa, sb) (ta, tb), hiP (sa, sb) (ta, tb)])).getD 0 (0, 0)) xs67 xa67 xd67 xt67 xb67 xe67) (fun _ _ _ ⟨b, o, xs67, xa67, xd67, xt67, xb67, xe67, e, hc, h⟩ r => ⟨b, o, xs67, xa67, xd67, xt67, xb67, xe67, e, fun q u hq => jI r (hc q u hq), h.mono (Fz := fun _ => False) (Le.of_below r)⟩) (fun wq hR hst => ?_) ?_
    ·refine yE rfl (fun v66 hp66 => ?_)
     obtain ⟨xa66, rfl, hn66⟩ := hp66
     refine zD ?_
     refine gZ (dflt := ((0, 0) : P2)) (0) rfl yu63 xG rfl rfl hn66.row (by first | rfl | omega) (by first | omega | (simp; omega) | simp) (fun b67 o67 us67 hul67 hu67 hc67 => ?_)
     obtain ⟨xs67, xa67, xd67, xt67, xb67, xe67, rfl, hn67⟩ := hu67
     exact zA ⟨rfl, yP _, _, rfl, ⟨b67, o67, _, _, _, _, _, _, rfl, hc67, hn67⟩⟩
    refine zX (vPC (Ins b6 (Ins b5 (Ins b4 (Ins b3 (Ins b2 M))))) ((max ((n0 + n0b + n1 + n1b)) (n0 + n0b + n1 + n1b)) + 1) ((([loP (sa, sb) (ta, tb), hiP (sa, sb) (ta, tb)])).getD 0 (0, 0))) bA (fun wq hR hst => ?_) ?_
    ·refine yE rfl (fun v67 hp67 => ?_)
     obtain ⟨b67, o67, xs67, xa67, xd67, xt67, xb67, xe67, rfl, hc67, hn67⟩ := hp67
     refine zD ?_
     exact qN rfl yZ xG rfl hc67 rfl (zA ⟨rfl, yP _, _, rfl, ⟨_, _, _, _, _, _, rfl, hn67⟩⟩)
    refine zX (fun v w => ∃ xa69, v = xa69 ∧ PLc (Ins b6 (Ins b5 (Ins b4 (Ins b3 (Ins b2 M))))) w ((max ((n0 + n0b + n1 + n1b)) (n0 + n0b + n1 + n1b)) + 1) (([loP (sa, sb) (ta, tb), hiP (sa, sb) (ta, tb)])) xa69) (fun _ _ _ ⟨xa69, e, h0⟩ r => ⟨xa69, e, h0.mono (Fz := fun _ => False) (Le.of_below r)⟩) (fun wq hR hst => ?_) ?_
    ·refine zO rfl rfl (zD ?_)
     replace hn56 := ub1 hR hn56
     exact zB rfl rfl (zA ⟨rfl, yP _, _, rfl, ⟨_, rfl, hn56⟩⟩)
    refine zX (fun v w => ∃ b o xs70 xa70 xd70 xt70 xb70 xe70, v = .pointer (some ⟨b, o, none⟩) ∧ (∀ (q : Nat) (u : Value), [.bool xs70, xa70, xd70, .bool xt70, xb70, xe70][q]? = some u → w.cell? ⟨b, o + q, none⟩ = some u) ∧ PC (Ins b6 (Ins b5 (Ins b4 (Ins b3 (Ins b2 M))))) w ((max ((n0 + n0b + n1 + n1b)) (n0 + n0b + n1 + n1b)) + 1) ((([loP (sa, sb) (ta, tb), hiP (sa, sb) (ta, tb)])).getD 1 (0, 0)) xs70 xa70 xd70 xt70 xb70 xe70) (fun _ _ _ ⟨b, o, xs70, xa70, xd70, xt70, xb70, xe70, e, hc, h⟩ r => ⟨b, o, xs70, xa70, xd70, xt70, xb70, xe70, e, fun q u hq => jI r (hc q u hq), h.mono (Fz := fun _ => False) (Le.of_below r)⟩) (fun wq hR hst => ?_) ?_
    ·refine yE rfl (fun v69 hp69 => ?_)
     obtain ⟨xa69, rfl, hn69⟩ := hp69
     refine zD ?_
     refine gZ (dflt := ((0, 0) : P2)) (1) rfl yu63 xG rfl rfl hn69.row (by first | rfl | omega) (by first | omega | (simp; omega) | simp) (fun b70 o70 us70 hul70 hu70 hc70 => ?_)
     obtain ⟨xs70, xa70, xd70, xt70, xb70, xe70, rfl, hn70⟩ := hu70
     exact zA ⟨rfl, yP _, _, rfl, ⟨b70, o70, _, _, _, _, _, _, rfl, hc70, hn70⟩⟩
    refine zX (vPC (Ins b6 (Ins b5 (Ins b4 (Ins b3 (Ins b2 M))))) ((max ((n0 + n0b + n1 + n1b)) (n0 + n0b + n1 + n1b)) + 1) ((([loP (sa, sb) (ta, tb), hiP (sa, sb) (ta, tb)])).getD 1 (0, 0))) bA (fun wq hR hst => ?_) ?_
    ·refine yE rfl (fun v70 hp70 => ?_)
     obtain ⟨b70, o70, xs70, xa70, xd70, xt70, xb70, xe70, rfl, hc70, hn70⟩ := hp70
     refine zD ?_
     exact qN rfl yZ xG rfl hc70 rfl (zA ⟨rfl, yP _, _, rfl, ⟨_, _, _, _, _, _, rfl, hn70⟩⟩)
    refine xM (fun wq13 hR13 hpost13 => ?_)
    refine zO rfl rfl (zO rfl rfl (zO rfl rfl (yE rfl (fun v68 hp68 => ?_))))
    obtain ⟨xs68, xa68, xd68, xt68, xb68, xe68, rfl, hn68⟩ := hp68; obtain ⟨oxa68, oxd68, oxb68, oxe68, _⟩ := hn68.one
    refine yE rfl (fun v71 hp71 => ?_)
    obtain ⟨xs71, xa71, xd71, xt71, xb71, xe71, rfl, hn71⟩ := hp71; obtain ⟨oxa71, oxd71, oxb71, oxe71, _⟩ := hn71.one
    refine zD ?_
    simp only [List.drop_succ_cons, List.drop_zero, List.drop_nil, List.toList_toArray]
    obtain ⟨LL, B4⟩ := ub2 hR13 LL B4
    refine xP rfl eQ rfl rfl (zZ (gN rfl) (zZ (rfl) (zZ (rfl) xF))) rfl (zW rfl rfl uW B4 rfl rfl (zU rfl (zU rfl (zU (by first | rfl | assumption) (zU (by first | rfl | assumption) (zU rfl (zU (by first | rfl | assumption) (zU (by first | rfl | assumption) (zU rfl (zU (by first | rfl | assumption) (zU (by first | rfl | assumption) (zU rfl (zU (by first | rfl | assumption) (zU (by first | rfl | assumption) jC))))))))))))) rfl (fun w25 Cw25 B4 => ?_))
    have Lw25 := Le.of_chg (M := (Ins b6 (Ins b5 (Ins b4 (Ins b3 (Ins b2 M)))))) Cw25 (.inr (.inr zR)) nF4
    obtain ⟨LL, hn68, hn71⟩ := up3 Lw25 LL hn68 hn71
    refine zA (zY ?_)
    refine zN ⟨[_], ⟨⟨_, rfl, yU aO uW B4 rfl rfl⟩, trivial⟩, ?_⟩
    dsimp only [zV]
    rw [meets_c hc2 hc3 hc4]
    subst hFz
    exact ⟨LL.below (Nat.le_refl _), _, _, _, _, _, _, _, _, _, _, _, _, rfl, (hn68.less (fun k c => zI (zI (zI (zI (zI c)))))).up (by omega), (hn71.less (fun k c => zI (zI (zI (zI (zI c)))))).up (by omega)⟩
  ·refine yO (zF (zC (zJ 0 rfl yu110 rfl rfl xG rfl rfl (zL rfl yZ xG rfl B2 rfl rfl (zJ 6 rfl yu110 rfl rfl xG rfl rfl (zL rfl yZ xG rfl B2 rfl rfl (zJ 0 rfl yu110 rfl rfl xG rfl rfl (zL rfl yZ xG rfl B3 rfl rfl (zJ 6 rfl yu110 rfl rfl xG rfl rfl (zL rfl yZ xG rfl B3 rfl rfl (zH rfl bod37 rfl rfl ?_)))))))))))
   refine (mlines_c hT h0 h0b h1 h1b (by omega) (by omega) (by omega) (by omega) hM).mono ?_
   rintro v82 w26 ⟨hB82, xs82, xa82, xd82, xt82, xb82, xe82, rfl, hn82⟩
   obtain ⟨LL, hM, hF, hT, h0, h0b, h1, h1b, B2, B3, B4, B5, B6⟩ := fY hB82 LL hM hF hT h0 h0b h1 h1b B2 B3 B4 B5 B6
   obtain ⟨oxa82, oxd82, oxb82, oxe82, _⟩ := hn82.one
   refine zB rfl rfl (yA rfl rfl rfl (yA rfl rfl rfl (yJ rfl xG (fun w27 b9 N9 => ?_))))
   obtain ⟨hBw27, nF9, nM9, Lw27, B9⟩ := nza hF hM N9
   obtain ⟨B2, ne2_9⟩ := bn B2 N9
   obtain ⟨B3, ne3_9⟩ := bn B3 N9
   obtain ⟨B4, ne4_9⟩ := bn B4 N9
   have lt5_9 := B5.lt
   have ne5_9 := N9.ne lt5_9
   have lt6_9 := B6.lt
   have ne6_9 := N9.ne lt6_9
   obtain ⟨LL, hM, hT, h0, h0b, h1, h1b, hn82⟩ := up8 Lw27 LL hM hT h0 h0b h1 h1b hn82
   refine zW rfl rfl xG B9 rfl rfl (zU rfl (zU (by first | rfl | assumption) (zU (by first | rfl | assumption) (zU rfl (zU (by first | rfl | assumption) (zU (by first | rfl | assumption) jC)))))) rfl (fun w28 Cw28 B9 => ?_)
   have Lw28 := Le.of_chg (M := (Ins b9 (Ins b6 (Ins b5 (Ins b4 (Ins b3 (Ins b2 M))))))) Cw28 zR nF9
   obtain ⟨LL, hM, hT, h0, h0b, h1, h1b, hn82⟩ := up8 Lw28 LL hM hT h0 h0b h1 h1b hn82
   replace B2 := B2.other Cw28 ne2_9
   replace B3 := B3.other Cw28 ne3_9
   replace B4 := B4.other Cw28 ne4_9
   refine zE rfl rfl (zA (zF (zF (zC (zB rfl rfl (qR rfl rfl (zB rfl rfl (aW (d := 87) rfl (fun hg15_2 => ?_) (fun hg15_2 => ?_)))))))))
   ·refine zT rfl rfl rfl rfl (zT rfl rfl rfl rfl (zT rfl rfl rfl rfl (zT rfl rfl rfl rfl (xB rfl rfl rfl (zB rfl rfl (zT rfl rfl rfl rfl (zT rfl rfl rfl rfl (zT rfl rfl rfl rfl (zT rfl rfl rfl rfl (xB rfl rfl rfl (zA (kU rfl (zF (zC ?_))))))))))))))
    refine zH rfl bod151 rfl rfl ?_
    refine (mnone_c   hM).mono ?_
    rintro v99 w29 ⟨hB99, xs99, xa99, xd99, xt99, xb99, xe99, xs99b, xa99b, xd99b, xt99b, xb99b, xe99b, rfl, hn99, hnb99⟩
    obtain ⟨LL, B4⟩ := ub2 hB99 LL B4
    obtain ⟨oxa99, oxd99, oxb99, oxe99, _⟩ := hn99.one; obtain ⟨oxa99b, oxd99b, oxb99b, oxe99b, _⟩ := hnb99.one
    refine zW rfl rfl uW B4 rfl rfl (zU rfl (zU rfl (zU (by first | rfl | assumption) (zU (by first | rfl | assumption) (zU rfl (zU (by first | rfl | assumption) (zU (by first | rfl | assumption) (zU rfl (zU (by first | rfl | assumption) (zU (by first | rfl | assumption) (zU rfl (zU (by first | rfl | assumption) (zU (by first | rfl | assumption) jC))))))))))))) rfl (fun w30 Cw30 B4 => ?_)
    have Lw30 := Le.of_chg (M := (Ins b9 (Ins b6 (Ins b5 (Ins b4 (Ins b3 (Ins b2 M))))))) Cw30 (.inr (.inr (.inr zR))) nF4
    obtain ⟨LL, hn99, hnb99⟩ := up3 Lw30 LL hn99 hnb99
    refine zA (zY ?_)
    refine zN ⟨[_], ⟨⟨_, rfl, yU aO uW B4 rfl rfl⟩, trivial⟩, ?_⟩
    dsimp only [zV]
    have hl : ¬ (kB sa sb ta tb ∧ uB (sa, sb) (qJ sa sb ta tb) ∧ uB (ta, tb) (qJ sa sb ta tb)) := fun c => by simp [c.1] at hg15_2
    rw [meets_d hc2 hc3 hl]
    subst hFz
    exact ⟨LL.below (Nat.le_refl _), _, _, _, _, _, _, _, _, _, _, _, _, rfl, (hn99.less (fun k c => zI (zI (zI (zI (zI (zI c))))))).up (by omega), (hnb99.less (fun k c => zI (zI (zI (zI (zI (zI c))))))).up (by omega)⟩
   ·refine zQ rfl rfl (zL rfl kR bJ rfl B2 rfl rfl (zQ rfl rfl (zL rfl yZ xG rfl B9 rfl rfl (zQ rfl rfl (zH rfl bod154 rfl rfl ?_)))))
    refine (mspans_c hT h0 h0b hn82.gen (by omega) (by omega) (by omega) hM).mono ?_
    rintro v90 w31 ⟨hB90, rfl⟩
    obtain ⟨LL, hM, hT, h1, h1b, hn82, B3, B4, B9⟩ := ub9 hB90 LL hM hT h1 h1b hn82 B3 B4 B9
    refine zQ rfl rfl (qR rfl rfl (xB rfl rfl rfl (zB rfl rfl (aW (d := 93) rfl (fun hg15_8 => ?_) (fun hg15_8 => ?_)))))
    ·refine zT rfl rfl rfl rfl (zT rfl rfl rfl rfl (zT rfl rfl rfl rfl (zT rfl rfl rfl rfl (xB rfl rfl rfl (zA (kU rfl (zF (zC (zH rfl bod151 rfl rfl ?_)))))))))
     refine (mnone_c   hM).mono ?_
     rintro v99 w32 ⟨hB99, xs99, xa99, xd99, xt99, xb99, xe99, xs99b, xa99b, xd99b, xt99b, xb99b, xe99b, rfl, hn99, hnb99⟩
     obtain ⟨LL, B4⟩ := ub2 hB99 LL B4
     obtain ⟨oxa99, oxd99, oxb99, oxe99, _⟩ := hn99.one; obtain ⟨oxa99b, oxd99b, oxb99b, oxe99b, _⟩ := hnb99.one
     refine zW rfl rfl uW B4 rfl rfl (zU rfl (zU rfl (zU (by first | rfl | assumption) (zU (by first | rfl | assumption) (zU rfl (zU (by first | rfl | assumption) (zU (by first | rfl | assumption) (zU rfl (zU (by first | rfl | assumption) (zU (by first | rfl | assumption) (zU rfl (zU (by first | rfl | assumption) (zU (by first | rfl | assumption) jC))))))))))))) rfl (fun w33 Cw33 B4 => ?_)
     have Lw33 := Le.of_chg (M := (Ins b9 (Ins b6 (Ins b5 (Ins b4 (Ins b3 (Ins b2 M))))))) Cw33 (.inr (.inr (.inr zR))) nF4
     obtain ⟨LL, hn99, hnb99⟩ := up3 Lw33 LL hn99 hnb99
     refine zA (zY ?_)
     refine zN ⟨[_], ⟨⟨_, rfl, yU aO uW B4 rfl rfl⟩, trivial⟩, ?_⟩
     dsimp only [zV]
     have hl : ¬ (kB sa sb ta tb ∧ uB (sa, sb) (qJ sa sb ta tb) ∧ uB (ta, tb) (qJ sa sb ta tb)) := fun c => by simp [c.2.1] at hg15_8
     rw [meets_d hc2 hc3 hl]
     subst hFz
     exact ⟨LL.below (Nat.le_refl _), _, _, _, _, _, _, _, _, _, _, _, _, rfl, (hn99.less (fun k c => zI (zI (zI (zI (zI (zI c))))))).up (by omega), (hnb99.less (fun k c => zI (zI (zI (zI (zI (zI c))))))).up (by omega)⟩
    ·refine zQ rfl rfl (zL rfl kR bJ rfl B3 rfl rfl (zQ rfl rfl (zL rfl yZ xG rfl B9 rfl rfl (zQ rfl rfl (zH rfl bod154 rfl rfl ?_)))))
     refine (mspans_c hT h1 h1b hn82.gen (by omega) (by omega) (by omega) hM).mono ?_
     rintro v96 w34 ⟨hB96, rfl⟩
     obtain ⟨LL, hM, hn82, B4, B9⟩ := ub5 hB96 LL hM hn82 B4 B9
     refine zQ rfl rfl (qR rfl rfl (xB rfl rfl rfl (zA ?_)))
     refine qP rfl (fun hc5 => ?_) (fun hc5 => ?_)
     ·refine zF (zC (zH rfl bod151 rfl rfl ?_))
      refine (mnone_c   hM).mono ?_
      rintro v99 w35 ⟨hB99, xs99, xa99, xd99, xt99, xb99, xe99, xs99b, xa99b, xd99b, xt99b, xb99b, xe99b, rfl, hn99, hnb99⟩
      obtain ⟨LL, B4⟩ := ub2 hB99 LL B4
      obtain ⟨oxa99, oxd99, oxb99, oxe99, _⟩ := hn99.one; obtain ⟨oxa99b, oxd99b, oxb99b, oxe99b, _⟩ := hnb99.one
      refine zW rfl rfl uW B4 rfl rfl (zU rfl (zU rfl (zU (by first | rfl | assumption) (zU (by first | rfl | assumption) (zU rfl (zU (by first | rfl | assumption) (zU (by first | rfl | assumption) (zU rfl (zU (by first | rfl | assumption) (zU (by first | rfl | assumption) (zU rfl (zU (by first | rfl | assumption) (zU (by first | rfl | assumption) jC))))))))))))) rfl (fun w36 Cw36 B4 => ?_)
      have Lw36 := Le.of_chg (M := (Ins b9 (Ins b6 (Ins b5 (Ins b4 (Ins b3 (Ins b2 M))))))) Cw36 (.inr (.inr (.inr zR))) nF4
      obtain ⟨LL, hn99, hnb99⟩ := up3 Lw36 LL hn99 hnb99
      refine zA (zY ?_)
      refine zN ⟨[_], ⟨⟨_, rfl, yU aO uW B4 rfl rfl⟩, trivial⟩, ?_⟩
      dsimp only [zV]
      have hl : ¬ (kB sa sb ta tb ∧ uB (sa, sb) (qJ sa sb ta tb) ∧ uB (ta, tb) (qJ sa sb ta tb)) := fun c => by simp [c.2.2] at hc5
      rw [meets_d hc2 hc3 hl]
      subst hFz
      exact ⟨LL.below (Nat.le_refl _), _, _, _, _, _, _, _, _, _, _, _, _, rfl, (hn99.less (fun k c => zI (zI (zI (zI (zI (zI c))))))).up (by omega), (hnb99.less (fun k c => zI (zI (zI (zI (zI (zI c))))))).up (by omega)⟩
     ·refine yO (zF (zC (zL rfl yZ xG rfl B9 rfl rfl (zL rfl yZ xG rfl B9 rfl rfl (xP rfl eQ rfl rfl (zZ (gN rfl) (zZ (rfl) (zZ (rfl) xF))) rfl (zW rfl rfl uW B4 rfl rfl (zU rfl (zU rfl (zU (by first | rfl | assumption) (zU (by first | rfl | assumption) (zU rfl (zU (by first | rfl | assumption) (zU (by first | rfl | assumption) (zU rfl (zU (by first | rfl | assumption) (zU (by first | rfl | assumption) (zU rfl (zU (by first | rfl | assumption) (zU (by first | rfl | assumption) jC))))))))))))) rfl (fun w37 Cw37 B4 => ?_)))))))
      have Lw37 := Le.of_chg (M := (Ins b9 (Ins b6 (Ins b5 (Ins b4 (Ins b3 (Ins b2 M))))))) Cw37 (.inr (.inr (.inr zR))) nF4
      obtain ⟨LL, hn82⟩ := up2 Lw37 LL hn82
      refine zA (zY ?_)
      refine zN ⟨[_], ⟨⟨_, rfl, yU aO uW B4 rfl rfl⟩, trivial⟩, ?_⟩
      dsimp only [zV]
      have hl : (kB sa sb ta tb ∧ uB (sa, sb) (qJ sa sb ta tb) ∧ uB (ta, tb) (qJ sa sb ta tb)) := ⟨by simpa using hg15_2, by simpa using hg15_8, by simpa using hc5⟩
      rw [meets_e hc2 hc3 hl]
      subst hFz
      exact ⟨LL.below (Nat.le_refl _), _, _, _, _, _, _, _, _, _, _, _, _, rfl, (hn82.less (fun k c => zI (zI (zI (zI (zI (zI c))))))).up (by omega), (hn82.less (fun k c => zI (zI (zI (zI (zI (zI c))))))).up (by omega)⟩
theorem msegs_c {p : P2} {n0 : Nat} {xs0 xt0 : Bool} {xa0 xd0 xb0 xe0 : Value} {q : P2} {n1 : Nat} {xs1 xt1 : Bool} {xa1 xd1 xb1 xe1 : Value} {u : P2} {n2 : Nat} {xs2 xt2 : Bool} {xa2 xd2 xb2 xe2 : Value} {z : P2} {n3 : Nat} {xs3 xt3 : Bool} {xa3 xd3 xb3 xe3 : Value} (hT : Tab M w) (h0 : PQ M w n0 p xs0 xa0 xd0 xt0 xb0 xe0) (h1 : PQ M w n1 q xs1 xa1 xd1 xt1 xb1 xe1) (h2 : PQ M w n2 u xs2 xa2 xd2 xt2 xb2 xe2) (h3 : PQ M w n3 z xs3 xa3 xd3 xt3 xb3 xe3) (hl0 : n0 ≤ 80) (hl1 : n1 ≤ 80) (hl2 : n2 ≤ 80) (hl3 : n3 ≤ 80) (hM : OkM M w) :
    CallsV prog 26 [.agg #[.bool xs0, xa0, xd0, .bool xt0, xb0, xe0], .agg #[.bool xs1, xa1, xd1, .bool xt1, xb1, xe1], .agg #[.bool xs2, xa2, xd2, .bool xt2, xb2, xe2], .agg #[.bool xs3, xa3, xd3, .bool xt3, xb3, xe3]] w fun r w' => Below w.heap.size w w' ∧ ∃ xsr xar xdr xtr xbr xer xsrb xarb xdrb xtrb xbrb xerb, r = .agg #[.int .i8 (bT p q u z).1, .bool xsr, xar, xdr, .bool xtr, xbr, xer, .bool xsrb, xarb, xdrb, .bool xtrb, xbrb, xerb] ∧ PC M w' (16 * (n0 + n1 + n2 + n3) + 80) ((bT p q u z).2.1) xsr xar xdr xtr xbr xer ∧ PC M w' (16 * (n0 + n1 + n2 + n3) + 80) ((bT p q u z).2.2) xsrb xarb xdrb xtrb xbrb xerb := by
 obtain ⟨Fz, hFz, hF, LL⟩ := fz0 M w
 obtain ⟨oxa0, oxd0, oxb0, oxe0, _⟩ := h0.one
 obtain ⟨oxa1, oxd1, oxb1, oxe1, _⟩ := h1.one
 obtain ⟨oxa2, oxd2, oxb2, oxe2, _⟩ := h2.one
 obtain ⟨oxa3, oxd3, oxb3, oxe3, _⟩ := h3.one
 have hM0 := hM
 refine zP func26 rfl ntmps26 rfl ?_
 refine zF (zC (yL rfl rfl (fun w1 b4 N4 => ?_)))
 obtain ⟨_, nF4, nM4, Lw1, B4⟩ := nza hF hM N4
 obtain ⟨LL, hM, hF, hT, h0, h1, h2, h3⟩ := up8 Lw1 LL hM hF hT h0 h1 h2 h3
 refine yL rfl rfl (fun w2 b5 N5 => ?_)
 obtain ⟨hBw2, nF5, nM5, Lw2, B5⟩ := nza hF hM N5
 obtain ⟨B4, ne4_5⟩ := bn B4 N5
 obtain ⟨LL, hM, hF, hT, h0, h1, h2, h3⟩ := up8 Lw2 LL hM hF hT h0 h1 h2 h3
 refine yL rfl rfl (fun w3 b6 N6 => ?_)
 obtain ⟨hBw3, nF6, nM6, Lw3, B6⟩ := nza hF hM N6
 obtain ⟨B4, ne4_6⟩ := bn B4 N6
 obtain ⟨B5, ne5_6⟩ := bn B5 N6
 obtain ⟨LL, hM, hF, hT, h0, h1, h2, h3⟩ := up8 Lw3 LL hM hF hT h0 h1 h2 h3
 refine yL rfl rfl (fun w4 b7 N7 => ?_)
 obtain ⟨hBw4, nF7, nM7, Lw4, B7⟩ := nza hF hM N7
 obtain ⟨B4, ne4_7⟩ := bn B4 N7
 obtain ⟨B5, ne5_7⟩ := bn B5 N7
 obtain ⟨B6, ne6_7⟩ := bn B6 N7
 obtain ⟨LL, hM, hF, hT, h0, h1, h2, h3⟩ := up8 Lw4 LL hM hF hT h0 h1 h2 h3
 refine yJ rfl uW (fun w5 b8 N8 => ?_)
 obtain ⟨hBw5, nF8, nM8, Lw5, B8⟩ := nza hF hM N8
 obtain ⟨B4, ne4_8⟩ := bn B4 N8
 obtain ⟨B5, ne5_8⟩ := bn B5 N8
 obtain ⟨B6, ne6_8⟩ := bn B6 N8
 obtain ⟨B7, ne7_8⟩ := bn B7 N8
 obtain ⟨LL, hM, hT, h0, h1, h2, h3⟩ := up7 Lw5 LL hM hT h0 h1 h2 h3
 refine zA (zF ?_)
 refine xL (R := Rb) (R' := Rb) (st := none) jJ 5 [8, 11, 12, 13] (by decide +kernel) xJ xU (xS _) (fun _ _ _ h => by cases h) ?_
 refine zM (fun _ hR _ => zO rfl rfl (zD (zL rfl yZ xG rfl (B4.below hR) rfl rfl (on0 rfl)))) ?_
 refine zM (fun _ hR _ => zO rfl rfl (zD (zL rfl yZ xG rfl (B5.below hR) rfl rfl (on0 rfl)))) ?_
 refine zX (fun v w => ∃ xs11 xa11 xd11 xt11 xb11 xe11 xs11b xa11b xd11b xt11b xb11b xe11b, v = .agg #[.bool xs11, xa11, xd11, .bool xt11, xb11, xe11, .bool xs11b, xa11b, xd11b, .bool xt11b, xb11b, xe11b] ∧ PQ (Ins b8 (Ins b7 (Ins b6 (Ins b5 (Ins b4 M))))) w (max n0 n1) ((eG p q).1) xs11 xa11 xd11 xt11 xb11 xe11 ∧ PQ (Ins b8 (Ins b7 (Ins b6 (Ins b5 (Ins b4 M))))) w (max n0 n1) ((eG p q).2) xs11b xa11b xd11b xt11b xb11b xe11b) (fun _ _ _ ⟨xs11, xa11, xd11, xt11, xb11, xe11, xs11b, xa11b, xd11b, xt11b, xb11b, xe11b, e, h0, h1⟩ r => ⟨xs11, xa11, xd11, xt11, xb11, xe11, xs11b, xa11b, xd11b, xt11b, xb11b, xe11b, e, h0.mono (Fz := fun _ => False) (Le.of_below r), h1.mono (Fz := fun _ => False) (Le.of_below r)⟩) (fun wq hR hst => ?_) ?_
 ·refine zK rfl (zK rfl (zD ?_))
  obtain ⟨hM, hT, h0, h1⟩ := ub4 hR hM hT h0 h1
  refine zH rfl bod83 rfl rfl ?_
  refine (mfrom_c hT h0 h1 (by omega) (by omega) hM).mono ?_
  rintro v11 w6 ⟨hB11, xs11, xa11, xd11, xt11, xb11, xe11, xs11b, xa11b, xd11b, xt11b, xb11b, xe11b, rfl, hn11, hnb11⟩
  obtain ⟨oxa11, oxd11, oxb11, oxe11, _⟩ := hn11.one
  exact zA ⟨rfl, hB11, _, rfl, ⟨_, _, _, _, _, _, _, _, _, _, _, _, rfl, hn11, hnb11⟩⟩
 refine zM (fun _ hR _ => zO rfl rfl (zD (zL rfl yZ xG rfl (B6.below hR) rfl rfl (on0 rfl)))) ?_
 refine zM (fun _ hR _ => zO rfl rfl (zD (zL rfl yZ xG rfl (B7.below hR) rfl rfl (on0 rfl)))) ?_
 refine xM (fun wq1 hR1 hpost1 => ?_)
 refine zO rfl rfl (yE rfl (fun v11 hp11 => ?_))
 obtain ⟨xs11, xa11, xd11, xt11, xb11, xe11, xs11b, xa11b, xd11b, xt11b, xb11b, xe11b, rfl, hn11, hnb11⟩ := hp11; obtain ⟨oxa11, oxd11, oxb11, oxe11, _⟩ := hn11.one; obtain ⟨oxa11b, oxd11b, oxb11b, oxe11b, _⟩ := hnb11.one
 refine zK rfl (zK rfl (zD ?_))
 simp only [List.drop_succ_cons, List.drop_zero, List.drop_nil, List.toList_toArray]
 obtain ⟨LL, hM, hT, h2, h3, B8⟩ := ub6 hR1 LL hM hT h2 h3 B8
 refine zH rfl bod83 rfl rfl ?_
 refine (mfrom_c hT h2 h3 (by omega) (by omega) hM).mono ?_
 rintro v14 w7 ⟨hB14, xs14, xa14, xd14, xt14, xb14, xe14, xs14b, xa14b, xd14b, xt14b, xb14b, xe14b, rfl, hn14, hnb14⟩
 obtain ⟨LL, hM, hT, hn11, hnb11, B8⟩ := ub6 hB14 LL hM hT hn11 hnb11 B8
 obtain ⟨oxa14, oxd14, oxb14, oxe14, _⟩ := hn14.one; obtain ⟨oxa14b, oxd14b, oxb14b, oxe14b, _⟩ := hnb14.one
 refine zH rfl bod84 rfl rfl ?_
 refine (mmeets_c hT hn11 hnb11 hn14 hnb14 (by omega) (by omega) (by omega) (by omega) hM).mono ?_
 rintro v15 w8 ⟨hB15, xs15, xa15, xd15, xt15, xb15, xe15, xs15b, xa15b, xd15b, xt15b, xb15b, xe15b, rfl, hn15, hnb15⟩
 obtain ⟨LL, B8⟩ := ub2 hB15 LL B8
 obtain ⟨oxa15, oxd15, oxb15, oxe15, _⟩ := hn15.one; obtain ⟨oxa15b, oxd15b, oxb15b, oxe15b, _⟩ := hnb15.one
 refine zW rfl rfl uW B8 rfl rfl (zU rfl (zU rfl (zU (by first | rfl | assumption) (zU (by first | rfl | assumption) (zU rfl (zU (by first | rfl | assumption) (zU (by first | rfl | assumption) (zU rfl (zU (by first | rfl | assumption) (zU (by first | rfl | assumption) (zU rfl (zU (by first | rfl | assumption) (zU (by first | rfl | assumption) jC))))))))))))) rfl (fun w9 Cw9 B8 => ?_)
 have Lw9 := Le.of_chg (M := (Ins b8 (Ins b7 (Ins b6 (Ins b5 (Ins b4 M)))))) Cw9 zR nF8
 obtain ⟨LL, hn15, hnb15⟩ := up3 Lw9 LL hn15 hnb15
 refine zA (zY ?_)
 refine zN ⟨[_], ⟨⟨_, rfl, yU aO uW B8 rfl rfl⟩, trivial⟩, ?_⟩
 dsimp only [zV]
 subst hFz
 exact ⟨LL.below (Nat.le_refl _), _, _, _, _, _, _, _, _, _, _, _, _, rfl, (hn15.less (fun k c => zI (zI (zI (zI (zI c)))))).up (by omega), (hnb15.less (fun k c => zI (zI (zI (zI (zI c)))))).up (by omega)⟩
theorem mmeets2_c {p : P2} {n0 : Nat} {xs0 xt0 : Bool} {xa0 xd0 xb0 xe0 : Value} {q : P2} {n1 : Nat} {xs1 xt1 : Bool} {xa1 xd1 xb1 xe1 : Value} {u : P2} {n2 : Nat} {xs2 xt2 : Bool} {xa2 xd2 xb2 xe2 : Value} {z : P2} {n3 : Nat} {xs3 xt3 : Bool} {xa3 xd3 xb3 xe3 : Value} (hT : Tab M w) (h0 : PQ M w n0 p xs0 xa0 xd0 xt0 xb0 xe0) (h1 : PQ M w n1 q xs1 xa1 xd1 xt1 xb1 xe1) (h2 : PQ M w n2 u xs2 xa2 xd2 xt2 xb2 xe2) (h3 : PQ M w n3 z xs3 xa3 xd3 xt3 xb3 xe3) (hl0 : n0 ≤ 80) (hl1 : n1 ≤ 80) (hl2 : n2 ≤ 80) (hl3 : n3 ≤ 80) (hM : OkM M w) :
    CallsV prog 28 [.agg #[.bool xs0, xa0, xd0, .bool xt0, xb0, xe0], .agg #[.bool xs1, xa1, xd1, .bool xt1, xb1, xe1], .agg #[.bool xs2, xa2, xd2, .bool xt2, xb2, xe2], .agg #[.bool xs3, xa3, xd3, .bool xt3, xb3, xe3]] w fun r w' => Below w.heap.size w w' ∧ r = .bool (decide ((bT p q u z).1 ≠ 0)) := by
 obtain ⟨Fz, hFz, hF, LL⟩ := fz0 M w
 have hM0 := hM
 refine zP func28 rfl ntmps28 rfl ?_
 refine zF (zC (yL rfl rfl (fun w1 b4 N4 => ?_)))
 obtain ⟨_, nF4, nM4, Lw1, B4⟩ := nza hF hM N4
 obtain ⟨LL, hM, hF, hT, h0, h1, h2, h3⟩ := up8 Lw1 LL hM hF hT h0 h1 h2 h3
 refine yL rfl rfl (fun w2 b5 N5 => ?_)
 obtain ⟨hBw2, nF5, nM5, Lw2, B5⟩ := nza hF hM N5
 obtain ⟨B4, ne4_5⟩ := bn B4 N5
 obtain ⟨LL, hM, hF, hT, h0, h1, h2, h3⟩ := up8 Lw2 LL hM hF hT h0 h1 h2 h3
 refine yL rfl rfl (fun w3 b6 N6 => ?_)
 obtain ⟨hBw3, nF6, nM6, Lw3, B6⟩ := nza hF hM N6
 obtain ⟨B4, ne4_6⟩ := bn B4 N6
 obtain ⟨B5, ne5_6⟩ := bn B5 N6
 obtain ⟨LL, hM, hF, hT, h0, h1, h2, h3⟩ := up8 Lw3 LL hM hF hT h0 h1 h2 h3
 refine yL rfl rfl (fun w4 b7 N7 => ?_)
 obtain ⟨hBw4, nF7, nM7, Lw4, B7⟩ := nza hF hM N7
 obtain ⟨B4, ne4_7⟩ := bn B4 N7
 obtain ⟨B5, ne5_7⟩ := bn B5 N7
 obtain ⟨B6, ne6_7⟩ := bn B6 N7
 obtain ⟨LL, hM, hT, h0, h1, h2, h3⟩ := up7 Lw4 LL hM hT h0 h1 h2 h3
 refine zE rfl rfl (zA (zF (zC (zL rfl yZ xG rfl B4 rfl rfl (zL rfl yZ xG rfl B5 rfl rfl (zL rfl yZ xG rfl B6 rfl rfl (zL rfl yZ xG rfl B7 rfl rfl (zH rfl bod26 rfl rfl ?_))))))))
 refine (msegs_c hT h0 h1 h2 h3 (by omega) (by omega) (by omega) (by omega) hM).mono ?_
 rintro v13 w5 ⟨hB13, xs13, xa13, xd13, xt13, xb13, xe13, xs13b, xa13b, xd13b, xt13b, xb13b, xe13b, rfl, hn13, hnb13⟩
 replace LL := ub1 hB13 LL
 obtain ⟨oxa13, oxd13, oxb13, oxe13, _⟩ := hn13.one
 refine ops_fieldc rfl yu43 rfl sz41 flat41 rfl rfl (bO rfl rfl rfl (zE rfl rfl (zA (zY ?_))))
 refine zN ⟨[_], ⟨rfl, trivial⟩, ?_⟩
 dsimp only [zV]
 subst hFz
 exact ⟨LL.below (Nat.le_refl _), rfl⟩
end Go.Proofs.YtfkejnlohkgbgaaGreatDoor
set_option maxRecDepth 100000
namespace Go.Proofs.YtfkejnlohkgbgaaGreatDoor
open Go.SL Go.RowKit Go.Proofs Tryz
variable {M : Nat → Prop} {w : World}
theorem ZQ.neg {n : Nat} {z : Int} {s : Bool} {a : Value} (h : ZQ M w n z s a) : ZQ M w n (-z) (!s) a := by
  obtain ⟨xs, h1, h2, h3⟩ := h.ex
  exact ⟨xs, h1, h2, by rw [← h3]; cases s <;> simp [zv]⟩
theorem zc_zero {n : Nat} : ZC M w n 0 false (.slice none 0 0) := ⟨by simp, by simpa [xN] using (aB (M := M) (w := w)), by simp [xN]⟩
theorem ZC.sign {n : Nat} {z : Int} {s : Bool} {a : Value} (h : ZC M w n z s a) : (((limbs z.natAbs).length : Int) = 0 → z = 0) ∧ (s = true → z < 0) ∧ (s = false → 0 ≤ z) := by
  refine ⟨fun c => ?_, fun c => ?_, fun c => ?_⟩
  · have := xO.1 (show (limbs z.natAbs).length = 0 by omega); omega
  · have := h.sgn; rw [c] at this; exact of_decide_eq_true this.symm
  · have := h.sgn; rw [c] at this; have := of_decide_eq_false this.symm; omega
theorem sum_take {l : List Int} {s : Nat} (h : s < l.length) : (l.take (s + 1)).sum = (l.take s).sum + l.getD s 0 := by
  rw [(qI (0 : Int) h).1, List.sum_append]; simp
def gV (l : List Int) : Int := l.foldl (· * ·) 1
theorem prod_take {l : List Int} {s : Nat} (h : s < l.length) : gV (l.take (s + 1)) = gV (l.take s) * l.getD s 0 := by
  rw [(qI (0 : Int) h).1, gV, List.foldl_append]; rfl
theorem qU {z : Int} {n0 : Nat} {xs0 : Bool} {xa0 : Value} (h0 : ZQ M w n0 z xs0 xa0) (hl0 : n0 ≤ 1000000) (hM : OkM M w) :
    CallsV prog 155 [.agg #[.bool xs0, xa0]] w fun r w' => Below w.heap.size w w' ∧ ∃ xsr xar, r = .agg #[.bool xsr, xar] ∧ ZC M w' (n0) (z) xsr xar := by
 obtain ⟨Fz, hFz, hF, LL⟩ := fz0 M w
 obtain ⟨oxa0, _⟩ := h0.one
 obtain ⟨xs, hx, hxl, hz⟩ := h0.ex
 have hM0 := hM
 refine zP func155 rfl ntmps155 rfl ?_
 refine zF (zC (yL rfl rfl (fun w1 b1 N1 => ?_)))
 obtain ⟨_, nF1, nM1, Lw1, B1⟩ := nza hF hM N1
 obtain ⟨LL, hM, hF, hx⟩ := up4 Lw1 LL hM hF hx
 refine yJ rfl xC (fun w2 b2 N2 => ?_)
 obtain ⟨hBw2, nF2, nM2, Lw2, B2⟩ := nza hF hM N2
 obtain ⟨B1, ne1_2⟩ := bn B1 N2
 obtain ⟨LL, hM, hx⟩ := up3 Lw2 LL hM hx
 refine zA (zF (zC (zJ 1 rfl yu31 rfl rfl xV rfl rfl (zS rfl yX rfl B1 rfl (zH rfl kT rfl rfl ?_)))))
 refine (qD hx (by omega) hM).mono ?_
 rintro v6 w3 ⟨hB6, hf6⟩
 have hM6 := hM
 have hS6 := LL.size
 obtain ⟨LL, hx, B1, B2⟩ := ub4 hB6 LL hx B1 B2
 have hn6 := hf6.nat hM6
 refine zE rfl rfl (zA (zF (zC (zJ 0 rfl yu31 rfl rfl sz4 rfl rfl (zS rfl qY rfl B1 rfl (zB rfl rfl (aW (d := 9) rfl (fun hg2_2 => ?_) (fun hg2_2 => ?_))))))))
 ·refine zQ rfl rfl (zB rfl rfl (zQ rfl rfl ?_))
  first | refine yS rfl yu29 rfl hn6.slc ?_ | refine yY rfl yu29 rfl ?_
  refine zQ rfl rfl (uD rfl rfl rfl (xB rfl rfl rfl (zB rfl rfl (xP rfl aQ rfl rfl (zZ (gN rfl) (zZ (gN (by first | rfl | exact yF (by assumption) | exact yH (by assumption) | assumption)) xF)) rfl (zW rfl rfl xC B2 rfl rfl (zU rfl (zU (by first | rfl | exact yF (by assumption) | exact yH (by assumption) | assumption) jC)) rfl (fun w4 Cw4 B2 => ?_))))))
  have Lw4 := Le.of_chg (M := (Ins b2 (Ins b1 M))) Cw4 zR nF2
  obtain ⟨LL, hx, hn6⟩ := up3 Lw4 LL hx hn6
  refine zA (zY ?_)
  refine zN ⟨[_], ⟨⟨_, rfl, yU xX xC B2 rfl rfl⟩, trivial⟩, ?_⟩
  dsimp only [zV]
  have hle := yQ xs hx.lt
  subst hz; subst hFz
  refine ⟨LL.below (Nat.le_refl _), _, _, rfl, ?_, by rw [qZ]; exact hn6.less fun k c => zI (zI c), by rw [qZ]; omega⟩
  rw [zv_neg, hg2_2]; rfl
 ·refine zT rfl rfl rfl rfl (zT rfl rfl rfl rfl (zT rfl rfl rfl rfl (xB rfl rfl rfl (zB rfl rfl (xP rfl aQ rfl rfl (zZ (gN rfl) (zZ (gN (by first | rfl | exact yF (by assumption) | exact yH (by assumption) | assumption)) xF)) rfl (zW rfl rfl xC B2 rfl rfl (zU rfl (zU (by first | rfl | exact yF (by assumption) | exact yH (by assumption) | assumption) jC)) rfl (fun w5 Cw5 B2 => ?_)))))))
  have Lw5 := Le.of_chg (M := (Ins b2 (Ins b1 M))) Cw5 zR nF2
  obtain ⟨LL, hx, hn6⟩ := up3 Lw5 LL hx hn6
  refine zA (zY ?_)
  refine zN ⟨[_], ⟨⟨_, rfl, yU xX xC B2 rfl rfl⟩, trivial⟩, ?_⟩
  dsimp only [zV]
  have hle := yQ xs hx.lt
  subst hz; subst hFz
  refine ⟨LL.below (Nat.le_refl _), _, _, rfl, ?_, by rw [qZ]; exact hn6.less fun k c => zI (zI c), by rw [qZ]; omega⟩
  rw [zv_neg, hg2_2]; rfl
theorem i5of_c {k : Nat} (hk : k < 9223372036854775808) (hM : OkM M w) :
    CallsV prog 79 [.int .i64 ((k : Nat) : Int)] w fun r w' => Below w.heap.size w w' ∧ ∃ xsr xar, r = .agg #[.bool xsr, xar] ∧ ZC M w' (2) (((k : Nat) : Int)) xsr xar := by
 obtain ⟨Fz, hFz, hF, LL⟩ := fz0 M w
 have hM0 := hM
 refine zP func79 rfl ntmps79 rfl ?_
 refine zF (zC (yJ rfl xC (fun w1 b2 N2 => ?_)))
 obtain ⟨_, nF2, nM2, Lw1, B2⟩ := nza hF hM N2
 obtain ⟨LL, hM⟩ := up2 Lw1 LL hM
 refine zA (zF (zF (zC (zB rfl rfl (jR rfl rfl rfl (zA ?_))))))
 refine yC rfl (fun hp => absurd hp (by omega)) (fun hc0 => ?_)
 refine yO (zF (zC (zB rfl rfl (jD rfl yu3 yu170 rfl (by omega) (zH rfl bod148 rfl rfl ?_)))))
 refine (rof_c (n := k) (by omega) hM).mono ?_
 rintro v14 w2 ⟨hB14, hf14⟩
 have hM14 := hM
 have hS14 := LL.size
 obtain ⟨LL, B2⟩ := ub2 hB14 LL B2
 have hn14 := hf14.nat hM14
 refine kE rfl aQ xC rfl (zZ (gN (by first | rfl | exact yF (by assumption) | exact yH (by assumption) | assumption)) xF) rfl rfl (zW rfl rfl xC B2 rfl rfl (zU rfl (zU (by first | rfl | exact yF (by assumption) | exact yH (by assumption) | assumption) jC)) rfl (fun w3 Cw3 B2 => ?_))
 have Lw3 := Le.of_chg (M := (Ins b2 M)) Cw3 zR nF2
 obtain ⟨LL, hn14⟩ := up2 Lw3 LL hn14
 refine zA (zY ?_)
 refine zN ⟨[_], ⟨⟨_, rfl, yU xX xC B2 rfl rfl⟩, trivial⟩, ?_⟩
 dsimp only [zV]
 subst hFz
 exact ⟨LL.below (Nat.le_refl _), _, _, rfl, (decide_eq_false (by omega)).symm, hn14.less fun k c => zI c, xT (by simp; omega)⟩
theorem i5sign_c {z : Int} {n0 : Nat} {xs0 : Bool} {xa0 : Value} (h0 : ZQ M w n0 z xs0 xa0) (hl0 : n0 ≤ 1000000) (hM : OkM M w) :
    CallsV prog 87 [.agg #[.bool xs0, xa0]] w fun r w' => Below w.heap.size w w' ∧ r = .int .i64 (z).sign := by
 obtain ⟨Fz, hFz, hF, LL⟩ := fz0 M w
 obtain ⟨oxa0, _⟩ := h0.one
 have hM0 := hM
 refine zP func87 rfl ntmps87 rfl ?_
 refine zF (zC (yL rfl rfl (fun w1 b1 N1 => ?_)))
 obtain ⟨_, nF1, nM1, Lw1, B1⟩ := nza hF hM N1
 obtain ⟨LL, hM, h0⟩ := up3 Lw1 LL hM h0
 refine zE rfl rfl (zA (zF (zC (zL rfl xX xC rfl B1 rfl rfl (zH rfl aP rfl rfl ?_)))))
 refine (qU h0 (by omega) hM).mono ?_
 rintro v4 w2 ⟨hB4, xs4, xa4, rfl, hn4⟩
 obtain ⟨LL, B1⟩ := ub2 hB4 LL B1
 obtain ⟨oxa4, _⟩ := hn4.one
 refine zW rfl rfl xC B1 rfl rfl (zU rfl (zU (by first | rfl | assumption) jC)) rfl (fun w3 Cw3 B1 => ?_)
 have Lw3 := Le.of_chg (M := (Ins b1 M)) Cw3 zR nF1
 obtain ⟨LL, hn4⟩ := up2 Lw3 LL hn4
 refine zA (zF (yK (zF (zC (zJ 1 rfl yu31 rfl rfl xV rfl rfl (zS rfl yX rfl B1 rfl (yS rfl yu29 rfl hn4.num.slc (gI rfl rfl rfl (zE rfl rfl (zA ?_))))))))))
 refine yC rfl (fun hc0 => ?_) (fun hc0 => ?_)
 ·refine zF (zC (zE rfl rfl (zA (zY ?_))))
  refine zN ⟨[_], ⟨rfl, trivial⟩, ?_⟩
  dsimp only [zV]
  rw [hn4.sign.1 hc0]
  subst hFz
  exact ⟨LL.below (Nat.le_refl _), rfl⟩
 ·refine zF (zC (zJ 0 rfl yu31 rfl rfl sz4 rfl rfl (zS rfl qY rfl B1 rfl (zE rfl rfl (zA ?_)))))
  refine qP rfl (fun hc1 => ?_) (fun hc1 => ?_)
  ·refine zF (zC (zE rfl rfl (zA (zY ?_))))
   refine zN ⟨[_], ⟨rfl, trivial⟩, ?_⟩
   dsimp only [zV]
   rw [Int.sign_eq_neg_one_of_neg (hn4.sign.2.1 hc1)]
   subst hFz
   exact ⟨LL.below (Nat.le_refl _), rfl⟩
  ·refine yO (zF (zC (zE rfl rfl (zA (zY ?_)))))
   refine zN ⟨[_], ⟨rfl, trivial⟩, ?_⟩
   dsimp only [zV]
   have hp := hn4.sign.2.2 hc1
   rw [Int.sign_eq_one_of_pos (by have : z ≠ 0 := fun c => hc0 (by rw [c]; simp [xN]); omega)]
   subst hFz
   exact ⟨LL.below (Nat.le_refl _), rfl⟩
theorem i5neg_c {z : Int} {n0 : Nat} {xs0 : Bool} {xa0 : Value} (h0 : ZQ M w n0 z xs0 xa0) (hl0 : n0 ≤ 1000000) (hM : OkM M w) :
    CallsV prog 149 [.agg #[.bool xs0, xa0]] w fun r w' => Below w.heap.size w w' ∧ ∃ xsr xar, r = .agg #[.bool xsr, xar] ∧ ZC M w' (n0) (-z) xsr xar := by
 obtain ⟨Fz, hFz, hF, LL⟩ := fz0 M w
 obtain ⟨oxa0, _⟩ := h0.one
 have hM0 := hM
 refine zP func149 rfl ntmps149 rfl ?_
 refine zF (zC (yL rfl rfl (fun w1 b1 N1 => ?_)))
 obtain ⟨_, nF1, nM1, Lw1, B1⟩ := nza hF hM N1
 obtain ⟨LL, hM, hF, h0⟩ := up4 Lw1 LL hM hF h0
 refine yJ rfl xC (fun w2 b2 N2 => ?_)
 obtain ⟨hBw2, nF2, nM2, Lw2, B2⟩ := nza hF hM N2
 obtain ⟨B1, ne1_2⟩ := bn B1 N2
 obtain ⟨LL, hM, h0⟩ := up3 Lw2 LL hM h0
 refine zA (zF (zC (zJ 0 rfl yu31 rfl rfl sz4 rfl rfl (zS rfl qY rfl B1 rfl (qR rfl rfl (zJ 1 rfl yu31 rfl rfl xV rfl rfl (zS rfl yX rfl B1 rfl (xP rfl aQ rfl rfl (zZ (gN rfl) (zZ (gN (by first | rfl | assumption)) xF)) rfl (zH rfl aP rfl rfl ?_)))))))))
 refine (qU h0.neg (by omega) hM).mono ?_
 rintro v9 w3 ⟨hB9, xs9, xa9, rfl, hn9⟩
 obtain ⟨LL, B2⟩ := ub2 hB9 LL B2
 obtain ⟨oxa9, _⟩ := hn9.one
 refine zW rfl rfl xC B2 rfl rfl (zU rfl (zU (by first | rfl | assumption) jC)) rfl (fun w4 Cw4 B2 => ?_)
 have Lw4 := Le.of_chg (M := (Ins b2 (Ins b1 M))) Cw4 zR nF2
 obtain ⟨LL, hn9⟩ := up2 Lw4 LL hn9
 refine zA (zY ?_)
 refine zN ⟨[_], ⟨⟨_, rfl, yU xX xC B2 rfl rfl⟩, trivial⟩, ?_⟩
 dsimp only [zV]
 subst hFz
 exact ⟨LL.below (Nat.le_refl _), _, _, rfl, (hn9.less (fun k c => zI (zI c))).up (by omega)⟩
theorem i5two_c {z : Int} {n0 : Nat} {xs0 : Bool} {xa0 : Value} {y : Int} {n1 : Nat} {xs1 : Bool} {xa1 : Value} (h0 : ZQ M w n0 z xs0 xa0) (h1 : ZQ M w n1 y xs1 xa1) (hl0 : n0 ≤ 400000) (hl1 : n1 ≤ 400000) (hM : OkM M w) :
    CallsV prog 203 [.agg #[.bool xs0, xa0], .agg #[.bool xs1, xa1]] w fun r w' => Below w.heap.size w w' ∧ ∃ xsr xar, r = .agg #[.bool xsr, xar] ∧ ZC M w' (max n0 n1 + 1) (z + y) xsr xar := by
 obtain ⟨Fz, hFz, hF, _⟩ := fz0 M w
 obtain ⟨oxa0, _⟩ := h0.one
 obtain ⟨oxa1, _⟩ := h1.one
 obtain ⟨xs, hx, hxl, hz⟩ := h0.ex
 obtain ⟨ys, hy, hyl, hzy⟩ := h1.ex
 have hvx := jE hx.lt hxl
 have hvy := jE hy.lt hyl
 have ex := yQ xs hx.lt
 have ey := yQ ys hy.lt
 have esx := yV (Nat.sub_le (val xs) (val ys))
 have esy := yV (Nat.sub_le (val ys) (val xs))
 have esum : (limbs (val xs + val ys)).length ≤ max n0 n1 + 1 := xT (by
   have a1 : (4294967296 : Nat) ^ n0 ≤ 4294967296 ^ max n0 n1 := Nat.pow_le_pow_right (by omega) (by omega)
   have a2 : (4294967296 : Nat) ^ n1 ≤ 4294967296 ^ max n0 n1 := Nat.pow_le_pow_right (by omega) (by omega)
   rw [Nat.pow_succ]; generalize (4294967296 : Nat) ^ max n0 n1 = B at *; omega)
 have LL := Le.refl Fz M w
 have hM0 := hM
 refine zP func203 rfl ntmps203 rfl ?_
 refine zF (zC (yL rfl rfl (fun w1 b2 N2 => ?_)))
 obtain ⟨_, nF2, nM2, Lw1, B2⟩ := nza hF hM N2
 obtain ⟨LL, hM, hF, hx, hy⟩ := up5 Lw1 LL hM hF hx hy
 refine yL rfl rfl (fun w2 b3 N3 => ?_)
 obtain ⟨hBw2, nF3, nM3, Lw2, B3⟩ := nza hF hM N3
 obtain ⟨B2, ne2_3⟩ := bn B2 N3
 obtain ⟨LL, hM, hF, hx, hy⟩ := up5 Lw2 LL hM hF hx hy
 refine yJ rfl xC (fun w3 b4 N4 => ?_)
 obtain ⟨hBw3, nF4, nM4, Lw3, B4⟩ := nza hF hM N4
 obtain ⟨B2, ne2_4⟩ := bn B2 N4
 obtain ⟨B3, ne3_4⟩ := bn B3 N4
 obtain ⟨LL, hM, hx, hy⟩ := up4 Lw3 LL hM hx hy
 refine zA (zF (zF (zC (zJ 0 rfl yu31 rfl rfl sz4 rfl rfl (zS rfl qY rfl B2 rfl (zJ 0 rfl yu31 rfl rfl sz4 rfl rfl (zS rfl qY rfl B3 rfl (ops_beq rfl rfl rfl underlying4 (zA ?_)))))))))
 refine qP rfl (fun hc0 => ?_) (fun hc0 => ?_)
 ·refine zF ?_
  refine xL (R := Rb) (R' := Rb) (st := none) jJ 8 [2, 3, 4, 13, 19] (by decide +kernel) xJ xU (xS _) (fun _ _ _ h => by cases h) ?_
  refine zM (fun _ _ _ => zO rfl rfl (zD (zJ 0 rfl yu31 rfl rfl sz4 rfl rfl (on0 rfl)))) ?_
  refine zM (fun _ hR _ => zK rfl (zD (zS rfl qY rfl (B2.below hR) rfl (on0 rfl)))) ?_
  refine zM (fun _ _ _ => zO rfl rfl (zD (zJ 1 rfl yu31 rfl rfl xV rfl rfl (on0 rfl)))) ?_
  refine zM (fun _ hR _ => zK rfl (zD (zS rfl yX rfl (B2.below hR) rfl (on0 rfl)))) ?_
  refine zM (fun _ _ _ => zO rfl rfl (zD (zJ 1 rfl yu31 rfl rfl xV rfl rfl (on0 rfl)))) ?_
  refine zM (fun _ hR _ => zK rfl (zD (zS rfl yX rfl (B3.below hR) rfl (on0 rfl)))) ?_
  refine zX (fun v w => IsNats (Ins b4 (Ins b3 (Ins b2 M))) w v [xs, ys]) bV (fun wq hR hst => ?_) ?_
  ·refine zK rfl (zK rfl (zD ?_))
   obtain ⟨hM, hx, hy⟩ := ub3 hR hM hx hy
   refine xE rfl yu255 xV rfl rfl rfl (fJ (by first | rfl | exact yF (by assumption) | exact yH (by assumption) | assumption) (by first | rfl | exact yF (by assumption) | exact yH (by assumption) | assumption)) rfl (fun w4 b18 N18 => ?_)
   have hBw4 := N18.below
   have nM18 := hM.new N18
   have B18 := N18.blk
   obtain ⟨hx, hy⟩ := ub2 hBw4 hx hy
   have hn18 := eE B18 nM18 hx hy
   have hB18 := hBw4
   exact zA ⟨rfl, hB18, _, rfl, hn18⟩
  refine zX (fun v w => IsNat (Ins b4 (Ins b3 (Ins b2 M))) w v (limbs (val xs + val ys))) xR (fun wq hR hst => ?_) ?_
  ·refine yE rfl (fun v18 hp18 => ?_)
   have hn18 := hp18
   refine zD ?_
   obtain ⟨LL, hM⟩ := ub2 hR LL hM
   refine zH rfl bod225 rfl rfl ?_
   refine (radd_c hn18 (by intro q hq; rcases List.mem_cons.1 hq with rfl | hq; omega; rcases List.mem_cons.1 hq with rfl | hq; omega; cases hq) (by simp) hM).mono ?_
   rintro v19 w5 ⟨hB19, hf19⟩
   have hM19 := hM
   have hS19 := LL.size
   simp only [List.map_cons, List.map_nil, List.sum_cons, List.sum_nil, Nat.add_zero] at hf19
   have hn19 := hf19.nat hM19
   exact zA ⟨rfl, hB19, _, rfl, hn19⟩
  refine xM (fun wq2 hR2 hpost2 => ?_)
  refine zO rfl rfl (zO rfl rfl (zO rfl rfl (zK rfl (yE rfl (fun v19 hp19 => ?_)))))
  have hn19 := hp19
  refine zD ?_
  simp only [List.drop_succ_cons, List.drop_zero, List.drop_nil, List.toList_toArray]
  obtain ⟨LL, hM, B4⟩ := ub3 hR2 LL hM B4
  refine xP rfl aQ rfl rfl (zZ (gN rfl) (zZ (gN (by first | rfl | exact yF (by assumption) | exact yH (by assumption) | assumption)) xF)) rfl ?_
  have hqz : ZQ (Ins b4 (Ins b3 (Ins b2 M))) wq2 (max n0 n1 + 1) (z + y) xs0 v19 := ⟨_, hn19, esum, by rw [zv_same hc0, hz, hzy]⟩
  refine zH rfl aP rfl rfl ?_
  refine (qU hqz (by omega) hM).mono ?_
  rintro v21 w6 ⟨hB21, xs21, xa21, rfl, hn21⟩
  obtain ⟨LL, B4⟩ := ub2 hB21 LL B4
  obtain ⟨oxa21, _⟩ := hn21.one
  refine zW rfl rfl xC B4 rfl rfl (zU rfl (zU (by first | rfl | exact yF (by assumption) | exact yH (by assumption) | assumption) jC)) rfl (fun w7 Cw7 B4 => ?_)
  have Lw7 := Le.of_chg (M := (Ins b4 (Ins b3 (Ins b2 M)))) Cw7 zR nF4
  obtain ⟨LL, hn21⟩ := up2 Lw7 LL hn21
  refine zA (zY ?_)
  refine zN ⟨[_], ⟨⟨_, rfl, yU xX xC B4 rfl rfl⟩, trivial⟩, ?_⟩
  dsimp only [zV]
  subst hFz
  exact ⟨LL.below (Nat.le_refl _), _, _, rfl, (hn21.less (fun k c => zI (zI (zI c)))).up (by omega)⟩
 ·refine yO (zF (zC (zJ 1 rfl yu31 rfl rfl xV rfl rfl (zS rfl yX rfl B2 rfl (zJ 1 rfl yu31 rfl rfl xV rfl rfl (zS rfl yX rfl B3 rfl (zH rfl dZ rfl rfl ?_)))))))
  refine (dU hx hy (by omega) (by omega) hM).mono ?_
  rintro v27 w8 ⟨hB27, q27, rfl, hf27⟩
  have hMx := hM
  obtain ⟨LL, hM, hx, hy, B2, B3, B4⟩ := ub7 hB27 LL hM hx hy B2 B3 B4
  have hn27 := hf27.nat hMx
  refine zB rfl rfl (yA rfl rfl rfl (yA rfl rfl rfl (zE rfl rfl (zE rfl rfl (zA (zF (zF (zC (zB rfl rfl (gI rfl rfl rfl (zA ?_)))))))))))
  refine yC rfl (fun hc1 => ?_) (fun hc1 => ?_)
  ·refine zF (zC (zJ 0 rfl yu31 rfl rfl sz4 rfl rfl (zS rfl qY rfl B2 rfl (zB rfl rfl (xP rfl aQ rfl rfl (zZ (gN rfl) (zZ (gN (by first | rfl | exact yF (by assumption) | exact yH (by assumption) | assumption)) xF)) rfl ?_)))))
   have hqz : ZQ (Ins b4 (Ins b3 (Ins b2 M))) w8 (max n0 n1 + 1) (z + y) xs0 q27 := ⟨_, hn27, by omega, by rw [zv_ge hc0 (by have := hc1; by_cases c : val xs < val ys; rw [if_pos c] at this; simp at this; omega), hz, hzy]⟩
   refine zH rfl aP rfl rfl ?_
   refine (qU hqz (by omega) hM).mono ?_
   rintro v36 w9 ⟨hB36, xs36, xa36, rfl, hn36⟩
   obtain ⟨LL, B4⟩ := ub2 hB36 LL B4
   obtain ⟨oxa36, _⟩ := hn36.one
   refine zW rfl rfl xC B4 rfl rfl (zU rfl (zU (by first | rfl | exact yF (by assumption) | exact yH (by assumption) | assumption) jC)) rfl (fun w10 Cw10 B4 => ?_)
   have Lw10 := Le.of_chg (M := (Ins b4 (Ins b3 (Ins b2 M)))) Cw10 zR nF4
   obtain ⟨LL, hn36⟩ := up2 Lw10 LL hn36
   refine zA (zY ?_)
   refine zN ⟨[_], ⟨⟨_, rfl, yU xX xC B4 rfl rfl⟩, trivial⟩, ?_⟩
   dsimp only [zV]
   subst hFz
   exact ⟨LL.below (Nat.le_refl _), _, _, rfl, (hn36.less (fun k c => zI (zI (zI c)))).up (by omega)⟩
  ·refine yO (zF (zC (zJ 1 rfl yu31 rfl rfl xV rfl rfl (zS rfl yX rfl B3 rfl (zJ 1 rfl yu31 rfl rfl xV rfl rfl (zS rfl yX rfl B2 rfl (zH rfl dZ rfl rfl ?_)))))))
   refine (dU hy hx (by omega) (by omega) hM).mono ?_
   rintro v42 w11 ⟨hB42, q42, rfl, hf42⟩
   have hMx := hM
   obtain ⟨LL, hM, B3, B4⟩ := ub4 hB42 LL hM B3 B4
   have hn42 := hf42.nat hMx
   refine zB rfl rfl (yA rfl rfl rfl (yA rfl rfl rfl (zE rfl rfl (zA (zF (zC (zJ 0 rfl yu31 rfl rfl sz4 rfl rfl (zS rfl qY rfl B3 rfl (zB rfl rfl (xP rfl aQ rfl rfl (zZ (gN rfl) (zZ (gN (by first | rfl | exact yF (by assumption) | exact yH (by assumption) | assumption)) xF)) rfl ?_))))))))))
   have hqz : ZQ (Ins b4 (Ins b3 (Ins b2 M))) w11 (max n0 n1 + 1) (z + y) xs1 q42 := ⟨_, hn42, by omega, by rw [zv_lt hc0 (by have := hc1; by_cases c : val xs < val ys; omega; rw [if_neg c] at this; simp at this), hz, hzy]⟩
   refine zH rfl aP rfl rfl ?_
   refine (qU hqz (by omega) hM).mono ?_
   rintro v49 w12 ⟨hB49, xs49, xa49, rfl, hn49⟩
   obtain ⟨LL, B4⟩ := ub2 hB49 LL B4
   obtain ⟨oxa49, _⟩ := hn49.one
   refine zW rfl rfl xC B4 rfl rfl (zU rfl (zU (by first | rfl | exact yF (by assumption) | exact yH (by assumption) | assumption) jC)) rfl (fun w13 Cw13 B4 => ?_)
   have Lw13 := Le.of_chg (M := (Ins b4 (Ins b3 (Ins b2 M)))) Cw13 zR nF4
   obtain ⟨LL, hn49⟩ := up2 Lw13 LL hn49
   refine zA (zY ?_)
   refine zN ⟨[_], ⟨⟨_, rfl, yU xX xC B4 rfl rfl⟩, trivial⟩, ?_⟩
   dsimp only [zV]
   subst hFz
   exact ⟨LL.below (Nat.le_refl _), _, _, rfl, (hn49.less (fun k c => zI (zI (zI c)))).up (by omega)⟩
theorem i5add_c {l : List Int} {n0 : Nat} {xa0 : Value} (h0 : ZL M w n0 l xa0) (hl0 : n0 ≤ 390000) (hlen : l.length ≤ 2) (hM : OkM M w) :
    CallsV prog 150 [xa0] w fun r w' => Below w.heap.size w w' ∧ ∃ xsr xar, r = .agg #[.bool xsr, xar] ∧ ZC M w' (n0 + 2) (l.sum) xsr xar := by
 obtain ⟨Fz, hFz, hF, LL⟩ := fz0 M w
 obtain ⟨oxa0, _⟩ := h0.one
 have hM0 := hM
 refine zP func150 rfl ntmps150 rfl ?_
 refine zF (zC (yJ rfl xC (fun w1 b2 N2 => ?_)))
 obtain ⟨_, nF2, nM2, Lw1, B2⟩ := nza hF hM N2
 obtain ⟨LL, hM, hF, h0⟩ := up4 Lw1 LL hM hF h0
 refine zA (zF (zC (yJ rfl xC (fun w2 b3 N3 => ?_))))
 obtain ⟨hBw2, nF3, nM3, Lw2, B3⟩ := nza hF hM N3
 obtain ⟨B2, ne2_3⟩ := bn B2 N3
 obtain ⟨LL, hM, h0⟩ := up3 Lw2 LL hM h0
 refine zA (zF (zF (zC (zE rfl rfl (zA (yK ?_))))))
 refine jA (σ := Nat) [(0, _), (2, _), (3, _)] (fun s => [(4, .int .i64 ((s : Nat) : Int))]) (fun s w3 => Le Fz (Ins b3 (Ins b2 M)) w2 (Ins b3 (Ins b2 M)) w3 ∧ s ≤ l.length ∧ Blk w3 b2 31 [.bool false, .slice none 0 0] ∧ ∃ xs3 xa3, Blk w3 b3 31 [.bool xs3, xa3] ∧ ZC (Ins b3 (Ins b2 M)) w3 (n0 + s) ((l.take s).sum) xs3 xa3) (fun s => l.length - s) (0) (zG rfl (zG rfl (zG rfl (zG rfl yM)))) ?_ (fun s w3 hJ => ?_)
 · exact ⟨Le.refl _ _ _, by omega, B2, _, _, B3, by simpa using zc_zero⟩
 ·obtain ⟨LR, hk, B2, xs3, xa3, B3, hn3⟩ := hJ
  obtain ⟨oxa3, _⟩ := hn3.one
  obtain ⟨LL, hM, h0⟩ := up3 LR LL hM h0
  refine zF (zF (zC (zB rfl rfl (zB rfl rfl (aK rfl yu174 rfl h0.row (jR rfl rfl rfl (zA ?_)))))))
  refine yC rfl (fun hc0 => ?_) (fun hc0 => ?_)
  ·refine yO (zF (yK ?_))
   refine xL (R := Rb) (R' := Rb) (st := none) jJ 6 [0, 2, 3, 4, 5, 6, 7, 8, 11, 12, 13, 14, 15, 16] (by decide +kernel) xJ xU (xS _) (fun _ _ _ h => by cases h) ?_
   refine zM (fun _ hR _ => zO rfl rfl (zD (zL rfl xX xC rfl (B3.below hR) rfl rfl (on0 rfl)))) ?_
   refine zX (fun v w => ∃ xa12, v = xa12 ∧ ZL (Ins b3 (Ins b2 M)) w (n0) (l) xa12) (fun _ _ _ ⟨xa12, e, h0⟩ r => ⟨xa12, e, h0.mono (Fz := fun _ => False) (Le.of_below r)⟩) (fun wq hR hst => ?_) ?_
   ·refine zO rfl rfl (zD ?_)
    replace h0 := ub1 hR h0
    exact zB rfl rfl (zA ⟨rfl, yP _, _, rfl, ⟨_, rfl, h0⟩⟩)
   refine zM (fun _ _ _ => zO rfl rfl (zD (zB rfl rfl (on0 rfl)))) ?_
   refine zX (fun v w => ∃ b o xs14 xa14, v = .pointer (some ⟨b, o, none⟩) ∧ (∀ (q : Nat) (u : Value), [.bool xs14, xa14][q]? = some u → w.cell? ⟨b, o + q, none⟩ = some u) ∧ ZQ (Ins b3 (Ins b2 M)) w (n0) (l.getD s 0) xs14 xa14) (fun _ _ _ ⟨b, o, xs14, xa14, e, hc, h⟩ r => ⟨b, o, xs14, xa14, e, fun q u hq => jI r (hc q u hq), h.mono (Fz := fun _ => False) (Le.of_below r)⟩) (fun wq hR hst => ?_) ?_
   ·refine yE rfl (fun v12 hp12 => ?_)
    obtain ⟨xa12, rfl, hn12⟩ := hp12
    refine zK rfl (zD ?_)
    refine gZ (dflt := (0 : Int)) (s) rfl yu174 xC rfl rfl hn12.row (by first | rfl | omega) (by first | omega | (simp; omega) | simp) (fun b14 o14 us14 hul14 hu14 hc14 => ?_)
    obtain ⟨xs14, xa14, rfl, hn14⟩ := hu14
    exact zA ⟨rfl, yP _, _, rfl, ⟨b14, o14, _, _, rfl, hc14, hn14⟩⟩
   refine zX (vZQ (Ins b3 (Ins b2 M)) (n0) (l.getD s 0)) vZQ_m (fun wq hR hst => ?_) ?_
   ·refine yE rfl (fun v14 hp14 => ?_)
    obtain ⟨b14, o14, xs14, xa14, rfl, hc14, hn14⟩ := hp14
    refine zD ?_
    exact qN rfl xX xC rfl hc14 rfl (zA ⟨rfl, yP _, _, rfl, ⟨_, _, rfl, hn14⟩⟩)
   refine zX (vZC (Ins b3 (Ins b2 M)) (n0) ((l.getD s 0))) fF (fun wq hR hst => ?_) ?_
   ·refine yE rfl (fun v15 hp15 => ?_)
    obtain ⟨xs15, xa15, rfl, hn15⟩ := hp15
    refine zD ?_
    replace hM := ub1 hR hM
    refine zH rfl aP rfl rfl ?_
    refine (qU hn15 (by omega) hM).mono ?_
    rintro v16 w4 ⟨hB16, xs16, xa16, rfl, hn16⟩
    exact zA ⟨rfl, hB16, _, rfl, ⟨_, _, rfl, hn16⟩⟩
   refine xM (fun wq5 hR5 hpost5 => ?_)
   refine zO rfl rfl (zO rfl rfl (zO rfl rfl (zO rfl rfl (zO rfl rfl (zO rfl rfl (zO rfl rfl (zO rfl rfl (zK rfl (yE rfl (fun v12 hp12 => ?_))))))))))
   obtain ⟨xa12, rfl, hn12⟩ := hp12; obtain ⟨oxa12, _⟩ := hn12.one
   refine zK rfl (yE rfl (fun v14 hp14 => ?_))
   obtain ⟨b14, o14, xs14, xa14, rfl, hc14, hn14⟩ := hp14; obtain ⟨oxa14, _⟩ := hn14.one
   refine yE rfl (fun v15 hp15 => ?_)
   obtain ⟨xs15, xa15, rfl, hn15⟩ := hp15; obtain ⟨oxa15, _⟩ := hn15.one
   refine yE rfl (fun v16 hp16 => ?_)
   obtain ⟨xs16, xa16, rfl, hn16⟩ := hp16; obtain ⟨oxa16, _⟩ := hn16.one
   refine zD ?_
   simp only [List.drop_succ_cons, List.drop_zero, List.drop_nil, List.toList_toArray]
   obtain ⟨LR, hM, hn3, B2, B3⟩ := ub5 hR5 LR hM hn3 B2 B3
   refine zH rfl bod203 rfl rfl ?_
   refine (i5two_c hn3.gen hn16.gen (by omega) (by omega) hM).mono ?_
   rintro v17 w5 ⟨hB17, xs17, xa17, rfl, hn17⟩
   obtain ⟨LR, B2, B3⟩ := ub3 hB17 LR B2 B3
   obtain ⟨oxa17, _⟩ := hn17.one
   refine zW rfl rfl xC B3 rfl rfl (zU rfl (zU (by first | rfl | assumption) jC)) rfl (fun w6 Cw6 B3 => ?_)
   have Lw6 := Le.of_chg (M := (Ins b3 (Ins b2 M))) Cw6 zR nF3
   obtain ⟨LR, hn17⟩ := up2 Lw6 LR hn17
   replace B2 := B2.other Cw6 ne2_3
   refine zA (zC (zB rfl rfl (xK rfl rfl rfl (by omega) (zE rfl rfl (zA ?_)))))
   refine ⟨rfl, s + 1, (yB rfl (by rw [Int.natCast_add]; rfl) (zG rfl (zG rfl (zG rfl yM)))), ?_, ?_⟩
   exact ⟨LR, by omega, B2, _, _, B3, by rw [sum_take (by omega)]; exact hn17.up (by omega)⟩
   omega
  ·refine xY (xZ (zF (zC (zL rfl xX xC rfl B3 rfl rfl (zH rfl aP rfl rfl ?_)))))
   refine (qU hn3.gen (by omega) hM).mono ?_
   rintro v19 w7 ⟨hB19, xs19, xa19, rfl, hn19⟩
   obtain ⟨LL, B2⟩ := ub2 hB19 LL B2
   obtain ⟨oxa19, _⟩ := hn19.one
   refine zW rfl rfl xC B2 rfl rfl (zU rfl (zU (by first | rfl | assumption) jC)) rfl (fun w8 Cw8 B2 => ?_)
   have Lw8 := Le.of_chg (M := (Ins b3 (Ins b2 M))) Cw8 (.inr zR) nF2
   obtain ⟨LL, hn19⟩ := up2 Lw8 LL hn19
   refine zA (zY ?_)
   refine zN ⟨[_], ⟨⟨_, rfl, yU xX xC B2 rfl rfl⟩, trivial⟩, ?_⟩
   dsimp only [zV]
   obtain rfl : s = l.length := by omega
   rw [List.take_length] at hn19
   subst hFz
   exact ⟨LL.below (Nat.le_refl _), _, _, rfl, (hn19.less (fun k c => zI (zI c))).up (by omega)⟩
theorem i5sub_c {z : Int} {n0 : Nat} {xs0 : Bool} {xa0 : Value} {y : Int} {n1 : Nat} {xs1 : Bool} {xa1 : Value} (h0 : ZQ M w n0 z xs0 xa0) (h1 : ZQ M w n1 y xs1 xa1) (hl0 : n0 ≤ 380000) (hl1 : n1 ≤ 380000) (hM : OkM M w) :
    CallsV prog 88 [.agg #[.bool xs0, xa0], .agg #[.bool xs1, xa1]] w fun r w' => Below w.heap.size w w' ∧ ∃ xsr xar, r = .agg #[.bool xsr, xar] ∧ ZC M w' (max n0 n1 + 2) (z - y) xsr xar := by
 obtain ⟨Fz, hFz, hF, LL⟩ := fz0 M w
 obtain ⟨oxa0, _⟩ := h0.one
 obtain ⟨oxa1, _⟩ := h1.one
 have hM0 := hM
 refine zP func88 rfl ntmps88 rfl ?_
 refine zF (zC (yL rfl rfl (fun w1 b2 N2 => ?_)))
 obtain ⟨_, nF2, nM2, Lw1, B2⟩ := nza hF hM N2
 obtain ⟨LL, hM, hF, h0, h1⟩ := up5 Lw1 LL hM hF h0 h1
 refine yL rfl rfl (fun w2 b3 N3 => ?_)
 obtain ⟨hBw2, nF3, nM3, Lw2, B3⟩ := nza hF hM N3
 obtain ⟨B2, ne2_3⟩ := bn B2 N3
 obtain ⟨LL, hM, hF, h0, h1⟩ := up5 Lw2 LL hM hF h0 h1
 refine yJ rfl xC (fun w3 b4 N4 => ?_)
 obtain ⟨hBw3, nF4, nM4, Lw3, B4⟩ := nza hF hM N4
 obtain ⟨B2, ne2_4⟩ := bn B2 N4
 obtain ⟨B3, ne3_4⟩ := bn B3 N4
 obtain ⟨LL, hM, h0, h1⟩ := up4 Lw3 LL hM h0 h1
 refine zA (zF ?_)
 refine xL (R := Rb) (R' := Rb) (st := none) jJ 3 [4, 5, 7] (by decide +kernel) xJ xU (xS _) (fun _ _ _ h => by cases h) ?_
 refine zM (fun _ hR _ => zO rfl rfl (zD (zL rfl xX xC rfl (B2.below hR) rfl rfl (on0 rfl)))) ?_
 refine zM (fun _ hR _ => zO rfl rfl (zD (zL rfl xX xC rfl (B3.below hR) rfl rfl (on0 rfl)))) ?_
 refine zX (vZC (Ins b4 (Ins b3 (Ins b2 M))) (n1) (-y)) fF (fun wq hR hst => ?_) ?_
 ·refine zK rfl (zD ?_)
  obtain ⟨hM, h1⟩ := ub2 hR hM h1
  refine zH rfl bod149 rfl rfl ?_
  refine (i5neg_c h1 (by omega) hM).mono ?_
  rintro v7 w4 ⟨hB7, xs7, xa7, rfl, hn7⟩
  exact zA ⟨rfl, hB7, _, rfl, ⟨_, _, rfl, hn7⟩⟩
 refine xM (fun wq1 hR1 hpost1 => ?_)
 refine zO rfl rfl (zK rfl (yE rfl (fun v7 hp7 => ?_)))
 obtain ⟨xs7, xa7, rfl, hn7⟩ := hp7; obtain ⟨oxa7, _⟩ := hn7.one
 refine zD ?_
 simp only [List.drop_succ_cons, List.drop_zero, List.drop_nil, List.toList_toArray]
 obtain ⟨LL, hM, h0, B4⟩ := ub4 hR1 LL hM h0 B4
 refine xI rfl yu174 xC rfl rfl rfl rfl (zZ rfl (zZ rfl xF)) rfl rfl rfl (fun w5 b8 N8 => ?_)
 have hBw5 := N8.below
 have nM8 := hM.new N8
 have B8 := N8.blk
 obtain ⟨LL, hM, h0, hn7, B4⟩ := ub5 hBw5 LL hM h0 hn7 B4
 refine zH rfl bod150 rfl rfl ?_
 refine (i5add_c (zl2 ((KBlk.mk B8 nM8)) h0 hn7.gen) (by omega) (by first | omega | simp) hM).mono ?_
 rintro v9 w6 ⟨hB9, xs9, xa9, rfl, hn9⟩
 obtain ⟨LL, B4⟩ := ub2 hB9 LL B4
 obtain ⟨oxa9, _⟩ := hn9.one
 refine zW rfl rfl xC B4 rfl rfl (zU rfl (zU (by first | rfl | assumption) jC)) rfl (fun w7 Cw7 B4 => ?_)
 have Lw7 := Le.of_chg (M := (Ins b4 (Ins b3 (Ins b2 M)))) Cw7 zR nF4
 obtain ⟨LL, hn9⟩ := up2 Lw7 LL hn9
 refine zA (zY ?_)
 refine zN ⟨[_], ⟨⟨_, rfl, yU xX xC B4 rfl rfl⟩, trivial⟩, ?_⟩
 dsimp only [zV]
 have hsm : [z, -y].sum = z - y := by simp only [List.sum_cons, List.sum_nil]; omega
 rw [hsm] at hn9
 subst hFz
 exact ⟨LL.below (Nat.le_refl _), _, _, rfl, (hn9.less (fun k c => zI (zI (zI c)))).up (by omega)⟩
theorem told_z {M M2 : Nat → Prop} {w w2 : World} {n m : Nat} {z y : Int} {s t : Bool} {a b : Value} (h : ZC M w n z s a) (k : ZC M2 w2 m y t b) (e : (s == t) = true) : decide (limbs z.natAbs = limbs y.natAbs) = decide (z = y) := by
  rw [decide_eq_decide]
  have e' : s = t := by simpa using e
  constructor
  · intro c
    have c2 := congrArg val c
    rw [yD, yD] at c2
    have h1 := h.sgn
    have h2 := k.sgn; rw [e', h2] at h1
    have := decide_eq_decide.1 h1
    omega
  · intro c; rw [c]
theorem told_zf {M M2 : Nat → Prop} {w w2 : World} {n m : Nat} {z y : Int} {s t : Bool} {a b : Value} (h : ZC M w n z s a) (k : ZC M2 w2 m y t b) (e : (s == t) = false) : false = decide (z = y) := by
  refine (decide_eq_false fun c => ?_).symm
  have h1 := h.sgn
  have h2 := k.sgn; rw [c, ← h2] at h1; subst h1; simp at e
theorem i5told_c {z : Int} {n0 : Nat} {xs0 : Bool} {xa0 : Value} {y : Int} {n1 : Nat} {xs1 : Bool} {xa1 : Value} (h0 : ZC M w n0 z xs0 xa0) (h1 : ZC M w n1 y xs1 xa1) (hl0 : n0 ≤ 20000) (hl1 : n1 ≤ 20000) (hM : OkM M w) :
    CallsV prog 136 [.agg #[.bool xs0, xa0], .agg #[.bool xs1, xa1]] w fun r w' => Below w.heap.size w w' ∧ r = .bool (decide (z = y)) := by
 obtain ⟨Fz, hFz, hF, LL⟩ := fz0 M w
 have hM0 := hM
 refine zP func136 rfl ntmps136 rfl ?_
 refine zF (zC (yL rfl rfl (fun w1 b2 N2 => ?_)))
 obtain ⟨_, nF2, nM2, Lw1, B2⟩ := nza hF hM N2
 obtain ⟨LL, hM, hF, h0, h1⟩ := up5 Lw1 LL hM hF h0 h1
 refine yL rfl rfl (fun w2 b3 N3 => ?_)
 obtain ⟨hBw2, nF3, nM3, Lw2, B3⟩ := nza hF hM N3
 obtain ⟨B2, ne2_3⟩ := bn B2 N3
 obtain ⟨LL, hM, h0, h1⟩ := up4 Lw2 LL hM h0 h1
 refine zE rfl rfl (zA (zF (zC (zJ 0 rfl yu31 rfl rfl sz4 rfl rfl (zS rfl qY rfl B2 rfl (zJ 0 rfl yu31 rfl rfl sz4 rfl rfl (zS rfl qY rfl B3 rfl (ops_beq rfl rfl rfl underlying4 (zB rfl rfl (aW (d := 10) rfl (fun hg1_5 => ?_) (fun hg1_5 => ?_)))))))))))
 ·refine zQ rfl rfl (zJ 1 rfl yu31 rfl rfl xV rfl rfl (zQ rfl rfl (zS rfl yX rfl B2 rfl (zQ rfl rfl (zJ 1 rfl yu31 rfl rfl xV rfl rfl (zQ rfl rfl (zS rfl yX rfl B3 rfl (zQ rfl rfl (zH rfl bod137 rfl rfl ?_)))))))))
  refine (same_c h0.num h1.num hM).mono ?_
  rintro v15 w3 ⟨hB15, rfl⟩
  obtain ⟨LL, h0, h1⟩ := ub3 hB15 LL h0 h1
  refine xB rfl rfl rfl (zE rfl rfl (zA (zY ?_)))
  refine zN ⟨[_], ⟨rfl, trivial⟩, ?_⟩
  dsimp only [zV]
  subst hFz
  exact ⟨LL.below (Nat.le_refl _), by congr 1; exact told_z h0 h1 hg1_5⟩
 ·refine zT rfl rfl rfl rfl (zT rfl rfl rfl rfl (zT rfl rfl rfl rfl (zT rfl rfl rfl rfl (zT rfl rfl rfl rfl (xB rfl rfl rfl (zE rfl rfl (zA (zY ?_))))))))
  refine zN ⟨[_], ⟨rfl, trivial⟩, ?_⟩
  dsimp only [zV]
  subst hFz
  exact ⟨LL.below (Nat.le_refl _), by congr 1; exact told_zf h0 h1 hg1_5⟩
theorem ZQ.sgn0 {n : Nat} {z : Int} {s : Bool} {a : Value} (h : ZQ M w n z s a) : z ≠ 0 → s = decide (z < 0) := by
  obtain ⟨xs, h1, h2, h3⟩ := h.ex
  intro h0
  subst h3
  cases s
  · simp [zv]
  · have : val xs ≠ 0 := fun c => h0 (by simp [zv, c])
    simp [zv]; omega
theorem ZQ.abs {n : Nat} {z : Int} {s : Bool} {a : Value} (h : ZQ M w n z s a) : ∃ ys, IsNat M w a ys ∧ ys.length ≤ n ∧ val ys = z.natAbs := by
  obtain ⟨xs, h1, h2, h3⟩ := h.ex
  exact ⟨xs, h1, h2, by rw [← h3, qZ]⟩
theorem zv_prod {P z : Int} {b : Bool} (hb : z ≠ 0 → b = decide (z < 0)) : zv (decide (P < 0) != b) (limbs (P.natAbs * z.natAbs)) = P * z := by
  by_cases h0 : z = 0
  · subst h0; simp [zv, yD]
  · rw [hb h0, zv, yD]
    rcases Int.lt_or_le P 0 with hp | hp <;> rcases Int.lt_or_le z 0 with hz | hz
    · rw [decide_eq_true hp, decide_eq_true hz, if_neg (by simp)]
      rw [Int.natCast_mul, show ((P.natAbs : Nat) : Int) = -P by omega, show ((z.natAbs : Nat) : Int) = -z by omega, Int.neg_mul_neg]
    · rw [decide_eq_true hp, decide_eq_false (by omega), if_pos (by simp)]
      rw [Int.natCast_mul, show ((P.natAbs : Nat) : Int) = -P by omega, show ((z.natAbs : Nat) : Int) = z by omega, Int.neg_mul, Int.neg_neg]
    · rw [decide_eq_false (by omega), decide_eq_true hz, if_pos (by simp)]
      rw [Int.natCast_mul, show ((P.natAbs : Nat) : Int) = P by omega, show ((z.natAbs : Nat) : Int) = -z by omega, Int.mul_neg, Int.neg_neg]
    · rw [decide_eq_false (by omega), decide_eq_false (by omega), if_neg (by simp)]
      rw [Int.natCast_mul, show ((P.natAbs : Nat) : Int) = P by omega, show ((z.natAbs : Nat) : Int) = z by omega]
theorem dK {l : List Int} {n0 : Nat} {xa0 : Value} (h0 : ZL M w n0 l xa0) (hl0 : n0 ≤ 100000) (hlen : l.length ≤ 2) (hM : OkM M w) :
    CallsV prog 89 [xa0] w fun r w' => Below w.heap.size w w' ∧ ∃ xsr xar, r = .agg #[.bool xsr, xar] ∧ ZC M w' (2 * n0 + 2) (gV l) xsr xar := by
 obtain ⟨Fz, hFz, hF, LL⟩ := fz0 M w; have hM0 := hM
 obtain ⟨oxa0, _⟩ := h0.one
 refine zP func89 rfl ntmps89 rfl ?_
 refine zF (zC (yJ rfl xC (fun w1 b2 N2 => ?_)))
 have hBw1 := N2.below
 have nF2 := hF.new N2; have nM2 := hM.new N2
 have Lw1 := Le.of_new (Fz := Fz) (M := M) N2
 replace LL := LL.trans Lw1
 replace hM := hM.mono Lw1
 replace hF := hF.mono Lw1
 replace h0 := h0.mono Lw1
 have B2 := N2.blk
 rw [aC] at B2
 refine zA (zF (zC (zH rfl bod79 rfl rfl ?_)))
 refine (i5of_c (M := (Ins b2 M)) (k := 1)  (by omega) hM).mono ?_
 rintro v5 w2 ⟨hB5, xs5, xa5, rfl, hn5⟩
 have Lw2 := Le.of_below (Fz := Fz) (M := (Ins b2 M)) hB5
 replace LL := LL.trans Lw2
 replace hM := hM.mono Lw2
 replace hF := hF.mono Lw2
 replace h0 := h0.mono Lw2
 replace B2 := B2.below hB5
 obtain ⟨oxa5, _⟩ := hn5.one
 refine yJ rfl xC (fun w3 b3 N3 => ?_)
 have hBw3 := N3.below
 have nF3 := hF.new N3; have nM3 := hM.new N3
 have Lw3 := Le.of_new (Fz := Fz) (M := (Ins b2 M)) N3
 have lt2_3 := B2.lt; replace B2 := B2.below hBw3; have ne2_3 : b2 ≠ b3 := by have := N3.at_; omega
 replace LL := LL.trans Lw3
 replace hM := hM.mono Lw3
 replace hF := hF.mono Lw3
 replace h0 := h0.mono Lw3
 replace hn5 := hn5.mono Lw3
 have B3 := N3.blk
 rw [aC] at B3
 refine zW rfl rfl xC B3 rfl rfl (zU rfl (zU (by first | rfl | exact yF (by assumption) | exact yH (by assumption) | assumption) jC)) rfl (fun w4 Cw4 B3 => ?_)
 have Lw4 := Le.of_chg (M := (Ins b3 (Ins b2 M))) Cw4 zR nF3
 replace LL := LL.trans Lw4
 replace hM := hM.mono Lw4
 replace hF := hF.mono Lw4
 replace h0 := h0.mono Lw4
 replace hn5 := hn5.mono Lw4
 replace B2 := B2.other Cw4 ne2_3
 try simp only [List.set_cons_zero, List.set_cons_succ, List.take_succ_cons, List.take_zero, List.drop_succ_cons, List.drop_zero, List.drop_nil, List.cons_append, List.nil_append, List.append_nil] at B3
 refine zA (zF (zF (zC (zE rfl rfl (zA (yK ?_))))))
 refine jA (σ := Nat) [(0, _), (2, _), (3, _)] (fun s => [(4, .int .i64 ((s : Nat) : Int))]) (fun s w5 => Le Fz (Ins b3 (Ins b2 M)) w4 (Ins b3 (Ins b2 M)) w5 ∧ s ≤ l.length ∧ Blk w5 b2 31 [.bool false, .slice none 0 0] ∧ ∃ xs3 xa3, Blk w5 b3 31 [.bool xs3, xa3] ∧ ZC (Ins b3 (Ins b2 M)) w5 (s * n0 + 2) (gV (l.take s)) xs3 xa3) (fun s => l.length - s) (0) (zG rfl (zG rfl (zG rfl (zG rfl yM)))) ?_ (fun s w5 hJ => ?_)
 · exact ⟨Le.refl _ _ _, by omega, B2, _, _, B3, by simpa [gV] using hn5.up (by omega)⟩
 ·obtain ⟨LR, hk, B2, xs3, xa3, B3, hn3⟩ := hJ
  obtain ⟨oxa3, _⟩ := hn3.one
  replace LL := LL.trans LR
  replace hM := hM.mono LR
  replace hF := hF.mono LR
  replace h0 := h0.mono LR
  replace hn5 := hn5.mono LR
  refine zF (zF (zC (zB rfl rfl (zB rfl rfl (aK rfl yu174 rfl h0.row (jR rfl rfl rfl (zA ?_)))))))
  refine yC rfl (fun hc0 => ?_) (fun hc0 => ?_)
  ·refine yO (zF (yK ?_))
   refine xL (R := Rb) (R' := Rb) (st := none) jJ 16 [0, 2, 3, 4, 6, 7, 8, 9, 12, 13, 14, 15, 16, 17, 18, 19, 20, 21, 22, 23, 24, 25, 26, 27] (by decide +kernel) xJ xU (xS _) (fun _ _ _ h => by cases h) ?_
   apply zM
   ·intro wq hR hst
    refine zO rfl rfl (zD ?_)
    have Lq := Le.of_below (Fz := Fz) (M := (Ins b3 (Ins b2 M))) hR
    replace LL := LL.trans Lq
    replace LR := LR.trans Lq
    replace hM := hM.mono Lq
    replace hF := hF.mono Lq
    replace h0 := h0.mono Lq
    replace hn5 := hn5.mono Lq
    replace hn3 := hn3.mono Lq
    replace B2 := B2.below hR
    replace B3 := B3.below hR
    refine zJ 0 rfl yu31 rfl rfl sz4 rfl rfl ?_
    exact zA ⟨rfl, yP _, _, rfl, rfl⟩
   apply zM
   ·intro wq hR hst
    refine zK rfl (zD ?_)
    have Lq := Le.of_below (Fz := Fz) (M := (Ins b3 (Ins b2 M))) hR
    replace LL := LL.trans Lq
    replace LR := LR.trans Lq
    replace hM := hM.mono Lq
    replace hF := hF.mono Lq
    replace h0 := h0.mono Lq
    replace hn5 := hn5.mono Lq
    replace hn3 := hn3.mono Lq
    replace B2 := B2.below hR
    replace B3 := B3.below hR
    refine zS rfl qY rfl B3 rfl ?_
    exact zA ⟨rfl, yP _, _, rfl, rfl⟩
   refine zX (fun v w => ∃ xa14, v = xa14 ∧ ZL (Ins b3 (Ins b2 M)) w (n0) (l) xa14) (fun _ _ _ ⟨xa14, e, h0⟩ r => ⟨xa14, e, h0.mono (Fz := fun _ => False) (Le.of_below r)⟩) (fun wq hR hst => ?_) ?_
   ·refine zO rfl rfl (zD ?_)
    have Lq := Le.of_below (Fz := Fz) (M := (Ins b3 (Ins b2 M))) hR
    replace LL := LL.trans Lq
    replace LR := LR.trans Lq
    replace hM := hM.mono Lq
    replace hF := hF.mono Lq
    replace h0 := h0.mono Lq
    replace hn5 := hn5.mono Lq
    replace hn3 := hn3.mono Lq
    replace B2 := B2.below hR
    replace B3 := B3.below hR
    refine zB rfl rfl ?_
    exact zA ⟨rfl, yP _, _, rfl, ⟨_, rfl, h0⟩⟩
   apply zM
   ·intro wq hR hst
    refine zO rfl rfl (zD ?_)
    have Lq := Le.of_below (Fz := Fz) (M := (Ins b3 (Ins b2 M))) hR
    replace LL := LL.trans Lq
    replace LR := LR.trans Lq
    replace hM := hM.mono Lq
    replace hF := hF.mono Lq
    replace h0 := h0.mono Lq
    replace hn5 := hn5.mono Lq
    replace hn3 := hn3.mono Lq
    replace B2 := B2.below hR
    replace B3 := B3.below hR
    refine zB rfl rfl ?_
    exact zA ⟨rfl, yP _, _, rfl, rfl⟩
   refine zX (fun v w => ∃ b o xs16 xa16, v = .pointer (some ⟨b, o, none⟩) ∧ (∀ (q : Nat) (u : Value), [.bool xs16, xa16][q]? = some u → w.cell? ⟨b, o + q, none⟩ = some u) ∧ ZQ (Ins b3 (Ins b2 M)) w (n0) (l.getD s 0) xs16 xa16) (fun _ _ _ ⟨b, o, xs16, xa16, e, hc, h⟩ r => ⟨b, o, xs16, xa16, e, fun q u hq => jI r (hc q u hq), h.mono (Fz := fun _ => False) (Le.of_below r)⟩) (fun wq hR hst => ?_) ?_
   ·refine yE rfl (fun v14 hp14 => ?_)
    obtain ⟨xa14, rfl, hn14⟩ := hp14; obtain ⟨oxa14, _⟩ := hn14.one
    refine zK rfl (zD ?_)
    have Lq := Le.of_below (Fz := Fz) (M := (Ins b3 (Ins b2 M))) hR
    replace LL := LL.trans Lq
    replace LR := LR.trans Lq
    replace hM := hM.mono Lq
    replace hF := hF.mono Lq
    replace h0 := h0.mono Lq
    replace hn5 := hn5.mono Lq
    replace hn3 := hn3.mono Lq
    replace B2 := B2.below hR
    replace B3 := B3.below hR
    refine gZ (dflt := (0 : Int)) (s) rfl yu174 xC rfl rfl hn14.row (by first | rfl | omega) (by first | omega | (simp; omega) | simp) (fun b16 o16 us16 hul16 hu16 hc16 => ?_)
    obtain ⟨xs16, xa16, rfl, hn16⟩ := hu16
    obtain ⟨oxa16, _⟩ := hn16.one
    exact zA ⟨rfl, yP _, _, rfl, ⟨b16, o16, _, _, rfl, hc16, hn16⟩⟩
   refine zX (fun v w => ∃ b o xs17 xa17, v = .pointer (some ⟨b, o, none⟩) ∧ (∀ (q : Nat) (u : Value), [.bool xs17, xa17][q]? = some u → w.cell? ⟨b, o + q, none⟩ = some u) ∧ ZQ (Ins b3 (Ins b2 M)) w (n0) (l.getD s 0) xs17 xa17) (fun _ _ _ ⟨b, o, xs17, xa17, e, hc, h⟩ r => ⟨b, o, xs17, xa17, e, fun q u hq => jI r (hc q u hq), h.mono (Fz := fun _ => False) (Le.of_below r)⟩) (fun wq hR hst => ?_) ?_
   ·refine yE rfl (fun v16 hp16 => ?_)
    obtain ⟨b16, o16, xs16, xa16, rfl, hc16, hn16⟩ := hp16; obtain ⟨oxa16, _⟩ := hn16.one
    refine zD ?_
    have Lq := Le.of_below (Fz := Fz) (M := (Ins b3 (Ins b2 M))) hR
    replace LL := LL.trans Lq
    replace LR := LR.trans Lq
    replace hM := hM.mono Lq
    replace hF := hF.mono Lq
    replace h0 := h0.mono Lq
    replace hn5 := hn5.mono Lq
    replace hn3 := hn3.mono Lq
    replace B2 := B2.below hR
    replace B3 := B3.below hR
    refine xA 0 rfl yu31 rfl rfl sz4 rfl rfl ?_
    exact zA ⟨rfl, yP _, _, rfl, ⟨_, _, _, _, rfl, hc16, hn16⟩⟩
   refine zX (fun v w => ∃ b, v = .bool b ∧ (l.getD s 0 ≠ 0 → b = decide (l.getD s 0 < 0))) (fun _ _ _ e r => e) (fun wq hR hst => ?_) ?_
   ·refine yE rfl (fun v17 hp17 => ?_)
    obtain ⟨b17, o17, xs17, xa17, rfl, hc17, hn17⟩ := hp17; obtain ⟨oxa17, _⟩ := hn17.one
    refine zD ?_
    have Lq := Le.of_below (Fz := Fz) (M := (Ins b3 (Ins b2 M))) hR
    replace LL := LL.trans Lq
    replace LR := LR.trans Lq
    replace hM := hM.mono Lq
    replace hF := hF.mono Lq
    replace h0 := h0.mono Lq
    replace hn5 := hn5.mono Lq
    replace hn3 := hn3.mono Lq
    replace B2 := B2.below hR
    replace B3 := B3.below hR
    refine xQ rfl qY rfl (hc17 0 _ rfl) ?_
    exact zA ⟨rfl, yP _, _, rfl, ⟨_, rfl, hn17.sgn0⟩⟩
   refine zX (fun v w => ∃ b, v = .bool (xs3 != b) ∧ (l.getD s 0 ≠ 0 → b = decide (l.getD s 0 < 0))) (fun _ _ _ e r => e) (fun wq hR hst => ?_) ?_
   ·refine zK rfl (yE rfl (fun v18 hp18 => ?_))
    obtain ⟨s18, rfl, hsg18⟩ := hp18
    refine zD ?_
    have Lq := Le.of_below (Fz := Fz) (M := (Ins b3 (Ins b2 M))) hR
    replace LL := LL.trans Lq
    replace LR := LR.trans Lq
    replace hM := hM.mono Lq
    replace hF := hF.mono Lq
    replace h0 := h0.mono Lq
    replace hn5 := hn5.mono Lq
    replace hn3 := hn3.mono Lq
    replace B2 := B2.below hR
    replace B3 := B3.below hR
    refine ops_bne rfl rfl rfl underlying4 ?_
    exact zA ⟨rfl, yP _, _, rfl, ⟨_, rfl, hsg18⟩⟩
   apply zM
   ·intro wq hR hst
    refine zO rfl rfl (zD ?_)
    have Lq := Le.of_below (Fz := Fz) (M := (Ins b3 (Ins b2 M))) hR
    replace LL := LL.trans Lq
    replace LR := LR.trans Lq
    replace hM := hM.mono Lq
    replace hF := hF.mono Lq
    replace h0 := h0.mono Lq
    replace hn5 := hn5.mono Lq
    replace hn3 := hn3.mono Lq
    replace B2 := B2.below hR
    replace B3 := B3.below hR
    refine zJ 1 rfl yu31 rfl rfl xV rfl rfl ?_
    exact zA ⟨rfl, yP _, _, rfl, rfl⟩
   apply zM
   ·intro wq hR hst
    refine zK rfl (zD ?_)
    have Lq := Le.of_below (Fz := Fz) (M := (Ins b3 (Ins b2 M))) hR
    replace LL := LL.trans Lq
    replace LR := LR.trans Lq
    replace hM := hM.mono Lq
    replace hF := hF.mono Lq
    replace h0 := h0.mono Lq
    replace hn5 := hn5.mono Lq
    replace hn3 := hn3.mono Lq
    replace B2 := B2.below hR
    replace B3 := B3.below hR
    refine zS rfl yX rfl B3 rfl ?_
    exact zA ⟨rfl, yP _, _, rfl, rfl⟩
   refine zX (fun v w => ∃ xa22, v = xa22 ∧ ZL (Ins b3 (Ins b2 M)) w (n0) (l) xa22) (fun _ _ _ ⟨xa22, e, h0⟩ r => ⟨xa22, e, h0.mono (Fz := fun _ => False) (Le.of_below r)⟩) (fun wq hR hst => ?_) ?_
   ·refine zO rfl rfl (zD ?_)
    have Lq := Le.of_below (Fz := Fz) (M := (Ins b3 (Ins b2 M))) hR
    replace LL := LL.trans Lq
    replace LR := LR.trans Lq
    replace hM := hM.mono Lq
    replace hF := hF.mono Lq
    replace h0 := h0.mono Lq
    replace hn5 := hn5.mono Lq
    replace hn3 := hn3.mono Lq
    replace B2 := B2.below hR
    replace B3 := B3.below hR
    refine zB rfl rfl ?_
    exact zA ⟨rfl, yP _, _, rfl, ⟨_, rfl, h0⟩⟩
   apply zM
   ·intro wq hR hst
    refine zO rfl rfl (zD ?_)
    have Lq := Le.of_below (Fz := Fz) (M := (Ins b3 (Ins b2 M))) hR
    replace LL := LL.trans Lq
    replace LR := LR.trans Lq
    replace hM := hM.mono Lq
    replace hF := hF.mono Lq
    replace h0 := h0.mono Lq
    replace hn5 := hn5.mono Lq
    replace hn3 := hn3.mono Lq
    replace B2 := B2.below hR
    replace B3 := B3.below hR
    refine zB rfl rfl ?_
    exact zA ⟨rfl, yP _, _, rfl, rfl⟩
   refine zX (fun v w => ∃ b o xs24 xa24, v = .pointer (some ⟨b, o, none⟩) ∧ (∀ (q : Nat) (u : Value), [.bool xs24, xa24][q]? = some u → w.cell? ⟨b, o + q, none⟩ = some u) ∧ ZQ (Ins b3 (Ins b2 M)) w (n0) (l.getD s 0) xs24 xa24) (fun _ _ _ ⟨b, o, xs24, xa24, e, hc, h⟩ r => ⟨b, o, xs24, xa24, e, fun q u hq => jI r (hc q u hq), h.mono (Fz := fun _ => False) (Le.of_below r)⟩) (fun wq hR hst => ?_) ?_
   ·refine yE rfl (fun v22 hp22 => ?_)
    obtain ⟨xa22, rfl, hn22⟩ := hp22; obtain ⟨oxa22, _⟩ := hn22.one
    refine zK rfl (zD ?_)
    have Lq := Le.of_below (Fz := Fz) (M := (Ins b3 (Ins b2 M))) hR
    replace LL := LL.trans Lq
    replace LR := LR.trans Lq
    replace hM := hM.mono Lq
    replace hF := hF.mono Lq
    replace h0 := h0.mono Lq
    replace hn5 := hn5.mono Lq
    replace hn3 := hn3.mono Lq
    replace B2 := B2.below hR
    replace B3 := B3.below hR
    refine gZ (dflt := (0 : Int)) (s) rfl yu174 xC rfl rfl hn22.row (by first | rfl | omega) (by first | omega | (simp; omega) | simp) (fun b24 o24 us24 hul24 hu24 hc24 => ?_)
    obtain ⟨xs24, xa24, rfl, hn24⟩ := hu24
    obtain ⟨oxa24, _⟩ := hn24.one
    exact zA ⟨rfl, yP _, _, rfl, ⟨b24, o24, _, _, rfl, hc24, hn24⟩⟩
   refine zX (fun v w => ∃ b o xs25 xa25, v = .pointer (some ⟨b, o + 1, none⟩) ∧ (∀ (q : Nat) (u : Value), [.bool xs25, xa25][q]? = some u → w.cell? ⟨b, o + q, none⟩ = some u) ∧ ZQ (Ins b3 (Ins b2 M)) w (n0) (l.getD s 0) xs25 xa25) (fun _ _ _ ⟨b, o, xs25, xa25, e, hc, h⟩ r => ⟨b, o, xs25, xa25, e, fun q u hq => jI r (hc q u hq), h.mono (Fz := fun _ => False) (Le.of_below r)⟩) (fun wq hR hst => ?_) ?_
   ·refine yE rfl (fun v24 hp24 => ?_)
    obtain ⟨b24, o24, xs24, xa24, rfl, hc24, hn24⟩ := hp24; obtain ⟨oxa24, _⟩ := hn24.one
    refine zD ?_
    have Lq := Le.of_below (Fz := Fz) (M := (Ins b3 (Ins b2 M))) hR
    replace LL := LL.trans Lq
    replace LR := LR.trans Lq
    replace hM := hM.mono Lq
    replace hF := hF.mono Lq
    replace h0 := h0.mono Lq
    replace hn5 := hn5.mono Lq
    replace hn3 := hn3.mono Lq
    replace B2 := B2.below hR
    replace B3 := B3.below hR
    refine xA 1 rfl yu31 rfl rfl xV rfl rfl ?_
    exact zA ⟨rfl, yP _, _, rfl, ⟨_, _, _, _, rfl, hc24, hn24⟩⟩
   refine zX (fun v w => ∃ ys, IsNat (Ins b3 (Ins b2 M)) w v ys ∧ ys.length ≤ n0 ∧ val ys = (l.getD s 0).natAbs) (fun _ _ _ ⟨ys, h, k⟩ r => ⟨ys, xR _ _ _ h r, k⟩) (fun wq hR hst => ?_) ?_
   ·refine yE rfl (fun v25 hp25 => ?_)
    obtain ⟨b25, o25, xs25, xa25, rfl, hc25, hn25⟩ := hp25; obtain ⟨oxa25, _⟩ := hn25.one
    refine zD ?_
    have Lq := Le.of_below (Fz := Fz) (M := (Ins b3 (Ins b2 M))) hR
    replace LL := LL.trans Lq
    replace LR := LR.trans Lq
    replace hM := hM.mono Lq
    replace hF := hF.mono Lq
    replace h0 := h0.mono Lq
    replace hn5 := hn5.mono Lq
    replace hn3 := hn3.mono Lq
    replace B2 := B2.below hR
    replace B3 := B3.below hR
    refine xQ rfl yX rfl (hc25 1 _ rfl) ?_
    exact zA ⟨rfl, yP _, _, rfl, hn25.abs⟩
   refine zX (fun v w => IsNat (Ins b3 (Ins b2 M)) w v (limbs ((gV (l.take s)).natAbs * (l.getD s 0).natAbs)) ∧ (limbs (l.getD s 0).natAbs).length ≤ n0) (fun _ _ _ ⟨h, k⟩ r => ⟨xR _ _ _ h r, k⟩) (fun wq hR hst => ?_) ?_
   ·refine zK rfl (yE rfl (fun v26 hp26 => ?_))
    obtain ⟨ys, hn26, hyl, hyv⟩ := hp26
    refine zD ?_
    have Lq := Le.of_below (Fz := Fz) (M := (Ins b3 (Ins b2 M))) hR
    replace LL := LL.trans Lq
    replace LR := LR.trans Lq
    replace hM := hM.mono Lq
    replace hF := hF.mono Lq
    replace h0 := h0.mono Lq
    replace hn5 := hn5.mono Lq
    replace hn3 := hn3.mono Lq
    replace B2 := B2.below hR
    replace B3 := B3.below hR
    refine zH rfl bod108 rfl rfl ?_
    refine (rmul_c (M := (Ins b3 (Ins b2 M))) hn3.num hn26 (by have := hn3.len; have : s * n0 ≤ 2 * n0 := Nat.mul_le_mul_right _ (by omega); omega) (by omega) hM).mono ?_
    rintro v27 w6 ⟨hB27, hf27⟩
    have hM27 := hM; have hS27 := LL.size
    have Lw6 := Le.of_below (Fz := Fz) (M := (Ins b3 (Ins b2 M))) hB27
    replace LL := LL.trans Lw6
    replace LR := LR.trans Lw6
    replace hM := hM.mono Lw6
    replace hF := hF.mono Lw6
    replace h0 := h0.mono Lw6
    replace hn5 := hn5.mono Lw6
    replace hn3 := hn3.mono Lw6
    replace hn26 := hn26.mono Lw6
    replace B2 := B2.below hB27
    replace B3 := B3.below hB27
    rw [yD, hyv] at hf27
    have hyl2 : (limbs (l.getD s 0).natAbs).length ≤ n0 := by rw [← hyv]; exact Nat.le_trans (yQ ys hn26.lt) hyl
    have hn27 := hf27.nat hM27; replace hf27 := hf27.less hS27
    exact zA ⟨rfl, hB27, _, rfl, ⟨hn27, hyl2⟩⟩
   refine xM (fun wq5 hR5 hpost5 => ?_)
   refine zO rfl rfl (zO rfl rfl (zO rfl rfl (zO rfl rfl (zO rfl rfl (zO rfl rfl (zO rfl rfl (zO rfl rfl (zK rfl (zK rfl (yE rfl (fun v14 hp14 => ?_)))))))))))
   obtain ⟨xa14, rfl, hn14⟩ := hp14; obtain ⟨oxa14, _⟩ := hn14.one
   refine zK rfl (yE rfl (fun v16 hp16 => ?_))
   obtain ⟨b16, o16, xs16, xa16, rfl, hc16, hn16⟩ := hp16; obtain ⟨oxa16, _⟩ := hn16.one
   refine yE rfl (fun v17 hp17 => ?_)
   obtain ⟨b17, o17, xs17, xa17, rfl, hc17, hn17⟩ := hp17; obtain ⟨oxa17, _⟩ := hn17.one
   refine yE rfl (fun v18 hp18 => ?_)
   obtain ⟨s18, rfl, hsg18⟩ := hp18
   refine yE rfl (fun v19 hp19 => ?_)
   obtain ⟨s19, rfl, hsg19⟩ := hp19
   refine zK rfl (zK rfl (yE rfl (fun v22 hp22 => ?_)))
   obtain ⟨xa22, rfl, hn22⟩ := hp22; obtain ⟨oxa22, _⟩ := hn22.one
   refine zK rfl (yE rfl (fun v24 hp24 => ?_))
   obtain ⟨b24, o24, xs24, xa24, rfl, hc24, hn24⟩ := hp24; obtain ⟨oxa24, _⟩ := hn24.one
   refine yE rfl (fun v25 hp25 => ?_)
   obtain ⟨b25, o25, xs25, xa25, rfl, hc25, hn25⟩ := hp25; obtain ⟨oxa25, _⟩ := hn25.one
   refine yE rfl (fun v26 hp26 => ?_)
   obtain ⟨ys, hn26, hyl, hyv⟩ := hp26
   refine yE rfl (fun v27 hp27 => ?_)
   obtain ⟨hn27, hyl2⟩ := hp27
   refine zD ?_
   simp only [List.drop_succ_cons, List.drop_zero, List.drop_nil, List.toList_toArray]
   have Lwq5 := Le.of_below (Fz := Fz) (M := (Ins b3 (Ins b2 M))) hR5
   replace LL := LL.trans Lwq5
   replace LR := LR.trans Lwq5
   replace hM := hM.mono Lwq5
   replace hF := hF.mono Lwq5
   replace h0 := h0.mono Lwq5
   replace hn5 := hn5.mono Lwq5
   replace hn3 := hn3.mono Lwq5
   replace B2 := B2.below hR5
   replace B3 := B3.below hR5
   refine xP rfl aQ rfl rfl (zZ (gN rfl) (zZ (gN (by first | rfl | exact yF (by assumption) | exact yH (by assumption) | assumption)) xF)) rfl ?_
   have hz28 : ZQ (Ins b3 (Ins b2 M)) wq5 (s * n0 + 2 + n0) (gV (l.take s) * l.getD s 0) (xs3 != s19) v27 := ⟨_, hn27, xT (by have a1 := xH hn3.len; have a2 := xH hyl2; exact gT a1 a2), by rw [hn3.sgn]; exact zv_prod hsg19⟩
   have hsn : s * n0 ≤ 2 * n0 := Nat.mul_le_mul_right _ (by omega)
   refine zH rfl aP rfl rfl ?_
   refine (qU (M := (Ins b3 (Ins b2 M))) hz28 (by omega) hM).mono ?_
   rintro v29 w7 ⟨hB29, xs29, xa29, rfl, hn29⟩
   have Lw7 := Le.of_below (Fz := Fz) (M := (Ins b3 (Ins b2 M))) hB29
   replace LL := LL.trans Lw7
   replace LR := LR.trans Lw7
   replace hM := hM.mono Lw7
   replace hF := hF.mono Lw7
   replace h0 := h0.mono Lw7
   replace hn5 := hn5.mono Lw7
   replace hn3 := hn3.mono Lw7
   replace hn16 := hn16.mono Lw7
   replace hn24 := hn24.mono Lw7
   replace hn26 := hn26.mono Lw7
   replace hn27 := hn27.mono Lw7
   replace hz28 := hz28.mono Lw7
   replace B2 := B2.below hB29
   replace B3 := B3.below hB29
   obtain ⟨oxa29, _⟩ := hn29.one
   refine zW rfl rfl xC B3 rfl rfl (zU rfl (zU (by first | rfl | exact yF (by assumption) | exact yH (by assumption) | assumption) jC)) rfl (fun w8 Cw8 B3 => ?_)
   have Lw8 := Le.of_chg (M := (Ins b3 (Ins b2 M))) Cw8 zR nF3
   replace LL := LL.trans Lw8
   replace LR := LR.trans Lw8
   replace hM := hM.mono Lw8
   replace hF := hF.mono Lw8
   replace h0 := h0.mono Lw8
   replace hn5 := hn5.mono Lw8
   replace hn3 := hn3.mono Lw8
   replace hn16 := hn16.mono Lw8
   replace hn24 := hn24.mono Lw8
   replace hn26 := hn26.mono Lw8
   replace hn27 := hn27.mono Lw8
   replace hz28 := hz28.mono Lw8
   replace hn29 := hn29.mono Lw8
   replace B2 := B2.other Cw8 ne2_3
   try simp only [List.set_cons_zero, List.set_cons_succ, List.take_succ_cons, List.take_zero, List.drop_succ_cons, List.drop_zero, List.drop_nil, List.cons_append, List.nil_append, List.append_nil] at B3
   refine zA (zC (zB rfl rfl (xK rfl rfl rfl (by omega) (zE rfl rfl (zA ?_)))))
   refine ⟨rfl, s + 1, (yB rfl (by rw [Int.natCast_add]; rfl) (zG rfl (zG rfl (zG rfl yM)))), ?_, ?_⟩
   have e2 : (s + 1) * n0 + 2 = s * n0 + 2 + n0 := by rw [Nat.add_mul, Nat.one_mul]; omega
   exact ⟨LR, by omega, B2, _, _, B3, by rw [prod_take (by omega), e2]; exact hn29⟩
   omega
  ·refine xY (xZ (zF (zC (zL rfl xX xC rfl B3 rfl rfl (zW rfl rfl xC B2 rfl rfl (zU rfl (zU (by first | rfl | exact yF (by assumption) | exact yH (by assumption) | assumption) jC)) rfl (fun w9 Cw9 B2 => ?_))))))
   have Lw9 := Le.of_chg (M := (Ins b3 (Ins b2 M))) Cw9 (.inr zR) nF2
   replace LL := LL.trans Lw9
   replace LR := LR.trans Lw9
   replace hM := hM.mono Lw9
   replace hF := hF.mono Lw9
   replace h0 := h0.mono Lw9
   replace hn5 := hn5.mono Lw9
   replace hn3 := hn3.mono Lw9
   replace B3 := B3.other Cw9 ne2_3.symm
   try simp only [List.set_cons_zero, List.set_cons_succ, List.take_succ_cons, List.take_zero, List.drop_succ_cons, List.drop_zero, List.drop_nil, List.cons_append, List.nil_append, List.append_nil] at B2
   refine zA (zY ?_)
   refine zN ⟨[_], ⟨⟨_, rfl, yU xX xC B2 rfl rfl⟩, trivial⟩, ?_⟩
   dsimp only [zV]
   obtain rfl : s = l.length := by omega
   rw [List.take_length] at hn3
   have hsn : l.length * n0 ≤ 2 * n0 := Nat.mul_le_mul_right _ (by omega)
   subst hFz
   exact ⟨LL.below (Nat.le_refl _), _, _, rfl, (hn3.less (fun k c => zI (zI c))).up (by omega)⟩
end Go.Proofs.YtfkejnlohkgbgaaGreatDoor
set_option maxRecDepth 100000
namespace Go.Proofs.YtfkejnlohkgbgaaGreatDoor
open Go.SL Go.RowKit Go.Proofs Tryz
variable {M : Nat → Prop} {w : World}
theorem tz_even {t : Nat} (h0 : t ≠ 0) (h : t % 2 = 0) : tz t = tz (t / 2) + 1 := by
  conv => lhs; rw [tz]
  rw [dif_neg (by omega)]
theorem tz_odd {t : Nat} (h : t % 2 = 1) : tz t = 0 := by rw [tz, dif_pos (.inl h)]
theorem tz_mul : ∀ (k m : Nat), m ≠ 0 → tz (2 ^ k * m) = k + tz m
  | 0, m, h => by simp
  | k + 1, m, h => by
    have hp : 2 ^ k * m ≠ 0 := Nat.mul_ne_zero (Nat.pos_iff_ne_zero.1 (Nat.pow_pos (by omega))) h
    have e : 2 ^ (k + 1) * m = 2 * (2 ^ k * m) := by rw [Nat.pow_succ, Nat.mul_comm (2 ^ k) 2, Nat.mul_assoc]
    rw [e, tz_even (by omega) (by omega), Nat.mul_div_cancel_left _ (by omega), tz_mul k m h]; omega
def od (x : Nat) : Nat := x / 2 ^ tz x
theorem cX {x : Nat} (h : x ≠ 0) : x = 2 ^ tz x * od x ∧ od x % 2 = 1 := cU x h
theorem aR (x : Nat) : od x ≤ x := Nat.div_le_self _ _
theorem tz_low {x r : Nat} (hx : x ≠ 0) (hx2 : x < 4294967296) : tz (x + 4294967296 * r) = tz x := by
  obtain ⟨h1, h2⟩ := cX hx
  have hk := eK (n := 32) hx (Nat.lt_of_lt_of_eq hx2 (by decide))
  obtain ⟨i, hi⟩ : ∃ i, 32 = tz x + (i + 1) := ⟨32 - tz x - 1, by omega⟩
  have e : x + 4294967296 * r = 2 ^ tz x * (od x + 2 * (2 ^ i * r)) := by
    have : (4294967296 : Nat) = 2 ^ tz x * (2 ^ i * 2) := by rw [← Nat.pow_succ, ← Nat.pow_add, ← hi]
    rw [this, Nat.mul_add, ← h1]; congr 1
    simp only [Nat.mul_assoc, Nat.mul_left_comm, Nat.mul_comm]
  rw [e]; generalize 2 ^ i * r = q
  rw [tz_mul _ _ (by omega), tz_odd (t := od x + 2 * q) (by omega)]; rfl
theorem val_low : ∀ (s : Nat) (xs : List Nat), (∀ j, j < s → xs.getD j 0 = 0) → s < xs.length → ∃ r, val xs = 2 ^ (32 * s) * (xs.getD s 0 + 4294967296 * r)
  | 0, x :: xs, _, _ => ⟨val xs, by simp [val]⟩
  | s + 1, x :: xs, h, hl => by
    obtain ⟨r, hr⟩ := val_low s xs (fun j hj => by have := h (j + 1) (by omega); simpa using this) (by simpa using hl)
    have h0 : x = 0 := by have := h 0 (by omega); simpa using this
    refine ⟨r, ?_⟩
    have e : 2 ^ (32 * (s + 1)) = 4294967296 * 2 ^ (32 * s) := by rw [Nat.mul_add, Nat.pow_add, Nat.mul_comm]
    rw [val, h0, hr, e, Nat.mul_assoc]; simp
theorem tz_limbs {xs : List Nat} {s : Nat} (hlt : ∀ x ∈ xs, x < 4294967296) (h : ∀ j, j < s → xs.getD j 0 = 0) (hs : s < xs.length) (h0 : xs.getD s 0 ≠ 0) : tz (val xs) = 32 * s + tz (xs.getD s 0) := by
  obtain ⟨r, hr⟩ := val_low s xs h hs
  rw [hr, tz_mul _ _ (by omega), tz_low h0 (qL hlt s)]
theorem val_zero_all {xs : List Nat} (h : ∀ j, j < xs.length → xs.getD j 0 = 0) : val xs = 0 := by
  have := cH (xs := xs) (n := 0) (fun j _ => by
    rcases Nat.lt_or_ge j xs.length with c | c
    · exact h j c
    · exact gK c)
  simpa [val] using this.symm
theorem gcd_od {x y : Nat} (hx : x ≠ 0) (hy : y ≠ 0) : Nat.gcd x y = Nat.gcd (od x) (od y) * 2 ^ min (tz x) (tz y) := by
  obtain ⟨h1, h2⟩ := cX hx; obtain ⟨k1, k2⟩ := cX hy
  rcases Nat.le_total (tz x) (tz y) with h | h
  · obtain ⟨i, hi⟩ : ∃ i, tz y = tz x + i := ⟨tz y - tz x, by omega⟩
    rw [Nat.min_eq_left h]
    conv => lhs; rw [h1, k1, hi, Nat.pow_add, Nat.mul_assoc, Nat.gcd_mul_left, uQ h2]
    rw [Nat.mul_comm]
  · obtain ⟨i, hi⟩ : ∃ i, tz x = tz y + i := ⟨tz x - tz y, by omega⟩
    rw [Nat.min_eq_right h]
    conv => lhs; rw [h1, k1, hi, Nat.pow_add, Nat.mul_assoc, Nat.gcd_mul_left, Nat.gcd_comm, uQ k2, Nat.gcd_comm]
    rw [Nat.mul_comm]
def GI (G A B : Nat) : Prop := B ≠ 0 ∧ (A ≠ 0 → Nat.gcd (od A) (od B) = G) ∧ (A = 0 → B = G)
theorem gi_step {G A B : Nat} (h : GI G A B) (hA : A ≠ 0) : (od B ≤ od A → GI G (od A - od B) (od B) ∧ od A - od B + od B < A + B) ∧ (od A ≤ od B → GI G (od B - od A) (od A) ∧ od B - od A + od A < A + B) := by
  have hg := h.2.1 hA
  obtain ⟨a1, a2⟩ := cX hA; obtain ⟨b1, b2⟩ := cX h.1
  have la := aR A
  have lb := aR B
  have key : ∀ a b : Nat, a % 2 = 1 → b % 2 = 1 → Nat.gcd a b = G → b ≤ a → GI G (a - b) b := fun a b ha hb hab hle => by
    refine ⟨by omega, fun h0 => ?_, fun h0 => ?_⟩
    · obtain ⟨c1, c2⟩ := cX h0
      have ob : od b = b := by unfold od; rw [tz_odd hb]; simp
      rw [ob, Nat.gcd_comm, ← uQ (k := tz (a - b)) hb, ← c1, Nat.gcd_comm]
      have := Nat.gcd_sub_self_left (m := b) (n := a) (by omega)
      rw [this]; exact hab
    · obtain rfl : a = b := by omega
      rw [Nat.gcd_self] at hab; exact hab
  exact ⟨fun hle => ⟨key _ _ a2 b2 hg hle, by omega⟩, fun hle => ⟨key _ _ b2 a2 (by rw [Nat.gcd_comm]; exact hg) hle, by omega⟩⟩
theorem cntN_id {n m : Nat} (h : n ≤ m) : aU ((n : Nat) : Int) ((m : Nat) : Int) = n := by unfold aU; omega
theorem cntN_min {a b : Nat} (h : min a b ≤ 65536) : aU (min ((a : Nat) : Int) ((b : Nat) : Int)) 65536 = min a b := by unfold aU; omega
theorem ops_rem32 {P : Program} {r : Option Nat} {N : Nat} {all : Array Oper} {K : Pd} {D : List Deferred} {E : Env} {w : World} {rest : List Oper} {d : Nat} {x y : Operand} {tx ty t : TypeId} {pos : String} {af : Array Edge} {a b : Nat} (hd : Nat.blt d N = true)
    (hx : ev E x = some (.int .u32 (a : Int))) (hy : ev E y = some (.int .u32 (b : Int))) (hb : 0 < b)
    (h : Ops P r N all K rest D ((d, .int .u32 ((a % b : Nat) : Int)) :: E) w) : Ops P r N all K (⟨some d, .binOp .rem tx x y ty, t, pos, af, none⟩ :: rest) D E w :=
  cW hd (.inr rfl) hx hy (by omega) (by rw [Int.tmod_eq_emod_of_nonneg (by omega)]; rfl) h
theorem tz_bound {x n : Nat} (h0 : x ≠ 0) (h : (limbs x).length ≤ n) : tz x < 32 * n := eK h0 (by have := xH h; rwa [show (4294967296 : Nat) = 2 ^ 32 by decide, ← Nat.pow_mul] at this)
theorem plain7_c {a b : Nat} (ha : a < 18446744073709551616) (hb : b < 18446744073709551616) (hM : OkM M w) :
    CallsV prog 168 [.int .u64 (a : Int), .int .u64 (b : Int)] w fun r w' => Below w.heap.size w w' ∧ r = .int .u64 ((Nat.gcd a b : Nat) : Int) := by
 obtain ⟨Fz, hFz, hF, LL⟩ := fz0 M w
 have hM0 := hM
 refine zP func168 rfl ntmps168 rfl ?_
 refine zF (zC (zE rfl rfl (zA (zF (yK ?_)))))
 refine jA (σ := Nat × Nat) [] (fun s => [(0, .int .u64 ((s.1 : Nat) : Int)), (1, .int .u64 ((s.2 : Nat) : Int))]) (fun s w1 => Le Fz M w M w1 ∧ s.1 < 18446744073709551616 ∧ s.2 < 18446744073709551616 ∧ Nat.gcd s.1 s.2 = Nat.gcd a b) (fun s => s.2) ((a, b)) (zG rfl (zG rfl yM)) ?_ (fun s w1 hJ => ?_)
 · dsimp only
   exact ⟨Le.refl _ _ _, ha, hb, rfl⟩
 ·obtain ⟨p, q⟩ := s
  dsimp only at hJ ⊢
  obtain ⟨LR, hp, hq, hg⟩ := hJ
  replace LL := LL.trans LR
  refine zF (zF (zC (zB rfl rfl (uD rfl rfl rfl (zA ?_)))))
  refine yC rfl (fun hc0 => ?_) (fun hc0 => ?_)
  ·refine yO (yK ?_)
   refine xL (R := Rb) (R' := Rb) (st := none) jJ 5 [0, 1, 5, 6, 7, 8, 9, 10] (by decide +kernel) xJ xU (xS _) (fun _ _ _ h => by cases h) ?_
   refine zM (fun _ _ _ => zO rfl rfl (zD (zB rfl rfl (on0 rfl)))) ?_
   refine zM (fun _ _ _ => zO rfl rfl (zD (zB rfl rfl (on0 rfl)))) ?_
   refine zM (fun _ _ _ => zO rfl rfl (zD (zB rfl rfl (on0 rfl)))) ?_
   apply zM
   ·intro wq hR hst
    refine zK rfl (zK rfl (zD ?_))
    exact ops_remu rfl rfl rfl (by omega) (on0 rfl)
   refine zM (fun _ _ _ => zK rfl (zD (zE rfl rfl (on0 rfl)))) ?_
   refine xM (fun wq2 hR2 hpost2 => ?_)
   refine zK rfl (zO rfl rfl (zO rfl rfl (zO rfl rfl (zK rfl (zK rfl (zK rfl (zK rfl (zD ?_))))))))
   simp only [List.drop_succ_cons, List.drop_zero, List.drop_nil, List.toList_toArray]
   replace LR := ub1 hR2 LR
   refine zE rfl rfl (zA ?_)
   refine ⟨rfl, (q, p % q), (yB rfl (rfl) (yB rfl (rfl) yM)), ?_, ?_⟩
   dsimp only
   have hlt := Nat.mod_lt p (show 0 < q by omega)
   exact ⟨LR, hq, by omega, by rw [← hg, Nat.gcd_comm, ← Nat.gcd_rec, Nat.gcd_comm]⟩
   dsimp only
   exact Nat.mod_lt p (by omega)
  ·refine xY (xZ (zF (zC (zB rfl rfl (zE rfl rfl (zA (zY ?_)))))))
   refine zN ⟨[_], ⟨rfl, trivial⟩, ?_⟩
   dsimp only [zV]
   obtain rfl : q = 0 := by omega
   rw [Nat.gcd_zero_right] at hg
   subst hFz
   exact ⟨LL.below (Nat.le_refl _), by rw [hg]⟩
theorem twos_c {v : Value} {xs : List Nat} (h : IsNat M w v xs) (h0 : val xs ≠ 0) (hl : xs.length ≤ 1000000) (hM : OkM M w) :
    CallsV prog 226 [v] w fun r w' => Below w.heap.size w w' ∧ r = .int .i64 ((tz (val xs) : Nat) : Int) := by
 obtain ⟨Fz, hFz, hF, LL⟩ := fz0 M w
 have hM0 := hM
 refine zP func226 rfl ntmps226 rfl ?_
 refine zF (zC (zE rfl rfl (zA (zF (zC (zE rfl rfl (zA (zF (zF (zC (zE rfl rfl (zA (yK ?_)))))))))))))
 refine jA (σ := Nat) [(0, _)] (fun s => [(3, .int .i64 ((32 * s : Nat) : Int)), (4, .int .i64 ((s : Nat) : Int))]) (fun s w1 => Le Fz M w M w1 ∧ s ≤ xs.length ∧ ∀ j, j < s → xs.getD j 0 = 0) (fun s => xs.length - s) (0) (zG rfl (zG rfl (zG rfl yM))) ?_ (fun s w1 hJ => ?_)
 · exact ⟨Le.refl _ _ _, by omega, fun j hj => by omega⟩
 ·obtain ⟨LR, hs, hz⟩ := hJ
  obtain ⟨LL, h⟩ := up2 LR LL h
  refine zF (zF (zC (zB rfl rfl (zB rfl rfl ?_))))
  first | refine yS rfl yu29 rfl (IsNat.slc (by assumption)) ?_ | refine yY rfl yu29 rfl ?_
  refine jR rfl rfl rfl (zB rfl rfl (gE (d := 10) rfl (fun hg3_4 => ?_) (fun hg3_4 => ?_)))
  ·have hsl : s < xs.length := by omega
   refine zQ rfl rfl (zB rfl rfl (zQ rfl rfl (zB rfl rfl (zQ rfl rfl (jS (s) rfl yu29 xD rfl rfl (by assumption) (by omega) (by omega) (fun b13 o13 hc13 hb13 => ?_))))))
   refine zQ rfl rfl (xQ rfl jH rfl hc13 (zQ rfl rfl (gI rfl rfl rfl (xB rfl rfl rfl (zA ?_)))))
   refine yC rfl (fun hc0 => ?_) (fun hc0 => ?_)
   ·refine yO (zF (yK (zC (zB rfl rfl (xK rfl rfl rfl (by omega) (zE rfl rfl (zA (zC (zB rfl rfl (xK rfl rfl rfl (by omega) (zE rfl rfl (zA ?_))))))))))))
    refine ⟨rfl, s + 1, (yB rfl (by first | rfl | (show Value.int .i64 _ = Value.int .i64 _; congr 1; omega)) (yB rfl (by rw [Int.natCast_add]; rfl) (zG rfl yM))), ?_, ?_⟩
    exact ⟨LR, by omega, fun j hj => by
      rcases Nat.lt_or_ge j s with c | c
      · exact hz j c
      · obtain rfl : j = s := by omega
        omega⟩
    omega
   ·have hnz : xs.getD s 0 ≠ 0 := fun c => hc0 (by rw [c]; rfl)
    have hsl2 : s < xs.length := hsl
    have htl := tz_limbs h.lt hz hsl hnz
    have hxb := h.lim s
    refine xY (xZ (zF (zF (zC (zB rfl rfl (zB rfl rfl (uJ rfl rfl rfl (by omega) (jS (s) rfl yu29 xD rfl rfl (by assumption) (by omega) (by omega) (fun b24 o24 hc24 hb24 => ?_)))))))))
    refine xQ rfl jH rfl hc24 (zE rfl rfl (zA (yK ?_)))
    refine jA (σ := Nat × Nat) [] (fun s => [(3, .int .i64 ((s.1 : Nat) : Int)), (5, .int .u32 ((s.2 : Nat) : Int))]) (fun s w2 => Le Fz M w1 M w2 ∧ s.2 ≠ 0 ∧ s.2 < 4294967296 ∧ s.1 + tz s.2 = tz (val xs) ∧ s.1 + s.2 ≤ 4294967296 + 32 * 1000000) (fun s => s.2) ((32 * s, xs.getD s 0)) (zG rfl (zG rfl yM)) ?_ (fun s w2 hJ => ?_)
    · dsimp only
      exact ⟨Le.refl _ _ _, hnz, hxb, by rw [htl], by omega⟩
    ·obtain ⟨n, t⟩ := s
     dsimp only at hJ ⊢
     obtain ⟨LR2, ht0, htb, hnt, hnb⟩ := hJ
     obtain ⟨LL, h⟩ := up2 LR2 LL h
     refine zF (zF (zC (zB rfl rfl (ops_rem32 (b := 2) rfl rfl rfl (by omega) (gI rfl rfl rfl (zA ?_))))))
     refine yC rfl (fun hc1 => ?_) (fun hc1 => ?_)
     ·refine yO (zF (yK (zC (zB rfl rfl (xK rfl rfl rfl (by omega) (zE rfl rfl (zA (zC (zB rfl rfl (ops_quo32 (b := 2) rfl rfl rfl (by omega) (by omega) (zE rfl rfl (zA ?_))))))))))))
      refine ⟨rfl, (n + 1, t / 2), (yB rfl (by rw [Int.natCast_add]; rfl) (yB rfl (rfl) yM)), ?_, ?_⟩
      dsimp only
      have := tz_even ht0 (by omega)
      exact ⟨LR2, by omega, by omega, by omega, by omega⟩
      dsimp only
      omega
     ·refine xY (xZ (zF (zC (zB rfl rfl (zE rfl rfl (zA (zY ?_)))))))
      refine zN ⟨[_], ⟨rfl, trivial⟩, ?_⟩
      dsimp only [zV]
      have := tz_odd (t := t) (by omega)
      subst hFz
      exact ⟨LL.below (Nat.le_refl _), by rw [← hnt, this, Nat.add_zero]⟩
  ·exact absurd (val_zero_all fun j hj => hz j (by omega)) h0
theorem gcd4_c {v u : Value} {xs ys : List Nat} (h1 : IsNat M w v xs) (h2 : IsNat M w u ys) (hl1 : xs.length ≤ 2000) (hl2 : ys.length ≤ 2000) (hM : OkM M w) :
    CallsV prog 169 [v, u] w fun r w' => Below w.heap.size w w' ∧ IsNat M w' r (limbs (Nat.gcd (val xs) (val ys))) := by
 obtain ⟨Fz, hFz, hF, LL⟩ := fz0 M w
 have hxl := yQ xs h1.lt
 have hyl := yQ ys h2.lt
 have hM0 := hM
 refine zP func169 rfl ntmps169 rfl ?_
 refine zF (zC (zE rfl rfl (zA (zF (zC (zB rfl rfl (zH rfl kT rfl rfl ?_)))))))
 refine (qD h1 (by omega) hM).mono ?_
 rintro v7 w1 ⟨hB7, hf7⟩
 have hM7 := hM
 have hS7 := LL.size
 obtain ⟨LL, hM, h2⟩ := ub3 hB7 LL hM h2
 have hn7 := hf7.nat hM7
 refine zB rfl rfl (zH rfl kT rfl rfl ?_)
 refine (qD h2 (by omega) hM).mono ?_
 rintro v9 w2 ⟨hB9, hf9⟩
 have hM9 := hM
 have hS9 := LL.size
 obtain ⟨LL, hM, hn7⟩ := ub3 hB9 LL hM hn7
 have hn9 := hf9.nat hM9
 refine zE rfl rfl (zE rfl rfl (zA (zF (zF (zC (zB rfl rfl ?_))))))
 first | refine yS rfl yu29 rfl hn7.slc ?_ | refine yY rfl yu29 rfl ?_
 refine gI rfl rfl rfl (zB rfl rfl (gE (d := 13) rfl (fun hg2_3 => ?_) (fun hg2_3 => ?_)))
 ·have hx0 : val xs = 0 := xO.1 (by omega)
  refine zT rfl rfl rfl rfl (zT rfl rfl rfl rfl (zT rfl rfl rfl rfl (xB rfl rfl rfl (zA (kU rfl (zF (zC (zB rfl rfl (zB rfl rfl (xE rfl yu255 xV rfl rfl rfl (fJ (by first | rfl | exact yF (by assumption) | exact yH (by assumption) | assumption) (by first | rfl | exact yF (by assumption) | exact yH (by assumption) | assumption)) rfl (fun w3 b20 N20 => ?_)))))))))))
  have hBw3 := N20.below
  have nM20 := hM.new N20
  have B20 := N20.blk
  obtain ⟨LL, hM, hn7, hn9⟩ := ub4 hBw3 LL hM hn7 hn9
  have hn20 := eE B20 nM20 hn7 hn9
  refine zH rfl bod225 rfl rfl ?_
  refine (radd_c hn20 (by intro q hq; rcases List.mem_cons.1 hq with rfl | hq; omega; rcases List.mem_cons.1 hq with rfl | hq; omega; cases hq) (by simp) hM).mono ?_
  rintro v21 w4 ⟨hB21, hf21⟩
  have hM21 := hM
  have hS21 := LL.size
  replace LL := ub1 hB21 LL
  simp only [List.map_cons, List.map_nil, List.sum_cons, List.sum_nil, Nat.add_zero, yD] at hf21
  have hn21 := hf21.nat hM21
  refine zE rfl rfl (zA (zY ?_))
  refine zN ⟨[_], ⟨rfl, trivial⟩, ?_⟩
  dsimp only [zV]
  have e : Nat.gcd (val xs) (val ys) = val xs + val ys := by rw [hx0]; simp
  rw [e]
  subst hFz
  exact ⟨LL.below (Nat.le_refl _), hn21⟩
 ·have hx0 : val xs ≠ 0 := fun c => hg2_3 (by rw [c, xN]; rfl)
  refine zQ rfl rfl (zB rfl rfl (zQ rfl rfl ?_))
  first | refine yS rfl yu29 rfl hn9.slc ?_ | refine yY rfl yu29 rfl ?_
  refine zQ rfl rfl (gI rfl rfl rfl (xB rfl rfl rfl (zA ?_)))
  refine yC rfl (fun hc0 => ?_) (fun hc0 => ?_)
  ·have hy0 : val ys = 0 := xO.1 (by omega)
   refine zF (zC (zB rfl rfl (zB rfl rfl (xE rfl yu255 xV rfl rfl rfl (fJ (by first | rfl | exact yF (by assumption) | exact yH (by assumption) | assumption) (by first | rfl | exact yF (by assumption) | exact yH (by assumption) | assumption)) rfl (fun w5 b20 N20 => ?_)))))
   have hBw5 := N20.below
   have nM20 := hM.new N20
   have B20 := N20.blk
   obtain ⟨LL, hM, hn7, hn9⟩ := ub4 hBw5 LL hM hn7 hn9
   have hn20 := eE B20 nM20 hn7 hn9
   refine zH rfl bod225 rfl rfl ?_
   refine (radd_c hn20 (by intro q hq; rcases List.mem_cons.1 hq with rfl | hq; omega; rcases List.mem_cons.1 hq with rfl | hq; omega; cases hq) (by simp) hM).mono ?_
   rintro v21 w6 ⟨hB21, hf21⟩
   have hM21 := hM
   have hS21 := LL.size
   replace LL := ub1 hB21 LL
   simp only [List.map_cons, List.map_nil, List.sum_cons, List.sum_nil, Nat.add_zero, yD] at hf21
   have hn21 := hf21.nat hM21
   refine zE rfl rfl (zA (zY ?_))
   refine zN ⟨[_], ⟨rfl, trivial⟩, ?_⟩
   dsimp only [zV]
   have e : Nat.gcd (val xs) (val ys) = val xs + val ys := by rw [hy0]; simp
   rw [e]
   subst hFz
   exact ⟨LL.below (Nat.le_refl _), hn21⟩
  ·have hy0 : val ys ≠ 0 := fun c => hc0 (by rw [c, xN]; rfl)
   have hxl2 : (limbs (val xs)).length ≤ 2000 := by omega
   have hyl2 : (limbs (val ys)).length ≤ 2000 := by omega
   refine yO (zF (zC (zB rfl rfl (zH rfl bod226 rfl rfl ?_))))
   refine (twos_c hn7 (by rw [yD]; exact hx0) (by omega) hM).mono ?_
   rintro v23 w7 ⟨hB23, rfl⟩
   obtain ⟨LL, hM, hn7, hn9⟩ := ub4 hB23 LL hM hn7 hn9
   rw [yD]
   refine zB rfl rfl (zH rfl bod226 rfl rfl ?_)
   refine (twos_c hn9 (by rw [yD]; exact hy0) (by omega) hM).mono ?_
   rintro v25 w8 ⟨hB25, rfl⟩
   obtain ⟨LL, hM, hn7, hn9⟩ := ub4 hB25 LL hM hn7 hn9
   rw [yD]
   refine cV rfl rfl rfl (zE rfl rfl (zA (zF (yK ?_))))
   refine jA (σ := Value × Value × Nat × Nat) [(5, _)] (fun s => [(0, s.1), (1, s.2.1)]) (fun s w9 => Le Fz M w8 M w9 ∧ IsNat M w9 s.1 (limbs s.2.2.1) ∧ IsNat M w9 s.2.1 (limbs s.2.2.2) ∧ (limbs s.2.2.1).length ≤ 2000 ∧ (limbs s.2.2.2).length ≤ 2000 ∧ GI (Nat.gcd (od (val xs)) (od (val ys))) s.2.2.1 s.2.2.2) (fun s => s.2.2.1 + s.2.2.2) ((v7, v9, val xs, val ys)) (zG rfl (zG rfl (zG rfl yM))) ?_ (fun s w9 hJ => ?_)
   · dsimp only
     exact ⟨Le.refl _ _ _, hn7, hn9, hxl2, hyl2, hy0, fun _ => rfl, fun c => absurd c hx0⟩
   ·obtain ⟨a, b, A, B⟩ := s
    dsimp only at hJ ⊢
    obtain ⟨LR, ha, hb, hal, hbl, hG⟩ := hJ
    obtain ⟨LL, hM⟩ := up2 LR LL hM
    refine zF (zF (zC (zB rfl rfl ?_)))
    first | refine yS rfl yu29 rfl (IsNat.slc (by assumption)) ?_ | refine yY rfl yu29 rfl ?_
    refine uD rfl rfl rfl (zA ?_)
    refine yC rfl (fun hc1 => ?_) (fun hc1 => ?_)
    ·have hA0 : A ≠ 0 := fun c => by rw [c, xN] at hc1; simp at hc1
     refine yO (yK (zF (zC (zB rfl rfl (zB rfl rfl (zH rfl bod226 rfl rfl ?_))))))
     refine (twos_c ha (by rw [yD]; exact hA0) (by omega) hM).mono ?_
     rintro v32 w10 ⟨hB32, rfl⟩
     obtain ⟨LL, LR, hM, ha, hb⟩ := ub5 hB32 LL LR hM ha hb
     rw [yD]
     refine zH rfl bod227 rfl rfl ?_
     refine (rdown_c ha (by omega) hM).mono ?_
     rintro v33 w11 ⟨hB33, hf33⟩
     have hM33 := hM
     have hS33 := LL.size
     obtain ⟨LL, LR, hM, hb⟩ := ub4 hB33 LL LR hM hb
     rw [show (65536 : Int) = ((65536 : Nat) : Int) from rfl, cntN_id (by have := tz_bound hA0 hal; omega), yD, show A / 2 ^ tz A = od A from rfl] at hf33
     have hn33 := hf33.nat hM33
     refine zE rfl rfl (zA (zF (zC (zB rfl rfl (zB rfl rfl (zH rfl bod226 rfl rfl ?_))))))
     refine (twos_c hb (by rw [yD]; exact hG.1) (by omega) hM).mono ?_
     rintro v36 w12 ⟨hB36, rfl⟩
     obtain ⟨LL, LR, hM, hb, hn33⟩ := ub5 hB36 LL LR hM hb hn33
     rw [yD]
     refine zH rfl bod227 rfl rfl ?_
     refine (rdown_c hb (by omega) hM).mono ?_
     rintro v37 w13 ⟨hB37, hf37⟩
     have hM37 := hM
     have hS37 := LL.size
     obtain ⟨LR, hM, hn33⟩ := ub3 hB37 LR hM hn33
     rw [show (65536 : Int) = ((65536 : Nat) : Int) from rfl, cntN_id (by have := tz_bound hG.1 hbl; omega), yD, show B / 2 ^ tz B = od B from rfl] at hf37
     have hn37 := hf37.nat hM37
     refine zE rfl rfl (zA (zF (zF (zC (zB rfl rfl (zB rfl rfl (zH rfl bod228 rfl rfl ?_)))))))
     refine (rcmp_c hn33 hn37 (by have := yV (aR A); omega) (by have := yV (aR B); omega) hM).mono ?_
     rintro v40 w14 ⟨hB40, rfl⟩
     obtain ⟨LR, hM, hn33, hn37⟩ := ub4 hB40 LR hM hn33 hn37
     rw [yD, yD]
     refine jR rfl rfl rfl (zA ?_)
     refine yC rfl (fun hc2 => ?_) (fun hc2 => ?_)
     ·have hlt : od A < od B := by have := hc2; unfold eJ at this; split at this <;> grind
      refine zC (zB rfl rfl (zB rfl rfl (zE rfl rfl (zE rfl rfl (zA (zC (zB rfl rfl (zB rfl rfl (zH rfl dZ rfl rfl ?_)))))))))
      refine (dU (by assumption) (by assumption) (by have := yV (aR A); have := yV (aR B); omega) (by have := yV (aR A); have := yV (aR B); omega) hM).mono ?_
      rintro v47 w15 ⟨hB47, q47, rfl, hf47⟩
      have hMx := hM
      obtain ⟨LR, hn33⟩ := ub2 hB47 LR hn33
      rw [yD, yD] at hf47
      have hn47 := hf47.nat hMx
      refine zB rfl rfl (yA rfl rfl rfl (yA rfl rfl rfl (zE rfl rfl (zA ?_))))
      refine ⟨rfl, (q47, v33, od B - od A, od A), (yB rfl (rfl) (yB rfl (rfl) (zG rfl yM))), ?_, ?_⟩
      dsimp only
      have hl3 := yV (show od B - od A ≤ B from Nat.le_trans (Nat.sub_le _ _) (aR _))
      have hl4 := yV (aR A)
      exact ⟨LR, by simpa using hn47, hn33, by omega, by omega, (gi_step hG hA0).2 (Nat.le_of_lt hlt) |>.1⟩
      dsimp only
      exact (gi_step hG hA0).2 (Nat.le_of_lt hlt) |>.2
     ·have hge : od B ≤ od A := by have := hc2; unfold eJ at this; split at this <;> grind
      refine yO (zC (zB rfl rfl (zB rfl rfl (zH rfl dZ rfl rfl ?_))))
      refine (dU (by assumption) (by assumption) (by have := yV (aR A); have := yV (aR B); omega) (by have := yV (aR A); have := yV (aR B); omega) hM).mono ?_
      rintro v47 w16 ⟨hB47, q47, rfl, hf47⟩
      have hMx := hM
      obtain ⟨LR, hn37⟩ := ub2 hB47 LR hn37
      rw [yD, yD] at hf47
      have hn47 := hf47.nat hMx
      refine zB rfl rfl (yA rfl rfl rfl (yA rfl rfl rfl (zE rfl rfl (zA ?_))))
      refine ⟨rfl, (q47, v37, od A - od B, od B), (yB rfl (rfl) (yB rfl (rfl) (zG rfl yM))), ?_, ?_⟩
      dsimp only
      have hl3 := yV (show od A - od B ≤ A from Nat.le_trans (Nat.sub_le _ _) (aR _))
      have hl4 := yV (aR B)
      exact ⟨LR, by simpa using hn47, hn37, by omega, by omega, (gi_step hG hA0).1 hge |>.1⟩
      dsimp only
      exact (gi_step hG hA0).1 hge |>.2
    ·refine xY (xZ (zF (zC (zB rfl rfl (zB rfl rfl (zH rfl bod187 rfl rfl ?_))))))
     refine (rup_c hb (by omega) hM).mono ?_
     rintro v52 w17 ⟨hB52, hf52⟩
     have hM52 := hM
     have hS52 := LL.size
     replace LL := ub1 hB52 LL
     rw [cntN_min (by have := tz_bound hx0 hxl2; omega), yD] at hf52
     have hn52 := hf52.nat hM52
     refine zE rfl rfl (zA (zY ?_))
     refine zN ⟨[_], ⟨rfl, trivial⟩, ?_⟩
     dsimp only [zV]
     have hA0 : A = 0 := xO.1 (by omega)
     rw [hG.2.2 hA0, ← gcd_od hx0 hy0] at hn52
     subst hFz
     exact ⟨LL.below (Nat.le_refl _), hn52⟩
end Go.Proofs.YtfkejnlohkgbgaaGreatDoor
set_option maxRecDepth 100000
namespace Go.Proofs.YtfkejnlohkgbgaaGreatDoor
open Go.SL Go.RowKit Go.Proofs Tryz
variable {M : Nat → Prop} {w : World}
theorem limb_val {xs : List Nat} (h : ∀ x ∈ xs, x < 4294967296) (j : Nat) : xs.getD j 0 = val xs / 2 ^ (32 * j) % 2 ^ 32 := by
  have e : (2 : Nat) ^ (32 * j) = 4294967296 ^ j := by rw [Nat.pow_mul]
  rw [e, ← val_drop h j]
  rcases Nat.lt_or_ge j xs.length with c | c
  · rw [kS c, show (2 : Nat) ^ 32 = 4294967296 by decide, Nat.add_mul_mod_self_left]
    exact (Nat.mod_eq_of_lt (qL h j)).symm
  · rw [List.drop_of_length_le c, gK c]; rfl
theorem tb (x i : Nat) : x.testBit i = decide (x / 2 ^ i % 2 = 1) := Nat.testBit_eq_decide_div_mod_eq
theorem bit_of {xs : List Nat} (h : ∀ x ∈ xs, x < 4294967296) (i : Nat) : xs.getD (i / 32) 0 / 2 ^ (i % 32) % 2 = val xs / 2 ^ i % 2 := by
  have hk : i % 32 < 32 := Nat.mod_lt _ (by omega)
  have e : 32 * (i / 32) + i % 32 = i := Nat.div_add_mod i 32
  have h1 : (xs.getD (i / 32) 0).testBit (i % 32) = (val xs).testBit i := by
    rw [limb_val h, Nat.testBit_mod_two_pow, Nat.testBit_div_two_pow, Nat.add_comm (i % 32), e]; simp [hk]
  rw [tb, tb] at h1
  have h2 := decide_eq_decide.1 h1
  have a1 := Nat.mod_two_eq_zero_or_one (xs.getD (i / 32) 0 / 2 ^ (i % 32))
  have a2 := Nat.mod_two_eq_zero_or_one (val xs / 2 ^ i)
  generalize xs.getD (i / 32) 0 / 2 ^ (i % 32) % 2 = p at *
  generalize val xs / 2 ^ i % 2 = q at *
  omega
theorem or_bit {zs : List Nat} {i c : Nat} (h : ∀ z ∈ zs, z < 4294967296) (hv : val zs = c * 2 ^ (i + 1)) : zs.getD (i / 32) 0 ||| 2 ^ (i % 32) = zs.getD (i / 32) 0 + 2 ^ (i % 32) := by
  have hk : i % 32 < 32 := Nat.mod_lt _ (by omega)
  have e : 32 * (i / 32) + i % 32 = i := Nat.div_add_mod i 32
  obtain ⟨q, hq⟩ : ∃ q, 32 = i % 32 + 1 + q := ⟨32 - (i % 32 + 1), by omega⟩
  have h1 : zs.getD (i / 32) 0 = 2 ^ (i % 32 + 1) * (c % 2 ^ q) := by
    rw [limb_val h, hv]
    have : c * 2 ^ (i + 1) = 2 ^ (32 * (i / 32)) * (2 ^ (i % 32 + 1) * c) := by
      rw [← Nat.mul_assoc, ← Nat.pow_add, show 32 * (i / 32) + (i % 32 + 1) = i + 1 by omega, Nat.mul_comm]
    rw [this, Nat.mul_div_cancel_left _ (Nat.pow_pos (by omega))]
    rw [show (2 : Nat) ^ 32 = 2 ^ (i % 32 + 1) * 2 ^ q by rw [← Nat.pow_add, ← hq], Nat.mul_mod_mul_left]
  rw [h1]
  have := Nat.shiftLeft_add_eq_or_of_lt (b := 2 ^ (i % 32)) (i := i % 32 + 1) (Nat.pow_lt_pow_right (by omega) (by omega)) (c % 2 ^ q)
  rw [Nat.shiftLeft_eq, Nat.mul_comm] at this
  exact this.symm
theorem set_bit {zs : List Nat} {i : Nat} (hj : i / 32 < zs.length) : val (zs.set (i / 32) (zs.getD (i / 32) 0 + 2 ^ (i % 32))) = val zs + 2 ^ i := by
  have hv := bI (zs := zs) (j := i / 32) (zs.getD (i / 32) 0 + 2 ^ (i % 32)) hj
  have e : (4294967296 : Nat) ^ (i / 32) * 2 ^ (i % 32) = 2 ^ i := by
    rw [show (4294967296 : Nat) = 2 ^ 32 by decide, ← Nat.pow_mul, ← Nat.pow_add, Nat.div_add_mod i 32]
  rw [Nat.mul_add, e] at hv
  omega
theorem or_lt32 {a k : Nat} (ha : a < 4294967296) (hk : k < 32) : a ||| 2 ^ k < 4294967296 := Nat.or_lt_two_pow (n := 32) ha (Nat.pow_lt_pow_right (by omega) hk)
structure DI (X Y V R t : Nat) : Prop where
  eq : X = V * Y + 2 ^ t * R + X % 2 ^ t
  lt : R < Y
  dv : ∃ c, V = c * 2 ^ t
theorem di_step {X Y V R t i : Nat} (h : DI X Y V R t) (ht : t = i + 1) (b : Nat) (hb : X / 2 ^ i % 2 = b) : (Y ≤ 2 * R + b → DI X Y (V + 2 ^ i) (2 * R + b - Y) i) ∧ (2 * R + b < Y → DI X Y V (2 * R + b) i) := by
  subst ht
  obtain ⟨c, hc⟩ := h.dv
  have hm : X % 2 ^ (i + 1) = 2 ^ i * b + X % 2 ^ i := by
    rw [Nat.pow_succ, Nat.mod_mul, hb]; omega
  have hE := h.eq
  rw [hm, Nat.pow_succ] at hE
  have hlt := h.lt
  constructor
  · intro hle
    refine ⟨?_, by have := Nat.mod_two_eq_zero_or_one (X / 2 ^ i); omega, ⟨2 * c + 1, by rw [hc, Nat.pow_succ, Nat.add_mul, Nat.one_mul]; congr 1; rw [Nat.mul_comm 2 c, Nat.mul_assoc, Nat.mul_comm 2]⟩⟩
    obtain ⟨d, hd⟩ : ∃ d, 2 * R + b = Y + d := ⟨2 * R + b - Y, by omega⟩
    rw [hd, Nat.add_sub_cancel_left, Nat.add_mul]
    have e1 : 2 ^ i * (2 * R + b) = 2 ^ i * Y + 2 ^ i * d := by rw [hd, Nat.mul_add]
    have e2 : 2 ^ i * 2 * R = 2 ^ i * (2 * R) := by rw [Nat.mul_assoc]
    rw [Nat.mul_add] at e1
    rw [e2] at hE
    omega
  · intro hl
    refine ⟨?_, hl, ⟨2 * c, by rw [hc, Nat.pow_succ, Nat.mul_comm 2 c, Nat.mul_assoc, Nat.mul_comm 2]⟩⟩
    rw [Nat.mul_add]
    have e2 : 2 ^ i * 2 * R = 2 ^ i * (2 * R) := by rw [Nat.mul_assoc]
    rw [e2] at hE
    omega
theorem di_start {xs : List Nat} {Y f : Nat} (h : ∀ x ∈ xs, x < 4294967296) (hf : xs.length - ((limbs Y).length) + 1 ≤ f ∨ xs.length < (limbs Y).length) (hY : Y ≠ 0) : DI (val xs) Y 0 (val (xs.drop f)) (32 * f) := by
  have e : (2 : Nat) ^ (32 * f) = 4294967296 ^ f := by rw [Nat.pow_mul]
  refine ⟨?_, ?_, ⟨0, by simp⟩⟩
  · rw [val_drop h f, e, Nat.zero_mul, Nat.zero_add]; exact (Nat.div_add_mod _ _).symm
  · have h1 := gU (xs.drop f) (fun x hx => h x (List.mem_of_mem_drop hx))
    rw [List.length_drop] at h1
    have hl : (limbs Y).length ≠ 0 := fun c => hY (xO.1 c)
    have h2 : 4294967296 ^ ((limbs Y).length - 1) ≤ Y := Classical.byContradiction fun c => by
      have := xT (Nat.lt_of_not_le c); omega
    exact Nat.lt_of_lt_of_le h1 (Nat.le_trans (Nat.pow_le_pow_right (by omega) (by omega)) h2)
theorem di_end {X Y V R : Nat} (h : DI X Y V R 0) : V = X / Y ∧ R = X % Y := by
  have hE := h.eq
  rw [Nat.pow_zero, Nat.one_mul, Nat.mod_one, Nat.add_zero] at hE
  have := (Nat.div_mod_unique (a := X) (b := Y) (c := R) (d := V) (by have := h.lt; omega)).2 ⟨by rw [Nat.mul_comm]; omega, h.lt⟩
  exact ⟨this.1.symm, this.2.symm⟩
theorem div3_c {v u : Value} {xs ys : List Nat} (h1 : IsNat M w v xs) (h2 : IsNat M w u ys) (hl1 : xs.length ≤ 100000) (hl2 : ys.length ≤ 100000) (hy0 : val ys ≠ 0) (hM : OkM M w) :
    CallsV prog 170 [v, u] w fun r w' => Below w.heap.size w w' ∧ ∃ q s, r = .tuple #[q, s, .int .i64 0] ∧ IsNat M w' q (limbs (val xs / val ys)) ∧ IsNat M w' s (limbs (val xs % val ys)) := by
 obtain ⟨Fz, hFz, hF, LL⟩ := fz0 M w
 have hyl := yQ ys h2.lt
 have hxl := yQ xs h1.lt
 have hylp : (limbs (val ys)).length ≠ 0 := fun c => hy0 (xO.1 c)
 have lenY2 : (limbs (2 * val ys)).length ≤ ys.length + 1 := xT (by have := gU ys h2.lt; rw [Nat.pow_succ]; omega)
 have hM0 := hM
 refine zP func170 rfl ntmps170 rfl ?_
 refine zF (zC (zE rfl rfl (zE rfl rfl (zE rfl rfl (zA (zF (zF (zC (zB rfl rfl (zH rfl kT rfl rfl ?_))))))))))
 refine (qD h2 (by omega) hM).mono ?_
 rintro v14 w1 ⟨hB14, hf14⟩
 have hM14 := hM
 have hS14 := LL.size
 obtain ⟨LL, hM, hF, h1, h2⟩ := ub5 hB14 LL hM hF h1 h2
 have hn14 := hf14.nat hM14
 first | refine yS rfl yu29 rfl hn14.slc ?_ | refine yY rfl yu29 rfl ?_
 refine gI rfl rfl rfl (zA ?_)
 refine yC rfl (fun hp => absurd hp (by omega)) (fun hc0 => ?_)
 refine yO (zF (zC (zB rfl rfl ?_)))
 first | refine yS rfl yu29 rfl (IsNat.slc (by assumption)) ?_ | refine yY rfl yu29 rfl ?_
 refine kP (xs.length) (xs.length) rfl yu29 xD rfl rfl rfl (by omega) (by omega) (by omega) (by omega) (by omega) (fun w2 b19 N19 => ?_)
 obtain ⟨_, nF19, nM19, Lw2, B19⟩ := nz hF hM N19
 obtain ⟨LL, hM, hF, h1, h2⟩ := up5 Lw2 LL hM hF h1 h2
 replace B19 : Blk w2 b19 107 ((List.replicate xs.length 0).map lw) := by simpa [lw] using B19
 refine zE rfl rfl (zA (zF (zC (zB rfl rfl ?_))))
 first | refine yS rfl yu29 rfl (IsNat.slc (by assumption)) ?_ | refine yY rfl yu29 rfl ?_
 refine zB rfl rfl (zH rfl kT rfl rfl ?_)
 refine (qD h2 (by omega) hM).mono ?_
 rintro v23 w3 ⟨hB23, hf23⟩
 have hM23 := hM
 have hS23 := LL.size
 obtain ⟨LL, hM, hF, h1, h2, B19⟩ := ub6 hB23 LL hM hF h1 h2 B19
 have hn23 := hf23.nat hM23
 first | refine yS rfl yu29 rfl hn23.slc ?_ | refine yY rfl yu29 rfl ?_
 refine jV rfl rfl rfl (by omega) (xK rfl rfl rfl (by omega) (kO rfl rfl rfl (zE rfl rfl ?_)))
 obtain ⟨f, hf⟩ : ∃ f : Nat, f = xs.length + 1 - (limbs (val ys)).length := ⟨_, rfl⟩
 have hfi : max (0 : Int) (((xs.length : Nat) : Int) - ((limbs (val ys)).length : Nat) + 1) = (f : Int) := by omega
 rw [hfi]
 have hfl : f ≤ xs.length := by omega
 have hst := di_start (f := f) h1.lt (by omega) hy0
 refine zA (zF (zC (xE rfl yu29 xD rfl rfl rfl (by simp) rfl (fun w4 b28 N28 => ?_))))
 have nF28 := hF.new N28
 have nM28 := hM.new N28
 have hBw4 := N28.below
 have Lw4 := Le.of_new_mo (Fz := Fz) (M := (Ins b19 M)) (v := Value.slice (some ⟨b28, 0, none⟩) 0 0) N28 rfl
 obtain ⟨B19, ne19_28⟩ := bn B19 N28
 obtain ⟨LL, hM, hF, h1, h2⟩ := up5 Lw4 LL hM hF h1 h2
 have Of : ∀ k, (Value.slice (some ⟨b28, 0, none⟩) 0 0).ownBlock = some k → ¬ Fz k := jY nF28
 have Om : ∀ k, (Value.slice (some ⟨b28, 0, none⟩) 0 0).ownBlock = some k → ¬ (Ins b19 M) k := jY nM28
 have Ow := aE (n := 0) (c := 0) N28.blk rfl (Nat.le_refl _) (by omega)
 refine zB rfl rfl (zB rfl rfl (gO (M := (Mo (Value.slice (some ⟨b28, 0, none⟩) 0 0) (Ins b19 M))) f xs.length rfl yu29 xD rfl h1.slc ⟨_, rfl⟩ rfl trivial hfl (Nat.le_refl _) (fun v31 hv31 => ?_)))
 have hn31 : IsNat (Mo (Value.slice (some ⟨b28, 0, none⟩) 0 0) (Ins b19 M)) w4 v31 (xs.drop f) := by have := h1.sub (l := f) (m := xs.length) (Nat.le_refl _) hv31; rwa [List.take_of_length_le (by simp)] at this
 refine gA rfl yu29 xD rfl rfl rfl Ow hn31.slc (eT _) (by simp only [List.length_drop]; omega) (by simp only [List.length_drop]; omega) (fun v32 w5 A32 G32 S32 => ?_)
 have Lw5 := Le.of_grown (Fz := Fz) (M := (Ins b19 M)) G32 S32 A32 Of
 have Omo32 := Om
 replace Of := jU (w' := w5) Of hF S32
 replace Om := jT (w' := w5) Om (fun k hk => hM k (.inr hk)) S32
 replace B19 := B19.grown G32 (fun h => Omo32 _ h zR)
 obtain ⟨LL, hM, h1, h2, hn31⟩ := up5 Lw5 LL hM h1 h2 hn31
 clear Ow; have Ow := A32
 refine zH rfl kT rfl rfl ?_
 refine (qD (xs := xs.drop f) ⟨by simpa using qX Ow (fun k hk c => Om k hk c) (by simp only [List.length_drop, List.length_nil]; omega), hn31.lt⟩ (by simp only [List.length_drop]; omega) (fun k hk => hM k (.inr hk))).mono ?_
 rintro v33 w6 ⟨hB33, hf33⟩
 have hM33 : OkM (Ins b19 M) _ := fun k hk => hM k (.inr hk)
 obtain ⟨LL, hM, h1, h2, B19⟩ := ub5 hB33 LL hM h1 h2 B19
 replace Ow := xW Ow hB33
 have hn33 := hf33.nat hM33
 refine zE rfl rfl (zA (zF (zF (zC ?_))))
 have Lo := Le.mo_out (Fz := Fz) (v := v32) (M := (Ins b19 M)) (w := w6)
 obtain ⟨LL, hM, h1, h2⟩ := up4 Lo LL hM h1 h2
 clear Lo Ow Of Om
 refine zB rfl rfl (ops_mul rfl rfl rfl (by omega) (jV rfl rfl rfl (by omega) (zE rfl rfl (zA (yK ?_)))))
 refine jA (σ := Nat × Value × Nat × List Nat) [(0, _), (1, _), (7, _)] (fun s => [(9, s.2.1), (10, .int .i64 (((s.1 : Nat) : Int) - 1))]) (fun s w7 => Le Fz (Ins b19 M) w6 (Ins b19 M) w7 ∧ s.1 ≤ 32 * xs.length ∧ Blk w7 b19 107 (s.2.2.2.map lw) ∧ s.2.2.2.length = xs.length ∧ (∀ z ∈ s.2.2.2, z < 4294967296) ∧ IsNat (Ins b19 M) w7 s.2.1 (limbs s.2.2.1) ∧ DI (val xs) (val ys) (val s.2.2.2) s.2.2.1 s.1) (fun s => s.1) ((32 * f, v33, val (xs.drop f), List.replicate xs.length 0)) (zG rfl (yB rfl (by congr 1) (zG rfl (zG rfl (zG rfl yM))))) ?_ (fun s w7 hJ => ?_)
 · dsimp only
   exact ⟨Le.refl _ _ _, by omega, B19, by simp, by intro z hz; have := (List.mem_replicate.1 hz).2; omega, hn33, by rw [kH]; exact hst⟩
 ·obtain ⟨t, r9, s2, zs⟩ := s
  dsimp only at hJ ⊢
  obtain ⟨LR, ht, B19, hzl, hzlt, hr, hDI⟩ := hJ
  have hs2l := yV (Nat.le_of_lt hDI.lt)
  obtain ⟨LL, hM, h1, h2⟩ := up4 LR LL hM h1 h2
  refine zF (zF (zC (zB rfl rfl (aM rfl rfl rfl (zA ?_)))))
  refine yC rfl (fun hc1 => ?_) (fun hc1 => ?_)
  ·obtain ⟨i, rfl⟩ : ∃ i, t = i + 1 := ⟨t - 1, by omega⟩
   have hii : ((i + 1 : Nat) : Int) - 1 = (i : Int) := by omega
   simp only [hii]
   have hiz : (i : Int) / 32 = ((i / 32 : Nat) : Int) := by omega
   have hbit := bit_of h1.lt i
   have hbx := h1.lim (i / 32)
   have hki : i % 32 < 32 := Nat.mod_lt _ (by omega)
   obtain ⟨cv, hcv⟩ := hDI.dv
   have horb0 := or_bit hzlt hcv
   have hp2 : 2 ^ (i % 32) < 4294967296 := show 2 ^ (i % 32) < 2 ^ 32 from Nat.pow_lt_pow_right (by omega) hki
   have horb : zs.getD (i / 32) 0 ||| 1 * 2 ^ (i % 32) % 4294967296 = zs.getD (i / 32) 0 + 2 ^ (i % 32) := by rw [Nat.one_mul, Nat.mod_eq_of_lt hp2]; exact horb0
   have horlt : zs.getD (i / 32) 0 + 2 ^ (i % 32) < 4294967296 := by rw [← horb0]; exact or_lt32 (qL hzlt _) hki
   have hsb := set_bit (zs := zs) (i := i) (by omega)
   have hs1 := di_step hDI rfl 1
   have hs0 := di_step hDI rfl 0
   refine yO (zF (yK (zF (zC (zB rfl rfl (zH rfl bod187 rfl rfl ?_))))))
   refine (rup_c hr (by omega) hM).mono ?_
   rintro v42 w8 ⟨hB42, hf42⟩
   have hM42 := hM
   have hS42 := LL.size
   obtain ⟨LL, LR, hM, h1, h2, B19⟩ := ub6 hB42 LL LR hM h1 h2 B19
   rw [show aU 1 65536 = 1 by decide, yD, Nat.pow_one] at hf42
   have hn42 := hf42.nat hM42
   refine zE rfl rfl (zA (zF (zF (zC (zB rfl rfl (zB rfl rfl (uJ rfl rfl rfl (by omega) (jS (i / 32) rfl yu29 xD rfl rfl h1 hiz (by omega) (fun b46 o46 hc46 hb46 => ?_)))))))))
   refine xQ rfl jH rfl hc46 (zB rfl rfl (aF rfl rfl rfl (by omega) (jD (a := i % 32) rfl yu3 yu179 rfl (by omega) ?_)))
   refine jM (b := ((i % 32 : Nat) : Int)) rfl rfl rfl (by simp only [IntKind.bits]; omega) ?_
   simp only [Int.toNat_natCast]
   refine bU rfl rfl rfl (by simp only [IntKind.bits]; exact Nat.lt_of_le_of_lt (Nat.div_le_self _ _) hbx) (by simp only [IntKind.bits]; omega) (.inr rfl) (gI rfl rfl rfl (zA ?_))
   refine yC rfl (fun hc2 => ?_) (fun hc2 => ?_)
   ·have hb1 : val xs / 2 ^ i % 2 = 1 := by rw [← hbit]; have := hc2; rw [Nat.and_one_is_mod] at this; have := Nat.mod_two_eq_zero_or_one (xs.getD (i / 32) 0 / 2 ^ (i % 32)); grind
    refine zC (zB rfl rfl (xE rfl yu29 xD rfl rfl rfl (by simp [Value.oneCell', lw]) rfl (fun w9 b55 N55 => ?_)))
    have hBw9 := N55.below
    have nM55 := hM.new N55
    have B55 := N55.blk
    obtain ⟨LL, LR, hM, h2, hn42, B19⟩ := ub6 hBw9 LL LR hM h2 hn42 B19
    have hn55 : IsNat (Ins b19 M) w9 (.slice (some ⟨b55, 0, none⟩) 1 1) [1] := dC (xs := [1]) B55 nM55 rfl (by simp) (by simp)
    refine xE rfl yu255 xV rfl rfl rfl (fJ (by first | rfl | exact yF (by assumption) | exact yH (by assumption) | assumption) (by first | rfl | exact yF (by assumption) | exact yH (by assumption) | assumption)) rfl (fun w10 b56 N56 => ?_)
    have hBw10 := N56.below
    have nM56 := hM.new N56
    have B56 := N56.blk
    obtain ⟨LL, LR, hM, h2, hn42, hn55, B19⟩ := ub7 hBw10 LL LR hM h2 hn42 hn55 B19
    have hn56 := eE B56 nM56 hn42 hn55
    refine zH rfl bod225 rfl rfl ?_
    refine (radd_c hn56 (by intro q hq; rcases List.mem_cons.1 hq with rfl | hq; have := yV (show s2 * 2 ≤ 2 * val ys by have := hDI.lt; omega); have := lenY2; omega; rcases List.mem_cons.1 hq with rfl | hq; simp; cases hq) (by simp) hM).mono ?_
    rintro v57 w11 ⟨hB57, hf57⟩
    have hM57 := hM
    have hS57 := LL.size
    obtain ⟨LR, hM, h2, B19⟩ := ub4 hB57 LR hM h2 B19
    simp only [List.map_cons, List.map_nil, List.sum_cons, List.sum_nil, Nat.add_zero, yD, show val [1] = 1 by decide] at hf57
    have hn57 := hf57.nat hM57
    refine zE rfl rfl (zA (zF (zC (zB rfl rfl (zB rfl rfl (zH rfl dZ rfl rfl ?_))))))
    refine (dU (by assumption) h2 (by have := yV (show s2 * 2 + 1 ≤ 2 * val ys by have := hDI.lt; omega); have := yV (show s2 * 2 ≤ 2 * val ys by have := hDI.lt; omega); have := lenY2; omega) (by omega) hM).mono ?_
    rintro v61 w12 ⟨hB61, q61, rfl, hf61⟩
    have hMx := hM
    obtain ⟨LR, hn57, B19⟩ := ub3 hB61 LR hn57 B19
    rw [yD]
    rw [yD] at hf61
    have hn61 := hf61.nat hMx
    refine zB rfl rfl (yA rfl rfl rfl (yA rfl rfl rfl (zE rfl rfl (zE rfl rfl (zA (zF (zC (zB rfl rfl (gI rfl rfl rfl (zA ?_))))))))))
    refine yC rfl (fun hc3 => ?_) (fun hc3 => ?_)
    ·have hge : val ys ≤ s2 * 2 + 1 := by have h := hc3; split at h <;> omega
     refine zF (zC (zB rfl rfl (zE rfl rfl (zA (zC (zB rfl rfl (zB rfl rfl (uJ rfl rfl rfl (by omega) (zB rfl rfl (zB rfl rfl (uJ rfl rfl rfl (by omega) (qW (i / 32) rfl yu29 xD rfl rfl hiz (by omega) (xQ rfl jH rfl (bZ (ex := []) (by rw [List.append_nil]; exact B19) (by omega)) (zB rfl rfl ?_))))))))))))))
     refine aF rfl rfl rfl (by omega) (jD (a := i % 32) rfl yu3 yu179 rfl (by omega) ?_)
     refine qT (b := ((i % 32 : Nat) : Int)) (a := 1) (m := 4294967296) rfl rfl rfl (by simp only [IntKind.bits]; omega) rfl (.inr rfl) ?_
     simp only [Int.toNat_natCast]
     refine uK rfl rfl rfl (by simp only [IntKind.bits]; exact Nat.lt_of_lt_of_eq (qL hzlt _) (by decide)) (by simp only [IntKind.bits]; exact Nat.lt_of_lt_of_eq (Nat.mod_lt _ (by omega)) (by decide)) (.inr rfl) (qW (i / 32) rfl yu29 xD rfl rfl hiz (by omega) (jL (i := i / 32) rfl rfl xD B19 rfl (by simp; omega) (fun w13 Cw13 Bw13 => ?_)))
     have Lw13 := Le.of_chg (M := (Ins b19 M)) Cw13 zR nF19
     obtain ⟨LR, hn61⟩ := up2 Lw13 LR hn61
     clear B19; have B19 := Bw13; clear Bw13; rw [show Value.int .u32 ((zs.getD (i / 32) 0 ||| 1 * 2 ^ (i % 32) % 4294967296 : Nat) : Int) = lw (zs.getD (i / 32) 0 + 2 ^ (i % 32)) from by rw [horb]; rfl, ← List.map_set] at B19
     refine zA (zC (zB rfl rfl (jV rfl rfl rfl (by omega) (zE rfl rfl (zA ?_)))))
     refine ⟨rfl, (i, q61, s2 * 2 + 1 - val ys, zs.set (i / 32) (zs.getD (i / 32) 0 + 2 ^ (i % 32))), (yB rfl (rfl) (yB rfl (rfl) (zG rfl (zG rfl (zG rfl yM))))), ?_, ?_⟩
     dsimp only
     have hR2 := yV (Nat.le_of_lt hDI.lt)
     exact ⟨LR, by omega, B19, by simp [hzl], kX hzlt horlt, hn61, by rw [hsb, Nat.mul_comm s2 2]; exact (hs1 hb1).1 (by omega)⟩
     dsimp only
     omega
    ·have hge : s2 * 2 + 1 < val ys := by have h := hc3; split at h <;> omega
     refine yO (zC (zB rfl rfl (jV rfl rfl rfl (by omega) (zE rfl rfl (zA ?_)))))
     refine ⟨rfl, (i, v57, s2 * 2 + 1, zs), (yB rfl (rfl) (yB rfl (rfl) (zG rfl (zG rfl (zG rfl yM))))), ?_, ?_⟩
     dsimp only
     have hR2 := yV (Nat.le_of_lt hDI.lt)
     exact ⟨LR, by omega, B19, by simp [hzl], hzlt, hn57, by rw [Nat.mul_comm s2 2]; exact (hs1 hb1).2 (by omega)⟩
     dsimp only
     omega
   ·have hb1 : val xs / 2 ^ i % 2 = 0 := by rw [← hbit]; have := hc2; rw [Nat.and_one_is_mod] at this; have := Nat.mod_two_eq_zero_or_one (xs.getD (i / 32) 0 / 2 ^ (i % 32)); grind
    refine yO (zF (zC (zB rfl rfl (zB rfl rfl (zH rfl dZ rfl rfl ?_)))))
    refine (dU (by assumption) h2 (by have := yV (show s2 * 2 + 1 ≤ 2 * val ys by have := hDI.lt; omega); have := yV (show s2 * 2 ≤ 2 * val ys by have := hDI.lt; omega); have := lenY2; omega) (by omega) hM).mono ?_
    rintro v61 w14 ⟨hB61, q61, rfl, hf61⟩
    have hMx := hM
    obtain ⟨LR, hn42, B19⟩ := ub3 hB61 LR hn42 B19
    rw [yD]
    rw [yD] at hf61
    have hn61 := hf61.nat hMx
    refine zB rfl rfl (yA rfl rfl rfl (yA rfl rfl rfl (zE rfl rfl (zE rfl rfl (zA (zF (zC (zB rfl rfl (gI rfl rfl rfl (zA ?_))))))))))
    refine yC rfl (fun hc4 => ?_) (fun hc4 => ?_)
    ·have hge : val ys ≤ s2 * 2 := by have h := hc4; split at h <;> omega
     refine zF (zC (zB rfl rfl (zE rfl rfl (zA (zC (zB rfl rfl (zB rfl rfl (uJ rfl rfl rfl (by omega) (zB rfl rfl (zB rfl rfl (uJ rfl rfl rfl (by omega) (qW (i / 32) rfl yu29 xD rfl rfl hiz (by omega) (xQ rfl jH rfl (bZ (ex := []) (by rw [List.append_nil]; exact B19) (by omega)) (zB rfl rfl ?_))))))))))))))
     refine aF rfl rfl rfl (by omega) (jD (a := i % 32) rfl yu3 yu179 rfl (by omega) ?_)
     refine qT (b := ((i % 32 : Nat) : Int)) (a := 1) (m := 4294967296) rfl rfl rfl (by simp only [IntKind.bits]; omega) rfl (.inr rfl) ?_
     simp only [Int.toNat_natCast]
     refine uK rfl rfl rfl (by simp only [IntKind.bits]; exact Nat.lt_of_lt_of_eq (qL hzlt _) (by decide)) (by simp only [IntKind.bits]; exact Nat.lt_of_lt_of_eq (Nat.mod_lt _ (by omega)) (by decide)) (.inr rfl) (qW (i / 32) rfl yu29 xD rfl rfl hiz (by omega) (jL (i := i / 32) rfl rfl xD B19 rfl (by simp; omega) (fun w15 Cw15 Bw15 => ?_)))
     have Lw15 := Le.of_chg (M := (Ins b19 M)) Cw15 zR nF19
     obtain ⟨LR, hn61⟩ := up2 Lw15 LR hn61
     clear B19; have B19 := Bw15; clear Bw15; rw [show Value.int .u32 ((zs.getD (i / 32) 0 ||| 1 * 2 ^ (i % 32) % 4294967296 : Nat) : Int) = lw (zs.getD (i / 32) 0 + 2 ^ (i % 32)) from by rw [horb]; rfl, ← List.map_set] at B19
     refine zA (zC (zB rfl rfl (jV rfl rfl rfl (by omega) (zE rfl rfl (zA ?_)))))
     refine ⟨rfl, (i, q61, s2 * 2 - val ys, zs.set (i / 32) (zs.getD (i / 32) 0 + 2 ^ (i % 32))), (yB rfl (rfl) (yB rfl (rfl) (zG rfl (zG rfl (zG rfl yM))))), ?_, ?_⟩
     dsimp only
     have hR2 := yV (Nat.le_of_lt hDI.lt)
     exact ⟨LR, by omega, B19, by simp [hzl], kX hzlt horlt, hn61, by rw [hsb, Nat.mul_comm s2 2]; exact (hs0 hb1).1 (by omega)⟩
     dsimp only
     omega
    ·have hge : s2 * 2 < val ys := by have h := hc4; split at h <;> omega
     refine yO (zC (zB rfl rfl (jV rfl rfl rfl (by omega) (zE rfl rfl (zA ?_)))))
     refine ⟨rfl, (i, v42, s2 * 2, zs), (yB rfl (rfl) (yB rfl (rfl) (zG rfl (zG rfl (zG rfl yM))))), ?_, ?_⟩
     dsimp only
     have hR2 := yV (Nat.le_of_lt hDI.lt)
     exact ⟨LR, by omega, B19, by simp [hzl], hzlt, hn42, by rw [Nat.mul_comm s2 2]; exact (hs0 hb1).2 (by omega)⟩
     dsimp only
     omega
  ·refine xY (xZ (zF (zC (zB rfl rfl (zH rfl kT rfl rfl ?_)))))
   have hq : IsNat (fun _ => False) w7 (.slice (some ⟨b19, 0, none⟩) xs.length xs.length) zs := by have := dC (M := fun _ => False) (xs := zs) B19 (fun c => c) rfl (by omega) hzlt; rw [hzl] at this; exact this
   have hMq := hM
   refine (qD (xs := zs) hq (by omega) (fun _ c => c.elim)).mono ?_
   rintro v82 w16 ⟨hB82, hf82⟩
   obtain ⟨LL, hM, hr⟩ := ub3 hB82 LL hM hr
   have hn82 := hf82.nat hMq
   refine zB rfl rfl (zH rfl kT rfl rfl ?_)
   refine (qD hr (by omega) hM).mono ?_
   rintro v84 w17 ⟨hB84, hf84⟩
   have hM84 := hM
   have hS84 := LL.size
   obtain ⟨LL, hn82⟩ := ub2 hB84 LL hn82
   have hn84 := hf84.nat hM84
   refine zE rfl rfl (zE rfl rfl (zE rfl rfl (zA (zY ?_))))
   refine zN ⟨[_, _, _], ⟨rfl, rfl, rfl, trivial⟩, ?_⟩
   dsimp only [zV]
   have ht0 : t = 0 := by omega
   subst ht0
   obtain ⟨e1, e2⟩ := di_end hDI
   rw [e1] at hn82; rw [yD, e2] at hn84
   subst hFz
   exact ⟨LL.below (Nat.le_refl _), _, _, rfl, hn82.less fun k c => zI c, hn84.less fun k c => zI c⟩
end Go.Proofs.YtfkejnlohkgbgaaGreatDoor
set_option maxRecDepth 100000
namespace Go.Proofs.YtfkejnlohkgbgaaGreatDoor
open Go.SL Go.RowKit Go.Proofs Tryz
variable {M : Nat → Prop} {w : World}
theorem rc_mk {n m : Nat} {q : Rat} {s : Bool} {a d : Value} (h : ZC M w n q.num s a) (hd : IsNat M w d (limbs q.den)) (hl : (limbs q.den).length ≤ m) : RC M w (max n m) q s a d :=
  ⟨h.sgn, h.num, hd, ⟨Nat.le_trans h.len (by omega), Nat.le_trans hl (by omega)⟩⟩
theorem RC.relen {n m : Nat} {q : Rat} {s : Bool} {a d : Value} (h : RC M w n q s a d) (hl : kD q m) : RC M w m q s a d := ⟨h.sgn, h.num, h.den, hl⟩
theorem one_den (n : Nat) : (limbs ((n : Nat) : Rat).den) = [1] := by rw [show ((n : Nat) : Rat).den = 1 from rfl, qB]
theorem num_eq {z : Int} {k : Nat} (hk : k ≠ 0) : zv (decide (z < 0)) (limbs (z.natAbs / Nat.gcd z.natAbs k)) = (mkRat z k).num := by
  have h := cY (z := z) hk
  rw [← h.1, ← h.2.1]; exact gL _
theorem sgn_mk {z : Int} {k : Nat} (hk : k ≠ 0) : z.sign = eY (mkRat z k) := by
  have h := cY (z := z) hk
  unfold eY
  have h1 := decide_eq_decide.1 h.1
  rcases Int.lt_trichotomy z 0 with c | c | c
  · rw [Int.sign_eq_neg_one_of_neg c, Int.sign_eq_neg_one_of_neg (h1.2 c)]
  · subst c; simp
  · have h2 : (mkRat z k).num ≠ 0 := fun e => by
      rw [Rat.num_eq_zero] at e
      rw [Rat.mkRat_eq_zero hk] at e; omega
    rw [Int.sign_eq_one_of_pos c, Int.sign_eq_one_of_pos (by omega)]
theorem small_mk {z : Int} {k : Nat} (hk : k ≠ 0) : (limbs (z.natAbs / Nat.gcd z.natAbs k)).length ≤ (limbs z.natAbs).length ∧ (limbs (k / Nat.gcd z.natAbs k)).length ≤ (limbs k).length := ⟨yV (Nat.div_le_self _ _), yV (Nat.div_le_self _ _)⟩
theorem eP {k : Nat} (hk : k < 9223372036854775808) (hM : OkM M w) :
    CallsV prog 21 [.int .i64 ((k : Nat) : Int)] w fun r w' => Below w.heap.size w w' ∧ ∃ xsr xar xdr, r = .agg #[.bool xsr, xar, xdr] ∧ RC M w' (2) (((k : Nat) : Rat)) xsr xar xdr := by
 obtain ⟨Fz, hFz, hF, LL⟩ := fz0 M w
 have hM0 := hM
 refine zP func21 rfl ntmps21 rfl ?_
 refine zF (zC (yJ rfl yN (fun w1 b2 N2 => ?_)))
 obtain ⟨_, nF2, nM2, Lw1, B2⟩ := nza hF hM N2
 obtain ⟨LL, hM⟩ := up2 Lw1 LL hM
 refine zA (zF (zC (zB rfl rfl (zH rfl bod79 rfl rfl ?_))))
 refine (i5of_c (k := k)  (by omega) hM).mono ?_
 rintro v4 w2 ⟨hB4, xs4, xa4, rfl, hn4⟩
 obtain ⟨LL, hM, B2⟩ := ub3 hB4 LL hM B2
 obtain ⟨oxa4, _⟩ := hn4.one
 refine xE rfl yu29 xD rfl rfl rfl (by simp [Value.oneCell', lw]) rfl (fun w3 b5 N5 => ?_)
 have hBw3 := N5.below
 have nM5 := hM.new N5
 have B5 := N5.blk
 obtain ⟨LL, hn4, B2⟩ := ub3 hBw3 LL hn4 B2
 have hn5 : IsNat (Ins b2 M) w3 (.slice (some ⟨b5, 0, none⟩) 1 1) [1] := dC (xs := [1]) B5 nM5 rfl (by simp) (by simp)
 refine xP rfl eR rfl rfl (zZ (rfl) (zZ (gN (by first | rfl | assumption)) xF)) rfl (zW rfl rfl yN B2 rfl rfl (zU rfl (zU (by first | rfl | assumption) (zU (by first | rfl | assumption) jC))) rfl (fun w4 Cw4 B2 => ?_))
 have Lw4 := Le.of_chg (M := (Ins b2 M)) Cw4 zR nF2
 obtain ⟨LL, hn4, hn5⟩ := up3 Lw4 LL hn4 hn5
 refine zA (zY ?_)
 refine zN ⟨[_], ⟨⟨_, rfl, yU yW yN B2 rfl rfl⟩, trivial⟩, ?_⟩
 dsimp only [zV]
 subst hFz
 exact ⟨LL.below (Nat.le_refl _), _, _, _, rfl, (((RC.up (rc_mk (q := ((k : Nat) : Rat)) hn4 (m := 2) (by rw [one_den]; exact hn5) (by rw [one_den]; simp)) (m := 2) (by omega))).less (fun k c => zI c)).up (by omega)⟩
theorem r7new_c {z : Int} {n0 : Nat} {xs0 : Bool} {xa0 : Value} {k : Nat} {n1 : Nat} {xa1 : Value} (h0 : ZQ M w n0 z xs0 xa0) (h1 : NQ M w n1 k xa1) (hl0 : n0 ≤ 2000) (hl1 : n1 ≤ 2000) (hM : OkM M w) :
    CallsV prog 107 [.agg #[.bool xs0, xa0], xa1] w fun r w' => Below w.heap.size w w' ∧ ∃ xsr xar xdr, r = .tuple #[.agg #[.bool xsr, xar, xdr], .int .i64 (if k = 0 then 30 else 0)] ∧ RC M w' (max n0 n1 + 2) (mkRat z k) xsr xar xdr := by
 obtain ⟨Fz, hFz, hF, LL⟩ := fz0 M w
 obtain ⟨oxa0, _⟩ := h0.one
 obtain ⟨oxa1, _⟩ := h1.one
 obtain ⟨ds, hd, hdl, hdk⟩ := h1.ex
 have hdk2 := yQ ds hd.lt
 rw [hdk] at hdk2
 have hM0 := hM
 refine zP func107 rfl ntmps107 rfl ?_
 refine zF (zC (yL rfl rfl (fun w1 b2 N2 => ?_)))
 obtain ⟨_, nF2, nM2, Lw1, B2⟩ := nza hF hM N2
 obtain ⟨LL, hM, hF, h0, hd⟩ := up5 Lw1 LL hM hF h0 hd
 refine yJ rfl yN (fun w2 b4 N4 => ?_)
 obtain ⟨hBw2, nF4, nM4, Lw2, B4⟩ := nza hF hM N4
 obtain ⟨B2, ne2_4⟩ := bn B2 N4
 obtain ⟨LL, hM, h0, hd⟩ := up4 Lw2 LL hM h0 hd
 refine zE rfl rfl (zA (zF (zF (zC (zB rfl rfl (zH rfl kT rfl rfl ?_))))))
 refine (qD hd (by omega) hM).mono ?_
 rintro v19 w3 ⟨hB19, hf19⟩
 have hM19 := hM
 have hS19 := LL.size
 obtain ⟨LL, hM, h0, hd, B2, B4⟩ := ub6 hB19 LL hM h0 hd B2 B4
 have hn19 := hf19.nat hM19
 first | refine yS rfl yu29 rfl hn19.slc ?_ | refine yY rfl yu29 rfl ?_
 refine gI rfl rfl rfl (zA ?_)
 refine yC rfl (fun hc0 => ?_) (fun hc0 => ?_)
 ·have hk0 : k = 0 := by rw [← hdk]; exact xO.1 (by omega)
  have hif : (if k = 0 then (30 : Int) else 0) = 30 := if_pos hk0
  have hmk : mkRat z k = ((0 : Nat) : Rat) := by rw [hk0, Rat.mkRat_zero]; rfl
  refine zF (zC (zH rfl fP rfl rfl ?_))
  refine (eP (k := 0)  (by omega) hM).mono ?_
  rintro v22 w4 ⟨hB22, xs22, xa22, xd22, rfl, hn22⟩
  obtain ⟨LL, B4⟩ := ub2 hB22 LL B4
  obtain ⟨oxa22, oxd22, _⟩ := hn22.one
  refine zW rfl rfl yN B4 rfl rfl (zU rfl (zU (by first | rfl | exact yF (by assumption) | exact yH (by assumption) | assumption) (zU (by first | rfl | exact yF (by assumption) | exact yH (by assumption) | assumption) jC))) rfl (fun w5 Cw5 B4 => ?_)
  have Lw5 := Le.of_chg (M := (Ins b4 (Ins b2 M))) Cw5 zR nF4
  obtain ⟨LL, hn22⟩ := up2 Lw5 LL hn22
  refine zE rfl rfl (zA (zY ?_))
  refine zN ⟨[_, _], ⟨⟨_, rfl, yU yW yN B4 rfl rfl⟩, rfl, trivial⟩, ?_⟩
  dsimp only [zV]
  rw [hif, hmk]
  subst hFz
  exact ⟨LL.below (Nat.le_refl _), _, _, _, rfl, (hn22.less (fun k c => zI (zI c))).up (by omega)⟩
 ·have hk0 : k ≠ 0 := fun c => hc0 (by rw [← hdk] at c; rw [c, xN]; rfl)
  have hif : (if k = 0 then (30 : Int) else 0) = 0 := if_neg hk0
  have hmt := cY (z := z) hk0
  have hsm := small_mk (z := z) hk0
  have hg0 : Nat.gcd z.natAbs k ≠ 0 := fun c => hk0 (Nat.eq_zero_of_gcd_eq_zero_right c)
  have hgl := yV (Nat.gcd_le_right z.natAbs (Nat.pos_of_ne_zero hk0))
  refine yO (zF (zC (zL rfl xX xC rfl B2 rfl rfl (zH rfl aP rfl rfl ?_))))
  refine (qU h0 (by omega) hM).mono ?_
  rintro v24 w6 ⟨hB24, xs24, xa24, rfl, hn24⟩
  obtain ⟨LL, hM, h0, hd, B2, B4⟩ := ub6 hB24 LL hM h0 hd B2 B4
  obtain ⟨oxa24, _⟩ := hn24.one
  refine zW rfl rfl xC B2 rfl rfl (zU rfl (zU (by first | rfl | exact yF (by assumption) | exact yH (by assumption) | assumption) jC)) rfl (fun w7 Cw7 B2 => ?_)
  have Lw7 := Le.of_chg (M := (Ins b4 (Ins b2 M))) Cw7 (.inr zR) nF2
  obtain ⟨LL, hM, h0, hd, hn24⟩ := up5 Lw7 LL hM h0 hd hn24
  replace B4 := B4.other Cw7 ne2_4.symm
  refine zA (zF (zC (zJ 1 rfl yu31 rfl rfl xV rfl rfl (zS rfl yX rfl B2 rfl (zH rfl bod167 rfl rfl ?_)))))
  refine (rsmall_c hn24.num (by have := hn24.len; omega) hM).mono ?_
  rintro v28 w8 ⟨hB28, rfl⟩
  obtain ⟨LL, hM, h0, hd, hn24, B2, B4⟩ := ub7 hB28 LL hM h0 hd hn24 B2 B4
  simp only [yD]
  refine zB rfl rfl (yA rfl rfl rfl (yA rfl rfl rfl (zE rfl rfl (zE rfl rfl (zA (zF (zC (zB rfl rfl (zH rfl bod167 rfl rfl ?_)))))))))
  refine (rsmall_c hd (by omega) hM).mono ?_
  rintro v33 w9 ⟨hB33, rfl⟩
  obtain ⟨LL, hM, h0, hd, hn24, B2, B4⟩ := ub7 hB33 LL hM h0 hd hn24 B2 B4
  simp only [hdk]
  refine zB rfl rfl (yA rfl rfl rfl (yA rfl rfl rfl (zE rfl rfl (zE rfl rfl (zA (zF (zF (zC (zB rfl rfl (zB rfl rfl (gE (d := 37) rfl (fun hg6_1 => ?_) (fun hg6_1 => ?_))))))))))))
  ·refine zQ rfl rfl (zB rfl rfl (xB rfl rfl rfl (zA ?_)))
   refine yC rfl (fun hc1 => ?_) (fun hc1 => ?_)
   ·have ea : kW z.natAbs = z.natAbs := if_pos hg6_1
    have ek : kW k = k := if_pos hc1
    rw [ea, ek]
    refine zF (zC (zB rfl rfl (zB rfl rfl (zH rfl bod168 rfl rfl ?_))))
    refine (plain7_c (a := z.natAbs) (b := k) hg6_1 hc1 hM).mono ?_
    rintro v42 w10 ⟨hB42, rfl⟩
    obtain ⟨LL, hM, h0, hn24, B2, B4⟩ := ub6 hB42 LL hM h0 hn24 B2 B4
    refine zE rfl rfl (zA (zF ?_))
    refine xL (R := Rb) (R' := Rb) (st := none) jJ 11 [1, 2, 4, 5, 50, 53] (by decide +kernel) xJ xU (xS _) (fun _ _ _ h => by cases h) ?_
    refine zM (fun _ _ _ => zO rfl rfl (zD (zJ 0 rfl yu31 rfl rfl sz4 rfl rfl (on0 rfl)))) ?_
    refine zM (fun _ hR _ => zK rfl (zD (zS rfl qY rfl (B2.below hR) rfl (on0 rfl)))) ?_
    refine zM (fun _ _ _ => zO rfl rfl (zD (zB rfl rfl (on0 rfl)))) ?_
    refine zM (fun _ _ _ => zO rfl rfl (zD (zB rfl rfl (on0 rfl)))) ?_
    apply zM
    ·intro wq hR hst
     refine zK rfl (zK rfl (zD ?_))
     exact ops_quou rfl rfl rfl (by omega) (by omega) (on0 rfl)
    refine zX (fun v w => IsNat (Ins b4 (Ins b2 M)) w v (limbs (z.natAbs / Nat.gcd z.natAbs k))) xR (fun wq hR hst => ?_) ?_
    ·refine zK rfl (zD ?_)
     obtain ⟨LL, hM⟩ := ub2 hR LL hM
     refine zH rfl bod148 rfl rfl ?_
     refine (rof_c (n := z.natAbs / Nat.gcd z.natAbs k) (Nat.lt_of_le_of_lt (Nat.div_le_self _ _) hg6_1) hM).mono ?_
     rintro v48 w11 ⟨hB48, hf48⟩
     have hM48 := hM
     have hS48 := LL.size
     have hn48 := hf48.nat hM48
     exact zA ⟨rfl, hB48, _, rfl, hn48⟩
    refine zX (vZQ (Ins b4 (Ins b2 M)) (n0) ((mkRat z k).num)) vZQ_m (fun wq hR hst => ?_) ?_
    ·refine zK rfl (yE rfl (fun v48 hp48 => ?_))
     have hn48 := hp48
     refine zD ?_
     replace hn24 := ub1 hR hn24
     exact xP rfl aQ rfl rfl (zZ (gN rfl) (zZ (gN (by first | rfl | exact yF (by assumption) | exact yH (by assumption) | assumption)) xF)) rfl (zA ⟨rfl, yP _, _, rfl, ⟨_, _, rfl, (ZQ.mk ⟨_, hn48, Nat.le_trans hsm.1 hn24.len, by rw [hn24.sgn]; exact num_eq hk0⟩)⟩⟩)
    refine zX (vZC (Ins b4 (Ins b2 M)) (n0) (((mkRat z k).num))) fF (fun wq hR hst => ?_) ?_
    ·refine yE rfl (fun v49 hp49 => ?_)
     obtain ⟨xs49, xa49, rfl, hn49⟩ := hp49
     refine zD ?_
     replace hM := ub1 hR hM
     refine zH rfl aP rfl rfl ?_
     refine (qU hn49 (by omega) hM).mono ?_
     rintro v50 w12 ⟨hB50, xs50, xa50, rfl, hn50⟩
     exact zA ⟨rfl, hB50, _, rfl, ⟨_, _, rfl, hn50⟩⟩
    refine zM (fun _ _ _ => zO rfl rfl (zD (zB rfl rfl (on0 rfl)))) ?_
    refine zM (fun _ _ _ => zO rfl rfl (zD (zB rfl rfl (on0 rfl)))) ?_
    apply zM
    ·intro wq hR hst
     refine zK rfl (zK rfl (zD ?_))
     exact ops_quou rfl rfl rfl (by omega) (by omega) (on0 rfl)
    refine xM (fun wq8 hR8 hpost8 => ?_)
    refine zO rfl rfl (zO rfl rfl (zO rfl rfl (zO rfl rfl (yE rfl (fun v50 hp50 => ?_)))))
    obtain ⟨xs50, xa50, rfl, hn50⟩ := hp50; obtain ⟨oxa50, _⟩ := hn50.one
    refine zK rfl (zD ?_)
    simp only [List.drop_succ_cons, List.drop_zero, List.drop_nil, List.toList_toArray]
    obtain ⟨LL, hM, B4⟩ := ub3 hR8 LL hM B4
    refine zH rfl bod148 rfl rfl ?_
    refine (rof_c (n := k / Nat.gcd z.natAbs k) (Nat.lt_of_le_of_lt (Nat.div_le_self _ _) hc1) hM).mono ?_
    rintro v54 w13 ⟨hB54, hf54⟩
    have hM54 := hM
    have hS54 := LL.size
    obtain ⟨LL, hn50, B4⟩ := ub3 hB54 LL hn50 B4
    have hn54 := hf54.nat hM54
    refine xP rfl eR rfl rfl (zZ (rfl) (zZ (gN (by first | rfl | exact yF (by assumption) | exact yH (by assumption) | assumption)) xF)) rfl (zW rfl rfl yN B4 rfl rfl (zU rfl (zU (by first | rfl | exact yF (by assumption) | exact yH (by assumption) | assumption) (zU (by first | rfl | exact yF (by assumption) | exact yH (by assumption) | assumption) jC))) rfl (fun w14 Cw14 B4 => ?_))
    have Lw14 := Le.of_chg (M := (Ins b4 (Ins b2 M))) Cw14 zR nF4
    obtain ⟨LL, hn50, hn54⟩ := up3 Lw14 LL hn50 hn54
    refine zE rfl rfl (zA (zY ?_))
    refine zN ⟨[_, _], ⟨⟨_, rfl, yU yW yN B4 rfl rfl⟩, rfl, trivial⟩, ?_⟩
    dsimp only [zV]
    rw [hif]
    subst hFz
    exact ⟨LL.below (Nat.le_refl _), _, _, _, rfl, (((RC.mk hn50.sgn hn50.num (by rw [hmt.2.2]; exact hn54) ⟨Nat.le_trans hn50.len (by omega), by rw [hmt.2.2]; omega⟩ : RC _ _ (max n0 n1 + 1) (mkRat z k) _ _ _)).less (fun k c => zI (zI c))).up (by omega)⟩
   ·refine yO (zF (zC (zJ 1 rfl yu31 rfl rfl xV rfl rfl (zS rfl yX rfl B2 rfl (zB rfl rfl (zH rfl bod169 rfl rfl ?_))))))
    refine (gcd4_c hn24.num hd (by have := hn24.len; omega) (by omega) hM).mono ?_
    rintro v59 w15 ⟨hB59, hn59⟩
    obtain ⟨LL, hM, hd, hn24, B2, B4⟩ := ub6 hB59 LL hM hd hn24 B2 B4
    rw [yD, hdk] at hn59
    refine zE rfl rfl (zA (zF (zC (zJ 1 rfl yu31 rfl rfl xV rfl rfl (zS rfl yX rfl B2 rfl (zB rfl rfl (zH rfl bod170 rfl rfl ?_)))))))
    refine (div3_c hn24.num hn59 (by have := hn24.len; omega) (by omega) (by rw [yD]; exact hg0) hM).mono ?_
    rintro v64 w16 ⟨hB64, q64, s64, rfl, hn64, hm64⟩
    obtain ⟨LL, hM, hd, hn24, hn59, B2, B4⟩ := ub7 hB64 LL hM hd hn24 hn59 B2 B4
    simp only [yD] at hn64
    refine zB rfl rfl (yA rfl rfl rfl (yA rfl rfl rfl (yA rfl rfl rfl (zE rfl rfl (zE rfl rfl (zE rfl rfl (zA (zF (zC (zB rfl rfl (zB rfl rfl (zH rfl bod170 rfl rfl ?_))))))))))))
    refine (div3_c hd hn59 (by omega) (by omega) (by rw [yD]; exact hg0) hM).mono ?_
    rintro v71 w17 ⟨hB71, q71, s71, rfl, hn71, hm71⟩
    obtain ⟨LL, hM, hn24, hn64, B2, B4⟩ := ub6 hB71 LL hM hn24 hn64 B2 B4
    simp only [yD, hdk] at hn71
    refine zB rfl rfl (yA rfl rfl rfl (yA rfl rfl rfl (yA rfl rfl rfl (zE rfl rfl (zE rfl rfl (zE rfl rfl (zA (zF (zC (zJ 0 rfl yu31 rfl rfl sz4 rfl rfl (zS rfl qY rfl B2 rfl (zB rfl rfl (xP rfl aQ rfl rfl (zZ (gN rfl) (zZ (gN (by first | rfl | exact yF (by assumption) | exact yH (by assumption) | assumption)) xF)) rfl (zH rfl aP rfl rfl ?_))))))))))))))
    refine (qU ((ZQ.mk ⟨_, hn64, Nat.le_trans hsm.1 hn24.len, by rw [hn24.sgn]; exact num_eq hk0⟩ : ZQ _ _ n0 (mkRat z k).num _ _)) (by omega) hM).mono ?_
    rintro v79 w18 ⟨hB79, xs79, xa79, rfl, hn79⟩
    obtain ⟨LL, hn71, B4⟩ := ub3 hB79 LL hn71 B4
    obtain ⟨oxa79, _⟩ := hn79.one
    refine zB rfl rfl (xP rfl eR rfl rfl (zZ (rfl) (zZ (gN (by first | rfl | exact yF (by assumption) | exact yH (by assumption) | assumption)) xF)) rfl (zW rfl rfl yN B4 rfl rfl (zU rfl (zU (by first | rfl | exact yF (by assumption) | exact yH (by assumption) | assumption) (zU (by first | rfl | exact yF (by assumption) | exact yH (by assumption) | assumption) jC))) rfl (fun w19 Cw19 B4 => ?_)))
    have Lw19 := Le.of_chg (M := (Ins b4 (Ins b2 M))) Cw19 zR nF4
    obtain ⟨LL, hn71, hn79⟩ := up3 Lw19 LL hn71 hn79
    refine zE rfl rfl (zA (zY ?_))
    refine zN ⟨[_, _], ⟨⟨_, rfl, yU yW yN B4 rfl rfl⟩, rfl, trivial⟩, ?_⟩
    dsimp only [zV]
    rw [hif]
    subst hFz
    exact ⟨LL.below (Nat.le_refl _), _, _, _, rfl, (((RC.mk hn79.sgn hn79.num (by rw [hmt.2.2]; exact hn71) ⟨Nat.le_trans hn79.len (by omega), by rw [hmt.2.2]; omega⟩ : RC _ _ (max n0 n1 + 1) (mkRat z k) _ _ _)).less (fun k c => zI (zI c))).up (by omega)⟩
  ·refine zT rfl rfl rfl rfl (xB rfl rfl rfl (zA (kV rfl (yO (zF (zC (zJ 1 rfl yu31 rfl rfl xV rfl rfl (zS rfl yX rfl B2 rfl (zB rfl rfl (zH rfl bod169 rfl rfl ?_))))))))))
   refine (gcd4_c hn24.num hd (by have := hn24.len; omega) (by omega) hM).mono ?_
   rintro v59 w20 ⟨hB59, hn59⟩
   obtain ⟨LL, hM, hd, hn24, B2, B4⟩ := ub6 hB59 LL hM hd hn24 B2 B4
   rw [yD, hdk] at hn59
   refine zE rfl rfl (zA (zF (zC (zJ 1 rfl yu31 rfl rfl xV rfl rfl (zS rfl yX rfl B2 rfl (zB rfl rfl (zH rfl bod170 rfl rfl ?_)))))))
   refine (div3_c hn24.num hn59 (by have := hn24.len; omega) (by omega) (by rw [yD]; exact hg0) hM).mono ?_
   rintro v64 w21 ⟨hB64, q64, s64, rfl, hn64, hm64⟩
   obtain ⟨LL, hM, hd, hn24, hn59, B2, B4⟩ := ub7 hB64 LL hM hd hn24 hn59 B2 B4
   simp only [yD] at hn64
   refine zB rfl rfl (yA rfl rfl rfl (yA rfl rfl rfl (yA rfl rfl rfl (zE rfl rfl (zE rfl rfl (zE rfl rfl (zA (zF (zC (zB rfl rfl (zB rfl rfl (zH rfl bod170 rfl rfl ?_))))))))))))
   refine (div3_c hd hn59 (by omega) (by omega) (by rw [yD]; exact hg0) hM).mono ?_
   rintro v71 w22 ⟨hB71, q71, s71, rfl, hn71, hm71⟩
   obtain ⟨LL, hM, hn24, hn64, B2, B4⟩ := ub6 hB71 LL hM hn24 hn64 B2 B4
   simp only [yD, hdk] at hn71
   refine zB rfl rfl (yA rfl rfl rfl (yA rfl rfl rfl (yA rfl rfl rfl (zE rfl rfl (zE rfl rfl (zE rfl rfl (zA (zF (zC (zJ 0 rfl yu31 rfl rfl sz4 rfl rfl (zS rfl qY rfl B2 rfl (zB rfl rfl (xP rfl aQ rfl rfl (zZ (gN rfl) (zZ (gN (by first | rfl | exact yF (by assumption) | exact yH (by assumption) | assumption)) xF)) rfl (zH rfl aP rfl rfl ?_))))))))))))))
   refine (qU ((ZQ.mk ⟨_, hn64, Nat.le_trans hsm.1 hn24.len, by rw [hn24.sgn]; exact num_eq hk0⟩ : ZQ _ _ n0 (mkRat z k).num _ _)) (by omega) hM).mono ?_
   rintro v79 w23 ⟨hB79, xs79, xa79, rfl, hn79⟩
   obtain ⟨LL, hn71, B4⟩ := ub3 hB79 LL hn71 B4
   obtain ⟨oxa79, _⟩ := hn79.one
   refine zB rfl rfl (xP rfl eR rfl rfl (zZ (rfl) (zZ (gN (by first | rfl | exact yF (by assumption) | exact yH (by assumption) | assumption)) xF)) rfl (zW rfl rfl yN B4 rfl rfl (zU rfl (zU (by first | rfl | exact yF (by assumption) | exact yH (by assumption) | assumption) (zU (by first | rfl | exact yF (by assumption) | exact yH (by assumption) | assumption) jC))) rfl (fun w24 Cw24 B4 => ?_)))
   have Lw24 := Le.of_chg (M := (Ins b4 (Ins b2 M))) Cw24 zR nF4
   obtain ⟨LL, hn71, hn79⟩ := up3 Lw24 LL hn71 hn79
   refine zE rfl rfl (zA (zY ?_))
   refine zN ⟨[_, _], ⟨⟨_, rfl, yU yW yN B4 rfl rfl⟩, rfl, trivial⟩, ?_⟩
   dsimp only [zV]
   rw [hif]
   subst hFz
   exact ⟨LL.below (Nat.le_refl _), _, _, _, rfl, (((RC.mk hn79.sgn hn79.num (by rw [hmt.2.2]; exact hn71) ⟨Nat.le_trans hn79.len (by omega), by rw [hmt.2.2]; omega⟩ : RC _ _ (max n0 n1 + 1) (mkRat z k) _ _ _)).less (fun k c => zI (zI c))).up (by omega)⟩
theorem ZQ.of_nat {n k : Nat} {a : Value} (h : NQ M w n k a) : ZQ M w n ((k : Nat) : Int) false a := by
  obtain ⟨xs, h1, h2, h3⟩ := h.ex
  exact ⟨xs, h1, h2, by rw [← h3]; rfl⟩
theorem nmul_q {n m k l : Nat} {a b : Value} (h1 : NQ M w n k a) (h2 : NQ M w m l b) (hn : n ≤ 1000000) (hm : m ≤ 1000000) (hM : OkM M w) :
    CallsV prog 108 [a, b] w fun r w' => Below w.heap.size w w' ∧ ∃ x, r = x ∧ NC M w' (n + m) (k * l) x := by
  obtain ⟨xs, i1, i2, rfl⟩ := h1.ex; obtain ⟨ys, j1, j2, rfl⟩ := h2.ex
  exact (rmul_c i1 j1 (by omega) (by omega) hM).mono fun r w' ⟨hB, hf⟩ => ⟨hB, r, rfl, hf.nat hM, xT (by
    have a1 := jE i1.lt i2
    have a2 := jE j1.lt j2; exact gT a1 a2)⟩
theorem over7_c {k : Nat} {n0 : Nat} {xa0 : Value} (h0 : NQ M w n0 k xa0) (hl0 : n0 ≤ 1000000) (hM : OkM M w) :
    CallsV prog 90 [xa0] w fun r w' => Below w.heap.size w w' ∧ ∃ xsr xar, r = .agg #[.bool xsr, xar] ∧ ZQ M w' (n0) (((k : Nat) : Int)) xsr xar := by
 obtain ⟨Fz, hFz, hF, LL⟩ := fz0 M w
 obtain ⟨oxa0, _⟩ := h0.one
 have hM0 := hM
 refine zP func90 rfl ntmps90 rfl ?_
 refine zF (zC (yJ rfl xC (fun w1 b2 N2 => ?_)))
 obtain ⟨_, nF2, nM2, Lw1, B2⟩ := nza hF hM N2
 obtain ⟨LL, h0⟩ := up2 Lw1 LL h0
 refine zA (zF (zC (zB rfl rfl (kE rfl aQ xC rfl (zZ (gN (by first | rfl | assumption)) xF) rfl rfl (zW rfl rfl xC B2 rfl rfl (zU rfl (zU (by first | rfl | assumption) jC)) rfl (fun w2 Cw2 B2 => ?_))))))
 have Lw2 := Le.of_chg (M := (Ins b2 M)) Cw2 zR nF2
 obtain ⟨LL, h0⟩ := up2 Lw2 LL h0
 refine zA (zY ?_)
 refine zN ⟨[_], ⟨⟨_, rfl, yU xX xC B2 rfl rfl⟩, trivial⟩, ?_⟩
 dsimp only [zV]
 subst hFz
 exact ⟨LL.below (Nat.le_refl _), _, _, rfl, (((ZQ.of_nat h0)).less (fun k c => zI c)).up (by omega)⟩
theorem cN {p : Rat} {n0 : Nat} {xs0 : Bool} {xa0 xd0 : Value} (h0 : QC M w n0 p xs0 xa0 xd0) (hl0 : n0 ≤ 1999) (hM : OkM M w) :
    CallsV prog 82 [.agg #[.bool xs0, xa0, xd0]] w fun r w' => Below w.heap.size w w' ∧ ∃ xsr xar xdr, r = .agg #[.bool xsr, xar, xdr] ∧ RC M w' (n0 + 2) (p) xsr xar xdr := by
 obtain ⟨Fz, hFz, hF, LL⟩ := fz0 M w
 obtain ⟨oxa0, oxd0, _⟩ := h0.one
 obtain ⟨xs, ds, i1, i2, i3, i4, hq⟩ := h0.ex
 have hM0 := hM
 refine zP func82 rfl ntmps82 rfl ?_
 refine zF (zC (yL rfl rfl (fun w1 b1 N1 => ?_)))
 obtain ⟨_, nF1, nM1, Lw1, B1⟩ := nza hF hM N1
 obtain ⟨LL, hM, hF, i1, i2⟩ := up5 Lw1 LL hM hF i1 i2
 refine yJ rfl yN (fun w2 b2 N2 => ?_)
 obtain ⟨hBw2, nF2, nM2, Lw2, B2⟩ := nza hF hM N2
 obtain ⟨B1, ne1_2⟩ := bn B1 N2
 obtain ⟨LL, hM, hF, i1, i2⟩ := up5 Lw2 LL hM hF i1 i2
 refine zA (zF (zC (zJ 0 rfl yu33 rfl rfl xC rfl rfl (zL rfl xX xC rfl B1 rfl rfl (zJ 2 rfl yu33 rfl rfl xV rfl rfl (zS rfl yX rfl B1 rfl (zH rfl bod107 rfl rfl ?_)))))))
 refine (r7new_c ((ZQ.mk ⟨xs, i1, i3, rfl⟩ : ZQ _ _ n0 (zv xs0 xs) _ _)) ((NQ.mk ⟨ds, i2, i4, rfl⟩ : NQ _ _ n0 (val ds) _)) (by omega) (by omega) hM).mono ?_
 rintro v10 w3 ⟨hB10, xs10, xa10, xd10, rfl, hn10⟩
 obtain ⟨LL, hM, hF, B1, B2⟩ := ub5 hB10 LL hM hF B1 B2
 obtain ⟨oxa10, oxd10, _⟩ := hn10.one
 refine zB rfl rfl (yA rfl rfl rfl (yA rfl rfl rfl (yJ rfl yN (fun w4 b3 N3 => ?_))))
 obtain ⟨hBw4, nF3, nM3, Lw4, B3⟩ := nza hF hM N3
 have lt1_3 := B1.lt
 have ne1_3 := N3.ne lt1_3
 obtain ⟨B2, ne2_3⟩ := bn B2 N3
 obtain ⟨LL, hn10⟩ := up2 Lw4 LL hn10
 refine zW rfl rfl yN B3 rfl rfl (zU rfl (zU (by first | rfl | assumption) (zU (by first | rfl | assumption) jC))) rfl (fun w5 Cw5 B3 => ?_)
 have Lw5 := Le.of_chg (M := (Ins b3 (Ins b2 (Ins b1 M)))) Cw5 zR nF3
 obtain ⟨LL, hn10⟩ := up2 Lw5 LL hn10
 replace B2 := B2.other Cw5 ne2_3
 refine zE rfl rfl (zA (zF (zC (zL rfl yW yN rfl B3 rfl rfl (zW rfl rfl yN B2 rfl rfl (zU rfl (zU (by first | rfl | assumption) (zU (by first | rfl | assumption) jC))) rfl (fun w6 Cw6 B2 => ?_))))))
 have Lw6 := Le.of_chg (M := (Ins b3 (Ins b2 (Ins b1 M)))) Cw6 (.inr zR) nF2
 obtain ⟨LL, hn10⟩ := up2 Lw6 LL hn10
 refine zA (zY ?_)
 refine zN ⟨[_], ⟨⟨_, rfl, yU yW yN B2 rfl rfl⟩, trivial⟩, ?_⟩
 dsimp only [zV]
 rw [hq] at hn10
 subst hFz
 exact ⟨LL.below (Nat.le_refl _), _, _, _, rfl, (hn10.less (fun k c => zI (zI (zI c)))).up (by omega)⟩
theorem r7sign_c {p : Rat} {n0 : Nat} {xs0 : Bool} {xa0 xd0 : Value} (h0 : QC M w n0 p xs0 xa0 xd0) (hl0 : n0 ≤ 500000) (hM : OkM M w) :
    CallsV prog 32 [.agg #[.bool xs0, xa0, xd0]] w fun r w' => Below w.heap.size w w' ∧ r = .int .i64 (eY p) := by
 obtain ⟨Fz, hFz, hF, LL⟩ := fz0 M w
 obtain ⟨xs, ds, i1, i2, i3, i4, hq⟩ := h0.ex
 have hM0 := hM
 refine zP func32 rfl ntmps32 rfl ?_
 refine zF (zC (yL rfl rfl (fun w1 b1 N1 => ?_)))
 obtain ⟨_, nF1, nM1, Lw1, B1⟩ := nza hF hM N1
 obtain ⟨LL, hM, i1, i2⟩ := up4 Lw1 LL hM i1 i2
 refine zE rfl rfl (zA (zF (zF (zC (zJ 2 rfl yu33 rfl rfl xV rfl rfl (zS rfl yX rfl B1 rfl (zH rfl kT rfl rfl ?_)))))))
 refine (qD i2 (by omega) hM).mono ?_
 rintro v5 w2 ⟨hB5, hf5⟩
 have hM5 := hM
 have hS5 := LL.size
 obtain ⟨LL, hM, i1, B1⟩ := ub4 hB5 LL hM i1 B1
 have hn5 := hf5.nat hM5
 first | refine yS rfl yu29 rfl hn5.slc ?_ | refine yY rfl yu29 rfl ?_
 refine gI rfl rfl rfl (zA ?_)
 refine yC rfl (fun hc0 => ?_) (fun hc0 => ?_)
 ·have hd0 : val ds = 0 := xO.1 (by omega)
  refine zF (zC (zE rfl rfl (zA (zY ?_))))
  refine zN ⟨[_], ⟨rfl, trivial⟩, ?_⟩
  dsimp only [zV]
  have hs0 : eY p = 0 := by rw [← hq, hd0, Rat.mkRat_zero]; rfl
  rw [hs0]
  subst hFz
  exact ⟨LL.below (Nat.le_refl _), rfl⟩
 ·have hd0 : val ds ≠ 0 := fun c => hc0 (by rw [c, xN]; rfl)
  refine yO (zF (zC (zJ 0 rfl yu33 rfl rfl xC rfl rfl (zL rfl xX xC rfl B1 rfl rfl (zH rfl bod87 rfl rfl ?_)))))
  refine (i5sign_c ((ZQ.mk ⟨xs, i1, i3, rfl⟩ : ZQ _ _ n0 (zv xs0 xs) _ _)) (by omega) hM).mono ?_
  rintro v10 w3 ⟨hB10, rfl⟩
  replace LL := ub1 hB10 LL
  refine zE rfl rfl (zA (zY ?_))
  refine zN ⟨[_], ⟨rfl, trivial⟩, ?_⟩
  dsimp only [zV]
  rw [← hq, ← sgn_mk hd0]
  subst hFz
  exact ⟨LL.below (Nat.le_refl _), rfl⟩
end Go.Proofs.YtfkejnlohkgbgaaGreatDoor
set_option maxRecDepth 100000
namespace Go.Proofs.YtfkejnlohkgbgaaGreatDoor
open Go.SL Go.RowKit Go.Proofs Tryz
variable {M : Nat → Prop} {w : World}
theorem RC.ofneg {n m : Nat} {q : Rat} {s : Bool} {a d : Value} (h : ZC M w n (-(q.num)) s a) (k : NC M w m q.den d) : RC M w (max n m) (-q) s a d := by
  have e1 : (-q).num = -(q.num) := Rat.neg_num q
  have e2 : (-q).den = q.den := Rat.neg_den q
  exact ⟨by rw [e1]; exact h.sgn, by rw [e1]; exact h.num, by rw [e2]; exact k.num, by unfold kD; rw [e1, e2]; exact ⟨Nat.le_trans h.len (by omega), Nat.le_trans k.len (by omega)⟩⟩
theorem fI (x y : Int) : gV [x, y] = x * y := by simp [gV]
theorem add_eq (p q : Rat) : mkRat ([gV [p.num, ((q.den : Nat) : Int)], gV [q.num, ((p.den : Nat) : Int)]].sum) (p.den * q.den) = p + q := by
  conv => rhs; rw [← Rat.mkRat_self p, ← Rat.mkRat_self q]
  rw [Rat.mkRat_add_mkRat _ _ p.den_nz q.den_nz, fI, fI]; simp
theorem mul_eq (p q : Rat) : mkRat (gV [p.num, q.num]) (p.den * q.den) = p * q := by
  conv => rhs; rw [← Rat.mkRat_self p, ← Rat.mkRat_self q]
  rw [Rat.mkRat_mul_mkRat, fI]
def fG (l : List Rat) : Rat := l.foldl (· + ·) 0
def uR (l : List Rat) : Rat := l.foldl (· * ·) 1
theorem sumR_take {l : List Rat} {s : Nat} (h : s < l.length) : fG (l.take (s + 1)) = fG (l.take s) + l.getD s 0 := by
  rw [(qI (0 : Rat) h).1, fG, List.foldl_append]; rfl
theorem prodR_take {l : List Rat} {s : Nat} (h : s < l.length) : uR (l.take (s + 1)) = uR (l.take s) * l.getD s 0 := by
  rw [(qI (0 : Rat) h).1, uR, List.foldl_append]; rfl
theorem cmp_eq (p q : Rat) : (gV [p.num, ((q.den : Nat) : Int)] - gV [q.num, ((p.den : Nat) : Int)]).sign = aV p q := by rw [fI, fI]; exact cmpR_eq p q
theorem told_q {p q : Rat} (h : p.num = q.num) : decide (limbs p.den = limbs q.den) = decide (p = q) := by
  rw [decide_eq_decide]
  constructor
  · intro c
    have c2 := congrArg val c
    rw [yD, yD] at c2
    exact Rat.ext h c2
  · intro c; rw [c]
theorem rl2 {bb : Nat} {ty : TypeId} {n m : Nat} {p q : Rat} {s t : Bool} {a d b e : Value} (hk : KBlk M w bb ty [.bool s, a, d, .bool t, b, e]) (h1 : QC M w n p s a d) (h2 : QC M w m q t b e) : QL M w (max n m) [p, q] (.slice (some ⟨bb, 0, none⟩) 2 2) :=
  ⟨row_blk (l := [p, q]) hk (by simp) (by simp) ((Elems.nil.snoc (us := [.bool s, a, d]) rfl ⟨_, _, _, rfl, h1.up (by omega)⟩).snoc (us := [.bool t, b, e]) rfl ⟨_, _, _, rfl, h2.up (by omega)⟩)⟩
theorem r7neg_c {p : Rat} {n0 : Nat} {xs0 : Bool} {xa0 xd0 : Value} (h0 : QC M w n0 p xs0 xa0 xd0) (hl0 : n0 ≤ 1990) (hM : OkM M w) :
    CallsV prog 80 [.agg #[.bool xs0, xa0, xd0]] w fun r w' => Below w.heap.size w w' ∧ ∃ xsr xar xdr, r = .agg #[.bool xsr, xar, xdr] ∧ RC M w' (n0 + 2) (-p) xsr xar xdr := by
 obtain ⟨Fz, hFz, hF, LL⟩ := fz0 M w
 obtain ⟨oxa0, oxd0, _⟩ := h0.one
 have hM0 := hM
 refine zP func80 rfl ntmps80 rfl ?_
 refine zF (zC (yL rfl rfl (fun w1 b1 N1 => ?_)))
 obtain ⟨_, nF1, nM1, Lw1, B1⟩ := nza hF hM N1
 obtain ⟨LL, hM, hF, h0⟩ := up4 Lw1 LL hM hF h0
 refine yJ rfl yN (fun w2 b2 N2 => ?_)
 obtain ⟨hBw2, nF2, nM2, Lw2, B2⟩ := nza hF hM N2
 obtain ⟨B1, ne1_2⟩ := bn B1 N2
 obtain ⟨LL, hM, h0⟩ := up3 Lw2 LL hM h0
 refine zA (zF (zC (zL rfl yW yN rfl B1 rfl rfl (zH rfl fO rfl rfl ?_))))
 refine (cN h0 (by omega) hM).mono ?_
 rintro v4 w3 ⟨hB4, xs4, xa4, xd4, rfl, hn4⟩
 obtain ⟨LL, hM, h0, B1, B2⟩ := ub5 hB4 LL hM h0 B1 B2
 obtain ⟨oxa4, oxd4, _⟩ := hn4.one
 refine zW rfl rfl yN B1 rfl rfl (zU rfl (zU (by first | rfl | assumption) (zU (by first | rfl | assumption) jC))) rfl (fun w4 Cw4 B1 => ?_)
 have Lw4 := Le.of_chg (M := (Ins b2 (Ins b1 M))) Cw4 (.inr zR) nF1
 obtain ⟨LL, hM, h0, hn4⟩ := up4 Lw4 LL hM h0 hn4
 replace B2 := B2.other Cw4 ne1_2.symm
 refine zA (zF ?_)
 refine xL (R := Rb) (R' := Rb) (st := none) jJ 5 [2, 7, 9] (by decide +kernel) xJ xU (xS _) (fun _ _ _ h => by cases h) ?_
 refine zM (fun _ _ _ => zO rfl rfl (zD (zJ 0 rfl yu33 rfl rfl xC rfl rfl (on0 rfl)))) ?_
 refine zM (fun _ hR _ => zK rfl (zD (zL rfl xX xC rfl (B1.below hR) rfl rfl (on0 rfl)))) ?_
 refine zX (vZC (Ins b2 (Ins b1 M)) ((n0 + 2)) (-p.num)) fF (fun wq hR hst => ?_) ?_
 ·refine zK rfl (zD ?_)
  obtain ⟨hM, hn4⟩ := ub2 hR hM hn4
  refine zH rfl bod149 rfl rfl ?_
  refine (i5neg_c hn4.z.gen (by omega) hM).mono ?_
  rintro v7 w5 ⟨hB7, xs7, xa7, rfl, hn7⟩
  exact zA ⟨rfl, hB7, _, rfl, ⟨_, _, rfl, hn7⟩⟩
 refine zM (fun _ _ _ => zO rfl rfl (zD (zJ 2 rfl yu33 rfl rfl xV rfl rfl (on0 rfl)))) ?_
 refine zM (fun _ hR _ => zK rfl (zD (zS rfl yX rfl (B1.below hR) rfl (on0 rfl)))) ?_
 refine xM (fun wq2 hR2 hpost2 => ?_)
 refine zO rfl rfl (yE rfl (fun v7 hp7 => ?_))
 obtain ⟨xs7, xa7, rfl, hn7⟩ := hp7; obtain ⟨oxa7, _⟩ := hn7.one
 refine zK rfl (zD ?_)
 simp only [List.drop_succ_cons, List.drop_zero, List.drop_nil, List.toList_toArray]
 obtain ⟨LL, hn4, B2⟩ := ub3 hR2 LL hn4 B2
 refine xP rfl eR rfl rfl (zZ (rfl) (zZ (gN (by first | rfl | assumption)) xF)) rfl (zW rfl rfl yN B2 rfl rfl (zU rfl (zU (by first | rfl | assumption) (zU (by first | rfl | assumption) jC))) rfl (fun w6 Cw6 B2 => ?_))
 have Lw6 := Le.of_chg (M := (Ins b2 (Ins b1 M))) Cw6 zR nF2
 obtain ⟨LL, hn4, hn7⟩ := up3 Lw6 LL hn4 hn7
 refine zA (zY ?_)
 refine zN ⟨[_], ⟨⟨_, rfl, yU yW yN B2 rfl rfl⟩, trivial⟩, ?_⟩
 dsimp only [zV]
 subst hFz
 exact ⟨LL.below (Nat.le_refl _), _, _, _, rfl, (((RC.ofneg hn7 hn4.d)).less (fun k c => zI (zI c))).up (by omega)⟩
theorem r7two_c {p : Rat} {n0 : Nat} {xs0 : Bool} {xa0 xd0 : Value} {q : Rat} {n1 : Nat} {xs1 : Bool} {xa1 xd1 : Value} (h0 : RC M w n0 p xs0 xa0 xd0) (h1 : RC M w n1 q xs1 xa1 xd1) (hl0 : n0 ≤ 990) (hl1 : n1 ≤ 990) (hM : OkM M w) :
    CallsV prog 81 [.agg #[.bool xs0, xa0, xd0], .agg #[.bool xs1, xa1, xd1]] w fun r w' => Below w.heap.size w w' ∧ ∃ xsr xar xdr, r = .agg #[.bool xsr, xar, xdr] ∧ RC M w' (n0 + n1 + 1) (p + q) xsr xar xdr := by
 obtain ⟨Fz, hFz, hF, LL⟩ := fz0 M w
 obtain ⟨oxa0, oxd0, _⟩ := h0.one
 obtain ⟨oxa1, oxd1, _⟩ := h1.one
 have hM0 := hM
 refine zP func81 rfl ntmps81 rfl ?_
 refine zF (zC (yL rfl rfl (fun w1 b2 N2 => ?_)))
 obtain ⟨_, nF2, nM2, Lw1, B2⟩ := nza hF hM N2
 obtain ⟨LL, hM, hF, h0, h1⟩ := up5 Lw1 LL hM hF h0 h1
 refine yL rfl rfl (fun w2 b3 N3 => ?_)
 obtain ⟨hBw2, nF3, nM3, Lw2, B3⟩ := nza hF hM N3
 obtain ⟨B2, ne2_3⟩ := bn B2 N3
 obtain ⟨LL, hM, hF, h0, h1⟩ := up5 Lw2 LL hM hF h0 h1
 refine yJ rfl yN (fun w3 b4 N4 => ?_)
 obtain ⟨hBw3, nF4, nM4, Lw3, B4⟩ := nza hF hM N4
 obtain ⟨B2, ne2_4⟩ := bn B2 N4
 obtain ⟨B3, ne3_4⟩ := bn B3 N4
 obtain ⟨LL, hM, hF, h0, h1⟩ := up5 Lw3 LL hM hF h0 h1
 refine zA (zF ?_)
 refine SL.wp_drawS (R := Rg 25) (R' := Rh [(25, (.agg #[(.bool false), (.slice none 0 0), (.slice none 0 0)]), 33)] 25 26) (Pr := PrA) (st := some (26, fT 25 (.agg #[(.bool false), (.slice none 0 0), (.slice none 0 0)]) 33, fD 25 (fun b w => ∃ xs5 xa5 xd5, Blk w.1 b 33 [.bool xs5, xa5, xd5] ∧ RC (Mg (Ins b4 (Ins b3 (Ins b2 M))) w.2) w.1 (max ((max ((2 * (max n0 n1) + 2)) (2 * (max n1 n0) + 2)) + 2) (n0 + n1) + 2) (mkRat (([gV ([p.num, ((q.den : Nat) : Int)]), gV ([q.num, ((p.den : Nat) : Int)])]).sum) (p.den * q.den)) xs5 xa5 xd5))) g0 jJ 27 [4, 5, 31] (by decide +kernel) rg_trans fH (rg_drew _) (fun _ _ _ h => by cases h; exact ⟨by decide, preB0, preB_mono rfl, postB_mono (fun b x y hb ⟨xs5, xa5, xd5, B, h0⟩ hl r => ⟨xs5, xa5, xd5, B.below hl, h0.mono r.le⟩), _, rfl⟩) prA0 prA_mono ?_
 apply jK rfl
 ·intro xq hR hst hPr
  obtain ⟨wq, gq⟩ := xq
  refine gM rfl rfl ?_
  refine yT ?_; dsimp only
  have Lq : Le Fz (Ins b4 (Ins b3 (Ins b2 M))) w3 (Mg (Ins b4 (Ins b3 (Ins b2 M))) gq) wq := hR.le0
  exact zJ 0 rfl yu33 rfl rfl xC rfl rfl (zA ⟨rfl, gq, jO rfl rfl (Below.refl _ _), _, rfl, rfl⟩)
 apply jK rfl
 ·intro xq hR hst hPr
  obtain ⟨wq, gq⟩ := xq
  refine gJ rfl ?_
  refine yT ?_; dsimp only
  have Lq : Le Fz (Ins b4 (Ins b3 (Ins b2 M))) w3 (Mg (Ins b4 (Ins b3 (Ins b2 M))) gq) wq := hR.le0
  replace B2 := B2.rg hR
  exact zL rfl xX xC rfl B2 rfl rfl (zA ⟨rfl, gq, jO rfl rfl (Below.refl _ _), _, rfl, rfl⟩)
 apply jK rfl
 ·intro xq hR hst hPr
  obtain ⟨wq, gq⟩ := xq
  refine gM rfl rfl ?_
  refine yT ?_; dsimp only
  have Lq : Le Fz (Ins b4 (Ins b3 (Ins b2 M))) w3 (Mg (Ins b4 (Ins b3 (Ins b2 M))) gq) wq := hR.le0
  exact zJ 2 rfl yu33 rfl rfl xV rfl rfl (zA ⟨rfl, gq, jO rfl rfl (Below.refl _ _), _, rfl, rfl⟩)
 apply jK rfl
 ·intro xq hR hst hPr
  obtain ⟨wq, gq⟩ := xq
  refine gJ rfl ?_
  refine yT ?_; dsimp only
  have Lq : Le Fz (Ins b4 (Ins b3 (Ins b2 M))) w3 (Mg (Ins b4 (Ins b3 (Ins b2 M))) gq) wq := hR.le0
  replace B3 := B3.rg hR
  exact zS rfl yX rfl B3 rfl (zA ⟨rfl, gq, jO rfl rfl (Below.refl _ _), _, rfl, rfl⟩)
 refine jB rfl (fun v w => ∃ xs12 xa12, v = .agg #[.bool xs12, xa12] ∧ ZQ (Mg (Ins b4 (Ins b3 (Ins b2 M))) w.2) w.1 (n1) (((q.den : Nat) : Int)) xs12 xa12) (fun _ _ _ ⟨xs12, xa12, e, h0⟩ r => ⟨xs12, xa12, e, h0.mono (r.le)⟩) (fun xq hR hst hPr => ?_) ?_
 ·obtain ⟨wq, gq⟩ := xq
  refine gJ rfl ?_
  refine yT ?_; dsimp only
  have Lq : Le Fz (Ins b4 (Ins b3 (Ins b2 M))) w3 (Mg (Ins b4 (Ins b3 (Ins b2 M))) gq) wq := hR.le0
  obtain ⟨hM, h1⟩ := up2 Lq hM h1
  refine zH rfl bod90 rfl rfl ?_
  refine (over7_c h1.d.gen (by omega) hM).mono ?_
  rintro v12 w4 ⟨hB12, xs12, xa12, rfl, hn12⟩
  exact zA ⟨rfl, gq, jO rfl rfl hB12, _, rfl, ⟨_, _, rfl, hn12⟩⟩
 refine jB rfl (fun v w => ∃ bb xs13 xa13 xs13b xa13b, v = .slice (some ⟨bb, 0, none⟩) 2 2 ∧ KBlk (Mg (Ins b4 (Ins b3 (Ins b2 M))) w.2) w.1 bb 31 [.bool xs13, xa13, .bool xs13b, xa13b] ∧ ZC (Mg (Ins b4 (Ins b3 (Ins b2 M))) w.2) w.1 (n0) (p.num) xs13 xa13 ∧ ZQ (Mg (Ins b4 (Ins b3 (Ins b2 M))) w.2) w.1 (n1) (((q.den : Nat) : Int)) xs13b xa13b) (fun _ _ _ ⟨bb, xs13, xa13, xs13b, xa13b, e, hk, h0, h1⟩ r => ⟨bb, xs13, xa13, xs13b, xa13b, e, hk.mono (r.le), h0.mono (r.le), h1.mono (r.le)⟩) (fun xq hR hst hPr => ?_) ?_
 ·obtain ⟨wq, gq⟩ := xq
  refine gJ rfl ?_
  refine jX rfl (fun v12 hp12 => ?_)
  obtain ⟨xs12, xa12, rfl, hn12⟩ := hp12
  refine yT ?_; dsimp only
  have Lq : Le Fz (Ins b4 (Ins b3 (Ins b2 M))) w3 (Mg (Ins b4 (Ins b3 (Ins b2 M))) gq) wq := hR.le0
  obtain ⟨hM, h0⟩ := up2 Lq hM h0
  refine xI rfl yu174 xC rfl rfl rfl rfl (zZ rfl (zZ rfl xF)) rfl rfl rfl (fun w5 b13 N13 => ?_)
  have hBw5 := N13.below
  have nM13 := hM.new N13
  have B13 := N13.blk
  obtain ⟨h0, hn12⟩ := ub2 hBw5 h0 hn12
  have hB13 := hBw5
  exact zA ⟨rfl, gq, jO rfl rfl hB13, _, rfl, ⟨b13, _, _, _, _, rfl, KBlk.mk B13 nM13, h0.z, hn12⟩⟩
 refine jB rfl (fun v w => ∃ xs14 xa14, v = .agg #[.bool xs14, xa14] ∧ ZC (Mg (Ins b4 (Ins b3 (Ins b2 M))) w.2) w.1 (2 * (max n0 n1) + 2) (gV ([p.num, ((q.den : Nat) : Int)])) xs14 xa14) (fun _ _ _ ⟨xs14, xa14, e, h0⟩ r => ⟨xs14, xa14, e, h0.mono (r.le)⟩) (fun xq hR hst hPr => ?_) ?_
 ·obtain ⟨wq, gq⟩ := xq
  refine jX rfl (fun v13 hp13 => ?_)
  obtain ⟨bb13, xs13, xa13, xs13b, xa13b, rfl, hk13, hn13, hnb13⟩ := hp13; obtain ⟨oxa13, _⟩ := hn13.one
  refine yT ?_; dsimp only
  have Lq : Le Fz (Ins b4 (Ins b3 (Ins b2 M))) w3 (Mg (Ins b4 (Ins b3 (Ins b2 M))) gq) wq := hR.le0
  replace hM := hM.mono Lq
  refine zH rfl fN rfl rfl ?_
  refine (dK (zl2 hk13 hn13.gen hnb13) (by omega) (by first | omega | simp) hM).mono ?_
  rintro v14 w6 ⟨hB14, xs14, xa14, rfl, hn14⟩
  exact zA ⟨rfl, gq, jO rfl rfl hB14, _, rfl, ⟨_, _, rfl, hn14⟩⟩
 apply jK rfl
 ·intro xq hR hst hPr
  obtain ⟨wq, gq⟩ := xq
  refine gM rfl rfl ?_
  refine yT ?_; dsimp only
  have Lq : Le Fz (Ins b4 (Ins b3 (Ins b2 M))) w3 (Mg (Ins b4 (Ins b3 (Ins b2 M))) gq) wq := hR.le0
  exact zJ 0 rfl yu33 rfl rfl xC rfl rfl (zA ⟨rfl, gq, jO rfl rfl (Below.refl _ _), _, rfl, rfl⟩)
 apply jK rfl
 ·intro xq hR hst hPr
  obtain ⟨wq, gq⟩ := xq
  refine gJ rfl ?_
  refine yT ?_; dsimp only
  have Lq : Le Fz (Ins b4 (Ins b3 (Ins b2 M))) w3 (Mg (Ins b4 (Ins b3 (Ins b2 M))) gq) wq := hR.le0
  replace B3 := B3.rg hR
  exact zL rfl xX xC rfl B3 rfl rfl (zA ⟨rfl, gq, jO rfl rfl (Below.refl _ _), _, rfl, rfl⟩)
 apply jK rfl
 ·intro xq hR hst hPr
  obtain ⟨wq, gq⟩ := xq
  refine gM rfl rfl ?_
  refine yT ?_; dsimp only
  have Lq : Le Fz (Ins b4 (Ins b3 (Ins b2 M))) w3 (Mg (Ins b4 (Ins b3 (Ins b2 M))) gq) wq := hR.le0
  exact zJ 2 rfl yu33 rfl rfl xV rfl rfl (zA ⟨rfl, gq, jO rfl rfl (Below.refl _ _), _, rfl, rfl⟩)
 apply jK rfl
 ·intro xq hR hst hPr
  obtain ⟨wq, gq⟩ := xq
  refine gJ rfl ?_
  refine yT ?_; dsimp only
  have Lq : Le Fz (Ins b4 (Ins b3 (Ins b2 M))) w3 (Mg (Ins b4 (Ins b3 (Ins b2 M))) gq) wq := hR.le0
  replace B2 := B2.rg hR
  exact zS rfl yX rfl B2 rfl (zA ⟨rfl, gq, jO rfl rfl (Below.refl _ _), _, rfl, rfl⟩)
 refine jB rfl (fun v w => ∃ xs19 xa19, v = .agg #[.bool xs19, xa19] ∧ ZQ (Mg (Ins b4 (Ins b3 (Ins b2 M))) w.2) w.1 (n0) (((p.den : Nat) : Int)) xs19 xa19) (fun _ _ _ ⟨xs19, xa19, e, h0⟩ r => ⟨xs19, xa19, e, h0.mono (r.le)⟩) (fun xq hR hst hPr => ?_) ?_
 ·obtain ⟨wq, gq⟩ := xq
  refine gJ rfl ?_
  refine yT ?_; dsimp only
  have Lq : Le Fz (Ins b4 (Ins b3 (Ins b2 M))) w3 (Mg (Ins b4 (Ins b3 (Ins b2 M))) gq) wq := hR.le0
  obtain ⟨hM, h0⟩ := up2 Lq hM h0
  refine zH rfl bod90 rfl rfl ?_
  refine (over7_c h0.d.gen (by omega) hM).mono ?_
  rintro v19 w7 ⟨hB19, xs19, xa19, rfl, hn19⟩
  exact zA ⟨rfl, gq, jO rfl rfl hB19, _, rfl, ⟨_, _, rfl, hn19⟩⟩
 refine jB rfl (fun v w => ∃ bb xs20 xa20 xs20b xa20b, v = .slice (some ⟨bb, 0, none⟩) 2 2 ∧ KBlk (Mg (Ins b4 (Ins b3 (Ins b2 M))) w.2) w.1 bb 31 [.bool xs20, xa20, .bool xs20b, xa20b] ∧ ZC (Mg (Ins b4 (Ins b3 (Ins b2 M))) w.2) w.1 (n1) (q.num) xs20 xa20 ∧ ZQ (Mg (Ins b4 (Ins b3 (Ins b2 M))) w.2) w.1 (n0) (((p.den : Nat) : Int)) xs20b xa20b) (fun _ _ _ ⟨bb, xs20, xa20, xs20b, xa20b, e, hk, h0, h1⟩ r => ⟨bb, xs20, xa20, xs20b, xa20b, e, hk.mono (r.le), h0.mono (r.le), h1.mono (r.le)⟩) (fun xq hR hst hPr => ?_) ?_
 ·obtain ⟨wq, gq⟩ := xq
  refine gJ rfl ?_
  refine jX rfl (fun v19 hp19 => ?_)
  obtain ⟨xs19, xa19, rfl, hn19⟩ := hp19
  refine yT ?_; dsimp only
  have Lq : Le Fz (Ins b4 (Ins b3 (Ins b2 M))) w3 (Mg (Ins b4 (Ins b3 (Ins b2 M))) gq) wq := hR.le0
  obtain ⟨hM, h1⟩ := up2 Lq hM h1
  refine xI rfl yu174 xC rfl rfl rfl rfl (zZ rfl (zZ rfl xF)) rfl rfl rfl (fun w8 b20 N20 => ?_)
  have hBw8 := N20.below
  have nM20 := hM.new N20
  have B20 := N20.blk
  obtain ⟨h1, hn19⟩ := ub2 hBw8 h1 hn19
  have hB20 := hBw8
  exact zA ⟨rfl, gq, jO rfl rfl hB20, _, rfl, ⟨b20, _, _, _, _, rfl, KBlk.mk B20 nM20, h1.z, hn19⟩⟩
 refine jB rfl (fun v w => ∃ xs21 xa21, v = .agg #[.bool xs21, xa21] ∧ ZC (Mg (Ins b4 (Ins b3 (Ins b2 M))) w.2) w.1 (2 * (max n1 n0) + 2) (gV ([q.num, ((p.den : Nat) : Int)])) xs21 xa21) (fun _ _ _ ⟨xs21, xa21, e, h0⟩ r => ⟨xs21, xa21, e, h0.mono (r.le)⟩) (fun xq hR hst hPr => ?_) ?_
 ·obtain ⟨wq, gq⟩ := xq
  refine jX rfl (fun v20 hp20 => ?_)
  obtain ⟨bb20, xs20, xa20, xs20b, xa20b, rfl, hk20, hn20, hnb20⟩ := hp20; obtain ⟨oxa20, _⟩ := hn20.one
  refine yT ?_; dsimp only
  have Lq : Le Fz (Ins b4 (Ins b3 (Ins b2 M))) w3 (Mg (Ins b4 (Ins b3 (Ins b2 M))) gq) wq := hR.le0
  replace hM := hM.mono Lq
  refine zH rfl fN rfl rfl ?_
  refine (dK (zl2 hk20 hn20.gen hnb20) (by omega) (by first | omega | simp) hM).mono ?_
  rintro v21 w9 ⟨hB21, xs21, xa21, rfl, hn21⟩
  exact zA ⟨rfl, gq, jO rfl rfl hB21, _, rfl, ⟨_, _, rfl, hn21⟩⟩
 refine jB rfl (fun v w => ∃ bb xs22 xa22 xs22b xa22b, v = .slice (some ⟨bb, 0, none⟩) 2 2 ∧ KBlk (Mg (Ins b4 (Ins b3 (Ins b2 M))) w.2) w.1 bb 31 [.bool xs22, xa22, .bool xs22b, xa22b] ∧ ZC (Mg (Ins b4 (Ins b3 (Ins b2 M))) w.2) w.1 (2 * (max n0 n1) + 2) (gV ([p.num, ((q.den : Nat) : Int)])) xs22 xa22 ∧ ZC (Mg (Ins b4 (Ins b3 (Ins b2 M))) w.2) w.1 (2 * (max n1 n0) + 2) (gV ([q.num, ((p.den : Nat) : Int)])) xs22b xa22b) (fun _ _ _ ⟨bb, xs22, xa22, xs22b, xa22b, e, hk, h0, h1⟩ r => ⟨bb, xs22, xa22, xs22b, xa22b, e, hk.mono (r.le), h0.mono (r.le), h1.mono (r.le)⟩) (fun xq hR hst hPr => ?_) ?_
 ·obtain ⟨wq, gq⟩ := xq
  refine jX rfl (fun v14 hp14 => ?_)
  obtain ⟨xs14, xa14, rfl, hn14⟩ := hp14
  refine jX rfl (fun v21 hp21 => ?_)
  obtain ⟨xs21, xa21, rfl, hn21⟩ := hp21
  refine yT ?_; dsimp only
  have Lq : Le Fz (Ins b4 (Ins b3 (Ins b2 M))) w3 (Mg (Ins b4 (Ins b3 (Ins b2 M))) gq) wq := hR.le0
  replace hM := hM.mono Lq
  refine xI rfl yu174 xC rfl rfl rfl rfl (zZ rfl (zZ rfl xF)) rfl rfl rfl (fun w10 b22 N22 => ?_)
  have hBw10 := N22.below
  have nM22 := hM.new N22
  have B22 := N22.blk
  obtain ⟨hn14, hn21⟩ := ub2 hBw10 hn14 hn21
  have hB22 := hBw10
  exact zA ⟨rfl, gq, jO rfl rfl hB22, _, rfl, ⟨b22, _, _, _, _, rfl, KBlk.mk B22 nM22, hn14, hn21⟩⟩
 refine jB rfl (fun v w => ∃ xs23 xa23, v = .agg #[.bool xs23, xa23] ∧ ZC (Mg (Ins b4 (Ins b3 (Ins b2 M))) w.2) w.1 ((max ((2 * (max n0 n1) + 2)) (2 * (max n1 n0) + 2)) + 2) (([gV ([p.num, ((q.den : Nat) : Int)]), gV ([q.num, ((p.den : Nat) : Int)])]).sum) xs23 xa23) (fun _ _ _ ⟨xs23, xa23, e, h0⟩ r => ⟨xs23, xa23, e, h0.mono (r.le)⟩) (fun xq hR hst hPr => ?_) ?_
 ·obtain ⟨wq, gq⟩ := xq
  refine jX rfl (fun v22 hp22 => ?_)
  obtain ⟨bb22, xs22, xa22, xs22b, xa22b, rfl, hk22, hn22, hnb22⟩ := hp22; obtain ⟨oxa22, _⟩ := hn22.one
  refine yT ?_; dsimp only
  have Lq : Le Fz (Ins b4 (Ins b3 (Ins b2 M))) w3 (Mg (Ins b4 (Ins b3 (Ins b2 M))) gq) wq := hR.le0
  replace hM := hM.mono Lq
  refine zH rfl bod150 rfl rfl ?_
  refine (i5add_c (zl2 hk22 hn22.gen hnb22.gen) (by omega) (by first | omega | simp) hM).mono ?_
  rintro v23 w11 ⟨hB23, xs23, xa23, rfl, hn23⟩
  exact zA ⟨rfl, gq, jO rfl rfl hB23, _, rfl, ⟨_, _, rfl, hn23⟩⟩
 apply jK rfl
 ·intro xq hR hst hPr
  obtain ⟨wq, gq⟩ := xq
  refine gM rfl rfl ?_
  refine yT ?_; dsimp only
  have Lq : Le Fz (Ins b4 (Ins b3 (Ins b2 M))) w3 (Mg (Ins b4 (Ins b3 (Ins b2 M))) gq) wq := hR.le0
  exact zJ 2 rfl yu33 rfl rfl xV rfl rfl (zA ⟨rfl, gq, jO rfl rfl (Below.refl _ _), _, rfl, rfl⟩)
 apply jK rfl
 ·intro xq hR hst hPr
  obtain ⟨wq, gq⟩ := xq
  refine gJ rfl ?_
  refine yT ?_; dsimp only
  have Lq : Le Fz (Ins b4 (Ins b3 (Ins b2 M))) w3 (Mg (Ins b4 (Ins b3 (Ins b2 M))) gq) wq := hR.le0
  replace B2 := B2.rg hR
  exact zS rfl yX rfl B2 rfl (zA ⟨rfl, gq, jO rfl rfl (Below.refl _ _), _, rfl, rfl⟩)
 apply jK rfl
 ·intro xq hR hst hPr
  obtain ⟨wq, gq⟩ := xq
  refine gM rfl rfl ?_
  refine yT ?_; dsimp only
  have Lq : Le Fz (Ins b4 (Ins b3 (Ins b2 M))) w3 (Mg (Ins b4 (Ins b3 (Ins b2 M))) gq) wq := hR.le0
  exact zJ 2 rfl yu33 rfl rfl xV rfl rfl (zA ⟨rfl, gq, jO rfl rfl (Below.refl _ _), _, rfl, rfl⟩)
 apply jK rfl
 ·intro xq hR hst hPr
  obtain ⟨wq, gq⟩ := xq
  refine gJ rfl ?_
  refine yT ?_; dsimp only
  have Lq : Le Fz (Ins b4 (Ins b3 (Ins b2 M))) w3 (Mg (Ins b4 (Ins b3 (Ins b2 M))) gq) wq := hR.le0
  replace B3 := B3.rg hR
  exact zS rfl yX rfl B3 rfl (zA ⟨rfl, gq, jO rfl rfl (Below.refl _ _), _, rfl, rfl⟩)
 refine jB rfl (fun v w => ∃ xa28, v = xa28 ∧ NC (Mg (Ins b4 (Ins b3 (Ins b2 M))) w.2) w.1 (n0 + n1) (p.den * q.den) xa28) (fun _ _ _ ⟨xa28, e, h0⟩ r => ⟨xa28, e, h0.mono (r.le)⟩) (fun xq hR hst hPr => ?_) ?_
 ·obtain ⟨wq, gq⟩ := xq
  refine gJ rfl ?_
  refine gJ rfl ?_
  refine yT ?_; dsimp only
  have Lq : Le Fz (Ins b4 (Ins b3 (Ins b2 M))) w3 (Mg (Ins b4 (Ins b3 (Ins b2 M))) gq) wq := hR.le0
  obtain ⟨hM, h0, h1⟩ := up3 Lq hM h0 h1
  refine zH rfl bod108 rfl rfl ?_
  refine (nmul_q h0.d.gen h1.d.gen (by omega) (by omega) hM).mono ?_
  rintro v28 w12 ⟨hB28, xa28, rfl, hn28⟩
  exact zA ⟨rfl, gq, jO rfl rfl hB28, _, rfl, ⟨_, rfl, hn28⟩⟩
 refine jB rfl (fun v w => ∃ xs29 xa29 xd29, v = .tuple #[.agg #[.bool xs29, xa29, xd29], .int .i64 (if (p.den * q.den) = 0 then 30 else 0)] ∧ RC (Mg (Ins b4 (Ins b3 (Ins b2 M))) w.2) w.1 (max ((max ((2 * (max n0 n1) + 2)) (2 * (max n1 n0) + 2)) + 2) (n0 + n1) + 2) (mkRat (([gV ([p.num, ((q.den : Nat) : Int)]), gV ([q.num, ((p.den : Nat) : Int)])]).sum) (p.den * q.den)) xs29 xa29 xd29) (fun _ _ _ ⟨xs29, xa29, xd29, e, h0⟩ r => ⟨xs29, xa29, xd29, e, h0.mono (r.le)⟩) (fun xq hR hst hPr => ?_) ?_
 ·obtain ⟨wq, gq⟩ := xq
  refine jX rfl (fun v23 hp23 => ?_)
  obtain ⟨xs23, xa23, rfl, hn23⟩ := hp23
  refine jX rfl (fun v28 hp28 => ?_)
  obtain ⟨xa28, rfl, hn28⟩ := hp28
  refine yT ?_; dsimp only
  have Lq : Le Fz (Ins b4 (Ins b3 (Ins b2 M))) w3 (Mg (Ins b4 (Ins b3 (Ins b2 M))) gq) wq := hR.le0
  replace hM := hM.mono Lq
  refine zH rfl bod107 rfl rfl ?_
  refine (r7new_c hn23.gen hn28.gen (by omega) (by omega) hM).mono ?_
  rintro v29 w13 ⟨hB29, xs29, xa29, xd29, rfl, hn29⟩
  exact zA ⟨rfl, gq, jO rfl rfl hB29, _, rfl, ⟨_, _, _, rfl, hn29⟩⟩
 refine jB rfl (fun v w => ∃ xs7 xa7 xd7, v = .tuple #[.agg #[.bool xs7, xa7, xd7], .int .i64 (if (p.den * q.den) = 0 then 30 else 0)] ∧ RC (Mg (Ins b4 (Ins b3 (Ins b2 M))) w.2) w.1 (max ((max ((2 * (max n0 n1) + 2)) (2 * (max n1 n0) + 2)) + 2) (n0 + n1) + 2) (mkRat (([gV ([p.num, ((q.den : Nat) : Int)]), gV ([q.num, ((p.den : Nat) : Int)])]).sum) (p.den * q.den)) xs7 xa7 xd7) (fun _ _ _ ⟨xs7, xa7, xd7, e, h0⟩ r => ⟨xs7, xa7, xd7, e, h0.mono (r.le)⟩) (fun xq hR hst hPr => ?_) ?_
 ·obtain ⟨wq, gq⟩ := xq
  refine jX rfl (fun v29 hp29 => ?_)
  obtain ⟨xs29, xa29, xd29, rfl, hn29⟩ := hp29
  refine yT ?_; dsimp only
  have Lq : Le Fz (Ins b4 (Ins b3 (Ins b2 M))) w3 (Mg (Ins b4 (Ins b3 (Ins b2 M))) gq) wq := hR.le0
  exact zB rfl rfl (zA ⟨rfl, gq, jO rfl rfl (Below.refl _ _), _, rfl, ⟨_, _, _, rfl, hn29⟩⟩)
 refine jB rfl (fun v w => ∃ xs30 xa30 xd30, v = .agg #[.bool xs30, xa30, xd30] ∧ RC (Mg (Ins b4 (Ins b3 (Ins b2 M))) w.2) w.1 (max ((max ((2 * (max n0 n1) + 2)) (2 * (max n1 n0) + 2)) + 2) (n0 + n1) + 2) (mkRat (([gV ([p.num, ((q.den : Nat) : Int)]), gV ([q.num, ((p.den : Nat) : Int)])]).sum) (p.den * q.den)) xs30 xa30 xd30) (fun _ _ _ ⟨xs30, xa30, xd30, e, h0⟩ r => ⟨xs30, xa30, xd30, e, h0.mono (r.le)⟩) (fun xq hR hst hPr => ?_) ?_
 ·obtain ⟨wq, gq⟩ := xq
  refine jX rfl (fun v7 hp7 => ?_)
  obtain ⟨xs7, xa7, xd7, rfl, hn7⟩ := hp7
  refine yT ?_; dsimp only
  have Lq : Le Fz (Ins b4 (Ins b3 (Ins b2 M))) w3 (Mg (Ins b4 (Ins b3 (Ins b2 M))) gq) wq := hR.le0
  exact yA rfl rfl rfl (zA ⟨rfl, gq, jO rfl rfl (Below.refl _ _), _, rfl, ⟨_, _, _, rfl, hn7⟩⟩)
 refine jB rfl (ExS (.int .i64 (if (p.den * q.den) = 0 then 30 else 0))) (fun _ _ _ h _ => h) (fun xq hR hst hPr => ?_) ?_
 ·obtain ⟨wq, gq⟩ := xq
  refine jX rfl (fun v7 hp7 => ?_)
  obtain ⟨xs7, xa7, xd7, rfl, hn7⟩ := hp7
  refine yT ?_; dsimp only
  have Lq : Le Fz (Ins b4 (Ins b3 (Ins b2 M))) w3 (Mg (Ins b4 (Ins b3 (Ins b2 M))) gq) wq := hR.le0
  exact yA rfl rfl rfl (zA ⟨rfl, gq, jO rfl rfl (Below.refl _ _), _, rfl, rfl⟩)
 refine jB rfl (Pb 25) pb_mono (fun xq hR hst hPr => ?_) ?_
 ·obtain ⟨wq, gq⟩ := xq; refine yT ?_; dsimp only
  exact yJ rfl yN (fun w14 b5 N5 => (zA ⟨rfl, _, eO rfl hPr N5, _, rfl, pb_new⟩))
 refine drsS_eff rfl (fun xq hR hpre => ?_) ?_
 ·obtain ⟨wq, gq⟩ := xq
  refine jX rfl (fun v5 hp5 => ?_)
  obtain ⟨b5, rfl, hg5⟩ := hp5; dsimp only at hg5
  refine jX rfl (fun v30 hp30 => ?_)
  obtain ⟨xs30, xa30, xd30, rfl, hn30⟩ := hp30; obtain ⟨oxa30, oxd30, _⟩ := hn30.one
  refine yT ?_; dsimp only
  have ge5 := hR.ge hg5
  have nF5 : ¬ Fz b5 := fun c => Nat.not_lt.2 ge5 (hF _ c)
  have nM5 : ¬ (Ins b4 (Ins b3 (Ins b2 M))) b5 := fun c => Nat.not_lt.2 ge5 (hM _ c)
  have ne2_5 : b2 ≠ b5 := by have := B2.lt; omega
  have ne3_5 : b3 ≠ b5 := by have := B3.lt; omega
  have ne4_5 : b4 ≠ b5 := by have := B4.lt; omega
  have Lq : Le Fz (Ins b4 (Ins b3 (Ins b2 M))) w3 (Ins b5 (Mg (Ins b4 (Ins b3 (Ins b2 M))) gq)) wq := hR.le0.trans (Le.less (Mg.ins hg5))
  have B5 := hpre b5 hg5; rw [aC] at B5
  replace hn30 := hn30.less (Mg.ins hg5)
  refine zW rfl rfl yN B5 rfl rfl (zU rfl (zU (by first | rfl | assumption) (zU (by first | rfl | assumption) jC))) rfl (fun w15 Cw15 B5 => ?_)
  have Lw15 := Le.of_chg (M := (Ins b5 (Mg (Ins b4 (Ins b3 (Ins b2 M))) gq))) Cw15 zR nF5
  replace hn30 := hn30.mono Lw15
  exact zA ⟨rfl, gq, rh_chg rfl hg5 Cw15, b5, hg5, _, _, _, B5, (hn30).mono (Fz := fun _ => False) (Le.less (fun k c => .inr c))⟩
 refine drsS_nil (fun xq hR hpost => ?_)
 obtain ⟨wq1, gq⟩ := xq
 refine gM rfl rfl ?_
 refine jX rfl (fun v5 hp5 => ?_)
 obtain ⟨b5, rfl, hg5⟩ := hp5; dsimp only at hg5
 refine gJ rfl ?_
 refine yT ?_; dsimp only
 simp only [List.drop_succ_cons, List.drop_zero, List.drop_nil, List.toList_toArray]
 obtain ⟨bx, hgx, hQ⟩ := hpost _ _ _ rfl; dsimp only at hgx; obtain rfl : b5 = bx := by rw [hg5] at hgx; exact Option.some.inj hgx
 obtain ⟨xs5, xa5, xd5, B5, hn5⟩ := hQ; dsimp only at B5
 have ge5 := hR.ge hg5
 have nF5 : ¬ Fz b5 := fun c => Nat.not_lt.2 ge5 (hF _ c)
 have nM5 : ¬ (Ins b4 (Ins b3 (Ins b2 M))) b5 := fun c => Nat.not_lt.2 ge5 (hM _ c)
 have ne2_5 : b2 ≠ b5 := by have := B2.lt; omega
 have ne3_5 : b3 ≠ b5 := by have := B3.lt; omega
 have ne4_5 : b4 ≠ b5 := by have := B4.lt; omega
 have hsub : ∀ k, (Ins b5 (Ins b4 (Ins b3 (Ins b2 M)))) k → Mg (Ins b4 (Ins b3 (Ins b2 M))) gq k := (dI (.inl ⟨_, hg5⟩) Mg.base)
 have Lq : Le Fz (Ins b4 (Ins b3 (Ins b2 M))) w3 (Ins b5 (Ins b4 (Ins b3 (Ins b2 M)))) wq1 := hR.le0.trans (Le.less hsub)
 obtain ⟨LL, h0, h1⟩ := up3 Lq LL h0 h1
 replace B4 := B4.rg hR
 replace hn5 : _ := hn5.less hsub
 obtain ⟨oxa5, oxd5, _⟩ := hn5.one
 refine zE rfl rfl (zA (zF (zC (zL rfl yW yN rfl B5 rfl rfl (zW rfl rfl yN B4 rfl rfl (zU rfl (zU (by first | rfl | assumption) (zU (by first | rfl | assumption) jC))) rfl (fun w16 Cw16 B4 => ?_))))))
 have Lw16 := Le.of_chg (M := (Ins b5 (Ins b4 (Ins b3 (Ins b2 M))))) Cw16 (.inr zR) nF4
 obtain ⟨LL, h0, h1, hn5⟩ := up4 Lw16 LL h0 h1 hn5
 refine zA (zY ?_)
 refine zN ⟨[_], ⟨⟨_, rfl, yU yW yN B4 rfl rfl⟩, trivial⟩, ?_⟩
 dsimp only [zV]
 rw [add_eq] at hn5
 replace hn5 := RC.relen hn5 (cM h0.len h1.len)
 subst hFz
 exact ⟨LL.below (Nat.le_refl _), _, _, _, rfl, (hn5.less (fun k c => zI (zI (zI (zI c))))).up (by omega)⟩
theorem r7add_c {l : List Rat} {n0 : Nat} {xa0 : Value} (h0 : QL M w n0 l xa0) (hl0 : n0 ≤ 970) (hlen : l.length ≤ 2) (hM : OkM M w) :
    CallsV prog 23 [xa0] w fun r w' => Below w.heap.size w w' ∧ ∃ xsr xar xdr, r = .agg #[.bool xsr, xar, xdr] ∧ RC M w' (2 * n0 + 8) (fG l) xsr xar xdr := by
 obtain ⟨Fz, hFz, hF, LL⟩ := fz0 M w
 obtain ⟨oxa0, _⟩ := h0.one
 have hM0 := hM
 refine zP func23 rfl ntmps23 rfl ?_
 refine zF (zC (yJ rfl yN (fun w1 b2 N2 => ?_)))
 obtain ⟨_, nF2, nM2, Lw1, B2⟩ := nza hF hM N2
 obtain ⟨LL, hM, hF, h0⟩ := up4 Lw1 LL hM hF h0
 refine zA (zF (zC (zH rfl fP rfl rfl ?_)))
 refine (eP (k := 0)  (by omega) hM).mono ?_
 rintro v5 w2 ⟨hB5, xs5, xa5, xd5, rfl, hn5⟩
 obtain ⟨LL, hM, hF, h0, B2⟩ := ub5 hB5 LL hM hF h0 B2
 obtain ⟨oxa5, oxd5, _⟩ := hn5.one
 refine yJ rfl yN (fun w3 b3 N3 => ?_)
 obtain ⟨hBw3, nF3, nM3, Lw3, B3⟩ := nza hF hM N3
 obtain ⟨B2, ne2_3⟩ := bn B2 N3
 obtain ⟨LL, hM, h0, hn5⟩ := up4 Lw3 LL hM h0 hn5
 refine zW rfl rfl yN B3 rfl rfl (zU rfl (zU (by first | rfl | assumption) (zU (by first | rfl | assumption) jC))) rfl (fun w4 Cw4 B3 => ?_)
 have Lw4 := Le.of_chg (M := (Ins b3 (Ins b2 M))) Cw4 zR nF3
 obtain ⟨LL, hM, h0, hn5⟩ := up4 Lw4 LL hM h0 hn5
 replace B2 := B2.other Cw4 ne2_3
 refine zA (zF (zF (zC (zE rfl rfl (zA (yK ?_))))))
 refine jA (σ := Nat) [(0, _), (2, _), (3, _)] (fun s => [(4, .int .i64 ((s : Nat) : Int))]) (fun s w5 => Le Fz (Ins b3 (Ins b2 M)) w4 (Ins b3 (Ins b2 M)) w5 ∧ s ≤ l.length ∧ Blk w5 b2 33 [.bool false, .slice none 0 0, .slice none 0 0] ∧ ∃ xs3 xa3 xd3, Blk w5 b3 33 [.bool xs3, xa3, xd3] ∧ RC (Ins b3 (Ins b2 M)) w5 (s * (n0 + 3) + 2) (fG (l.take s)) xs3 xa3 xd3) (fun s => l.length - s) (0) (zG rfl (zG rfl (zG rfl (zG rfl yM)))) ?_ (fun s w5 hJ => ?_)
 · exact ⟨Le.refl _ _ _, by omega, B2, _, _, _, B3, by simpa [fG] using hn5.up (by omega)⟩
 ·obtain ⟨LR, hk, B2, xs3, xa3, xd3, B3, hn3⟩ := hJ
  obtain ⟨oxa3, oxd3, _⟩ := hn3.one
  have hsn : s * (n0 + 3) ≤ 2 * (n0 + 3) := Nat.mul_le_mul_right _ (by omega)
  have hsn1 : s ≤ 1 → s * (n0 + 3) ≤ n0 + 3 := fun c => by have := Nat.mul_le_mul_right (n0 + 3) c; omega
  have hst : (s + 1) * (n0 + 3) = s * (n0 + 3) + (n0 + 3) := by rw [Nat.add_mul, Nat.one_mul]
  obtain ⟨LL, hM, h0⟩ := up3 LR LL hM h0
  refine zF (zF (zC (zB rfl rfl (zB rfl rfl (aK rfl yu22 rfl h0.row (jR rfl rfl rfl (zA ?_)))))))
  refine yC rfl (fun hc0 => ?_) (fun hc0 => ?_)
  ·refine yO (zF (yK ?_))
   refine xL (R := Rb) (R' := Rb) (st := none) jJ 6 [0, 2, 3, 4, 6, 7, 8, 9, 12, 13, 14, 15, 16, 17] (by decide +kernel) xJ xU (xS _) (fun _ _ _ h => by cases h) ?_
   refine zM (fun _ hR _ => zO rfl rfl (zD (zL rfl yW yN rfl (B3.below hR) rfl rfl (on0 rfl)))) ?_
   refine zX (fun v w => ∃ xa13, v = xa13 ∧ QL (Ins b3 (Ins b2 M)) w (n0) (l) xa13) (fun _ _ _ ⟨xa13, e, h0⟩ r => ⟨xa13, e, h0.mono (Fz := fun _ => False) (Le.of_below r)⟩) (fun wq hR hst => ?_) ?_
   ·refine zO rfl rfl (zD ?_)
    replace h0 := ub1 hR h0
    exact zB rfl rfl (zA ⟨rfl, yP _, _, rfl, ⟨_, rfl, h0⟩⟩)
   refine zM (fun _ _ _ => zO rfl rfl (zD (zB rfl rfl (on0 rfl)))) ?_
   refine zX (fun v w => ∃ b o xs15 xa15 xd15, v = .pointer (some ⟨b, o, none⟩) ∧ (∀ (q : Nat) (u : Value), [.bool xs15, xa15, xd15][q]? = some u → w.cell? ⟨b, o + q, none⟩ = some u) ∧ QC (Ins b3 (Ins b2 M)) w (n0) (l.getD s 0) xs15 xa15 xd15) (fun _ _ _ ⟨b, o, xs15, xa15, xd15, e, hc, h⟩ r => ⟨b, o, xs15, xa15, xd15, e, fun q u hq => jI r (hc q u hq), h.mono (Fz := fun _ => False) (Le.of_below r)⟩) (fun wq hR hst => ?_) ?_
   ·refine yE rfl (fun v13 hp13 => ?_)
    obtain ⟨xa13, rfl, hn13⟩ := hp13
    refine zK rfl (zD ?_)
    refine gZ (dflt := (0 : Rat)) (s) rfl yu22 yN rfl rfl hn13.row (by first | rfl | omega) (by first | omega | (simp; omega) | simp) (fun b15 o15 us15 hul15 hu15 hc15 => ?_)
    obtain ⟨xs15, xa15, xd15, rfl, hn15⟩ := hu15
    exact zA ⟨rfl, yP _, _, rfl, ⟨b15, o15, _, _, _, rfl, hc15, hn15⟩⟩
   refine zX (vQC (Ins b3 (Ins b2 M)) (n0) (l.getD s 0)) vQC_m (fun wq hR hst => ?_) ?_
   ·refine yE rfl (fun v15 hp15 => ?_)
    obtain ⟨b15, o15, xs15, xa15, xd15, rfl, hc15, hn15⟩ := hp15
    refine zD ?_
    exact qN rfl yW yN rfl hc15 rfl (zA ⟨rfl, yP _, _, rfl, ⟨_, _, _, rfl, hn15⟩⟩)
   refine zX (vRC (Ins b3 (Ins b2 M)) (n0 + 2) ((l.getD s 0))) cI (fun wq hR hst => ?_) ?_
   ·refine yE rfl (fun v16 hp16 => ?_)
    obtain ⟨xs16, xa16, xd16, rfl, hn16⟩ := hp16
    refine zD ?_
    replace hM := ub1 hR hM
    refine zH rfl fO rfl rfl ?_
    refine (cN hn16 (by omega) hM).mono ?_
    rintro v17 w6 ⟨hB17, xs17, xa17, xd17, rfl, hn17⟩
    exact zA ⟨rfl, hB17, _, rfl, ⟨_, _, _, rfl, hn17⟩⟩
   refine xM (fun wq5 hR5 hpost5 => ?_)
   refine zO rfl rfl (zO rfl rfl (zO rfl rfl (zO rfl rfl (zO rfl rfl (zO rfl rfl (zO rfl rfl (zO rfl rfl (zK rfl (yE rfl (fun v13 hp13 => ?_))))))))))
   obtain ⟨xa13, rfl, hn13⟩ := hp13; obtain ⟨oxa13, _⟩ := hn13.one
   refine zK rfl (yE rfl (fun v15 hp15 => ?_))
   obtain ⟨b15, o15, xs15, xa15, xd15, rfl, hc15, hn15⟩ := hp15; obtain ⟨oxa15, oxd15, _⟩ := hn15.one
   refine yE rfl (fun v16 hp16 => ?_)
   obtain ⟨xs16, xa16, xd16, rfl, hn16⟩ := hp16; obtain ⟨oxa16, oxd16, _⟩ := hn16.one
   refine yE rfl (fun v17 hp17 => ?_)
   obtain ⟨xs17, xa17, xd17, rfl, hn17⟩ := hp17; obtain ⟨oxa17, oxd17, _⟩ := hn17.one
   refine zD ?_
   simp only [List.drop_succ_cons, List.drop_zero, List.drop_nil, List.toList_toArray]
   obtain ⟨LR, hM, hn3, B2, B3⟩ := ub5 hR5 LR hM hn3 B2 B3
   refine zH rfl bod81 rfl rfl ?_
   refine (r7two_c hn3 hn17 (by omega) (by omega) hM).mono ?_
   rintro v18 w7 ⟨hB18, xs18, xa18, xd18, rfl, hn18⟩
   obtain ⟨LR, B2, B3⟩ := ub3 hB18 LR B2 B3
   obtain ⟨oxa18, oxd18, _⟩ := hn18.one
   refine zW rfl rfl yN B3 rfl rfl (zU rfl (zU (by first | rfl | assumption) (zU (by first | rfl | assumption) jC))) rfl (fun w8 Cw8 B3 => ?_)
   have Lw8 := Le.of_chg (M := (Ins b3 (Ins b2 M))) Cw8 zR nF3
   obtain ⟨LR, hn18⟩ := up2 Lw8 LR hn18
   replace B2 := B2.other Cw8 ne2_3
   refine zA (zC (zB rfl rfl (xK rfl rfl rfl (by omega) (zE rfl rfl (zA ?_)))))
   refine ⟨rfl, s + 1, (yB rfl (by rw [Int.natCast_add]; rfl) (zG rfl (zG rfl (zG rfl yM)))), ?_, ?_⟩
   exact ⟨LR, by omega, B2, _, _, _, B3, by rw [sumR_take (by omega)]; exact hn18.up (by omega)⟩
   omega
  ·refine xY (xZ (zF (zC (zL rfl yW yN rfl B3 rfl rfl (zW rfl rfl yN B2 rfl rfl (zU rfl (zU (by first | rfl | assumption) (zU (by first | rfl | assumption) jC))) rfl (fun w9 Cw9 B2 => ?_))))))
   have Lw9 := Le.of_chg (M := (Ins b3 (Ins b2 M))) Cw9 (.inr zR) nF2
   obtain ⟨LL, hn3⟩ := up2 Lw9 LL hn3
   refine zA (zY ?_)
   refine zN ⟨[_], ⟨⟨_, rfl, yU yW yN B2 rfl rfl⟩, trivial⟩, ?_⟩
   dsimp only [zV]
   obtain rfl : s = l.length := by omega
   rw [List.take_length] at hn3
   subst hFz
   exact ⟨LL.below (Nat.le_refl _), _, _, _, rfl, (hn3.less (fun k c => zI (zI c))).up (by omega)⟩
theorem r7mul_c {l : List Rat} {n0 : Nat} {xa0 : Value} (h0 : QL M w n0 l xa0) (hl0 : n0 ≤ 970) (hlen : l.length ≤ 2) (hM : OkM M w) :
    CallsV prog 52 [xa0] w fun r w' => Below w.heap.size w w' ∧ ∃ xsr xar xdr, r = .agg #[.bool xsr, xar, xdr] ∧ RC M w' (2 * n0 + 8) (uR l) xsr xar xdr := by
 obtain ⟨Fz, hFz, hF, LL⟩ := fz0 M w
 obtain ⟨oxa0, _⟩ := h0.one
 have hM0 := hM
 refine zP func52 rfl ntmps52 rfl ?_
 refine zF (zC (yJ rfl yN (fun w1 b2 N2 => ?_)))
 obtain ⟨_, nF2, nM2, Lw1, B2⟩ := nza hF hM N2
 obtain ⟨LL, hM, hF, h0⟩ := up4 Lw1 LL hM hF h0
 refine zA (zF (zC (zH rfl fP rfl rfl ?_)))
 refine (eP (k := 1)  (by omega) hM).mono ?_
 rintro v6 w2 ⟨hB6, xs6, xa6, xd6, rfl, hn6⟩
 obtain ⟨LL, hM, hF, h0, B2⟩ := ub5 hB6 LL hM hF h0 B2
 obtain ⟨oxa6, oxd6, _⟩ := hn6.one
 refine yJ rfl yN (fun w3 b3 N3 => ?_)
 obtain ⟨hBw3, nF3, nM3, Lw3, B3⟩ := nza hF hM N3
 obtain ⟨B2, ne2_3⟩ := bn B2 N3
 obtain ⟨LL, hM, hF, h0, hn6⟩ := up5 Lw3 LL hM hF h0 hn6
 refine zW rfl rfl yN B3 rfl rfl (zU rfl (zU (by first | rfl | assumption) (zU (by first | rfl | assumption) jC))) rfl (fun w4 Cw4 B3 => ?_)
 have Lw4 := Le.of_chg (M := (Ins b3 (Ins b2 M))) Cw4 zR nF3
 obtain ⟨LL, hM, hF, h0, hn6⟩ := up5 Lw4 LL hM hF h0 hn6
 replace B2 := B2.other Cw4 ne2_3
 refine zA (zF (zF (zC (zE rfl rfl (zA (yK ?_))))))
 refine jA (σ := Nat) [(0, _), (2, _), (3, _)] (fun s => [(4, .int .i64 ((s : Nat) : Int))]) (fun s w5 => Le Fz (Ins b3 (Ins b2 M)) w4 (Ins b3 (Ins b2 M)) w5 ∧ s ≤ l.length ∧ Blk w5 b2 33 [.bool false, .slice none 0 0, .slice none 0 0] ∧ ∃ xs3 xa3 xd3, Blk w5 b3 33 [.bool xs3, xa3, xd3] ∧ RC (Ins b3 (Ins b2 M)) w5 (s * (n0 + 3) + 2) (uR (l.take s)) xs3 xa3 xd3) (fun s => l.length - s) (0) (zG rfl (zG rfl (zG rfl (zG rfl yM)))) ?_ (fun s w5 hJ => ?_)
 · exact ⟨Le.refl _ _ _, by omega, B2, _, _, _, B3, by simpa [uR] using hn6.up (by omega)⟩
 ·obtain ⟨LR, hk, B2, xs3, xa3, xd3, B3, hn3⟩ := hJ
  obtain ⟨oxa3, oxd3, _⟩ := hn3.one
  have hsn : s * (n0 + 3) ≤ 2 * (n0 + 3) := Nat.mul_le_mul_right _ (by omega)
  have hsn1 : s ≤ 1 → s * (n0 + 3) ≤ n0 + 3 := fun c => by have := Nat.mul_le_mul_right (n0 + 3) c; omega
  have hst : (s + 1) * (n0 + 3) = s * (n0 + 3) + (n0 + 3) := by rw [Nat.add_mul, Nat.one_mul]
  have hl3 := hn3.len
  obtain ⟨LL, hM, hF, h0⟩ := up4 LR LL hM hF h0
  refine zF (zF (zC (zB rfl rfl (zB rfl rfl (aK rfl yu22 rfl h0.row (jR rfl rfl rfl (zA ?_)))))))
  refine yC rfl (fun hc0 => ?_) (fun hc0 => ?_)
  ·refine yO (zF (yK (zF (zC (zB rfl rfl (zB rfl rfl (gZ (dflt := (0 : Rat)) (s) rfl yu22 yN rfl rfl h0.row (by first | rfl | omega) (by first | omega | (simp; omega) | simp) (fun b15 o15 us15 hul15 hu15 hc15 => ?_))))))))
   obtain ⟨xs15, xa15, xd15, rfl, hn15⟩ := hu15
   obtain ⟨oxa15, oxd15, _⟩ := hn15.one
   have hle := hn15.rlen
   refine qN rfl yW yN rfl hc15 rfl (zH rfl fO rfl rfl ?_)
   refine (cN hn15 (by omega) hM).mono ?_
   rintro v17 w6 ⟨hB17, xs17, xa17, xd17, rfl, hn17⟩
   obtain ⟨LR, hM, hF, h0, hn3, B2, B3⟩ := ub7 hB17 LR hM hF h0 hn3 B2 B3
   obtain ⟨oxa17, oxd17, _⟩ := hn17.one
   refine yJ rfl yN (fun w7 b5 N5 => ?_)
   obtain ⟨hBw7, nF5, nM5, Lw7, B5⟩ := nza hF hM N5
   obtain ⟨B2, ne2_5⟩ := bn B2 N5
   obtain ⟨B3, ne3_5⟩ := bn B3 N5
   obtain ⟨LR, hM, h0, hn3, hn17⟩ := up5 Lw7 LR hM h0 hn3 hn17
   refine zW rfl rfl yN B5 rfl rfl (zU rfl (zU (by first | rfl | assumption) (zU (by first | rfl | assumption) jC))) rfl (fun w8 Cw8 B5 => ?_)
   have Lw8 := Le.of_chg (M := (Ins b5 (Ins b3 (Ins b2 M)))) Cw8 zR nF5
   obtain ⟨LR, hM, h0, hn3, hn17⟩ := up5 Lw8 LR hM h0 hn3 hn17
   replace B2 := B2.other Cw8 ne2_5
   replace B3 := B3.other Cw8 ne3_5
   refine zA ?_
   refine xL (R := Rs (· = b3)) (R' := Rb) (st := some (15, (fun w => Blk w b3 33 [.bool xs3, xa3, xd3]), (fun w => ∃ xs3 xa3 xd3, Blk w b3 33 [.bool xs3, xa3, xd3] ∧ RC (Ins b5 (Ins b3 (Ins b2 M))) w (max (2 * (max ((s * (n0 + 3) + 2)) (n0 + 2)) + 2) ((s * (n0 + 3) + 2) + (n0 + 2)) + 2) (mkRat (gV ([(uR (l.take s)).num, ((l.getD s 0)).num])) (((uR (l.take s)).den) * (((l.getD s 0)).den))) xs3 xa3 xd3))) jJ 16 [0, 2, 3, 4, 5, 7, 8, 9, 10, 13, 14, 15, 16, 17, 18, 19, 20, 21, 22, 23, 24, 25, 26, 27, 28, 29, 30, 31] (by decide +kernel) bC eD (cB _) (fun _ _ _ h => by cases h; exact ⟨by decide, B3, fun _ _ h r => h.below r, fun _ _ ⟨xs3, xa3, xd3, B, h0⟩ r => ⟨xs3, xa3, xd3, B.below r, h0.mono (Fz := fun _ => False) (Le.of_below r)⟩, _, rfl⟩) ?_
   apply yR rfl
   ·intro wq hR hst
    refine zO rfl rfl (zD ?_)
    have Lq := lqb (M := (Ins b5 (Ins b3 (Ins b2 M)))) hR (.inr zR) nF3
    exact zJ 0 rfl yu33 rfl rfl xC rfl rfl (on0 rfl)
   apply yR rfl
   ·intro wq hR hst
    refine zK rfl (zD ?_)
    have Lq := lqb (M := (Ins b5 (Ins b3 (Ins b2 M)))) hR (.inr zR) nF3
    replace B3 := (hst.2 (by decide +kernel))
    exact zL rfl xX xC rfl B3 rfl rfl (on0 rfl)
   apply yR rfl
   ·intro wq hR hst
    refine zO rfl rfl (zD ?_)
    have Lq := lqb (M := (Ins b5 (Ins b3 (Ins b2 M)))) hR (.inr zR) nF3
    exact zJ 0 rfl yu33 rfl rfl xC rfl rfl (on0 rfl)
   apply yR rfl
   ·intro wq hR hst
    refine zK rfl (zD ?_)
    have Lq := lqb (M := (Ins b5 (Ins b3 (Ins b2 M)))) hR (.inr zR) nF3
    replace B5 := B5.rs hR ne3_5.symm
    exact zL rfl xX xC rfl B5 rfl rfl (on0 rfl)
   refine gX rfl (fun v w => ∃ bb xs23 xa23 xs23b xa23b, v = .slice (some ⟨bb, 0, none⟩) 2 2 ∧ KBlk (Ins b5 (Ins b3 (Ins b2 M))) w bb 31 [.bool xs23, xa23, .bool xs23b, xa23b] ∧ ZC (Ins b5 (Ins b3 (Ins b2 M))) w (s * (n0 + 3) + 2) ((uR (l.take s)).num) xs23 xa23 ∧ ZC (Ins b5 (Ins b3 (Ins b2 M))) w (n0 + 2) (((l.getD s 0)).num) xs23b xa23b) (fun _ _ _ ⟨bb, xs23, xa23, xs23b, xa23b, e, hk, h0, h1⟩ r => ⟨bb, xs23, xa23, xs23b, xa23b, e, hk.mono (Fz := fun _ => False) (Le.of_rs r (by rintro _ rfl; exact (.inr zR)) (fun _ _ h => h)), h0.mono (Fz := fun _ => False) (Le.of_rs r (by rintro _ rfl; exact (.inr zR)) (fun _ _ h => h)), h1.mono (Fz := fun _ => False) (Le.of_rs r (by rintro _ rfl; exact (.inr zR)) (fun _ _ h => h))⟩) (fun wq hR hst => ?_) ?_
   ·refine zK rfl (zK rfl (zD ?_))
    have Lq := lqb (M := (Ins b5 (Ins b3 (Ins b2 M)))) hR (.inr zR) nF3
    obtain ⟨hM, hn3, hn17⟩ := up3 Lq hM hn3 hn17
    refine xI rfl yu174 xC rfl rfl rfl rfl (zZ rfl (zZ rfl xF)) rfl rfl rfl (fun w9 b23 N23 => ?_)
    have hBw9 := N23.below
    have nM23 := hM.new N23
    have B23 := N23.blk
    obtain ⟨hn3, hn17⟩ := ub2 hBw9 hn3 hn17
    have hB23 := hBw9
    exact zA ⟨rfl, hB23, _, rfl, ⟨b23, _, _, _, _, rfl, KBlk.mk B23 nM23, hn3.z, hn17.z⟩⟩
   refine gX rfl (fun v w => ∃ xs24 xa24, v = .agg #[.bool xs24, xa24] ∧ ZC (Ins b5 (Ins b3 (Ins b2 M))) w (2 * (max ((s * (n0 + 3) + 2)) (n0 + 2)) + 2) (gV ([(uR (l.take s)).num, ((l.getD s 0)).num])) xs24 xa24) (fun _ _ _ ⟨xs24, xa24, e, h0⟩ r => ⟨xs24, xa24, e, h0.mono (Fz := fun _ => False) (Le.of_rs r (by rintro _ rfl; exact (.inr zR)) (fun _ _ h => h))⟩) (fun wq hR hst => ?_) ?_
   ·refine yE rfl (fun v23 hp23 => ?_)
    obtain ⟨bb23, xs23, xa23, xs23b, xa23b, rfl, hk23, hn23, hnb23⟩ := hp23; obtain ⟨oxa23, _⟩ := hn23.one
    refine zD ?_
    have Lq := lqb (M := (Ins b5 (Ins b3 (Ins b2 M)))) hR (.inr zR) nF3
    replace hM := hM.mono Lq
    refine zH rfl fN rfl rfl ?_
    refine (dK (zl2 hk23 hn23.gen hnb23.gen) (by omega) (by first | omega | simp) hM).mono ?_
    rintro v24 w10 ⟨hB24, xs24, xa24, rfl, hn24⟩
    exact zA ⟨rfl, hB24, _, rfl, ⟨_, _, rfl, hn24⟩⟩
   apply yR rfl
   ·intro wq hR hst
    refine zO rfl rfl (zD ?_)
    have Lq := lqb (M := (Ins b5 (Ins b3 (Ins b2 M)))) hR (.inr zR) nF3
    exact zJ 2 rfl yu33 rfl rfl xV rfl rfl (on0 rfl)
   apply yR rfl
   ·intro wq hR hst
    refine zK rfl (zD ?_)
    have Lq := lqb (M := (Ins b5 (Ins b3 (Ins b2 M)))) hR (.inr zR) nF3
    replace B3 := (hst.2 (by decide +kernel))
    exact zS rfl yX rfl B3 rfl (on0 rfl)
   apply yR rfl
   ·intro wq hR hst
    refine zO rfl rfl (zD ?_)
    have Lq := lqb (M := (Ins b5 (Ins b3 (Ins b2 M)))) hR (.inr zR) nF3
    exact zJ 2 rfl yu33 rfl rfl xV rfl rfl (on0 rfl)
   apply yR rfl
   ·intro wq hR hst
    refine zK rfl (zD ?_)
    have Lq := lqb (M := (Ins b5 (Ins b3 (Ins b2 M)))) hR (.inr zR) nF3
    replace B5 := B5.rs hR ne3_5.symm
    exact zS rfl yX rfl B5 rfl (on0 rfl)
   refine gX rfl (fun v w => ∃ xa29, v = xa29 ∧ NC (Ins b5 (Ins b3 (Ins b2 M))) w ((s * (n0 + 3) + 2) + (n0 + 2)) (((uR (l.take s)).den) * (((l.getD s 0)).den)) xa29) (fun _ _ _ ⟨xa29, e, h0⟩ r => ⟨xa29, e, h0.mono (Fz := fun _ => False) (Le.of_rs r (by rintro _ rfl; exact (.inr zR)) (fun _ _ h => h))⟩) (fun wq hR hst => ?_) ?_
   ·refine zK rfl (zK rfl (zD ?_))
    have Lq := lqb (M := (Ins b5 (Ins b3 (Ins b2 M)))) hR (.inr zR) nF3
    obtain ⟨hM, hn3, hn17⟩ := up3 Lq hM hn3 hn17
    refine zH rfl bod108 rfl rfl ?_
    refine (nmul_q hn3.d.gen hn17.d.gen (by omega) (by omega) hM).mono ?_
    rintro v29 w11 ⟨hB29, xa29, rfl, hn29⟩
    exact zA ⟨rfl, hB29, _, rfl, ⟨_, rfl, hn29⟩⟩
   refine gX rfl (fun v w => ∃ xs30 xa30 xd30, v = .tuple #[.agg #[.bool xs30, xa30, xd30], .int .i64 (if (((uR (l.take s)).den) * (((l.getD s 0)).den)) = 0 then 30 else 0)] ∧ RC (Ins b5 (Ins b3 (Ins b2 M))) w (max (2 * (max ((s * (n0 + 3) + 2)) (n0 + 2)) + 2) ((s * (n0 + 3) + 2) + (n0 + 2)) + 2) (mkRat (gV ([(uR (l.take s)).num, ((l.getD s 0)).num])) (((uR (l.take s)).den) * (((l.getD s 0)).den))) xs30 xa30 xd30) (fun _ _ _ ⟨xs30, xa30, xd30, e, h0⟩ r => ⟨xs30, xa30, xd30, e, h0.mono (Fz := fun _ => False) (Le.of_rs r (by rintro _ rfl; exact (.inr zR)) (fun _ _ h => h))⟩) (fun wq hR hst => ?_) ?_
   ·refine yE rfl (fun v24 hp24 => ?_)
    obtain ⟨xs24, xa24, rfl, hn24⟩ := hp24
    refine yE rfl (fun v29 hp29 => ?_)
    obtain ⟨xa29, rfl, hn29⟩ := hp29
    refine zD ?_
    have Lq := lqb (M := (Ins b5 (Ins b3 (Ins b2 M)))) hR (.inr zR) nF3
    replace hM := hM.mono Lq
    refine zH rfl bod107 rfl rfl ?_
    refine (r7new_c hn24.gen hn29.gen (by omega) (by omega) hM).mono ?_
    rintro v30 w12 ⟨hB30, xs30, xa30, xd30, rfl, hn30⟩
    exact zA ⟨rfl, hB30, _, rfl, ⟨_, _, _, rfl, hn30⟩⟩
   refine gX rfl (fun v w => ∃ xs18 xa18 xd18, v = .tuple #[.agg #[.bool xs18, xa18, xd18], .int .i64 (if (((uR (l.take s)).den) * (((l.getD s 0)).den)) = 0 then 30 else 0)] ∧ RC (Ins b5 (Ins b3 (Ins b2 M))) w (max (2 * (max ((s * (n0 + 3) + 2)) (n0 + 2)) + 2) ((s * (n0 + 3) + 2) + (n0 + 2)) + 2) (mkRat (gV ([(uR (l.take s)).num, ((l.getD s 0)).num])) (((uR (l.take s)).den) * (((l.getD s 0)).den))) xs18 xa18 xd18) (fun _ _ _ ⟨xs18, xa18, xd18, e, h0⟩ r => ⟨xs18, xa18, xd18, e, h0.mono (Fz := fun _ => False) (Le.of_rs r (by rintro _ rfl; exact (.inr zR)) (fun _ _ h => h))⟩) (fun wq hR hst => ?_) ?_
   ·refine yE rfl (fun v30 hp30 => ?_)
    obtain ⟨xs30, xa30, xd30, rfl, hn30⟩ := hp30
    refine zD ?_
    have Lq := lqb (M := (Ins b5 (Ins b3 (Ins b2 M)))) hR (.inr zR) nF3
    exact zB rfl rfl (zA ⟨rfl, yP _, _, rfl, ⟨_, _, _, rfl, hn30⟩⟩)
   refine gX rfl (fun v w => ∃ xs31 xa31 xd31, v = .agg #[.bool xs31, xa31, xd31] ∧ RC (Ins b5 (Ins b3 (Ins b2 M))) w (max (2 * (max ((s * (n0 + 3) + 2)) (n0 + 2)) + 2) ((s * (n0 + 3) + 2) + (n0 + 2)) + 2) (mkRat (gV ([(uR (l.take s)).num, ((l.getD s 0)).num])) (((uR (l.take s)).den) * (((l.getD s 0)).den))) xs31 xa31 xd31) (fun _ _ _ ⟨xs31, xa31, xd31, e, h0⟩ r => ⟨xs31, xa31, xd31, e, h0.mono (Fz := fun _ => False) (Le.of_rs r (by rintro _ rfl; exact (.inr zR)) (fun _ _ h => h))⟩) (fun wq hR hst => ?_) ?_
   ·refine yE rfl (fun v18 hp18 => ?_)
    obtain ⟨xs18, xa18, xd18, rfl, hn18⟩ := hp18
    refine zD ?_
    have Lq := lqb (M := (Ins b5 (Ins b3 (Ins b2 M)))) hR (.inr zR) nF3
    exact yA rfl rfl rfl (zA ⟨rfl, yP _, _, rfl, ⟨_, _, _, rfl, hn18⟩⟩)
   refine gX rfl (Ex (.int .i64 (if (((uR (l.take s)).den) * (((l.getD s 0)).den)) = 0 then 30 else 0))) jW (fun wq hR hst => ?_) ?_
   ·refine yE rfl (fun v18 hp18 => ?_)
    obtain ⟨xs18, xa18, xd18, rfl, hn18⟩ := hp18
    refine zD ?_
    have Lq := lqb (M := (Ins b5 (Ins b3 (Ins b2 M)))) hR (.inr zR) nF3
    exact yA rfl rfl rfl (on0 rfl)
   refine dA rfl (fun wq hR hp => ?_) ?_
   ·refine zO rfl rfl (yE rfl (fun v31 hp31 => ?_))
    obtain ⟨xs31, xa31, xd31, rfl, hn31⟩ := hp31; obtain ⟨oxa31, oxd31, _⟩ := hn31.one
    refine zD ?_
    have Lq := lqb (M := (Ins b5 (Ins b3 (Ins b2 M)))) hR (.inr zR) nF3
    replace B3 := hp
    refine zW rfl rfl yN B3 rfl rfl (zU rfl (zU (by first | rfl | assumption) (zU (by first | rfl | assumption) jC))) rfl (fun w13 Cw13 B3 => ?_)
    have Lw13 := Le.of_chg (M := (Ins b5 (Ins b3 (Ins b2 M)))) Cw13 (.inr zR) nF3
    replace hn31 := hn31.mono Lw13
    exact zA ⟨rfl, cC Cw13, _, _, _, B3, hn31⟩
   refine xM (fun wq6 hR6 hpost6 => ?_)
   refine zO rfl rfl (zO rfl rfl (zO rfl rfl (zO rfl rfl (zO rfl rfl (zO rfl rfl (zO rfl rfl (zO rfl rfl (zO rfl rfl (zO rfl rfl (zO rfl rfl (zO rfl rfl (zO rfl rfl (zO rfl rfl (yE rfl (fun v18 hp18 => ?_)))))))))))))))
   obtain ⟨xs18, xa18, xd18, rfl, hn18⟩ := hp18
   refine zK rfl (zK rfl (zK rfl (zK rfl (yE rfl (fun v23 hp23 => ?_)))))
   obtain ⟨bb23, xs23, xa23, xs23b, xa23b, rfl, hk23, hn23, hnb23⟩ := hp23; obtain ⟨oxa23, _⟩ := hn23.one
   refine yE rfl (fun v24 hp24 => ?_)
   obtain ⟨xs24, xa24, rfl, hn24⟩ := hp24
   refine zK rfl (zK rfl (zK rfl (zK rfl (yE rfl (fun v29 hp29 => ?_)))))
   obtain ⟨xa29, rfl, hn29⟩ := hp29
   refine yE rfl (fun v30 hp30 => ?_)
   obtain ⟨xs30, xa30, xd30, rfl, hn30⟩ := hp30
   refine yE rfl (fun v31 hp31 => ?_)
   obtain ⟨xs31, xa31, xd31, rfl, hn31⟩ := hp31
   refine zD ?_
   simp only [List.drop_succ_cons, List.drop_zero, List.drop_nil, List.toList_toArray]
   have Lq := lqb (M := (Ins b5 (Ins b3 (Ins b2 M)))) hR6 (.inr zR) nF3
   obtain ⟨LR, hn3⟩ := up2 Lq LR hn3
   replace B2 := B2.rs hR6 ne2_3
   obtain ⟨xs3, xa3, xd3, B3, hn3⟩ := hpost6 _ _ _ rfl
   refine zA (zC (zB rfl rfl (xK rfl rfl rfl (by omega) (zE rfl rfl (zA ?_)))))
   replace LR := LR.trans (Le.less (fun k c => (zI c)))
   replace hn3 := hn3.mono (Fz := fun _ => False) (Le.less (fun k c => (zI c)))
   refine ⟨rfl, s + 1, (yB rfl (by rw [Int.natCast_add]; rfl) (zG rfl (zG rfl (zG rfl yM)))), ?_, ?_⟩
   rw [mul_eq] at hn3
   exact ⟨LR, by omega, B2, _, _, _, B3, by rw [prodR_take (by omega)]; exact RC.relen hn3 (qE (rlen_mul hl3 hle) (by omega))⟩
   omega
  ·refine xY (xZ (zF (zC (zL rfl yW yN rfl B3 rfl rfl (zW rfl rfl yN B2 rfl rfl (zU rfl (zU (by first | rfl | assumption) (zU (by first | rfl | assumption) jC))) rfl (fun w14 Cw14 B2 => ?_))))))
   have Lw14 := Le.of_chg (M := (Ins b3 (Ins b2 M))) Cw14 (.inr zR) nF2
   obtain ⟨LL, hn3⟩ := up2 Lw14 LL hn3
   refine zA (zY ?_)
   refine zN ⟨[_], ⟨⟨_, rfl, yU yW yN B2 rfl rfl⟩, trivial⟩, ?_⟩
   dsimp only [zV]
   obtain rfl : s = l.length := by omega
   rw [List.take_length] at hn3
   subst hFz
   exact ⟨LL.below (Nat.le_refl _), _, _, _, rfl, (hn3.less (fun k c => zI (zI c))).up (by omega)⟩
theorem r7add2 {bb : Nat} {ty : TypeId} {n m : Nat} {p q : Rat} {s t : Bool} {a d b e : Value} (hk : KBlk M w bb ty [.bool s, a, d, .bool t, b, e]) (h1 : QC M w n p s a d) (h2 : QC M w m q t b e) (hn : n ≤ 970) (hm : m ≤ 970) (hM : OkM M w) : CallsV prog 23 [.slice (some ⟨bb, 0, none⟩) 2 2] w fun r w' => Below w.heap.size w w' ∧ RV M (n + m + 3) (p + q) r w' :=
  (r7add_c (rl2 hk h1 h2) (by omega) (by simp) hM).mono fun r w' ⟨hB, x, y, z, e, h⟩ => ⟨hB, x, y, z, e, by
    have e2 : fG [p, q] = p + q := by simp [fG, Rat.zero_add]
    rw [e2] at h
    exact RC.relen h (qE (cM h1.rlen h2.rlen) (by omega))⟩
theorem r7mul2 {bb : Nat} {ty : TypeId} {n m : Nat} {p q : Rat} {s t : Bool} {a d b e : Value} (hk : KBlk M w bb ty [.bool s, a, d, .bool t, b, e]) (h1 : QC M w n p s a d) (h2 : QC M w m q t b e) (hn : n ≤ 970) (hm : m ≤ 970) (hM : OkM M w) : CallsV prog 52 [.slice (some ⟨bb, 0, none⟩) 2 2] w fun r w' => Below w.heap.size w w' ∧ RV M (n + m + 3) (p * q) r w' :=
  (r7mul_c (rl2 hk h1 h2) (by omega) (by simp) hM).mono fun r w' ⟨hB, x, y, z, e, h⟩ => ⟨hB, x, y, z, e, by
    have e2 : uR [p, q] = p * q := by simp [uR, Rat.one_mul]
    rw [e2] at h
    exact RC.relen h (qE (rlen_mul h1.rlen h2.rlen) (by omega))⟩
theorem r7sub_c {p : Rat} {n0 : Nat} {xs0 : Bool} {xa0 xd0 : Value} {q : Rat} {n1 : Nat} {xs1 : Bool} {xa1 xd1 : Value} (h0 : QC M w n0 p xs0 xa0 xd0) (h1 : QC M w n1 q xs1 xa1 xd1) (hl0 : n0 ≤ 960) (hl1 : n1 ≤ 960) (hM : OkM M w) :
    CallsV prog 22 [.agg #[.bool xs0, xa0, xd0], .agg #[.bool xs1, xa1, xd1]] w fun r w' => Below w.heap.size w w' ∧ ∃ xsr xar xdr, r = .agg #[.bool xsr, xar, xdr] ∧ RC M w' (n0 + n1 + 5) (p - q) xsr xar xdr := by
 obtain ⟨Fz, hFz, hF, LL⟩ := fz0 M w
 obtain ⟨oxa0, oxd0, _⟩ := h0.one
 obtain ⟨oxa1, oxd1, _⟩ := h1.one
 have hM0 := hM
 refine zP func22 rfl ntmps22 rfl ?_
 refine zF (zC (yL rfl rfl (fun w1 b2 N2 => ?_)))
 obtain ⟨_, nF2, nM2, Lw1, B2⟩ := nza hF hM N2
 obtain ⟨LL, hM, hF, h0, h1⟩ := up5 Lw1 LL hM hF h0 h1
 refine yL rfl rfl (fun w2 b3 N3 => ?_)
 obtain ⟨hBw2, nF3, nM3, Lw2, B3⟩ := nza hF hM N3
 obtain ⟨B2, ne2_3⟩ := bn B2 N3
 obtain ⟨LL, hM, hF, h0, h1⟩ := up5 Lw2 LL hM hF h0 h1
 refine yJ rfl yN (fun w3 b4 N4 => ?_)
 obtain ⟨hBw3, nF4, nM4, Lw3, B4⟩ := nza hF hM N4
 obtain ⟨B2, ne2_4⟩ := bn B2 N4
 obtain ⟨B3, ne3_4⟩ := bn B3 N4
 obtain ⟨LL, hM, h0, h1⟩ := up4 Lw3 LL hM h0 h1
 refine zA (zF ?_)
 refine xL (R := Rb) (R' := Rb) (st := none) jJ 3 [4, 5, 7] (by decide +kernel) xJ xU (xS _) (fun _ _ _ h => by cases h) ?_
 refine zM (fun _ hR _ => zO rfl rfl (zD (zL rfl yW yN rfl (B2.below hR) rfl rfl (on0 rfl)))) ?_
 refine zM (fun _ hR _ => zO rfl rfl (zD (zL rfl yW yN rfl (B3.below hR) rfl rfl (on0 rfl)))) ?_
 refine zX (vRC (Ins b4 (Ins b3 (Ins b2 M))) (n1 + 2) (-q)) cI (fun wq hR hst => ?_) ?_
 ·refine zK rfl (zD ?_)
  obtain ⟨hM, h1⟩ := ub2 hR hM h1
  refine zH rfl bod80 rfl rfl ?_
  refine (r7neg_c h1 (by omega) hM).mono ?_
  rintro v7 w4 ⟨hB7, xs7, xa7, xd7, rfl, hn7⟩
  exact zA ⟨rfl, hB7, _, rfl, ⟨_, _, _, rfl, hn7⟩⟩
 refine xM (fun wq1 hR1 hpost1 => ?_)
 refine zO rfl rfl (zK rfl (yE rfl (fun v7 hp7 => ?_)))
 obtain ⟨xs7, xa7, xd7, rfl, hn7⟩ := hp7; obtain ⟨oxa7, oxd7, _⟩ := hn7.one
 refine zD ?_
 simp only [List.drop_succ_cons, List.drop_zero, List.drop_nil, List.toList_toArray]
 obtain ⟨LL, hM, h0, B4⟩ := ub4 hR1 LL hM h0 B4
 refine xI rfl yu22 yN rfl rfl rfl rfl (zZ rfl (zZ rfl xF)) rfl rfl rfl (fun w5 b8 N8 => ?_)
 have hBw5 := N8.below
 have nM8 := hM.new N8
 have B8 := N8.blk
 obtain ⟨LL, hM, h0, hn7, B4⟩ := ub5 hBw5 LL hM h0 hn7 B4
 refine zH rfl bod23 rfl rfl ?_
 refine (r7add2 (KBlk.mk B8 nM8) h0 hn7.gen (by omega) (by omega) hM).mono ?_
 rintro v9 w6 ⟨hB9, xs9, xa9, xd9, rfl, hn9⟩
 obtain ⟨LL, B4⟩ := ub2 hB9 LL B4
 obtain ⟨oxa9, oxd9, _⟩ := hn9.one
 refine zW rfl rfl yN B4 rfl rfl (zU rfl (zU (by first | rfl | assumption) (zU (by first | rfl | assumption) jC))) rfl (fun w7 Cw7 B4 => ?_)
 have Lw7 := Le.of_chg (M := (Ins b4 (Ins b3 (Ins b2 M)))) Cw7 zR nF4
 obtain ⟨LL, hn9⟩ := up2 Lw7 LL hn9
 refine zA (zY ?_)
 refine zN ⟨[_], ⟨⟨_, rfl, yU yW yN B4 rfl rfl⟩, trivial⟩, ?_⟩
 dsimp only [zV]
 rw [Rat.sub_eq_add_neg]
 subst hFz
 exact ⟨LL.below (Nat.le_refl _), _, _, _, rfl, (hn9.less (fun k c => zI (zI (zI c)))).up (by omega)⟩
theorem r7cmp_c {p : Rat} {n0 : Nat} {xs0 : Bool} {xa0 xd0 : Value} {q : Rat} {n1 : Nat} {xs1 : Bool} {xa1 xd1 : Value} (h0 : QC M w n0 p xs0 xa0 xd0) (h1 : QC M w n1 q xs1 xa1 xd1) (hl0 : n0 ≤ 1990) (hl1 : n1 ≤ 1990) (hM : OkM M w) :
    CallsV prog 33 [.agg #[.bool xs0, xa0, xd0], .agg #[.bool xs1, xa1, xd1]] w fun r w' => Below w.heap.size w w' ∧ r = .int .i64 (aV p q) := by
 obtain ⟨Fz, hFz, hF, LL⟩ := fz0 M w
 obtain ⟨oxa0, oxd0, _⟩ := h0.one
 obtain ⟨oxa1, oxd1, _⟩ := h1.one
 have hM0 := hM
 refine zP func33 rfl ntmps33 rfl ?_
 refine zF (zC (yL rfl rfl (fun w1 b2 N2 => ?_)))
 obtain ⟨_, nF2, nM2, Lw1, B2⟩ := nza hF hM N2
 obtain ⟨LL, hM, hF, h0, h1⟩ := up5 Lw1 LL hM hF h0 h1
 refine yL rfl rfl (fun w2 b3 N3 => ?_)
 obtain ⟨hBw2, nF3, nM3, Lw2, B3⟩ := nza hF hM N3
 obtain ⟨B2, ne2_3⟩ := bn B2 N3
 obtain ⟨LL, hM, h0, h1⟩ := up4 Lw2 LL hM h0 h1
 refine zE rfl rfl (zA (zF ?_))
 refine xL (R := Rb) (R' := Rb) (st := none) jJ 3 [2, 3, 4, 6, 7] (by decide +kernel) xJ xU (xS _) (fun _ _ _ h => by cases h) ?_
 refine zM (fun _ hR _ => zO rfl rfl (zD (zL rfl yW yN rfl (B2.below hR) rfl rfl (on0 rfl)))) ?_
 refine zX (vRC (Ins b3 (Ins b2 M)) (n0 + 2) (p)) cI (fun wq hR hst => ?_) ?_
 ·refine zK rfl (zD ?_)
  obtain ⟨hM, h0⟩ := ub2 hR hM h0
  refine zH rfl fO rfl rfl ?_
  refine (cN h0 (by omega) hM).mono ?_
  rintro v6 w3 ⟨hB6, xs6, xa6, xd6, rfl, hn6⟩
  exact zA ⟨rfl, hB6, _, rfl, ⟨_, _, _, rfl, hn6⟩⟩
 refine zM (fun _ hR _ => zO rfl rfl (zD (zL rfl yW yN rfl (B3.below hR) rfl rfl (on0 rfl)))) ?_
 refine xM (fun wq1 hR1 hpost1 => ?_)
 refine zO rfl rfl (zO rfl rfl (zO rfl rfl (yE rfl (fun v6 hp6 => ?_))))
 obtain ⟨xs6, xa6, xd6, rfl, hn6⟩ := hp6; obtain ⟨oxa6, oxd6, _⟩ := hn6.one
 refine zK rfl (zD ?_)
 simp only [List.drop_succ_cons, List.drop_zero, List.drop_nil, List.toList_toArray]
 obtain ⟨LL, hM, h0, h1, B2, B3⟩ := ub6 hR1 LL hM h0 h1 B2 B3
 refine zH rfl fO rfl rfl ?_
 refine (cN h1 (by omega) hM).mono ?_
 rintro v8 w4 ⟨hB8, xs8, xa8, xd8, rfl, hn8⟩
 obtain ⟨LL, hM, h0, h1, hn6, B2, B3⟩ := ub7 hB8 LL hM h0 h1 hn6 B2 B3
 obtain ⟨oxa8, oxd8, _⟩ := hn8.one
 refine zW rfl rfl yN B2 rfl rfl (zU rfl (zU (by first | rfl | assumption) (zU (by first | rfl | assumption) jC))) rfl (fun w5 Cw5 B2 => ?_)
 have Lw5 := Le.of_chg (M := (Ins b3 (Ins b2 M))) Cw5 (.inr zR) nF2
 obtain ⟨LL, hM, h0, h1, hn6, hn8⟩ := up6 Lw5 LL hM h0 h1 hn6 hn8
 replace B3 := B3.other Cw5 ne2_3.symm
 refine zW rfl rfl yN B3 rfl rfl (zU rfl (zU (by first | rfl | assumption) (zU (by first | rfl | assumption) jC))) rfl (fun w6 Cw6 B3 => ?_)
 have Lw6 := Le.of_chg (M := (Ins b3 (Ins b2 M))) Cw6 zR nF3
 obtain ⟨LL, hM, h0, h1, hn6, hn8⟩ := up6 Lw6 LL hM h0 h1 hn6 hn8
 replace B2 := B2.other Cw6 ne2_3
 refine zA (zF ?_)
 refine xL (R := Rb) (R' := Rb) (st := none) jJ 12 [4, 15, 17, 20] (by decide +kernel) xJ xU (xS _) (fun _ _ _ h => by cases h) ?_
 refine zM (fun _ _ _ => zO rfl rfl (zD (zJ 0 rfl yu33 rfl rfl xC rfl rfl (on0 rfl)))) ?_
 refine zM (fun _ hR _ => zK rfl (zD (zL rfl xX xC rfl (B2.below hR) rfl rfl (on0 rfl)))) ?_
 refine zM (fun _ _ _ => zO rfl rfl (zD (zJ 2 rfl yu33 rfl rfl xV rfl rfl (on0 rfl)))) ?_
 refine zM (fun _ hR _ => zK rfl (zD (zS rfl yX rfl (B3.below hR) rfl (on0 rfl)))) ?_
 refine zX (vZQ (Ins b3 (Ins b2 M)) ((n1 + 2)) (((q.den : Nat) : Int))) vZQ_m (fun wq hR hst => ?_) ?_
 ·refine zK rfl (zD ?_)
  obtain ⟨hM, hn8⟩ := ub2 hR hM hn8
  refine zH rfl bod90 rfl rfl ?_
  refine (over7_c hn8.d.gen (by omega) hM).mono ?_
  rintro v13 w7 ⟨hB13, xs13, xa13, rfl, hn13⟩
  exact zA ⟨rfl, hB13, _, rfl, ⟨_, _, rfl, hn13⟩⟩
 refine zX (fun v w => ∃ bb xs14 xa14 xs14b xa14b, v = .slice (some ⟨bb, 0, none⟩) 2 2 ∧ KBlk (Ins b3 (Ins b2 M)) w bb 31 [.bool xs14, xa14, .bool xs14b, xa14b] ∧ ZC (Ins b3 (Ins b2 M)) w (n0 + 2) (p.num) xs14 xa14 ∧ ZQ (Ins b3 (Ins b2 M)) w ((n1 + 2)) (((q.den : Nat) : Int)) xs14b xa14b) (fun _ _ _ ⟨bb, xs14, xa14, xs14b, xa14b, e, hk, h0, h1⟩ r => ⟨bb, xs14, xa14, xs14b, xa14b, e, hk.mono (Fz := fun _ => False) (Le.of_below r), h0.mono (Fz := fun _ => False) (Le.of_below r), h1.mono (Fz := fun _ => False) (Le.of_below r)⟩) (fun wq hR hst => ?_) ?_
 ·refine zK rfl (yE rfl (fun v13 hp13 => ?_))
  obtain ⟨xs13, xa13, rfl, hn13⟩ := hp13
  refine zD ?_
  obtain ⟨hM, hn6⟩ := ub2 hR hM hn6
  refine xI rfl yu174 xC rfl rfl rfl rfl (zZ rfl (zZ rfl xF)) rfl rfl rfl (fun w8 b14 N14 => ?_)
  have hBw8 := N14.below
  have nM14 := hM.new N14
  have B14 := N14.blk
  obtain ⟨hn6, hn13⟩ := ub2 hBw8 hn6 hn13
  have hB14 := hBw8
  exact zA ⟨rfl, hB14, _, rfl, ⟨b14, _, _, _, _, rfl, KBlk.mk B14 nM14, hn6.z, hn13⟩⟩
 refine zX (vZC (Ins b3 (Ins b2 M)) (2 * (max ((n0 + 2)) ((n1 + 2))) + 2) (gV ([p.num, ((q.den : Nat) : Int)]))) fF (fun wq hR hst => ?_) ?_
 ·refine yE rfl (fun v14 hp14 => ?_)
  obtain ⟨bb14, xs14, xa14, xs14b, xa14b, rfl, hk14, hn14, hnb14⟩ := hp14; obtain ⟨oxa14, _⟩ := hn14.one
  refine zD ?_
  replace hM := ub1 hR hM
  refine zH rfl fN rfl rfl ?_
  refine (dK (zl2 hk14 hn14.gen hnb14) (by omega) (by first | omega | simp) hM).mono ?_
  rintro v15 w9 ⟨hB15, xs15, xa15, rfl, hn15⟩
  exact zA ⟨rfl, hB15, _, rfl, ⟨_, _, rfl, hn15⟩⟩
 refine zM (fun _ _ _ => zO rfl rfl (zD (zJ 0 rfl yu33 rfl rfl xC rfl rfl (on0 rfl)))) ?_
 refine zM (fun _ hR _ => zK rfl (zD (zL rfl xX xC rfl (B3.below hR) rfl rfl (on0 rfl)))) ?_
 refine zM (fun _ _ _ => zO rfl rfl (zD (zJ 2 rfl yu33 rfl rfl xV rfl rfl (on0 rfl)))) ?_
 refine zM (fun _ hR _ => zK rfl (zD (zS rfl yX rfl (B2.below hR) rfl (on0 rfl)))) ?_
 refine zX (vZQ (Ins b3 (Ins b2 M)) ((n0 + 2)) (((p.den : Nat) : Int))) vZQ_m (fun wq hR hst => ?_) ?_
 ·refine zK rfl (zD ?_)
  obtain ⟨hM, hn6⟩ := ub2 hR hM hn6
  refine zH rfl bod90 rfl rfl ?_
  refine (over7_c hn6.d.gen (by omega) hM).mono ?_
  rintro v20 w10 ⟨hB20, xs20, xa20, rfl, hn20⟩
  exact zA ⟨rfl, hB20, _, rfl, ⟨_, _, rfl, hn20⟩⟩
 refine xM (fun wq2 hR2 hpost2 => ?_)
 refine zO rfl rfl (yE rfl (fun v15 hp15 => ?_))
 obtain ⟨xs15, xa15, rfl, hn15⟩ := hp15
 refine zK rfl (yE rfl (fun v20 hp20 => ?_))
 obtain ⟨xs20, xa20, rfl, hn20⟩ := hp20
 refine zD ?_
 simp only [List.drop_succ_cons, List.drop_zero, List.drop_nil, List.toList_toArray]
 obtain ⟨LL, hM, hn8⟩ := ub3 hR2 LL hM hn8
 refine xI rfl yu174 xC rfl rfl rfl rfl (zZ rfl (zZ rfl xF)) rfl rfl rfl (fun w11 b21 N21 => ?_)
 have hBw11 := N21.below
 have nM21 := hM.new N21
 have B21 := N21.blk
 obtain ⟨LL, hM, hn8, hn15, hn20⟩ := ub5 hBw11 LL hM hn8 hn15 hn20
 refine zH rfl fN rfl rfl ?_
 refine (dK (zl2 ((KBlk.mk B21 nM21)) hn8.z.gen hn20) (by omega) (by first | omega | simp) hM).mono ?_
 rintro v22 w12 ⟨hB22, xs22, xa22, rfl, hn22⟩
 obtain ⟨LL, hM, hn15⟩ := ub3 hB22 LL hM hn15
 refine zH rfl bod88 rfl rfl ?_
 refine (i5sub_c hn15.gen hn22.gen (by omega) (by omega) hM).mono ?_
 rintro v23 w13 ⟨hB23, xs23, xa23, rfl, hn23⟩
 obtain ⟨LL, hM⟩ := ub2 hB23 LL hM
 refine zH rfl bod87 rfl rfl ?_
 refine (i5sign_c hn23.gen (by omega) hM).mono ?_
 rintro v24 w14 ⟨hB24, rfl⟩
 replace LL := ub1 hB24 LL
 refine zE rfl rfl (zA (zY ?_))
 refine zN ⟨[_], ⟨rfl, trivial⟩, ?_⟩
 dsimp only [zV]
 rw [cmp_eq]
 subst hFz
 exact ⟨LL.below (Nat.le_refl _), rfl⟩
theorem r7told_c {p : Rat} {n0 : Nat} {xs0 : Bool} {xa0 xd0 : Value} {q : Rat} {n1 : Nat} {xs1 : Bool} {xa1 xd1 : Value} (h0 : RC M w n0 p xs0 xa0 xd0) (h1 : RC M w n1 q xs1 xa1 xd1) (hl0 : n0 ≤ 20000) (hl1 : n1 ≤ 20000) (hM : OkM M w) :
    CallsV prog 74 [.agg #[.bool xs0, xa0, xd0], .agg #[.bool xs1, xa1, xd1]] w fun r w' => Below w.heap.size w w' ∧ r = .bool (decide (p = q)) := by
 obtain ⟨Fz, hFz, hF, LL⟩ := fz0 M w
 have hM0 := hM
 refine zP func74 rfl ntmps74 rfl ?_
 refine zF (zC (yL rfl rfl (fun w1 b2 N2 => ?_)))
 obtain ⟨_, nF2, nM2, Lw1, B2⟩ := nza hF hM N2
 obtain ⟨LL, hM, hF, h0, h1⟩ := up5 Lw1 LL hM hF h0 h1
 refine yL rfl rfl (fun w2 b3 N3 => ?_)
 obtain ⟨hBw2, nF3, nM3, Lw2, B3⟩ := nza hF hM N3
 obtain ⟨B2, ne2_3⟩ := bn B2 N3
 obtain ⟨LL, hM, h0, h1⟩ := up4 Lw2 LL hM h0 h1
 refine zE rfl rfl (zA (zF (zC (zJ 0 rfl yu33 rfl rfl xC rfl rfl (zL rfl xX xC rfl B2 rfl rfl (zJ 0 rfl yu33 rfl rfl xC rfl rfl (zL rfl xX xC rfl B3 rfl rfl (zH rfl bod136 rfl rfl ?_))))))))
 refine (i5told_c h0.z h1.z (by omega) (by omega) hM).mono ?_
 rintro v9 w3 ⟨hB9, rfl⟩
 obtain ⟨LL, hM, h0, h1, B2, B3⟩ := ub6 hB9 LL hM h0 h1 B2 B3
 refine zB rfl rfl (gE (d := 10) rfl (fun hg1_5 => ?_) (fun hg1_5 => ?_))
 ·refine zQ rfl rfl (zJ 2 rfl yu33 rfl rfl xV rfl rfl (zQ rfl rfl (zS rfl yX rfl B2 rfl (zQ rfl rfl (zJ 2 rfl yu33 rfl rfl xV rfl rfl (zQ rfl rfl (zS rfl yX rfl B3 rfl (zQ rfl rfl (zH rfl bod137 rfl rfl ?_)))))))))
  refine (same_c h0.den h1.den hM).mono ?_
  rintro v15 w4 ⟨hB15, rfl⟩
  replace LL := ub1 hB15 LL
  refine xB rfl rfl rfl (zE rfl rfl (zA (zY ?_)))
  refine zN ⟨[_], ⟨rfl, trivial⟩, ?_⟩
  dsimp only [zV]
  subst hFz
  exact ⟨LL.below (Nat.le_refl _), by congr 1; exact told_q hg1_5⟩
 ·refine zT rfl rfl rfl rfl (zT rfl rfl rfl rfl (zT rfl rfl rfl rfl (zT rfl rfl rfl rfl (zT rfl rfl rfl rfl (xB rfl rfl rfl (zE rfl rfl (zA (zY ?_))))))))
  refine zN ⟨[_], ⟨rfl, trivial⟩, ?_⟩
  dsimp only [zV]
  subst hFz
  exact ⟨LL.below (Nat.le_refl _), by congr 1; exact (decide_eq_false fun c => hg1_5 (by rw [c])).symm⟩
end Go.Proofs.YtfkejnlohkgbgaaGreatDoor
set_option maxRecDepth 100000
namespace Go.Proofs.YtfkejnlohkgbgaaGreatDoor
open Go.SL Go.RowKit Go.Proofs Tryz
variable {M : Nat → Prop} {w : World}
theorem alike_f {p q : P2} (h : p.1 ≠ q.1) : decide (p = q) = false := decide_eq_false fun c => h (by rw [c])
theorem alike_t {p q : P2} (h : p.1 = q.1) : decide (p.2 = q.2) = decide (p = q) := by
  rw [decide_eq_decide]; exact ⟨fun c => Prod.ext h c, fun c => by rw [c]⟩
theorem r8of_c {k : Nat} {l : Nat} (hk : k < 9223372036854775808) (hl : l < 9223372036854775808) (hM : OkM M w) :
    CallsV prog 85 [.int .i64 ((k : Nat) : Int), .int .i64 ((l : Nat) : Int)] w fun r w' => Below w.heap.size w w' ∧ ∃ xsr xar xdr xtr xbr xer, r = .agg #[.bool xsr, xar, xdr, .bool xtr, xbr, xer] ∧ PC M w' (2) ((((k : Nat) : Rat), ((l : Nat) : Rat))) xsr xar xdr xtr xbr xer := by
 obtain ⟨Fz, hFz, hF, LL⟩ := fz0 M w
 have hM0 := hM
 refine zP func85 rfl ntmps85 rfl ?_
 refine zF (zC (yJ rfl xG (fun w1 b4 N4 => ?_)))
 obtain ⟨_, nF4, nM4, Lw1, B4⟩ := nza hF hM N4
 obtain ⟨LL, hM⟩ := up2 Lw1 LL hM
 refine zA (zF (zC (zB rfl rfl (zH rfl fP rfl rfl ?_))))
 refine (eP (k := k)  (by omega) hM).mono ?_
 rintro v6 w2 ⟨hB6, xs6, xa6, xd6, rfl, hn6⟩
 obtain ⟨LL, hM, B4⟩ := ub3 hB6 LL hM B4
 obtain ⟨oxa6, oxd6, _⟩ := hn6.one
 refine zB rfl rfl (zH rfl fP rfl rfl ?_)
 refine (eP (k := l)  (by omega) hM).mono ?_
 rintro v8 w3 ⟨hB8, xs8, xa8, xd8, rfl, hn8⟩
 obtain ⟨LL, hn6, B4⟩ := ub3 hB8 LL hn6 B4
 obtain ⟨oxa8, oxd8, _⟩ := hn8.one
 refine xP rfl dG rfl rfl (zZ (rfl) (zZ (rfl) xF)) rfl (zW rfl rfl xG B4 rfl rfl (zU rfl (zU (by first | rfl | assumption) (zU (by first | rfl | assumption) (zU rfl (zU (by first | rfl | assumption) (zU (by first | rfl | assumption) jC)))))) rfl (fun w4 Cw4 B4 => ?_))
 have Lw4 := Le.of_chg (M := (Ins b4 M)) Cw4 zR nF4
 obtain ⟨LL, hn6, hn8⟩ := up3 Lw4 LL hn6 hn8
 refine zA (zY ?_)
 refine zN ⟨[_], ⟨⟨_, rfl, yU yZ xG B4 rfl rfl⟩, trivial⟩, ?_⟩
 dsimp only [zV]
 subst hFz
 exact ⟨LL.below (Nat.le_refl _), _, _, _, _, _, _, rfl, ((PC.mk2 hn6 hn8).less (fun k c => zI c)).up (by omega)⟩
theorem r8sub_c {p : P2} {n0 : Nat} {xs0 xt0 : Bool} {xa0 xd0 xb0 xe0 : Value} {q : P2} {n1 : Nat} {xs1 xt1 : Bool} {xa1 xd1 xb1 xe1 : Value} (h0 : PQ M w n0 p xs0 xa0 xd0 xt0 xb0 xe0) (h1 : PQ M w n1 q xs1 xa1 xd1 xt1 xb1 xe1) (hl0 : n0 ≤ 960) (hl1 : n1 ≤ 960) (hM : OkM M w) :
    CallsV prog 41 [.agg #[.bool xs0, xa0, xd0, .bool xt0, xb0, xe0], .agg #[.bool xs1, xa1, xd1, .bool xt1, xb1, xe1]] w fun r w' => Below w.heap.size w w' ∧ ∃ xsr xar xdr xtr xbr xer, r = .agg #[.bool xsr, xar, xdr, .bool xtr, xbr, xer] ∧ PC M w' (n0 + n1 + 5) (gQ p q) xsr xar xdr xtr xbr xer := by
 obtain ⟨Fz, hFz, hF, LL⟩ := fz0 M w
 obtain ⟨oxa0, oxd0, oxb0, oxe0, _⟩ := h0.one
 obtain ⟨oxa1, oxd1, oxb1, oxe1, _⟩ := h1.one
 have hM0 := hM
 refine zP func41 rfl ntmps41 rfl ?_
 refine zF (zC (yL rfl rfl (fun w1 b2 N2 => ?_)))
 obtain ⟨_, nF2, nM2, Lw1, B2⟩ := nza hF hM N2
 obtain ⟨LL, hM, hF, h0, h1⟩ := up5 Lw1 LL hM hF h0 h1
 refine yL rfl rfl (fun w2 b3 N3 => ?_)
 obtain ⟨hBw2, nF3, nM3, Lw2, B3⟩ := nza hF hM N3
 obtain ⟨B2, ne2_3⟩ := bn B2 N3
 obtain ⟨LL, hM, hF, h0, h1⟩ := up5 Lw2 LL hM hF h0 h1
 refine yJ rfl xG (fun w3 b4 N4 => ?_)
 obtain ⟨hBw3, nF4, nM4, Lw3, B4⟩ := nza hF hM N4
 obtain ⟨B2, ne2_4⟩ := bn B2 N4
 obtain ⟨B3, ne3_4⟩ := bn B3 N4
 obtain ⟨LL, hM, h0, h1⟩ := up4 Lw3 LL hM h0 h1
 refine zA (zF ?_)
 refine xL (R := Rb) (R' := Rb) (st := none) jJ 9 [4, 9, 11, 13] (by decide +kernel) xJ xU (xS _) (fun _ _ _ h => by cases h) ?_
 refine zM (fun _ _ _ => zO rfl rfl (zD (zJ 0 rfl yu39 rfl rfl yN rfl rfl (on0 rfl)))) ?_
 refine zM (fun _ hR _ => zK rfl (zD (zL rfl yW yN rfl (B2.below hR) rfl rfl (on0 rfl)))) ?_
 refine zM (fun _ _ _ => zO rfl rfl (zD (zJ 0 rfl yu39 rfl rfl yN rfl rfl (on0 rfl)))) ?_
 refine zM (fun _ hR _ => zK rfl (zD (zL rfl yW yN rfl (B3.below hR) rfl rfl (on0 rfl)))) ?_
 refine zX (vRC (Ins b4 (Ins b3 (Ins b2 M))) (n0 + n1 + 5) (p.1 - q.1)) cI (fun wq hR hst => ?_) ?_
 ·refine zK rfl (zK rfl (zD ?_))
  obtain ⟨hM, h0, h1⟩ := ub3 hR hM h0 h1
  refine zH rfl bod22 rfl rfl ?_
  refine (r7sub_c h0.x h1.x (by omega) (by omega) hM).mono ?_
  rintro v9 w4 ⟨hB9, xs9, xa9, xd9, rfl, hn9⟩
  exact zA ⟨rfl, hB9, _, rfl, ⟨_, _, _, rfl, hn9⟩⟩
 refine zM (fun _ _ _ => zO rfl rfl (zD (zJ 3 rfl yu39 rfl rfl yN rfl rfl (on0 rfl)))) ?_
 refine zM (fun _ hR _ => zK rfl (zD (zL rfl yW yN rfl (B2.below hR) rfl rfl (on0 rfl)))) ?_
 refine zM (fun _ _ _ => zO rfl rfl (zD (zJ 3 rfl yu39 rfl rfl yN rfl rfl (on0 rfl)))) ?_
 refine zM (fun _ hR _ => zK rfl (zD (zL rfl yW yN rfl (B3.below hR) rfl rfl (on0 rfl)))) ?_
 refine xM (fun wq1 hR1 hpost1 => ?_)
 refine zO rfl rfl (yE rfl (fun v9 hp9 => ?_))
 obtain ⟨xs9, xa9, xd9, rfl, hn9⟩ := hp9; obtain ⟨oxa9, oxd9, _⟩ := hn9.one
 refine zK rfl (zK rfl (zD ?_))
 simp only [List.drop_succ_cons, List.drop_zero, List.drop_nil, List.toList_toArray]
 obtain ⟨LL, hM, h0, h1, B4⟩ := ub5 hR1 LL hM h0 h1 B4
 refine zH rfl bod22 rfl rfl ?_
 refine (r7sub_c h0.y h1.y (by omega) (by omega) hM).mono ?_
 rintro v14 w5 ⟨hB14, xs14, xa14, xd14, rfl, hn14⟩
 obtain ⟨LL, hn9, B4⟩ := ub3 hB14 LL hn9 B4
 obtain ⟨oxa14, oxd14, _⟩ := hn14.one
 refine xP rfl dG rfl rfl (zZ (rfl) (zZ (rfl) xF)) rfl (zW rfl rfl xG B4 rfl rfl (zU rfl (zU (by first | rfl | assumption) (zU (by first | rfl | assumption) (zU rfl (zU (by first | rfl | assumption) (zU (by first | rfl | assumption) jC)))))) rfl (fun w6 Cw6 B4 => ?_))
 have Lw6 := Le.of_chg (M := (Ins b4 (Ins b3 (Ins b2 M)))) Cw6 zR nF4
 obtain ⟨LL, hn9, hn14⟩ := up3 Lw6 LL hn9 hn14
 refine zA (zY ?_)
 refine zN ⟨[_], ⟨⟨_, rfl, yU yZ xG B4 rfl rfl⟩, trivial⟩, ?_⟩
 dsimp only [zV]
 subst hFz
 exact ⟨LL.below (Nat.le_refl _), _, _, _, _, _, _, rfl, ((PC.mk2 hn9 hn14).less (fun k c => zI (zI (zI c)))).up (by omega)⟩
theorem r8cross_c {p : P2} {n0 : Nat} {xs0 xt0 : Bool} {xa0 xd0 xb0 xe0 : Value} {q : P2} {n1 : Nat} {xs1 xt1 : Bool} {xa1 xd1 xb1 xe1 : Value} (h0 : PQ M w n0 p xs0 xa0 xd0 xt0 xb0 xe0) (h1 : PQ M w n1 q xs1 xa1 xd1 xt1 xb1 xe1) (hl0 : n0 ≤ 475) (hl1 : n1 ≤ 475) (hM : OkM M w) :
    CallsV prog 40 [.agg #[.bool xs0, xa0, xd0, .bool xt0, xb0, xe0], .agg #[.bool xs1, xa1, xd1, .bool xt1, xb1, xe1]] w fun r w' => Below w.heap.size w w' ∧ ∃ xsr xar xdr, r = .agg #[.bool xsr, xar, xdr] ∧ RC M w' (2 * n0 + 2 * n1 + 11) (gY p q) xsr xar xdr := by
 obtain ⟨Fz, hFz, hF, LL⟩ := fz0 M w
 obtain ⟨oxa0, oxd0, oxb0, oxe0, _⟩ := h0.one
 obtain ⟨oxa1, oxd1, oxb1, oxe1, _⟩ := h1.one
 have hM0 := hM
 refine zP func40 rfl ntmps40 rfl ?_
 refine zF (zC (yL rfl rfl (fun w1 b2 N2 => ?_)))
 obtain ⟨_, nF2, nM2, Lw1, B2⟩ := nza hF hM N2
 obtain ⟨LL, hM, hF, h0, h1⟩ := up5 Lw1 LL hM hF h0 h1
 refine yL rfl rfl (fun w2 b3 N3 => ?_)
 obtain ⟨hBw2, nF3, nM3, Lw2, B3⟩ := nza hF hM N3
 obtain ⟨B2, ne2_3⟩ := bn B2 N3
 obtain ⟨LL, hM, hF, h0, h1⟩ := up5 Lw2 LL hM hF h0 h1
 refine yJ rfl yN (fun w3 b4 N4 => ?_)
 obtain ⟨hBw3, nF4, nM4, Lw3, B4⟩ := nza hF hM N4
 obtain ⟨B2, ne2_4⟩ := bn B2 N4
 obtain ⟨B3, ne3_4⟩ := bn B3 N4
 obtain ⟨LL, hM, h0, h1⟩ := up4 Lw3 LL hM h0 h1
 refine zA (zF ?_)
 refine xL (R := Rb) (R' := Rb) (st := none) jJ 11 [4, 10, 15] (by decide +kernel) xJ xU (xS _) (fun _ _ _ h => by cases h) ?_
 refine zM (fun _ _ _ => zO rfl rfl (zD (zJ 0 rfl yu39 rfl rfl yN rfl rfl (on0 rfl)))) ?_
 refine zM (fun _ hR _ => zK rfl (zD (zL rfl yW yN rfl (B2.below hR) rfl rfl (on0 rfl)))) ?_
 refine zM (fun _ _ _ => zO rfl rfl (zD (zJ 3 rfl yu39 rfl rfl yN rfl rfl (on0 rfl)))) ?_
 refine zM (fun _ hR _ => zK rfl (zD (zL rfl yW yN rfl (B3.below hR) rfl rfl (on0 rfl)))) ?_
 refine zX (fun v w => ∃ bb xs9 xa9 xd9 xs9b xa9b xd9b, v = .slice (some ⟨bb, 0, none⟩) 2 2 ∧ KBlk (Ins b4 (Ins b3 (Ins b2 M))) w bb 33 [.bool xs9, xa9, xd9, .bool xs9b, xa9b, xd9b] ∧ QC (Ins b4 (Ins b3 (Ins b2 M))) w (n0) (p.1) xs9 xa9 xd9 ∧ QC (Ins b4 (Ins b3 (Ins b2 M))) w (n1) (q.2) xs9b xa9b xd9b) (fun _ _ _ ⟨bb, xs9, xa9, xd9, xs9b, xa9b, xd9b, e, hk, h0, h1⟩ r => ⟨bb, xs9, xa9, xd9, xs9b, xa9b, xd9b, e, hk.mono (Fz := fun _ => False) (Le.of_below r), h0.mono (Fz := fun _ => False) (Le.of_below r), h1.mono (Fz := fun _ => False) (Le.of_below r)⟩) (fun wq hR hst => ?_) ?_
 ·refine zK rfl (zK rfl (zD ?_))
  obtain ⟨hM, h0, h1⟩ := ub3 hR hM h0 h1
  refine xI rfl yu22 yN rfl rfl rfl rfl (zZ rfl (zZ rfl xF)) rfl rfl rfl (fun w4 b9 N9 => ?_)
  have hBw4 := N9.below
  have nM9 := hM.new N9
  have B9 := N9.blk
  obtain ⟨h0, h1⟩ := ub2 hBw4 h0 h1
  have hB9 := hBw4
  exact zA ⟨rfl, hB9, _, rfl, ⟨b9, _, _, _, _, _, _, rfl, KBlk.mk B9 nM9, h0.x, h1.y⟩⟩
 refine zX (vRC (Ins b4 (Ins b3 (Ins b2 M))) (n0 + n1 + 3) (p.1 * q.2)) cI (fun wq hR hst => ?_) ?_
 ·refine yE rfl (fun v9 hp9 => ?_)
  obtain ⟨bb9, xs9, xa9, xd9, xs9b, xa9b, xd9b, rfl, hk9, hn9, hnb9⟩ := hp9; obtain ⟨oxa9, oxd9, _⟩ := hn9.one
  refine zD ?_
  replace hM := ub1 hR hM
  refine zH rfl bod52 rfl rfl ?_
  refine (r7mul2 hk9 hn9 hnb9 (by omega) (by omega) hM).mono ?_
  rintro v10 w5 ⟨hB10, xs10, xa10, xd10, rfl, hn10⟩
  exact zA ⟨rfl, hB10, _, rfl, ⟨_, _, _, rfl, hn10⟩⟩
 refine zM (fun _ _ _ => zO rfl rfl (zD (zJ 3 rfl yu39 rfl rfl yN rfl rfl (on0 rfl)))) ?_
 refine zM (fun _ hR _ => zK rfl (zD (zL rfl yW yN rfl (B2.below hR) rfl rfl (on0 rfl)))) ?_
 refine zM (fun _ _ _ => zO rfl rfl (zD (zJ 0 rfl yu39 rfl rfl yN rfl rfl (on0 rfl)))) ?_
 refine zM (fun _ hR _ => zK rfl (zD (zL rfl yW yN rfl (B3.below hR) rfl rfl (on0 rfl)))) ?_
 refine zX (fun v w => ∃ bb xs15 xa15 xd15 xs15b xa15b xd15b, v = .slice (some ⟨bb, 0, none⟩) 2 2 ∧ KBlk (Ins b4 (Ins b3 (Ins b2 M))) w bb 33 [.bool xs15, xa15, xd15, .bool xs15b, xa15b, xd15b] ∧ QC (Ins b4 (Ins b3 (Ins b2 M))) w (n0) (p.2) xs15 xa15 xd15 ∧ QC (Ins b4 (Ins b3 (Ins b2 M))) w (n1) (q.1) xs15b xa15b xd15b) (fun _ _ _ ⟨bb, xs15, xa15, xd15, xs15b, xa15b, xd15b, e, hk, h0, h1⟩ r => ⟨bb, xs15, xa15, xd15, xs15b, xa15b, xd15b, e, hk.mono (Fz := fun _ => False) (Le.of_below r), h0.mono (Fz := fun _ => False) (Le.of_below r), h1.mono (Fz := fun _ => False) (Le.of_below r)⟩) (fun wq hR hst => ?_) ?_
 ·refine zK rfl (zK rfl (zD ?_))
  obtain ⟨hM, h0, h1⟩ := ub3 hR hM h0 h1
  refine xI rfl yu22 yN rfl rfl rfl rfl (zZ rfl (zZ rfl xF)) rfl rfl rfl (fun w6 b15 N15 => ?_)
  have hBw6 := N15.below
  have nM15 := hM.new N15
  have B15 := N15.blk
  obtain ⟨h0, h1⟩ := ub2 hBw6 h0 h1
  have hB15 := hBw6
  exact zA ⟨rfl, hB15, _, rfl, ⟨b15, _, _, _, _, _, _, rfl, KBlk.mk B15 nM15, h0.y, h1.x⟩⟩
 refine xM (fun wq1 hR1 hpost1 => ?_)
 refine zO rfl rfl (yE rfl (fun v10 hp10 => ?_))
 obtain ⟨xs10, xa10, xd10, rfl, hn10⟩ := hp10; obtain ⟨oxa10, oxd10, _⟩ := hn10.one
 refine yE rfl (fun v15 hp15 => ?_)
 obtain ⟨bb15, xs15, xa15, xd15, xs15b, xa15b, xd15b, rfl, hk15, hn15, hnb15⟩ := hp15; obtain ⟨oxa15, oxd15, _⟩ := hn15.one; obtain ⟨oxa15b, oxd15b, _⟩ := hnb15.one
 refine zD ?_
 simp only [List.drop_succ_cons, List.drop_zero, List.drop_nil, List.toList_toArray]
 obtain ⟨LL, hM, B4⟩ := ub3 hR1 LL hM B4
 refine zH rfl bod52 rfl rfl ?_
 refine (r7mul2 hk15 hn15 hnb15 (by omega) (by omega) hM).mono ?_
 rintro v16 w7 ⟨hB16, xs16, xa16, xd16, rfl, hn16⟩
 obtain ⟨LL, hM, hn10, B4⟩ := ub4 hB16 LL hM hn10 B4
 obtain ⟨oxa16, oxd16, _⟩ := hn16.one
 refine zH rfl bod22 rfl rfl ?_
 refine (r7sub_c hn10.gen hn16.gen (by omega) (by omega) hM).mono ?_
 rintro v17 w8 ⟨hB17, xs17, xa17, xd17, rfl, hn17⟩
 obtain ⟨LL, B4⟩ := ub2 hB17 LL B4
 obtain ⟨oxa17, oxd17, _⟩ := hn17.one
 refine zW rfl rfl yN B4 rfl rfl (zU rfl (zU (by first | rfl | assumption) (zU (by first | rfl | assumption) jC))) rfl (fun w9 Cw9 B4 => ?_)
 have Lw9 := Le.of_chg (M := (Ins b4 (Ins b3 (Ins b2 M)))) Cw9 zR nF4
 obtain ⟨LL, hn17⟩ := up2 Lw9 LL hn17
 refine zA (zY ?_)
 refine zN ⟨[_], ⟨⟨_, rfl, yU yW yN B4 rfl rfl⟩, trivial⟩, ?_⟩
 dsimp only [zV]
 subst hFz
 exact ⟨LL.below (Nat.le_refl _), _, _, _, rfl, (hn17.less (fun k c => zI (zI (zI c)))).up (by omega)⟩
theorem r8alike_c {p : P2} {n0 : Nat} {xs0 xt0 : Bool} {xa0 xd0 xb0 xe0 : Value} {q : P2} {n1 : Nat} {xs1 xt1 : Bool} {xa1 xd1 xb1 xe1 : Value} (h0 : PC M w n0 p xs0 xa0 xd0 xt0 xb0 xe0) (h1 : PC M w n1 q xs1 xa1 xd1 xt1 xb1 xe1) (hl0 : n0 ≤ 20000) (hl1 : n1 ≤ 20000) (hM : OkM M w) :
    CallsV prog 30 [.agg #[.bool xs0, xa0, xd0, .bool xt0, xb0, xe0], .agg #[.bool xs1, xa1, xd1, .bool xt1, xb1, xe1]] w fun r w' => Below w.heap.size w w' ∧ r = .bool (decide (p = q)) := by
 obtain ⟨Fz, hFz, hF, LL⟩ := fz0 M w
 have hM0 := hM
 refine zP func30 rfl ntmps30 rfl ?_
 refine zF (zC (yL rfl rfl (fun w1 b2 N2 => ?_)))
 obtain ⟨_, nF2, nM2, Lw1, B2⟩ := nza hF hM N2
 obtain ⟨LL, hM, hF, h0, h1⟩ := up5 Lw1 LL hM hF h0 h1
 refine yL rfl rfl (fun w2 b3 N3 => ?_)
 obtain ⟨hBw2, nF3, nM3, Lw2, B3⟩ := nza hF hM N3
 obtain ⟨B2, ne2_3⟩ := bn B2 N3
 obtain ⟨LL, hM, h0, h1⟩ := up4 Lw2 LL hM h0 h1
 refine zE rfl rfl (zA (zF (zC (zJ 0 rfl yu39 rfl rfl yN rfl rfl (zL rfl yW yN rfl B2 rfl rfl (zJ 0 rfl yu39 rfl rfl yN rfl rfl (zL rfl yW yN rfl B3 rfl rfl (zH rfl bod74 rfl rfl ?_))))))))
 refine (r7told_c h0.x h1.x (by omega) (by omega) hM).mono ?_
 rintro v9 w3 ⟨hB9, rfl⟩
 obtain ⟨LL, hM, h0, h1, B2, B3⟩ := ub6 hB9 LL hM h0 h1 B2 B3
 refine zB rfl rfl (gE (d := 10) rfl (fun hg1_5 => ?_) (fun hg1_5 => ?_))
 ·refine zQ rfl rfl (zJ 3 rfl yu39 rfl rfl yN rfl rfl (zQ rfl rfl (zL rfl yW yN rfl B2 rfl rfl (zQ rfl rfl (zJ 3 rfl yu39 rfl rfl yN rfl rfl (zQ rfl rfl (zL rfl yW yN rfl B3 rfl rfl (zQ rfl rfl (zH rfl bod74 rfl rfl ?_)))))))))
  refine (r7told_c h0.y h1.y (by omega) (by omega) hM).mono ?_
  rintro v15 w4 ⟨hB15, rfl⟩
  replace LL := ub1 hB15 LL
  refine xB rfl rfl rfl (zE rfl rfl (zA (zY ?_)))
  refine zN ⟨[_], ⟨rfl, trivial⟩, ?_⟩
  dsimp only [zV]
  rw [← alike_t hg1_5]
  subst hFz
  exact ⟨LL.below (Nat.le_refl _), rfl⟩
 ·refine zT rfl rfl rfl rfl (zT rfl rfl rfl rfl (zT rfl rfl rfl rfl (zT rfl rfl rfl rfl (zT rfl rfl rfl rfl (xB rfl rfl rfl (zE rfl rfl (zA (zY ?_))))))))
  refine zN ⟨[_], ⟨rfl, trivial⟩, ?_⟩
  dsimp only [zV]
  rw [alike_f hg1_5]
  subst hFz
  exact ⟨LL.below (Nat.le_refl _), rfl⟩
theorem r10alike_c {k : Int} {p : P2} {n0 : Nat} {xs0 xt0 : Bool} {xa0 xd0 xb0 xe0 : Value} {q : P2} {n0b : Nat} {xs0b xt0b : Bool} {xa0b xd0b xb0b xe0b : Value} {l : Int} {u : P2} {n1 : Nat} {xs1 xt1 : Bool} {xa1 xd1 xb1 xe1 : Value} {z : P2} {n1b : Nat} {xs1b xt1b : Bool} {xa1b xd1b xb1b xe1b : Value} (h0 : PC M w n0 p xs0 xa0 xd0 xt0 xb0 xe0) (h0b : PC M w n0b q xs0b xa0b xd0b xt0b xb0b xe0b) (h1 : PC M w n1 u xs1 xa1 xd1 xt1 xb1 xe1) (h1b : PC M w n1b z xs1b xa1b xd1b xt1b xb1b xe1b) (hl0 : n0 ≤ 20000) (hl0b : n0b ≤ 20000) (hl1 : n1 ≤ 20000) (hl1b : n1b ≤ 20000) (hM : OkM M w) :
    CallsV prog 27 [.agg #[.int .i8 k, .bool xs0, xa0, xd0, .bool xt0, xb0, xe0, .bool xs0b, xa0b, xd0b, .bool xt0b, xb0b, xe0b], .agg #[.int .i8 l, .bool xs1, xa1, xd1, .bool xt1, xb1, xe1, .bool xs1b, xa1b, xd1b, .bool xt1b, xb1b, xe1b]] w fun r w' => Below w.heap.size w w' ∧ r = .bool (decide ((k, p, q) = (l, u, z))) := by
 obtain ⟨Fz, hFz, hF, LL⟩ := fz0 M w
 have hM0 := hM
 refine zP func27 rfl ntmps27 rfl ?_
 refine zF (zC (yL rfl rfl (fun w1 b2 N2 => ?_)))
 obtain ⟨_, nF2, nM2, Lw1, B2⟩ := nza hF hM N2
 obtain ⟨LL, hM, hF, h0, h0b, h1, h1b⟩ := up7 Lw1 LL hM hF h0 h0b h1 h1b
 refine yL rfl rfl (fun w2 b3 N3 => ?_)
 obtain ⟨hBw2, nF3, nM3, Lw2, B3⟩ := nza hF hM N3
 obtain ⟨B2, ne2_3⟩ := bn B2 N3
 obtain ⟨LL, hM, h0, h0b, h1, h1b⟩ := up6 Lw2 LL hM h0 h0b h1 h1b
 refine zE rfl rfl (zA (zF (zC (zJ 0 rfl yu43 rfl rfl sz41 rfl rfl (zS rfl flat41 rfl B2 rfl (zJ 0 rfl yu43 rfl rfl sz41 rfl rfl (zS rfl flat41 rfl B3 rfl (gI rfl rfl rfl (zB rfl rfl (gE (d := 10) rfl (fun hg1_5 => ?_) (fun hg1_5 => ?_)))))))))))
 ·refine zQ rfl rfl (zJ 1 rfl yu43 rfl rfl xG rfl rfl (zQ rfl rfl (zL rfl yZ xG rfl B2 rfl rfl (zQ rfl rfl (zJ 1 rfl yu43 rfl rfl xG rfl rfl (zQ rfl rfl (zL rfl yZ xG rfl B3 rfl rfl (zQ rfl rfl (zH rfl bod30 rfl rfl ?_)))))))))
  refine (r8alike_c h0 h1 (by omega) (by omega) hM).mono ?_
  rintro v15 w3 ⟨hB15, rfl⟩
  obtain ⟨LL, hM, h0b, h1b, B2, B3⟩ := ub6 hB15 LL hM h0b h1b B2 B3
  refine xB rfl rfl rfl (zB rfl rfl (gE (d := 17) rfl (fun hg1_12 => ?_) (fun hg1_12 => ?_)))
  ·refine zQ rfl rfl (zJ 7 rfl yu43 rfl rfl xG rfl rfl (zQ rfl rfl (zL rfl yZ xG rfl B2 rfl rfl (zQ rfl rfl (zJ 7 rfl yu43 rfl rfl xG rfl rfl (zQ rfl rfl (zL rfl yZ xG rfl B3 rfl rfl (zQ rfl rfl (zH rfl bod30 rfl rfl ?_)))))))))
   refine (r8alike_c h0b h1b (by omega) (by omega) hM).mono ?_
   rintro v22 w4 ⟨hB22, rfl⟩
   replace LL := ub1 hB22 LL
   refine xB rfl rfl rfl (zE rfl rfl (zA (zY ?_)))
   refine zN ⟨[_], ⟨rfl, trivial⟩, ?_⟩
   dsimp only [zV]
   rw [show decide ((k, p, q) = (l, u, z)) = decide (q = z) by simp [hg1_5, hg1_12]]
   subst hFz
   exact ⟨LL.below (Nat.le_refl _), rfl⟩
  ·refine zT rfl rfl rfl rfl (zT rfl rfl rfl rfl (zT rfl rfl rfl rfl (zT rfl rfl rfl rfl (zT rfl rfl rfl rfl (xB rfl rfl rfl (zE rfl rfl (zA (zY ?_))))))))
   refine zN ⟨[_], ⟨rfl, trivial⟩, ?_⟩
   dsimp only [zV]
   rw [show decide ((k, p, q) = (l, u, z)) = false by simp [hg1_12]]
   subst hFz
   exact ⟨LL.below (Nat.le_refl _), rfl⟩
 ·refine zT rfl rfl rfl rfl (zT rfl rfl rfl rfl (zT rfl rfl rfl rfl (zT rfl rfl rfl rfl (zT rfl rfl rfl rfl (xB rfl rfl rfl (zB rfl rfl (zT rfl rfl rfl rfl (zT rfl rfl rfl rfl (zT rfl rfl rfl rfl (zT rfl rfl rfl rfl (zT rfl rfl rfl rfl (xB rfl rfl rfl (zE rfl rfl (zA ?_))))))))))))))
  refine zY ?_
  refine zN ⟨[_], ⟨rfl, trivial⟩, ?_⟩
  dsimp only [zV]
  rw [show decide ((k, p, q) = (l, u, z)) = false by simp [hg1_5]]
  subst hFz
  exact ⟨LL.below (Nat.le_refl _), rfl⟩
end Go.Proofs.YtfkejnlohkgbgaaGreatDoor
