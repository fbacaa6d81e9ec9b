/- Lemmas and walks of functions; no statement. -/
import Derived.Test.YtfkejnlohkgbgaaGreatDoorPd
set_option linter.unusedVariables false
set_option linter.unusedSimpArgs false
set_option maxRecDepth 100000
namespace Go.Proofs.YtfkejnlohkgbgaaGreatDoor
open Go.SL Go.RowKit Go.Proofs Tryz
variable {M : Nat → Prop} {w : World}
theorem meets_a {s t : P2 × P2} (h : 0 < qO (loP s t) (hiP s t)) : jZ s t = noneM := if_pos h
theorem meets_b {sa sb ta tb : P2} (h : ¬ 0 < qO (loP (sa, sb) (ta, tb)) (hiP (sa, sb) (ta, tb))) (h4 : (qL (sa, sb) (loP (sa, sb) (ta, tb)) ∧ qL (ta, tb) (loP (sa, sb) (ta, tb)) ∧ qL (sa, sb) (hiP (sa, sb) (ta, tb)) ∧ qL (ta, tb) (hiP (sa, sb) (ta, tb)))) (hc : qO (loP (sa, sb) (ta, tb)) (hiP (sa, sb) (ta, tb)) = 0) : jZ (sa, sb) (ta, tb) = (1, loP (sa, sb) (ta, tb), hiP (sa, sb) (ta, tb)) := by unfold jZ; rw [if_neg h, if_pos h4, if_pos hc]
theorem meets_c {sa sb ta tb : P2} (h : ¬ 0 < qO (loP (sa, sb) (ta, tb)) (hiP (sa, sb) (ta, tb))) (h4 : (qL (sa, sb) (loP (sa, sb) (ta, tb)) ∧ qL (ta, tb) (loP (sa, sb) (ta, tb)) ∧ qL (sa, sb) (hiP (sa, sb) (ta, tb)) ∧ qL (ta, tb) (hiP (sa, sb) (ta, tb)))) (hc : ¬ qO (loP (sa, sb) (ta, tb)) (hiP (sa, sb) (ta, tb)) = 0) : jZ (sa, sb) (ta, tb) = (2, loP (sa, sb) (ta, tb), hiP (sa, sb) (ta, tb)) := by unfold jZ; rw [if_neg h, if_pos h4, if_neg hc]
theorem meets_d {sa sb ta tb : P2} (h : ¬ 0 < qO (loP (sa, sb) (ta, tb)) (hiP (sa, sb) (ta, tb))) (h4 : ¬ (qL (sa, sb) (loP (sa, sb) (ta, tb)) ∧ qL (ta, tb) (loP (sa, sb) (ta, tb)) ∧ qL (sa, sb) (hiP (sa, sb) (ta, tb)) ∧ qL (ta, tb) (hiP (sa, sb) (ta, tb)))) (hl : ¬ (gY sa sb ta tb ∧ uS (sa, sb) (qF sa sb ta tb) ∧ uS (ta, tb) (qF sa sb ta tb))) : jZ (sa, sb) (ta, tb) = noneM := by unfold jZ; rw [if_neg h, if_neg h4]; exact if_neg hl
theorem meets_e {sa sb ta tb : P2} (h : ¬ 0 < qO (loP (sa, sb) (ta, tb)) (hiP (sa, sb) (ta, tb))) (h4 : ¬ (qL (sa, sb) (loP (sa, sb) (ta, tb)) ∧ qL (ta, tb) (loP (sa, sb) (ta, tb)) ∧ qL (sa, sb) (hiP (sa, sb) (ta, tb)) ∧ qL (ta, tb) (hiP (sa, sb) (ta, tb)))) (hl : (gY sa sb ta tb ∧ uS (sa, sb) (qF sa sb ta tb) ∧ uS (ta, tb) (qF sa sb ta tb))) : jZ (sa, sb) (ta, tb) = (1, qF sa sb ta tb, qF sa sb ta tb) := by unfold jZ; rw [if_neg h, if_neg h4]; exact if_pos hl
theorem mmeets_c {sa : P2} {n0 : Nat} {xs0 xt0 : Bool} {xa0 xd0 xb0 xe0 : Value} {sb : P2} {n0b : Nat} {xs0b xt0b : Bool} {xa0b xd0b xb0b xe0b : Value} {ta : P2} {n1 : Nat} {xs1 xt1 : Bool} {xa1 xd1 xb1 xe1 : Value} {tb : P2} {n1b : Nat} {xs1b xt1b : Bool} {xa1b xd1b xb1b xe1b : Value} (hT : Tab M w) (h0 : PQ M w n0 sa xs0 xa0 xd0 xt0 xb0 xe0) (h0b : PQ M w n0b sb xs0b xa0b xd0b xt0b xb0b xe0b) (h1 : PQ M w n1 ta xs1 xa1 xd1 xt1 xb1 xe1) (h1b : PQ M w n1b tb xs1b xa1b xd1b xt1b xb1b xe1b) (hl0 : n0 ≤ 80) (hl0b : n0b ≤ 80) (hl1 : n1 ≤ 80) (hl1b : n1b ≤ 80) (hM : OkM M w) :
    CallsV prog 84 [.agg #[.bool xs0, xa0, xd0, .bool xt0, xb0, xe0, .bool xs0b, xa0b, xd0b, .bool xt0b, xb0b, xe0b], .agg #[.bool xs1, xa1, xd1, .bool xt1, xb1, xe1, .bool xs1b, xa1b, xd1b, .bool xt1b, xb1b, xe1b]] w fun r w' => Bel w.heap.size w w' ∧ ∃ xsr xar xdr xtr xbr xer xsrb xarb xdrb xtrb xbrb xerb, r = .agg #[.int .i8 (jZ (sa, sb) (ta, tb)).1, .bool xsr, xar, xdr, .bool xtr, xbr, xer, .bool xsrb, xarb, xdrb, .bool xtrb, xbrb, xerb] ∧ PC M w' (8 * (n0 + n0b + n1 + n1b) + 80) ((jZ (sa, sb) (ta, tb)).2.1) xsr xar xdr xtr xbr xer ∧ PC M w' (8 * (n0 + n0b + n1 + n1b) + 80) ((jZ (sa, sb) (ta, tb)).2.2) xsrb xarb xdrb xtrb xbrb xerb := by
 obtain ⟨oxa0, oxd0, oxb0, oxe0, _⟩ := h0.one
 obtain ⟨oxa0b, oxd0b, oxb0b, oxe0b, _⟩ := h0b.one
 obtain ⟨oxa1, oxd1, oxb1, oxe1, _⟩ := h1.one
 obtain ⟨oxa1b, oxd1b, oxb1b, oxe1b, _⟩ := h1b.one
 refine ci M func84 ntmps84 fun Fz hFz hF LL => ?_
 refine zH (zB (yG rfl rfl (fun w1 b2 N2 => ?_)))
 obtain ⟨_, nF2, nM2, Lw1, B2⟩ := nza hF hM N2
 obtain ⟨LL, hM, hF, hT, h0, h0b, h1, h1b⟩ := up8 Lw1 LL hM hF hT h0 h0b h1 h1b
 refine yG rfl rfl (fun w2 b3 N3 => ?_)
 obtain ⟨hBw2, nF3, nM3, Lw2, B3⟩ := nza hF hM N3
 obtain ⟨B2, ne2_3⟩ := bn B2 N3
 obtain ⟨LL, hM, hF, hT, h0, h0b, h1, h1b⟩ := up8 Lw2 LL hM hF hT h0 h0b h1 h1b
 refine yI rfl uX (fun w3 b4 N4 => ?_)
 obtain ⟨hBw3, nF4, nM4, Lw3, B4⟩ := nza hF hM N4
 obtain ⟨B2, ne2_4⟩ := bn B2 N4
 obtain ⟨B3, ne3_4⟩ := bn B3 N4
 obtain ⟨LL, hM, hF, hT, h0, h0b, h1, h1b⟩ := up8 Lw3 LL hM hF hT h0 h0b h1 h1b
 refine zD (zH ?_)
 refine SL.wp_drawS (R := Rg 4) (R' := Rh [(4, (.agg #[(.bool false), (.slice none 0 0), (.slice none 0 0), (.bool false), (.slice none 0 0), (.slice none 0 0)]), 39), (5, (.agg #[(.bool false), (.slice none 0 0), (.slice none 0 0), (.bool false), (.slice none 0 0), (.slice none 0 0)]), 39)] 4 6) (Pr := PrA) (st := some (6, fX 4 (.agg #[(.bool false), (.slice none 0 0), (.slice none 0 0), (.bool false), (.slice none 0 0), (.slice none 0 0)]) 39, fQ 4 (fun b w => ∃ xs5 xa5 xd5 xt5 xb5 xe5, Blk w.1 b 39 [.bool xs5, xa5, xd5, .bool xt5, xb5, xe5] ∧ PQ (Mg (Ins b4 (Ins b3 (Ins b2 M))) w.2) w.1 (n0) (sa) xs5 xa5 xd5 xt5 xb5 xe5))) g0 mixed 7 [2, 3, 4, 5, 6, 14] (by decide +kernel) rg_trans rh_rg (rg_drew _) (fun _ _ _ h => by cases h; exact ⟨by decide, preB0, preB_mono rfl, postB_mono (fun b x y hb ⟨xs5, xa5, xd5, xt5, xb5, xe5, B, h0⟩ hl r => ⟨xs5, xa5, xd5, xt5, xb5, xe5, B.below hl, h0.mono r.le⟩), _, rfl⟩) prA0 prA_mono ?_
 apply gL rfl
 ·intro xq hR hst hPr
  obtain ⟨wq, gq⟩ := xq
  refine qY rfl rfl ?_
  refine xF ?_; dsimp only
  exact zL 0 rfl yu110 rfl rfl yR rfl rfl (zD ⟨rfl, gq, gM rfl rfl (Bel.refl _ _), _, rfl, rfl⟩)
 apply gL rfl
 ·intro xq hR hst hPr
  obtain ⟨wq, gq⟩ := xq
  refine qJ rfl ?_
  refine xF ?_; dsimp only
  replace B2 := B2.rg hR
  exact zM rfl yL yR rfl B2 rfl rfl (zD ⟨rfl, gq, gM rfl rfl (Bel.refl _ _), _, rfl, rfl⟩)
 apply gL rfl
 ·intro xq hR hst hPr
  obtain ⟨wq, gq⟩ := xq
  refine qY rfl rfl ?_
  refine xF ?_; dsimp only
  exact zL 6 rfl yu110 rfl rfl yR rfl rfl (zD ⟨rfl, gq, gM rfl rfl (Bel.refl _ _), _, rfl, rfl⟩)
 apply gL rfl
 ·intro xq hR hst hPr
  obtain ⟨wq, gq⟩ := xq
  refine qJ rfl ?_
  refine xF ?_; dsimp only
  replace B2 := B2.rg hR
  exact zM rfl yL yR rfl B2 rfl rfl (zD ⟨rfl, gq, gM rfl rfl (Bel.refl _ _), _, rfl, rfl⟩)
 refine jK rfl (Pb 4) pb_mono (fun xq hR hst hPr => ?_) ?_
 ·obtain ⟨wq, gq⟩ := xq; refine xF ?_; dsimp only
  exact yI rfl yR (fun w4 b5 N5 => (zD ⟨rfl, _, rh_new rfl hPr N5, _, rfl, pb_new⟩))
 refine jK rfl (Pz 4 5 (.agg #[(.bool false), (.slice none 0 0), (.slice none 0 0), (.bool false), (.slice none 0 0), (.slice none 0 0)]) 39) pz_mono (fun xq hR hst hPr => ?_) ?_
 ·obtain ⟨wq, gq⟩ := xq; refine xF ?_; dsimp only
  exact yI rfl yR (fun w5 b6 N6 => (zD ⟨rfl, _, rh_new rfl hPr N6, _, rfl, pz_new rfl hR N6⟩))
 refine drsS_eff rfl (fun xq hR hpre => ?_) ?_
 ·obtain ⟨wq, gq⟩ := xq
  refine gV rfl (fun v5 hp5 => ?_)
  obtain ⟨b5, rfl, hg5⟩ := hp5; dsimp only at hg5
  refine qJ rfl ?_
  refine xF ?_; dsimp only
  have ge5 := hR.ge hg5
  have nF5 : ¬ Fz b5 := fun c => Nat.not_lt.2 ge5 (hF _ c)
  have nM5 : ¬ (Ins b4 (Ins b3 (Ins b2 M))) b5 := fun c => Nat.not_lt.2 ge5 (hM _ c)
  have ne2_5 : b2 ≠ b5 := by have := B2.lt; omega
  have ne3_5 : b3 ≠ b5 := by have := B3.lt; omega
  have ne4_5 : b4 ≠ b5 := by have := B4.lt; omega
  have Lq : Le Fz (Ins b4 (Ins b3 (Ins b2 M))) w3 (Ins b5 (Mg (Ins b4 (Ins b3 (Ins b2 M))) gq)) wq := hR.le0.trans (Le.less (Mg.ins hg5))
  replace h0 := h0.mono Lq
  have B5 := hpre b5 hg5; rw [kZ] at B5
  refine zV rfl rfl yR B5 rfl rfl (zU (zU (zU (zU (zU (zU xY)))))) rfl (fun w6 Cw6 B5 => ?_)
  have Lw6 := Le.of_chg (M := (Ins b5 (Mg (Ins b4 (Ins b3 (Ins b2 M))) gq))) Cw6 zQ nF5
  replace h0 := h0.mono Lw6
  exact zD ⟨rfl, gq, rh_chg rfl hg5 Cw6, b5, hg5, _, _, _, _, _, _, B5, (h0).mono (Fz := fun _ => False) (Le.less (fun k c => .inr c))⟩
 refine drsS_nil (fun xq hR hpost => ?_)
 obtain ⟨wq1, gq⟩ := xq
 refine qY rfl rfl ?_
 refine qY rfl rfl ?_
 refine qY rfl rfl ?_
 refine gV rfl (fun v5 hp5 => ?_)
 obtain ⟨b5, rfl, hg5⟩ := hp5; dsimp only at hg5
 refine gV rfl (fun v6 hp6 => ?_)
 obtain ⟨b6, rfl, hg6, hne6, B6⟩ := hp6; dsimp only at hg6 B6
 refine qJ rfl ?_
 refine xF ?_; dsimp only
 simp only [jC, jB, jA, xZ]
 obtain ⟨bx, hgx, hQ⟩ := hpost _ _ _ rfl; dsimp only at hgx; obtain rfl : b5 = bx := by rw [hg5] at hgx; exact Option.some.inj hgx
 obtain ⟨xs5, xa5, xd5, xt5, xb5, xe5, B5, hn5⟩ := hQ; dsimp only at B5
 have ge5 := hR.ge hg5
 have nF5 : ¬ Fz b5 := fun c => Nat.not_lt.2 ge5 (hF _ c)
 have nM5 : ¬ (Ins b4 (Ins b3 (Ins b2 M))) b5 := fun c => Nat.not_lt.2 ge5 (hM _ c)
 have ne2_5 : b2 ≠ b5 := by have := B2.lt; omega
 have ne3_5 : b3 ≠ b5 := by have := B3.lt; omega
 have ne4_5 : b4 ≠ b5 := by have := B4.lt; omega
 have ge6 := hR.ge hg6
 have nF6 : ¬ Fz b6 := fun c => Nat.not_lt.2 ge6 (hF _ c)
 have nM6 : ¬ (Ins b4 (Ins b3 (Ins b2 M))) b6 := fun c => Nat.not_lt.2 ge6 (hM _ c)
 have ne2_6 : b2 ≠ b6 := by have := B2.lt; omega
 have ne3_6 : b3 ≠ b6 := by have := B3.lt; omega
 have ne4_6 : b4 ≠ b6 := by have := B4.lt; omega
 have ne5_6 : b5 ≠ b6 := hR.ne hg5 hg6 rfl
 have hsub : ∀ k, (Ins b6 (Ins b5 (Ins b4 (Ins b3 (Ins b2 M))))) k → Mg (Ins b4 (Ins b3 (Ins b2 M))) gq k := (ins_sub (.inl ⟨_, hg6⟩) (ins_sub (.inl ⟨_, hg5⟩) Mg.base))
 have Lq : Le Fz (Ins b4 (Ins b3 (Ins b2 M))) w3 (Ins b6 (Ins b5 (Ins b4 (Ins b3 (Ins b2 M))))) wq1 := hR.le0.trans (Le.less hsub)
 obtain ⟨LL, hM, hF, hT, h0, h0b, h1, h1b⟩ := up8 Lq LL hM hF hT h0 h0b h1 h1b
 replace B2 := B2.rg hR
 replace B3 := B3.rg hR
 replace B4 := B4.rg hR
 replace hn5 : _ := hn5.less hsub
 rw [kZ] at B6
 obtain ⟨oxa5, oxd5, oxb5, oxe5, _⟩ := hn5.one
 refine zV rfl rfl yR B6 rfl rfl (zU (zU (zU (zU (zU (zU xY)))))) rfl (fun w7 Cw7 B6 => ?_)
 obtain ⟨LL, hM, hF, hT, h0, h0b, h1, h1b, hn5⟩ := up9 (lc LL Cw7 zQ nF6) LL hM hF hT h0 h0b h1 h1b hn5
 replace B2 := B2.other Cw7 ne2_6
 replace B3 := B3.other Cw7 ne3_6
 replace B4 := B4.other Cw7 ne4_6
 replace B5 := B5.other Cw7 ne5_6
 refine zD (zH (zH (zB (zL 0 rfl yu110 rfl rfl yR rfl rfl (zM rfl yL yR rfl B3 rfl rfl (zM rfl yL yR rfl B5 rfl rfl (zI rfl (bo func101) rfl rfl ?_)))))))
 refine (cL hT h1 hn5 (by omega) (by omega) hM).mono ?_
 rintro v18 w8 ⟨hB18, rfl⟩
 obtain ⟨LL, hM, hF, hT, h0, h0b, h1, h1b, hn5, B2, B3, B4, B5, B6⟩ := ub14 hB18 LL hM hF hT h0 h0b h1 h1b hn5 B2 B3 B4 B5 B6
 refine uD rfl rfl rfl (zD ?_)
 refine SL.wp_cutb (fun w9 => Le (NB w8 b5) (Ins b6 (Ins b5 (Ins b4 (Ins b3 (Ins b2 M))))) w8 (Ins b6 (Ins b5 (Ins b4 (Ins b3 (Ins b2 M))))) w9 ∧ ∃ xs5j xa5j xd5j xt5j xb5j xe5j, Blk w9 b5 39 [.bool xs5j, xa5j, xd5j, .bool xt5j, xb5j, xe5j] ∧ PQ (Ins b6 (Ins b5 (Ins b4 (Ins b3 (Ins b2 M))))) w9 (n0 + n0b + n1 + n1b) (loP (sa, sb) (ta, tb)) xs5j xa5j xd5j xt5j xb5j xe5j) [(2, _), (3, _), (4, _), (5, _), (6, _), (14, _), (15, _), (16, _), (17, _), (18, _), (19, _)] (zG rfl (zG rfl (zG rfl (zG rfl (zG rfl (zG rfl (zG rfl (zG rfl (zG rfl (zG rfl (zG rfl yE))))))))))) ?_ (fun w9 hJ => ?_)
 ·obtain ⟨Fz, hFz2⟩ : ∃ Fz : Nat → Prop, Fz = NB w8 b5 := ⟨_, rfl⟩
  have hF : FOk Fz w8 := by rw [hFz2]; exact bR
  have nF5 : ¬ Fz b5 := by rw [hFz2]; exact kS
  have LC0 := Le.refl Fz (Ins b6 (Ins b5 (Ins b4 (Ins b3 (Ins b2 M))))) w8
  refine yA rfl (fun hc0 => ?_) (fun hc0 => ?_)
  ·have hlo1 : loP (sa, sb) (ta, tb) = ta := if_pos hc0
   refine zB (zL 0 rfl yu110 rfl rfl yR rfl rfl (zM rfl yL yR rfl B3 rfl rfl (zV rfl rfl yR B5 rfl rfl (zU (zU (zU (zU (zU (zU xY)))))) rfl (fun w10 Cw10 B5 => ?_))))
   obtain ⟨LC0, h1⟩ := up2 (lc LC0 Cw10 (.inr zQ) nF5) LC0 h1
   exact zD (⟨rfl, (zG rfl (zG rfl (zG rfl (zG rfl (zG rfl (zG rfl (zG rfl (zG rfl (zG rfl (zG rfl (zG rfl yE))))))))))), by rw [← hFz2]; exact LC0, _, _, _, _, _, _, B5, by rw [hlo1]; exact (h1).up (by omega)⟩)
  ·have hlo1 : loP (sa, sb) (ta, tb) = sa := if_neg hc0
   exact yH (⟨rfl, (zG rfl (zG rfl (zG rfl (zG rfl (zG rfl (zG rfl (zG rfl (zG rfl (zG rfl (zG rfl (zG rfl yE))))))))))), by rw [← hFz2]; exact LC0, _, _, _, _, _, _, B5, by rw [hlo1]; exact (hn5).up (by omega)⟩)
 obtain ⟨LC00, hJ⟩ := hJ; have LC0 := LC00.refz nF5
 obtain ⟨LL, hM, hF, hT, h0, h0b, h1, h1b⟩ := up8 LC0 LL hM hF hT h0 h0b h1 h1b
 replace B2 := B2.nb LC00 ne2_5
 replace B3 := B3.nb LC00 ne3_5
 replace B4 := B4.nb LC00 ne4_5
 replace B6 := B6.nb LC00 ne5_6.symm
 clear B5
 obtain ⟨xs5j, xa5j, xd5j, xt5j, xb5j, xe5j, B5, hnj5⟩ := hJ; obtain ⟨oxa5j, oxd5j, oxb5j, oxe5j, _⟩ := hnj5.one
 refine zH (zH (zB (zL 6 rfl yu110 rfl rfl yR rfl rfl (zM rfl yL yR rfl B3 rfl rfl (zM rfl yL yR rfl B6 rfl rfl (zI rfl (bo func101) rfl rfl ?_))))))
 refine (cL hT h1b h0b (by omega) (by omega) hM).mono ?_
 rintro v25 w11 ⟨hB25, rfl⟩
 obtain ⟨LL, hM, hF, hT, h0, h0b, h1, h1b, hnj5, B2, B3, B4, B5, B6⟩ := ub14 hB25 LL hM hF hT h0 h0b h1 h1b hnj5 B2 B3 B4 B5 B6
 refine jI rfl rfl rfl (zD ?_)
 refine SL.wp_cutb (fun w12 => Le (NB w11 b6) (Ins b6 (Ins b5 (Ins b4 (Ins b3 (Ins b2 M))))) w11 (Ins b6 (Ins b5 (Ins b4 (Ins b3 (Ins b2 M))))) w12 ∧ ∃ xs6j xa6j xd6j xt6j xb6j xe6j, Blk w12 b6 39 [.bool xs6j, xa6j, xd6j, .bool xt6j, xb6j, xe6j] ∧ PQ (Ins b6 (Ins b5 (Ins b4 (Ins b3 (Ins b2 M))))) w12 (n0 + n0b + n1 + n1b) (hiP (sa, sb) (ta, tb)) xs6j xa6j xd6j xt6j xb6j xe6j) [(2, _), (3, _), (4, _), (5, _), (6, _), (14, _), (15, _), (16, _), (17, _), (18, _), (19, _), (22, _), (23, _), (24, _), (25, _), (26, _)] (zG rfl (zG rfl (zG rfl (zG rfl (zG rfl (zG rfl (zG rfl (zG rfl (zG rfl (zG rfl (zG rfl (zG rfl (zG rfl (zG rfl (zG rfl (zG rfl yE)))))))))))))))) ?_ (fun w12 hJ => ?_)
 ·obtain ⟨Fz, hFz2⟩ : ∃ Fz : Nat → Prop, Fz = NB w11 b6 := ⟨_, rfl⟩
  have hF : FOk Fz w11 := by rw [hFz2]; exact bR
  have nF6 : ¬ Fz b6 := by rw [hFz2]; exact kS
  have LC1 := Le.refl Fz (Ins b6 (Ins b5 (Ins b4 (Ins b3 (Ins b2 M))))) w11
  refine yA rfl (fun hc1 => ?_) (fun hc1 => ?_)
  ·have hhi1 : hiP (sa, sb) (ta, tb) = tb := if_pos hc1
   refine zB (zL 6 rfl yu110 rfl rfl yR rfl rfl (zM rfl yL yR rfl B3 rfl rfl (zV rfl rfl yR B6 rfl rfl (zU (zU (zU (zU (zU (zU xY)))))) rfl (fun w13 Cw13 B6 => ?_))))
   obtain ⟨LC1, h1b⟩ := up2 (lc LC1 Cw13 zQ nF6) LC1 h1b
   exact zD (⟨rfl, (zG rfl (zG rfl (zG rfl (zG rfl (zG rfl (zG rfl (zG rfl (zG rfl (zG rfl (zG rfl (zG rfl (zG rfl (zG rfl (zG rfl (zG rfl (zG rfl yE)))))))))))))))), by rw [← hFz2]; exact LC1, _, _, _, _, _, _, B6, by rw [hhi1]; exact (h1b).up (by omega)⟩)
  ·have hhi1 : hiP (sa, sb) (ta, tb) = sb := if_neg hc1
   exact yH (⟨rfl, (zG rfl (zG rfl (zG rfl (zG rfl (zG rfl (zG rfl (zG rfl (zG rfl (zG rfl (zG rfl (zG rfl (zG rfl (zG rfl (zG rfl (zG rfl (zG rfl yE)))))))))))))))), by rw [← hFz2]; exact LC1, _, _, _, _, _, _, B6, by rw [hhi1]; exact (h0b).up (by omega)⟩)
 obtain ⟨LC10, hJ⟩ := hJ; have LC1 := LC10.refz nF6
 obtain ⟨LL, hM, hF, hT, h0, h0b, h1, h1b, hnj5⟩ := up9 LC1 LL hM hF hT h0 h0b h1 h1b hnj5
 replace B2 := B2.nb LC10 ne2_6
 replace B3 := B3.nb LC10 ne3_6
 replace B4 := B4.nb LC10 ne4_6
 replace B5 := B5.nb LC10 ne5_6
 clear B6
 obtain ⟨xs6j, xa6j, xd6j, xt6j, xb6j, xe6j, B6, hnj6⟩ := hJ; obtain ⟨oxa6j, oxd6j, oxb6j, oxe6j, _⟩ := hnj6.one
 refine zH (zB (zM rfl yL yR rfl B5 rfl rfl (zM rfl yL yR rfl B6 rfl rfl (zI rfl (bo func101) rfl rfl ?_))))
 refine (cL hT hnj5 hnj6 (by omega) (by omega) hM).mono ?_
 rintro v31 w14 ⟨hB31, rfl⟩
 obtain ⟨LL, hM, hF, hT, h0, h0b, h1, h1b, hnj5, hnj6, B2, B3, B4, B5, B6⟩ := ub15 hB31 LL hM hF hT h0 h0b h1 h1b hnj5 hnj6 B2 B3 B4 B5 B6
 refine zF rfl rfl (zD (zH (zH (zB (zA rfl rfl (uD rfl rfl rfl (zD ?_)))))))
 refine yA rfl (fun hc2 => ?_) (fun hc2 => ?_)
 ·refine zH (zB (zI rfl (bo func151) rfl rfl ?_))
  refine (mnone_c   hM).mono ?_
  rintro v34 w15 ⟨hB34, xs34, xa34, xd34, xt34, xb34, xe34, xs34b, xa34b, xd34b, xt34b, xb34b, xe34b, rfl, hn34, hnb34⟩
  obtain ⟨LL, B4⟩ := ub2 hB34 LL B4
  obtain ⟨oxa34, oxd34, oxb34, oxe34, _⟩ := hn34.one; obtain ⟨oxa34b, oxd34b, oxb34b, oxe34b, _⟩ := hnb34.one
  refine zV rfl rfl uX B4 rfl rfl (zU (zU (zU (zU (zU (zU (zU (zU (zU (zU (zU (zU (zU xY))))))))))))) rfl (fun w16 Cw16 B4 => ?_)
  obtain ⟨LL, hn34, hnb34⟩ := up3 (lc LL Cw16 (.inr (.inr zQ)) nF4) LL hn34 hnb34
  refine zD (zW ?_)
  refine lv1 ⟨⟨_, rfl, yQ aZ uX B4 rfl rfl⟩, trivial⟩ ?_
  rw [meets_a hc2]
  subst hFz
  exact ⟨LL.b, _, _, _, _, _, _, _, _, _, _, _, _, rfl, (hn34.less (fun k c => zJ (zJ (zJ (zJ (zJ c)))))).up (by omega), (hnb34.less (fun k c => zJ (zJ (zJ (zJ (zJ c)))))).up (by omega)⟩
 ·refine yH (zH (zH ?_))
  refine SL.wp_cutw (fun w17 => Bel w14.heap.size w14 w17) [(52, .bool (decide (qL (sa, sb) (loP (sa, sb) (ta, tb)) ∧ qL (ta, tb) (loP (sa, sb) (ta, tb)) ∧ qL (sa, sb) (hiP (sa, sb) (ta, tb)) ∧ qL (ta, tb) (hiP (sa, sb) (ta, tb)))))] [(2, _), (3, _), (4, _), (5, _), (6, _), (7, _), (14, _), (15, _), (16, _), (17, _), (18, _), (19, _), (22, _), (23, _), (24, _), (25, _), (26, _), (29, _), (30, _), (31, _), (32, _), (33, _)] (zG rfl (zG rfl (zG rfl (zG rfl (zG rfl (zG rfl (zG rfl (zG rfl (zG rfl (zG rfl (zG rfl (zG rfl (zG rfl (zG rfl (zG rfl (zG rfl (zG rfl (zG rfl (zG rfl (zG rfl (zG rfl (zG rfl yE)))))))))))))))))))))) ?_ (fun w17 hJ => ?_)
  ·obtain ⟨Fz, hFz2, hF⟩ : ∃ Fz : Nat → Prop, Fz = (· < w14.heap.size) ∧ FOk Fz w14 := ⟨_, rfl, fun _ h => h⟩
   have LC9 := Le.refl Fz (Ins b6 (Ins b5 (Ins b4 (Ins b3 (Ins b2 M))))) w14
   refine zB (zM rfl uG uH rfl B2 rfl rfl (zM rfl yL yR rfl B5 rfl rfl (zI rfl (bo func152) rfl rfl ?_)))
   refine (mhas_c hT h0 h0b hnj5 (by omega) (by omega) (by omega) hM).mono ?_
   rintro v37 w18 ⟨hB37, rfl⟩
   obtain ⟨LC9, hM, hT, h0, h0b, h1, h1b, hnj5, hnj6, B2, B3, B5, B6⟩ := fY hB37 LC9 hM hT h0 h0b h1 h1b hnj5 hnj6 B2 B3 B5 B6
   refine zA rfl rfl (gE (d := 38) rfl (fun hg9_3 => ?_) (fun hg9_3 => ?_))
   ·refine zO rfl rfl (zM rfl uG uH rfl B3 rfl rfl (zO rfl rfl (zM rfl yL yR rfl B5 rfl rfl (zO rfl rfl (zI rfl (bo func152) rfl rfl ?_)))))
    refine (mhas_c hT h1 h1b hnj5 (by omega) (by omega) (by omega) hM).mono ?_
    rintro v41 w19 ⟨hB41, rfl⟩
    obtain ⟨LC9, hM, hT, h0, h0b, h1, h1b, hnj6, B2, B3, B6⟩ := fS hB41 LC9 hM hT h0 h0b h1 h1b hnj6 B2 B3 B6
    refine yW rfl rfl rfl (zA rfl rfl (gE (d := 43) rfl (fun hg9_8 => ?_) (fun hg9_8 => ?_)))
    ·refine zO rfl rfl (zM rfl uG uH rfl B2 rfl rfl (zO rfl rfl (zM rfl yL yR rfl B6 rfl rfl (zO rfl rfl (zI rfl (bo func152) rfl rfl ?_)))))
     refine (mhas_c hT h0 h0b hnj6 (by omega) (by omega) (by omega) hM).mono ?_
     rintro v46 w20 ⟨hB46, rfl⟩
     obtain ⟨LC9, hM, hT, h1, h1b, hnj6, B3, B6⟩ := ub8 hB46 LC9 hM hT h1 h1b hnj6 B3 B6
     refine yW rfl rfl rfl (zA rfl rfl (gE (d := 48) rfl (fun hg9_13 => ?_) (fun hg9_13 => ?_)))
     ·refine zO rfl rfl (zM rfl uG uH rfl B3 rfl rfl (zO rfl rfl (zM rfl yL yR rfl B6 rfl rfl (zO rfl rfl (zI rfl (bo func152) rfl rfl ?_)))))
      refine (mhas_c hT h1 h1b hnj6 (by omega) (by omega) (by omega) hM).mono ?_
      rintro v51 w21 ⟨hB51, rfl⟩
      replace LC9 := ub1 hB51 LC9
      exact yW rfl rfl rfl (zD (⟨rfl, zZ rfl (by congr 1; rw [decide_eq_decide]; exact ⟨fun c => ⟨hg9_3, hg9_8, hg9_13, c⟩, fun c => c.2.2.2⟩) (zG rfl (zG rfl (zG rfl (zG rfl (zG rfl (zG rfl (zG rfl (zG rfl (zG rfl (zG rfl (zG rfl (zG rfl (zG rfl (zG rfl (zG rfl (zG rfl (zG rfl (zG rfl (zG rfl (zG rfl (zG rfl (zG rfl yE)))))))))))))))))))))), by subst hFz2; exact LC9.below (Nat.le_refl _)⟩))
     ·exact zR rfl rfl rfl rfl (zR rfl rfl rfl rfl (zR rfl rfl rfl rfl (yW rfl rfl rfl (zD (⟨rfl, zZ rfl (by rw [decide_eq_false fun c : (qL (sa, sb) (loP (sa, sb) (ta, tb)) ∧ qL (ta, tb) (loP (sa, sb) (ta, tb)) ∧ qL (sa, sb) (hiP (sa, sb) (ta, tb)) ∧ qL (ta, tb) (hiP (sa, sb) (ta, tb))) => hg9_13 c.2.2.1]) (zG rfl (zG rfl (zG rfl (zG rfl (zG rfl (zG rfl (zG rfl (zG rfl (zG rfl (zG rfl (zG rfl (zG rfl (zG rfl (zG rfl (zG rfl (zG rfl (zG rfl (zG rfl (zG rfl (zG rfl (zG rfl (zG rfl yE)))))))))))))))))))))), by subst hFz2; exact LC9.below (Nat.le_refl _)⟩)))))
    ·exact zR rfl rfl rfl rfl (zR rfl rfl rfl rfl (zR rfl rfl rfl rfl (yW rfl rfl rfl (zA rfl rfl (zR rfl rfl rfl rfl (zR rfl rfl rfl rfl (zR rfl rfl rfl rfl (yW rfl rfl rfl (zD (⟨rfl, zZ rfl (by rw [decide_eq_false fun c : (qL (sa, sb) (loP (sa, sb) (ta, tb)) ∧ qL (ta, tb) (loP (sa, sb) (ta, tb)) ∧ qL (sa, sb) (hiP (sa, sb) (ta, tb)) ∧ qL (ta, tb) (hiP (sa, sb) (ta, tb))) => hg9_8 c.2.1]) (zG rfl (zG rfl (zG rfl (zG rfl (zG rfl (zG rfl (zG rfl (zG rfl (zG rfl (zG rfl (zG rfl (zG rfl (zG rfl (zG rfl (zG rfl (zG rfl (zG rfl (zG rfl (zG rfl (zG rfl (zG rfl (zG rfl yE)))))))))))))))))))))), by subst hFz2; exact LC9.below (Nat.le_refl _)⟩))))))))))
   ·exact zR rfl rfl rfl rfl (zR rfl rfl rfl rfl (zR rfl rfl rfl rfl (yW rfl rfl rfl (zA rfl rfl (zR rfl rfl rfl rfl (zR rfl rfl rfl rfl (zR rfl rfl rfl rfl (yW rfl rfl rfl (zA rfl rfl (zR rfl rfl rfl rfl (zR rfl rfl rfl rfl (zR rfl rfl rfl rfl (yW rfl rfl rfl (zD (⟨rfl, zZ rfl (by rw [decide_eq_false fun c : (qL (sa, sb) (loP (sa, sb) (ta, tb)) ∧ qL (ta, tb) (loP (sa, sb) (ta, tb)) ∧ qL (sa, sb) (hiP (sa, sb) (ta, tb)) ∧ qL (ta, tb) (hiP (sa, sb) (ta, tb))) => hg9_3 c.1]) (zG rfl (zG rfl (zG rfl (zG rfl (zG rfl (zG rfl (zG rfl (zG rfl (zG rfl (zG rfl (zG rfl (zG rfl (zG rfl (zG rfl (zG rfl (zG rfl (zG rfl (zG rfl (zG rfl (zG rfl (zG rfl (zG rfl yE)))))))))))))))))))))), by subst hFz2; exact LC9.below (Nat.le_refl _)⟩)))))))))))))))
  obtain ⟨LL, hM, hF, hT, h0, h0b, h1, h1b, hnj5, hnj6, B2, B3, B4, B5, B6⟩ := ub15 hJ LL hM hF hT h0 h0b h1 h1b hnj5 hnj6 B2 B3 B4 B5 B6
  refine yA rfl (fun hc3 => ?_) (fun hc3 => ?_)
  ·refine zH (zB (zM rfl yL yR rfl B5 rfl rfl (zM rfl yL yR rfl B6 rfl rfl (xA rfl yu63 yR rfl rfl rfl rfl (zX rfl (zX rfl xD)) rfl rfl rfl (fun w22 b55 N55 => ?_)))))
   have hBw22 := N55.below
   have nM55 := hM.new N55
   have B55 := N55.blk
   obtain ⟨LL, hM, hT, h0, hnj5, hnj6, B4⟩ := ub7 hBw22 LL hM hT h0 hnj5 hnj6 B4
   refine zI rfl (bo func153) rfl rfl ?_
   refine (vnorm_c hT (pl2 ((KBlk.mk B55 nM55)) hnj5 hnj6) (by omega) (by first | omega | simp) hM).mono ?_
   rintro v56 w23 ⟨hB56, xa56, rfl, hn56⟩
   obtain ⟨LL, h0, B4⟩ := ub3 hB56 LL h0 B4
   obtain ⟨oxa56, _⟩ := hn56.one
   refine zF rfl rfl (zD (zH (zH (zB (zA rfl rfl (gN rfl rfl rfl (zD ?_)))))))
   refine yA rfl (fun hc4 => ?_) (fun hc4 => ?_)
   ·refine zH ?_
    refine wd mixed 6 [4, 61, 64] (by decide +kernel) ?_
    refine dv (fun v w => ∃ xa59, v = xa59 ∧ PLc (Ins b6 (Ins b5 (Ins b4 (Ins b3 (Ins b2 M))))) w ((max ((n0 + n0b + n1 + n1b)) (n0 + n0b + n1 + n1b)) + 1) (([loP (sa, sb) (ta, tb), hiP (sa, sb) (ta, tb)])) xa59) (fun wq hR hst => ?_) ?_
    ·refine zP rfl rfl (zC ?_)
     replace hn56 := ub1 hR hn56
     exact zA rfl rfl (zD ⟨rfl, zY _, _, rfl, ⟨_, rfl, hn56⟩⟩)
    refine dv (rPC (Ins b6 (Ins b5 (Ins b4 (Ins b3 (Ins b2 M))))) ((max ((n0 + n0b + n1 + n1b)) (n0 + n0b + n1 + n1b)) + 1) ((([loP (sa, sb) (ta, tb), hiP (sa, sb) (ta, tb)])).getD 0 (0, 0))) (fun wq hR hst => ?_) ?_
    ·refine yD rfl (fun v59 hp59 => ?_)
     obtain ⟨xa59, rfl, hn59⟩ := hp59
     refine zC ?_
     refine jL (dflt := ((0, 0) : P2)) (0) rfl yu63 yR rfl rfl hn59.row (by first | rfl | omega) (by first | omega | (simp; omega) | simp) (fun b60 o60 us60 hul60 hu60 hc60 => ?_)
     obtain ⟨xs60, xa60, xd60, xt60, xb60, xe60, rfl, hn60⟩ := hu60
     exact on1 (zY _) rfl ⟨b60, o60, _, _, _, _, _, _, rfl, hc60, hn60⟩
    refine zS (vPC (Ins b6 (Ins b5 (Ins b4 (Ins b3 (Ins b2 M))))) ((max ((n0 + n0b + n1 + n1b)) (n0 + n0b + n1 + n1b)) + 1) ((([loP (sa, sb) (ta, tb), hiP (sa, sb) (ta, tb)])).getD 0 (0, 0))) qZ (fun wq hR hst => ?_) ?_
    ·refine yD rfl (fun v60 hp60 => ?_)
     obtain ⟨b60, o60, xs60, xa60, xd60, xt60, xb60, xe60, rfl, hc60, hn60⟩ := hp60
     refine zC ?_
     exact jF rfl yL yR rfl hc60 rfl (zD ⟨rfl, zY _, _, rfl, ⟨_, _, _, _, _, _, rfl, hn60⟩⟩)
    refine dv (fun v w => ∃ xa62, v = xa62 ∧ PLc (Ins b6 (Ins b5 (Ins b4 (Ins b3 (Ins b2 M))))) w ((max ((n0 + n0b + n1 + n1b)) (n0 + n0b + n1 + n1b)) + 1) (([loP (sa, sb) (ta, tb), hiP (sa, sb) (ta, tb)])) xa62) (fun wq hR hst => ?_) ?_
    ·refine zP rfl rfl (zC ?_)
     replace hn56 := ub1 hR hn56
     exact zA rfl rfl (zD ⟨rfl, zY _, _, rfl, ⟨_, rfl, hn56⟩⟩)
    refine dv (rPC (Ins b6 (Ins b5 (Ins b4 (Ins b3 (Ins b2 M))))) ((max ((n0 + n0b + n1 + n1b)) (n0 + n0b + n1 + n1b)) + 1) ((([loP (sa, sb) (ta, tb), hiP (sa, sb) (ta, tb)])).getD 1 (0, 0))) (fun wq hR hst => ?_) ?_
    ·refine yD rfl (fun v62 hp62 => ?_)
     obtain ⟨xa62, rfl, hn62⟩ := hp62
     refine zC ?_
     refine jL (dflt := ((0, 0) : P2)) (1) rfl yu63 yR rfl rfl hn62.row (by first | rfl | omega) (by first | omega | (simp; omega) | simp) (fun b63 o63 us63 hul63 hu63 hc63 => ?_)
     obtain ⟨xs63, xa63, xd63, xt63, xb63, xe63, rfl, hn63⟩ := hu63
     exact on1 (zY _) rfl ⟨b63, o63, _, _, _, _, _, _, rfl, hc63, hn63⟩
    refine zS (vPC (Ins b6 (Ins b5 (Ins b4 (Ins b3 (Ins b2 M))))) ((max ((n0 + n0b + n1 + n1b)) (n0 + n0b + n1 + n1b)) + 1) ((([loP (sa, sb) (ta, tb), hiP (sa, sb) (ta, tb)])).getD 1 (0, 0))) qZ (fun wq hR hst => ?_) ?_
    ·refine yD rfl (fun v63 hp63 => ?_)
     obtain ⟨b63, o63, xs63, xa63, xd63, xt63, xb63, xe63, rfl, hc63, hn63⟩ := hp63
     refine zC ?_
     exact jF rfl yL yR rfl hc63 rfl (zD ⟨rfl, zY _, _, rfl, ⟨_, _, _, _, _, _, rfl, hn63⟩⟩)
    refine xI (fun wq12 hR12 hpost12 => ?_)
    refine zP rfl rfl (yD rfl (fun v61 hp61 => ?_))
    obtain ⟨xs61, xa61, xd61, xt61, xb61, xe61, rfl, hn61⟩ := hp61; obtain ⟨oxa61, oxd61, oxb61, oxe61, _⟩ := hn61.one
    refine yD rfl (fun v64 hp64 => ?_)
    obtain ⟨xs64, xa64, xd64, xt64, xb64, xe64, rfl, hn64⟩ := hp64; obtain ⟨oxa64, oxd64, oxb64, oxe64, _⟩ := hn64.one
    refine zC ?_
    simp only [jC, jB, jA, xZ]
    obtain ⟨LL, B4⟩ := ub2 hR12 LL B4
    refine xM rfl fB rfl rfl (zX (gS rfl) (zX (rfl) (zX (rfl) xD))) rfl (zV rfl rfl uX B4 rfl rfl (zU (zU (zU (zU (zU (zU (zU (zU (zU (zU (zU (zU (zU xY))))))))))))) rfl (fun w24 Cw24 B4 => ?_))
    obtain ⟨LL, hn61, hn64⟩ := up3 (lc LL Cw24 (.inr (.inr zQ)) nF4) LL hn61 hn64
    refine zD (zW ?_)
    refine lv1 ⟨⟨_, rfl, yQ aZ uX B4 rfl rfl⟩, trivial⟩ ?_
    rw [meets_b hc2 hc3 hc4]
    subst hFz
    exact ⟨LL.b, _, _, _, _, _, _, _, _, _, _, _, _, rfl, (hn61.less (fun k c => zJ (zJ (zJ (zJ (zJ c)))))).up (by omega), (hn64.less (fun k c => zJ (zJ (zJ (zJ (zJ c)))))).up (by omega)⟩
   ·refine yH (zH ?_)
    refine wd mixed 6 [4, 68, 71] (by decide +kernel) ?_
    refine dv (fun v w => ∃ xa66, v = xa66 ∧ PLc (Ins b6 (Ins b5 (Ins b4 (Ins b3 (Ins b2 M))))) w ((max ((n0 + n0b + n1 + n1b)) (n0 + n0b + n1 + n1b)) + 1) (([loP (sa, sb) (ta, tb), hiP (sa, sb) (ta, tb)])) xa66) (fun wq hR hst => ?_) ?_
    ·refine zP rfl rfl (zC ?_)
     replace hn56 := ub1 hR hn56
     exact zA rfl rfl (zD ⟨rfl, zY _, _, rfl, ⟨_, rfl, hn56⟩⟩)
    refine dv (rPC (Ins b6 (Ins b5 (Ins b4 (Ins b3 (Ins b2 M))))) ((max ((n0 + n0b + n1 + n1b)) (n0 + n0b + n1 + n1b)) + 1) ((([loP (sa, sb) (ta, tb), hiP (sa, sb) (ta, tb)])).getD 0 (0, 0))) (fun wq hR hst => ?_) ?_
    ·refine yD rfl (fun v66 hp66 => ?_)
     obtain ⟨xa66, rfl, hn66⟩ := hp66
     refine zC ?_
     refine jL (dflt := ((0, 0) : P2)) (0) rfl yu63 yR rfl rfl hn66.row (by first | rfl | omega) (by first | omega | (simp; omega) | simp) (fun b67 o67 us67 hul67 hu67 hc67 => ?_)
     obtain ⟨xs67, xa67, xd67, xt67, xb67, xe67, rfl, hn67⟩ := hu67
     exact on1 (zY _) rfl ⟨b67, o67, _, _, _, _, _, _, rfl, hc67, hn67⟩
    refine zS (vPC (Ins b6 (Ins b5 (Ins b4 (Ins b3 (Ins b2 M))))) ((max ((n0 + n0b + n1 + n1b)) (n0 + n0b + n1 + n1b)) + 1) ((([loP (sa, sb) (ta, tb), hiP (sa, sb) (ta, tb)])).getD 0 (0, 0))) qZ (fun wq hR hst => ?_) ?_
    ·refine yD rfl (fun v67 hp67 => ?_)
     obtain ⟨b67, o67, xs67, xa67, xd67, xt67, xb67, xe67, rfl, hc67, hn67⟩ := hp67
     refine zC ?_
     exact jF rfl yL yR rfl hc67 rfl (zD ⟨rfl, zY _, _, rfl, ⟨_, _, _, _, _, _, rfl, hn67⟩⟩)
    refine dv (fun v w => ∃ xa69, v = xa69 ∧ PLc (Ins b6 (Ins b5 (Ins b4 (Ins b3 (Ins b2 M))))) w ((max ((n0 + n0b + n1 + n1b)) (n0 + n0b + n1 + n1b)) + 1) (([loP (sa, sb) (ta, tb), hiP (sa, sb) (ta, tb)])) xa69) (fun wq hR hst => ?_) ?_
    ·refine zP rfl rfl (zC ?_)
     replace hn56 := ub1 hR hn56
     exact zA rfl rfl (zD ⟨rfl, zY _, _, rfl, ⟨_, rfl, hn56⟩⟩)
    refine dv (rPC (Ins b6 (Ins b5 (Ins b4 (Ins b3 (Ins b2 M))))) ((max ((n0 + n0b + n1 + n1b)) (n0 + n0b + n1 + n1b)) + 1) ((([loP (sa, sb) (ta, tb), hiP (sa, sb) (ta, tb)])).getD 1 (0, 0))) (fun wq hR hst => ?_) ?_
    ·refine yD rfl (fun v69 hp69 => ?_)
     obtain ⟨xa69, rfl, hn69⟩ := hp69
     refine zC ?_
     refine jL (dflt := ((0, 0) : P2)) (1) rfl yu63 yR rfl rfl hn69.row (by first | rfl | omega) (by first | omega | (simp; omega) | simp) (fun b70 o70 us70 hul70 hu70 hc70 => ?_)
     obtain ⟨xs70, xa70, xd70, xt70, xb70, xe70, rfl, hn70⟩ := hu70
     exact on1 (zY _) rfl ⟨b70, o70, _, _, _, _, _, _, rfl, hc70, hn70⟩
    refine zS (vPC (Ins b6 (Ins b5 (Ins b4 (Ins b3 (Ins b2 M))))) ((max ((n0 + n0b + n1 + n1b)) (n0 + n0b + n1 + n1b)) + 1) ((([loP (sa, sb) (ta, tb), hiP (sa, sb) (ta, tb)])).getD 1 (0, 0))) qZ (fun wq hR hst => ?_) ?_
    ·refine yD rfl (fun v70 hp70 => ?_)
     obtain ⟨b70, o70, xs70, xa70, xd70, xt70, xb70, xe70, rfl, hc70, hn70⟩ := hp70
     refine zC ?_
     exact jF rfl yL yR rfl hc70 rfl (zD ⟨rfl, zY _, _, rfl, ⟨_, _, _, _, _, _, rfl, hn70⟩⟩)
    refine xI (fun wq13 hR13 hpost13 => ?_)
    refine zP rfl rfl (yD rfl (fun v68 hp68 => ?_))
    obtain ⟨xs68, xa68, xd68, xt68, xb68, xe68, rfl, hn68⟩ := hp68; obtain ⟨oxa68, oxd68, oxb68, oxe68, _⟩ := hn68.one
    refine yD rfl (fun v71 hp71 => ?_)
    obtain ⟨xs71, xa71, xd71, xt71, xb71, xe71, rfl, hn71⟩ := hp71; obtain ⟨oxa71, oxd71, oxb71, oxe71, _⟩ := hn71.one
    refine zC ?_
    simp only [jC, jB, jA, xZ]
    obtain ⟨LL, B4⟩ := ub2 hR13 LL B4
    refine xM rfl fB rfl rfl (zX (gS rfl) (zX (rfl) (zX (rfl) xD))) rfl (zV rfl rfl uX B4 rfl rfl (zU (zU (zU (zU (zU (zU (zU (zU (zU (zU (zU (zU (zU xY))))))))))))) rfl (fun w25 Cw25 B4 => ?_))
    obtain ⟨LL, hn68, hn71⟩ := up3 (lc LL Cw25 (.inr (.inr zQ)) nF4) LL hn68 hn71
    refine zD (zW ?_)
    refine lv1 ⟨⟨_, rfl, yQ aZ uX B4 rfl rfl⟩, trivial⟩ ?_
    rw [meets_c hc2 hc3 hc4]
    subst hFz
    exact ⟨LL.b, _, _, _, _, _, _, _, _, _, _, _, _, rfl, (hn68.less (fun k c => zJ (zJ (zJ (zJ (zJ c)))))).up (by omega), (hn71.less (fun k c => zJ (zJ (zJ (zJ (zJ c)))))).up (by omega)⟩
  ·refine yH (zH (zB (zL 0 rfl yu110 rfl rfl yR rfl rfl (zM rfl yL yR rfl B2 rfl rfl (zL 6 rfl yu110 rfl rfl yR rfl rfl (zM rfl yL yR rfl B2 rfl rfl (zL 0 rfl yu110 rfl rfl yR rfl rfl (zM rfl yL yR rfl B3 rfl rfl (zL 6 rfl yu110 rfl rfl yR rfl rfl (zM rfl yL yR rfl B3 rfl rfl (zI rfl (bo func37) rfl rfl ?_)))))))))))
   refine (mlines_c hT h0 h0b h1 h1b (by omega) (by omega) (by omega) (by omega) hM).mono ?_
   rintro v82 w26 ⟨hB82, xs82, xa82, xd82, xt82, xb82, xe82, rfl, hn82⟩
   obtain ⟨LL, hM, hF, hT, h0, h0b, h1, h1b, B2, B3, B4, B5, B6⟩ := fY hB82 LL hM hF hT h0 h0b h1 h1b B2 B3 B4 B5 B6
   obtain ⟨oxa82, oxd82, oxb82, oxe82, _⟩ := hn82.one
   refine zA rfl rfl (yK rfl rfl rfl (yK rfl rfl rfl (yI rfl yR (fun w27 b9 N9 => ?_))))
   obtain ⟨hBw27, nF9, nM9, Lw27, B9⟩ := nza hF hM N9
   obtain ⟨B2, ne2_9⟩ := bn B2 N9
   obtain ⟨B3, ne3_9⟩ := bn B3 N9
   obtain ⟨B4, ne4_9⟩ := bn B4 N9
   have lt5_9 := B5.lt
   have ne5_9 := N9.ne lt5_9
   have lt6_9 := B6.lt
   have ne6_9 := N9.ne lt6_9
   obtain ⟨LL, hM, hT, h0, h0b, h1, h1b, hn82⟩ := up8 Lw27 LL hM hT h0 h0b h1 h1b hn82
   refine zV rfl rfl yR B9 rfl rfl (zU (zU (zU (zU (zU (zU xY)))))) rfl (fun w28 Cw28 B9 => ?_)
   obtain ⟨LL, hM, hT, h0, h0b, h1, h1b, hn82⟩ := up8 (lc LL Cw28 zQ nF9) LL hM hT h0 h0b h1 h1b hn82
   replace B2 := B2.other Cw28 ne2_9
   replace B3 := B3.other Cw28 ne3_9
   replace B4 := B4.other Cw28 ne4_9
   refine zF rfl rfl (zD (zH (zH (zB (zA rfl rfl (gX rfl rfl (zA rfl rfl (bH (d := 87) rfl (fun hg15_2 => ?_) (fun hg15_2 => ?_)))))))))
   ·refine zR rfl rfl rfl rfl (zR rfl rfl rfl rfl (zR rfl rfl rfl rfl (zR rfl rfl rfl rfl (yW rfl rfl rfl (zA rfl rfl (zR rfl rfl rfl rfl (zR rfl rfl rfl rfl (zR rfl rfl rfl rfl (zR rfl rfl rfl rfl (yW rfl rfl rfl (zD (kT rfl (zH (zB ?_))))))))))))))
    refine zI rfl (bo func151) rfl rfl ?_
    refine (mnone_c   hM).mono ?_
    rintro v99 w29 ⟨hB99, xs99, xa99, xd99, xt99, xb99, xe99, xs99b, xa99b, xd99b, xt99b, xb99b, xe99b, rfl, hn99, hnb99⟩
    obtain ⟨LL, B4⟩ := ub2 hB99 LL B4
    obtain ⟨oxa99, oxd99, oxb99, oxe99, _⟩ := hn99.one; obtain ⟨oxa99b, oxd99b, oxb99b, oxe99b, _⟩ := hnb99.one
    refine zV rfl rfl uX B4 rfl rfl (zU (zU (zU (zU (zU (zU (zU (zU (zU (zU (zU (zU (zU xY))))))))))))) rfl (fun w30 Cw30 B4 => ?_)
    obtain ⟨LL, hn99, hnb99⟩ := up3 (lc LL Cw30 (.inr (.inr (.inr zQ))) nF4) LL hn99 hnb99
    refine zD (zW ?_)
    refine lv1 ⟨⟨_, rfl, yQ aZ uX B4 rfl rfl⟩, trivial⟩ ?_
    have hl : ¬ (gY sa sb ta tb ∧ uS (sa, sb) (qF sa sb ta tb) ∧ uS (ta, tb) (qF sa sb ta tb)) := fun c => by simp [c.1] at hg15_2
    rw [meets_d hc2 hc3 hl]
    subst hFz
    exact ⟨LL.b, _, _, _, _, _, _, _, _, _, _, _, _, rfl, (hn99.less (fun k c => zJ (zJ (zJ (zJ (zJ (zJ c))))))).up (by omega), (hnb99.less (fun k c => zJ (zJ (zJ (zJ (zJ (zJ c))))))).up (by omega)⟩
   ·refine zO rfl rfl (zM rfl uG uH rfl B2 rfl rfl (zO rfl rfl (zM rfl yL yR rfl B9 rfl rfl (zO rfl rfl (zI rfl (bo func154) rfl rfl ?_)))))
    refine (mspans_c hT h0 h0b hn82.gen (by omega) (by omega) (by omega) hM).mono ?_
    rintro v90 w31 ⟨hB90, rfl⟩
    obtain ⟨LL, hM, hT, h1, h1b, hn82, B3, B4, B9⟩ := ub9 hB90 LL hM hT h1 h1b hn82 B3 B4 B9
    refine zO rfl rfl (gX rfl rfl (yW rfl rfl rfl (zA rfl rfl (bH (d := 93) rfl (fun hg15_8 => ?_) (fun hg15_8 => ?_)))))
    ·refine zR rfl rfl rfl rfl (zR rfl rfl rfl rfl (zR rfl rfl rfl rfl (zR rfl rfl rfl rfl (yW rfl rfl rfl (zD (kT rfl (zH (zB (zI rfl (bo func151) rfl rfl ?_)))))))))
     refine (mnone_c   hM).mono ?_
     rintro v99 w32 ⟨hB99, xs99, xa99, xd99, xt99, xb99, xe99, xs99b, xa99b, xd99b, xt99b, xb99b, xe99b, rfl, hn99, hnb99⟩
     obtain ⟨LL, B4⟩ := ub2 hB99 LL B4
     obtain ⟨oxa99, oxd99, oxb99, oxe99, _⟩ := hn99.one; obtain ⟨oxa99b, oxd99b, oxb99b, oxe99b, _⟩ := hnb99.one
     refine zV rfl rfl uX B4 rfl rfl (zU (zU (zU (zU (zU (zU (zU (zU (zU (zU (zU (zU (zU xY))))))))))))) rfl (fun w33 Cw33 B4 => ?_)
     obtain ⟨LL, hn99, hnb99⟩ := up3 (lc LL Cw33 (.inr (.inr (.inr zQ))) nF4) LL hn99 hnb99
     refine zD (zW ?_)
     refine lv1 ⟨⟨_, rfl, yQ aZ uX B4 rfl rfl⟩, trivial⟩ ?_
     have hl : ¬ (gY sa sb ta tb ∧ uS (sa, sb) (qF sa sb ta tb) ∧ uS (ta, tb) (qF sa sb ta tb)) := fun c => by simp [c.2.1] at hg15_8
     rw [meets_d hc2 hc3 hl]
     subst hFz
     exact ⟨LL.b, _, _, _, _, _, _, _, _, _, _, _, _, rfl, (hn99.less (fun k c => zJ (zJ (zJ (zJ (zJ (zJ c))))))).up (by omega), (hnb99.less (fun k c => zJ (zJ (zJ (zJ (zJ (zJ c))))))).up (by omega)⟩
    ·refine zO rfl rfl (zM rfl uG uH rfl B3 rfl rfl (zO rfl rfl (zM rfl yL yR rfl B9 rfl rfl (zO rfl rfl (zI rfl (bo func154) rfl rfl ?_)))))
     refine (mspans_c hT h1 h1b hn82.gen (by omega) (by omega) (by omega) hM).mono ?_
     rintro v96 w34 ⟨hB96, rfl⟩
     obtain ⟨LL, hM, hn82, B4, B9⟩ := ub5 hB96 LL hM hn82 B4 B9
     refine zO rfl rfl (gX rfl rfl (yW rfl rfl rfl (zD ?_)))
     refine qI rfl (fun hc5 => ?_) (fun hc5 => ?_)
     ·refine zH (zB (zI rfl (bo func151) rfl rfl ?_))
      refine (mnone_c   hM).mono ?_
      rintro v99 w35 ⟨hB99, xs99, xa99, xd99, xt99, xb99, xe99, xs99b, xa99b, xd99b, xt99b, xb99b, xe99b, rfl, hn99, hnb99⟩
      obtain ⟨LL, B4⟩ := ub2 hB99 LL B4
      obtain ⟨oxa99, oxd99, oxb99, oxe99, _⟩ := hn99.one; obtain ⟨oxa99b, oxd99b, oxb99b, oxe99b, _⟩ := hnb99.one
      refine zV rfl rfl uX B4 rfl rfl (zU (zU (zU (zU (zU (zU (zU (zU (zU (zU (zU (zU (zU xY))))))))))))) rfl (fun w36 Cw36 B4 => ?_)
      obtain ⟨LL, hn99, hnb99⟩ := up3 (lc LL Cw36 (.inr (.inr (.inr zQ))) nF4) LL hn99 hnb99
      refine zD (zW ?_)
      refine lv1 ⟨⟨_, rfl, yQ aZ uX B4 rfl rfl⟩, trivial⟩ ?_
      have hl : ¬ (gY sa sb ta tb ∧ uS (sa, sb) (qF sa sb ta tb) ∧ uS (ta, tb) (qF sa sb ta tb)) := fun c => by simp [c.2.2] at hc5
      rw [meets_d hc2 hc3 hl]
      subst hFz
      exact ⟨LL.b, _, _, _, _, _, _, _, _, _, _, _, _, rfl, (hn99.less (fun k c => zJ (zJ (zJ (zJ (zJ (zJ c))))))).up (by omega), (hnb99.less (fun k c => zJ (zJ (zJ (zJ (zJ (zJ c))))))).up (by omega)⟩
     ·refine yH (zH (zB (zM rfl yL yR rfl B9 rfl rfl (zM rfl yL yR rfl B9 rfl rfl (xM rfl fB rfl rfl (zX (gS rfl) (zX (rfl) (zX (rfl) xD))) rfl (zV rfl rfl uX B4 rfl rfl (zU (zU (zU (zU (zU (zU (zU (zU (zU (zU (zU (zU (zU xY))))))))))))) rfl (fun w37 Cw37 B4 => ?_)))))))
      obtain ⟨LL, hn82⟩ := up2 (lc LL Cw37 (.inr (.inr (.inr zQ))) nF4) LL hn82
      refine zD (zW ?_)
      refine lv1 ⟨⟨_, rfl, yQ aZ uX B4 rfl rfl⟩, trivial⟩ ?_
      have hl : (gY sa sb ta tb ∧ uS (sa, sb) (qF sa sb ta tb) ∧ uS (ta, tb) (qF sa sb ta tb)) := ⟨by simpa using hg15_2, by simpa using hg15_8, by simpa using hc5⟩
      rw [meets_e hc2 hc3 hl]
      subst hFz
      exact ⟨LL.b, _, _, _, _, _, _, _, _, _, _, _, _, rfl, (hn82.less (fun k c => zJ (zJ (zJ (zJ (zJ (zJ c))))))).up (by omega), (hn82.less (fun k c => zJ (zJ (zJ (zJ (zJ (zJ c))))))).up (by omega)⟩
theorem msegs_c {p : P2} {n0 : Nat} {xs0 xt0 : Bool} {xa0 xd0 xb0 xe0 : Value} {q : P2} {n1 : Nat} {xs1 xt1 : Bool} {xa1 xd1 xb1 xe1 : Value} {u : P2} {n2 : Nat} {xs2 xt2 : Bool} {xa2 xd2 xb2 xe2 : Value} {z : P2} {n3 : Nat} {xs3 xt3 : Bool} {xa3 xd3 xb3 xe3 : Value} (hT : Tab M w) (h0 : PQ M w n0 p xs0 xa0 xd0 xt0 xb0 xe0) (h1 : PQ M w n1 q xs1 xa1 xd1 xt1 xb1 xe1) (h2 : PQ M w n2 u xs2 xa2 xd2 xt2 xb2 xe2) (h3 : PQ M w n3 z xs3 xa3 xd3 xt3 xb3 xe3) (hl0 : n0 ≤ 80) (hl1 : n1 ≤ 80) (hl2 : n2 ≤ 80) (hl3 : n3 ≤ 80) (hM : OkM M w) :
    CallsV prog 26 [.agg #[.bool xs0, xa0, xd0, .bool xt0, xb0, xe0], .agg #[.bool xs1, xa1, xd1, .bool xt1, xb1, xe1], .agg #[.bool xs2, xa2, xd2, .bool xt2, xb2, xe2], .agg #[.bool xs3, xa3, xd3, .bool xt3, xb3, xe3]] w fun r w' => Bel w.heap.size w w' ∧ ∃ xsr xar xdr xtr xbr xer xsrb xarb xdrb xtrb xbrb xerb, r = .agg #[.int .i8 (cD p q u z).1, .bool xsr, xar, xdr, .bool xtr, xbr, xer, .bool xsrb, xarb, xdrb, .bool xtrb, xbrb, xerb] ∧ PC M w' (16 * (n0 + n1 + n2 + n3) + 80) ((cD p q u z).2.1) xsr xar xdr xtr xbr xer ∧ PC M w' (16 * (n0 + n1 + n2 + n3) + 80) ((cD p q u z).2.2) xsrb xarb xdrb xtrb xbrb xerb := by
 obtain ⟨oxa0, oxd0, oxb0, oxe0, _⟩ := h0.one
 obtain ⟨oxa1, oxd1, oxb1, oxe1, _⟩ := h1.one
 obtain ⟨oxa2, oxd2, oxb2, oxe2, _⟩ := h2.one
 obtain ⟨oxa3, oxd3, oxb3, oxe3, _⟩ := h3.one
 refine ci M func26 ntmps26 fun Fz hFz hF LL => ?_
 refine zH (zB (yG rfl rfl (fun w1 b4 N4 => ?_)))
 obtain ⟨_, nF4, nM4, Lw1, B4⟩ := nza hF hM N4
 obtain ⟨LL, hM, hF, hT, h0, h1, h2, h3⟩ := up8 Lw1 LL hM hF hT h0 h1 h2 h3
 refine yG rfl rfl (fun w2 b5 N5 => ?_)
 obtain ⟨hBw2, nF5, nM5, Lw2, B5⟩ := nza hF hM N5
 obtain ⟨B4, ne4_5⟩ := bn B4 N5
 obtain ⟨LL, hM, hF, hT, h0, h1, h2, h3⟩ := up8 Lw2 LL hM hF hT h0 h1 h2 h3
 refine yG rfl rfl (fun w3 b6 N6 => ?_)
 obtain ⟨hBw3, nF6, nM6, Lw3, B6⟩ := nza hF hM N6
 obtain ⟨B4, ne4_6⟩ := bn B4 N6
 obtain ⟨B5, ne5_6⟩ := bn B5 N6
 obtain ⟨LL, hM, hF, hT, h0, h1, h2, h3⟩ := up8 Lw3 LL hM hF hT h0 h1 h2 h3
 refine yG rfl rfl (fun w4 b7 N7 => ?_)
 obtain ⟨hBw4, nF7, nM7, Lw4, B7⟩ := nza hF hM N7
 obtain ⟨B4, ne4_7⟩ := bn B4 N7
 obtain ⟨B5, ne5_7⟩ := bn B5 N7
 obtain ⟨B6, ne6_7⟩ := bn B6 N7
 obtain ⟨LL, hM, hF, hT, h0, h1, h2, h3⟩ := up8 Lw4 LL hM hF hT h0 h1 h2 h3
 refine yI rfl uX (fun w5 b8 N8 => ?_)
 obtain ⟨hBw5, nF8, nM8, Lw5, B8⟩ := nza hF hM N8
 obtain ⟨B4, ne4_8⟩ := bn B4 N8
 obtain ⟨B5, ne5_8⟩ := bn B5 N8
 obtain ⟨B6, ne6_8⟩ := bn B6 N8
 obtain ⟨B7, ne7_8⟩ := bn B7 N8
 obtain ⟨LL, hM, hT, h0, h1, h2, h3⟩ := up7 Lw5 LL hM hT h0 h1 h2 h3
 refine zD (zH ?_)
 refine wd mixed 5 [8, 11, 12, 13] (by decide +kernel) ?_
 refine zN (fun _ hR _ => zP rfl rfl (zC (zM rfl yL yR rfl (B4.below hR) rfl rfl (on0 rfl)))) ?_
 refine zN (fun _ hR _ => zP rfl rfl (zC (zM rfl yL yR rfl (B5.below hR) rfl rfl (on0 rfl)))) ?_
 refine dv (fun v w => ∃ xs11 xa11 xd11 xt11 xb11 xe11 xs11b xa11b xd11b xt11b xb11b xe11b, v = .agg #[.bool xs11, xa11, xd11, .bool xt11, xb11, xe11, .bool xs11b, xa11b, xd11b, .bool xt11b, xb11b, xe11b] ∧ PQ (Ins b8 (Ins b7 (Ins b6 (Ins b5 (Ins b4 M))))) w (max n0 n1) ((aG p q).1) xs11 xa11 xd11 xt11 xb11 xe11 ∧ PQ (Ins b8 (Ins b7 (Ins b6 (Ins b5 (Ins b4 M))))) w (max n0 n1) ((aG p q).2) xs11b xa11b xd11b xt11b xb11b xe11b) (fun wq hR hst => ?_) ?_
 ·refine zK rfl (zK rfl (zC ?_))
  obtain ⟨hM, hT, h0, h1⟩ := ub4 hR hM hT h0 h1
  refine zI rfl (bo func83) rfl rfl ?_
  refine (mfrom_c hT h0 h1 (by omega) (by omega) hM).mono ?_
  rintro v11 w6 ⟨hB11, xs11, xa11, xd11, xt11, xb11, xe11, xs11b, xa11b, xd11b, xt11b, xb11b, xe11b, rfl, hn11, hnb11⟩
  obtain ⟨oxa11, oxd11, oxb11, oxe11, _⟩ := hn11.one
  exact on1 hB11 rfl ⟨_, _, _, _, _, _, _, _, _, _, _, _, rfl, hn11, hnb11⟩
 refine zN (fun _ hR _ => zP rfl rfl (zC (zM rfl yL yR rfl (B6.below hR) rfl rfl (on0 rfl)))) ?_
 refine zN (fun _ hR _ => zP rfl rfl (zC (zM rfl yL yR rfl (B7.below hR) rfl rfl (on0 rfl)))) ?_
 refine xI (fun wq1 hR1 hpost1 => ?_)
 refine zP rfl rfl (yD rfl (fun v11 hp11 => ?_))
 obtain ⟨xs11, xa11, xd11, xt11, xb11, xe11, xs11b, xa11b, xd11b, xt11b, xb11b, xe11b, rfl, hn11, hnb11⟩ := hp11; obtain ⟨oxa11, oxd11, oxb11, oxe11, _⟩ := hn11.one; obtain ⟨oxa11b, oxd11b, oxb11b, oxe11b, _⟩ := hnb11.one
 refine zK rfl (zK rfl (zC ?_))
 simp only [jC, jB, jA, xZ]
 obtain ⟨LL, hM, hT, h2, h3, B8⟩ := ub6 hR1 LL hM hT h2 h3 B8
 refine zI rfl (bo func83) rfl rfl ?_
 refine (mfrom_c hT h2 h3 (by omega) (by omega) hM).mono ?_
 rintro v14 w7 ⟨hB14, xs14, xa14, xd14, xt14, xb14, xe14, xs14b, xa14b, xd14b, xt14b, xb14b, xe14b, rfl, hn14, hnb14⟩
 obtain ⟨LL, hM, hT, hn11, hnb11, B8⟩ := ub6 hB14 LL hM hT hn11 hnb11 B8
 obtain ⟨oxa14, oxd14, oxb14, oxe14, _⟩ := hn14.one; obtain ⟨oxa14b, oxd14b, oxb14b, oxe14b, _⟩ := hnb14.one
 refine zI rfl (bo func84) rfl rfl ?_
 refine (mmeets_c hT hn11 hnb11 hn14 hnb14 (by omega) (by omega) (by omega) (by omega) hM).mono ?_
 rintro v15 w8 ⟨hB15, xs15, xa15, xd15, xt15, xb15, xe15, xs15b, xa15b, xd15b, xt15b, xb15b, xe15b, rfl, hn15, hnb15⟩
 obtain ⟨LL, B8⟩ := ub2 hB15 LL B8
 obtain ⟨oxa15, oxd15, oxb15, oxe15, _⟩ := hn15.one; obtain ⟨oxa15b, oxd15b, oxb15b, oxe15b, _⟩ := hnb15.one
 refine zV rfl rfl uX B8 rfl rfl (zU (zU (zU (zU (zU (zU (zU (zU (zU (zU (zU (zU (zU xY))))))))))))) rfl (fun w9 Cw9 B8 => ?_)
 obtain ⟨LL, hn15, hnb15⟩ := up3 (lc LL Cw9 zQ nF8) LL hn15 hnb15
 refine zD (zW ?_)
 refine lv1 ⟨⟨_, rfl, yQ aZ uX B8 rfl rfl⟩, trivial⟩ ?_
 subst hFz
 exact ⟨LL.b, _, _, _, _, _, _, _, _, _, _, _, _, rfl, (hn15.less (fun k c => zJ (zJ (zJ (zJ (zJ c)))))).up (by omega), (hnb15.less (fun k c => zJ (zJ (zJ (zJ (zJ c)))))).up (by omega)⟩
theorem mmeets2_c {p : P2} {n0 : Nat} {xs0 xt0 : Bool} {xa0 xd0 xb0 xe0 : Value} {q : P2} {n1 : Nat} {xs1 xt1 : Bool} {xa1 xd1 xb1 xe1 : Value} {u : P2} {n2 : Nat} {xs2 xt2 : Bool} {xa2 xd2 xb2 xe2 : Value} {z : P2} {n3 : Nat} {xs3 xt3 : Bool} {xa3 xd3 xb3 xe3 : Value} (hT : Tab M w) (h0 : PQ M w n0 p xs0 xa0 xd0 xt0 xb0 xe0) (h1 : PQ M w n1 q xs1 xa1 xd1 xt1 xb1 xe1) (h2 : PQ M w n2 u xs2 xa2 xd2 xt2 xb2 xe2) (h3 : PQ M w n3 z xs3 xa3 xd3 xt3 xb3 xe3) (hl0 : n0 ≤ 80) (hl1 : n1 ≤ 80) (hl2 : n2 ≤ 80) (hl3 : n3 ≤ 80) (hM : OkM M w) :
    CallsV prog 28 [.agg #[.bool xs0, xa0, xd0, .bool xt0, xb0, xe0], .agg #[.bool xs1, xa1, xd1, .bool xt1, xb1, xe1], .agg #[.bool xs2, xa2, xd2, .bool xt2, xb2, xe2], .agg #[.bool xs3, xa3, xd3, .bool xt3, xb3, xe3]] w fun r w' => Bel w.heap.size w w' ∧ r = .bool (decide ((cD p q u z).1 ≠ 0)) := by
 refine ci M func28 ntmps28 fun Fz hFz hF LL => ?_
 refine zH (zB (yG rfl rfl (fun w1 b4 N4 => ?_)))
 obtain ⟨_, nF4, nM4, Lw1, B4⟩ := nza hF hM N4
 obtain ⟨LL, hM, hF, hT, h0, h1, h2, h3⟩ := up8 Lw1 LL hM hF hT h0 h1 h2 h3
 refine yG rfl rfl (fun w2 b5 N5 => ?_)
 obtain ⟨hBw2, nF5, nM5, Lw2, B5⟩ := nza hF hM N5
 obtain ⟨B4, ne4_5⟩ := bn B4 N5
 obtain ⟨LL, hM, hF, hT, h0, h1, h2, h3⟩ := up8 Lw2 LL hM hF hT h0 h1 h2 h3
 refine yG rfl rfl (fun w3 b6 N6 => ?_)
 obtain ⟨hBw3, nF6, nM6, Lw3, B6⟩ := nza hF hM N6
 obtain ⟨B4, ne4_6⟩ := bn B4 N6
 obtain ⟨B5, ne5_6⟩ := bn B5 N6
 obtain ⟨LL, hM, hF, hT, h0, h1, h2, h3⟩ := up8 Lw3 LL hM hF hT h0 h1 h2 h3
 refine yG rfl rfl (fun w4 b7 N7 => ?_)
 obtain ⟨hBw4, nF7, nM7, Lw4, B7⟩ := nza hF hM N7
 obtain ⟨B4, ne4_7⟩ := bn B4 N7
 obtain ⟨B5, ne5_7⟩ := bn B5 N7
 obtain ⟨B6, ne6_7⟩ := bn B6 N7
 obtain ⟨LL, hM, hT, h0, h1, h2, h3⟩ := up7 Lw4 LL hM hT h0 h1 h2 h3
 refine zF rfl rfl (zD (zH (zB (zM rfl yL yR rfl B4 rfl rfl (zM rfl yL yR rfl B5 rfl rfl (zM rfl yL yR rfl B6 rfl rfl (zM rfl yL yR rfl B7 rfl rfl (zI rfl (bo func26) rfl rfl ?_))))))))
 refine (msegs_c hT h0 h1 h2 h3 (by omega) (by omega) (by omega) (by omega) hM).mono ?_
 rintro v13 w5 ⟨hB13, xs13, xa13, xd13, xt13, xb13, xe13, xs13b, xa13b, xd13b, xt13b, xb13b, xe13b, rfl, hn13, hnb13⟩
 replace LL := ub1 hB13 LL
 obtain ⟨oxa13, oxd13, oxb13, oxe13, _⟩ := hn13.one
 refine ops_fieldc rfl yu43 rfl sz41 flat41 rfl rfl (bO rfl rfl rfl (zF rfl rfl (zD (zW ?_))))
 refine lv1 ⟨rfl, trivial⟩ ?_
 subst hFz
 exact ⟨LL.b, rfl⟩
end Go.Proofs.YtfkejnlohkgbgaaGreatDoor
set_option maxRecDepth 100000
namespace Go.Proofs.YtfkejnlohkgbgaaGreatDoor
open Go.SL Go.RowKit Go.Proofs Tryz
variable {M : Nat → Prop} {w : World}
theorem ZQ.neg {n : Nat} {z : Int} {s : Bool} {a : Value} (h : ZQ M w n z s a) : ZQ M w n (-z) (!s) a := by
  obtain ⟨xs, h1, h2, h3⟩ := h.ex
  exact ⟨xs, h1, h2, by rw [← h3]; cases s <;> simp [zv]⟩
theorem zc_zero {n : Nat} : ZC M w n 0 false (.slice none 0 0) := ⟨by simp, by simpa [xQ] using (aN (M := M) (w := w)), by simp [xQ]⟩
theorem ZC.sign {n : Nat} {z : Int} {s : Bool} {a : Value} (h : ZC M w n z s a) : (((limbs z.natAbs).length : Int) = 0 → z = 0) ∧ (s = true → z < 0) ∧ (s = false → 0 ≤ z) := by
  refine ⟨fun c => ?_, fun c => ?_, fun c => ?_⟩
  · have := xR.1 (show (limbs z.natAbs).length = 0 by omega); omega
  · have := h.sgn; rw [c] at this; exact of_decide_eq_true this.symm
  · have := h.sgn; rw [c] at this; have := of_decide_eq_false this.symm; omega
theorem sum_take {l : List Int} {s : Nat} (h : s < l.length) : (l.take (s + 1)).sum = (l.take s).sum + l.getD s 0 := by
  rw [(qA (0 : Int) h).1, List.sum_append]; simp
def qD (l : List Int) : Int := l.foldl (· * ·) 1
theorem prod_take {l : List Int} {s : Nat} (h : s < l.length) : qD (l.take (s + 1)) = qD (l.take s) * l.getD s 0 := by
  rw [(qA (0 : Int) h).1, qD, List.foldl_append]; rfl
theorem uJ {z : Int} {n0 : Nat} {xs0 : Bool} {xa0 : Value} (h0 : ZQ M w n0 z xs0 xa0) (hl0 : n0 ≤ 1000000) (hM : OkM M w) :
    CallsV prog 155 [.agg #[.bool xs0, xa0]] w fun r w' => Bel w.heap.size w w' ∧ ∃ xsr xar, r = .agg #[.bool xsr, xar] ∧ ZC M w' (n0) (z) xsr xar := by
 obtain ⟨oxa0, _⟩ := h0.one
 obtain ⟨xs, hx, hxl, hz⟩ := h0.ex
 refine ci M func155 ntmps155 fun Fz hFz hF LL => ?_
 refine zH (zB (yG rfl rfl (fun w1 b1 N1 => ?_)))
 obtain ⟨_, nF1, nM1, Lw1, B1⟩ := nza hF hM N1
 obtain ⟨LL, hM, hF, hx⟩ := up4 Lw1 LL hM hF hx
 refine yI rfl xE (fun w2 b2 N2 => ?_)
 obtain ⟨hBw2, nF2, nM2, Lw2, B2⟩ := nza hF hM N2
 obtain ⟨B1, ne1_2⟩ := bn B1 N2
 obtain ⟨LL, hM, hx⟩ := up3 Lw2 LL hM hx
 refine zD (zH (zB (zL 1 rfl yu31 rfl rfl xV rfl rfl (zT rfl yU rfl B1 rfl (zI rfl (bo func86) rfl rfl ?_)))))
 refine (qQ hx (by omega) hM).mono ?_
 rintro v6 w3 ⟨hB6, hf6⟩
 have hM6 := hM
 have hS6 := LL.size
 obtain ⟨LL, hx, B1, B2⟩ := ub4 hB6 LL hx B1 B2
 have hn6 := hf6.nat hM6
 refine zF rfl rfl (zD (zH (zB (zL 0 rfl yu31 rfl rfl sz4 rfl rfl (zT rfl uP rfl B1 rfl (zA rfl rfl (bH (d := 9) rfl (fun hg2_2 => ?_) (fun hg2_2 => ?_))))))))
 ·refine zO rfl rfl (zA rfl rfl (zO rfl rfl ?_))
  first | refine yP rfl yu29 rfl hn6.slc ?_ | refine yT rfl yu29 rfl ?_
  refine zO rfl rfl (uD rfl rfl rfl (yW rfl rfl rfl (zA rfl rfl (xM rfl bA rfl rfl (zX (gS rfl) (zX (gS (by first | rfl | exact yX (by assumption) | exact yZ (by assumption) | assumption)) xD)) rfl (zV rfl rfl xE B2 rfl rfl (zU (zU xY)) rfl (fun w4 Cw4 B2 => ?_))))))
  obtain ⟨LL, hx, hn6⟩ := up3 (lc LL Cw4 zQ nF2) LL hx hn6
  refine zD (zW ?_)
  refine lv1 ⟨⟨_, rfl, yQ xX xE B2 rfl rfl⟩, trivial⟩ ?_
  have hle := yN xs hx.lt
  subst hz; subst hFz
  refine ⟨LL.b, _, _, rfl, ?_, by rw [uQ]; exact hn6.less fun k c => zJ (zJ c), by rw [uQ]; omega⟩
  rw [zv_neg, hg2_2]; rfl
 ·refine zR rfl rfl rfl rfl (zR rfl rfl rfl rfl (zR rfl rfl rfl rfl (yW rfl rfl rfl (zA rfl rfl (xM rfl bA rfl rfl (zX (gS rfl) (zX (gS (by first | rfl | exact yX (by assumption) | exact yZ (by assumption) | assumption)) xD)) rfl (zV rfl rfl xE B2 rfl rfl (zU (zU xY)) rfl (fun w5 Cw5 B2 => ?_)))))))
  obtain ⟨LL, hx, hn6⟩ := up3 (lc LL Cw5 zQ nF2) LL hx hn6
  refine zD (zW ?_)
  refine lv1 ⟨⟨_, rfl, yQ xX xE B2 rfl rfl⟩, trivial⟩ ?_
  have hle := yN xs hx.lt
  subst hz; subst hFz
  refine ⟨LL.b, _, _, rfl, ?_, by rw [uQ]; exact hn6.less fun k c => zJ (zJ c), by rw [uQ]; omega⟩
  rw [zv_neg, hg2_2]; rfl
theorem i5of_c {k : Nat} (hk : k < 9223372036854775808) (hM : OkM M w) :
    CallsV prog 79 [.int .i64 ((k : Nat) : Int)] w fun r w' => Bel w.heap.size w w' ∧ ∃ xsr xar, r = .agg #[.bool xsr, xar] ∧ ZC M w' (2) (((k : Nat) : Int)) xsr xar := by
 refine ci M func79 ntmps79 fun Fz hFz hF LL => ?_
 refine zH (zB (yI rfl xE (fun w1 b2 N2 => ?_)))
 obtain ⟨_, nF2, nM2, Lw1, B2⟩ := nza hF hM N2
 obtain ⟨LL, hM⟩ := up2 Lw1 LL hM
 refine zD (zH (zH (zB (zA rfl rfl (jI rfl rfl rfl (zD ?_))))))
 refine yA rfl (fun hp => absurd hp (by omega)) (fun hc0 => ?_)
 refine yH (zH (zB (zA rfl rfl (jE rfl yu3 yu170 rfl (by omega) (zI rfl (bo func148) rfl rfl ?_)))))
 refine (rof_c (n := k) (by omega) hM).mono ?_
 rintro v14 w2 ⟨hB14, hf14⟩
 have hM14 := hM
 have hS14 := LL.size
 obtain ⟨LL, B2⟩ := ub2 hB14 LL B2
 have hn14 := hf14.nat hM14
 refine kQ rfl bA xE rfl (zX (gS (by first | rfl | exact yX (by assumption) | exact yZ (by assumption) | assumption)) xD) rfl rfl (zV rfl rfl xE B2 rfl rfl (zU (zU xY)) rfl (fun w3 Cw3 B2 => ?_))
 obtain ⟨LL, hn14⟩ := up2 (lc LL Cw3 zQ nF2) LL hn14
 refine zD (zW ?_)
 refine lv1 ⟨⟨_, rfl, yQ xX xE B2 rfl rfl⟩, trivial⟩ ?_
 subst hFz
 exact ⟨LL.b, _, _, rfl, (decide_eq_false (by omega)).symm, hn14.less fun k c => zJ c, xT (by simp; omega)⟩
theorem i5sign_c {z : Int} {n0 : Nat} {xs0 : Bool} {xa0 : Value} (h0 : ZQ M w n0 z xs0 xa0) (hl0 : n0 ≤ 1000000) (hM : OkM M w) :
    CallsV prog 87 [.agg #[.bool xs0, xa0]] w fun r w' => Bel w.heap.size w w' ∧ r = .int .i64 (z).sign := by
 obtain ⟨oxa0, _⟩ := h0.one
 refine ci M func87 ntmps87 fun Fz hFz hF LL => ?_
 refine zH (zB (yG rfl rfl (fun w1 b1 N1 => ?_)))
 obtain ⟨_, nF1, nM1, Lw1, B1⟩ := nza hF hM N1
 obtain ⟨LL, hM, h0⟩ := up3 Lw1 LL hM h0
 refine zF rfl rfl (zD (zH (zB (zM rfl xX xE rfl B1 rfl rfl (zI rfl (bo func155) rfl rfl ?_)))))
 refine (uJ h0 (by omega) hM).mono ?_
 rintro v4 w2 ⟨hB4, xs4, xa4, rfl, hn4⟩
 obtain ⟨LL, B1⟩ := ub2 hB4 LL B1
 obtain ⟨oxa4, _⟩ := hn4.one
 refine zV rfl rfl xE B1 rfl rfl (zU (zU xY)) rfl (fun w3 Cw3 B1 => ?_)
 obtain ⟨LL, hn4⟩ := up2 (lc LL Cw3 zQ nF1) LL hn4
 refine zD (zH (yC (zH (zB (zL 1 rfl yu31 rfl rfl xV rfl rfl (zT rfl yU rfl B1 rfl (yP rfl yu29 rfl hn4.num.slc (gN rfl rfl rfl (zF rfl rfl (zD ?_))))))))))
 refine yA rfl (fun hc0 => ?_) (fun hc0 => ?_)
 ·refine zH (zB (zF rfl rfl (zD (zW ?_))))
  refine lv1 ⟨rfl, trivial⟩ ?_
  rw [hn4.sign.1 hc0]
  subst hFz
  exact ⟨LL.b, rfl⟩
 ·refine zH (zB (zL 0 rfl yu31 rfl rfl sz4 rfl rfl (zT rfl uP rfl B1 rfl (zF rfl rfl (zD ?_)))))
  refine qI rfl (fun hc1 => ?_) (fun hc1 => ?_)
  ·refine zH (zB (zF rfl rfl (zD (zW ?_))))
   refine lv1 ⟨rfl, trivial⟩ ?_
   rw [Int.sign_eq_neg_one_of_neg (hn4.sign.2.1 hc1)]
   subst hFz
   exact ⟨LL.b, rfl⟩
  ·refine yH (zH (zB (zF rfl rfl (zD (zW ?_)))))
   refine lv1 ⟨rfl, trivial⟩ ?_
   have hp := hn4.sign.2.2 hc1
   rw [Int.sign_eq_one_of_pos (by have : z ≠ 0 := fun c => hc0 (by rw [c]; simp [xQ]); omega)]
   subst hFz
   exact ⟨LL.b, rfl⟩
theorem i5neg_c {z : Int} {n0 : Nat} {xs0 : Bool} {xa0 : Value} (h0 : ZQ M w n0 z xs0 xa0) (hl0 : n0 ≤ 1000000) (hM : OkM M w) :
    CallsV prog 149 [.agg #[.bool xs0, xa0]] w fun r w' => Bel w.heap.size w w' ∧ ∃ xsr xar, r = .agg #[.bool xsr, xar] ∧ ZC M w' (n0) (-z) xsr xar := by
 obtain ⟨oxa0, _⟩ := h0.one
 refine ci M func149 ntmps149 fun Fz hFz hF LL => ?_
 refine zH (zB (yG rfl rfl (fun w1 b1 N1 => ?_)))
 obtain ⟨_, nF1, nM1, Lw1, B1⟩ := nza hF hM N1
 obtain ⟨LL, hM, hF, h0⟩ := up4 Lw1 LL hM hF h0
 refine yI rfl xE (fun w2 b2 N2 => ?_)
 obtain ⟨hBw2, nF2, nM2, Lw2, B2⟩ := nza hF hM N2
 obtain ⟨B1, ne1_2⟩ := bn B1 N2
 obtain ⟨LL, hM, h0⟩ := up3 Lw2 LL hM h0
 refine zD (zH (zB (zL 0 rfl yu31 rfl rfl sz4 rfl rfl (zT rfl uP rfl B1 rfl (gX rfl rfl (zL 1 rfl yu31 rfl rfl xV rfl rfl (zT rfl yU rfl B1 rfl (xM rfl bA rfl rfl (zX (gS rfl) (zX (gS (by first | rfl | assumption)) xD)) rfl (zI rfl (bo func155) rfl rfl ?_)))))))))
 refine (uJ h0.neg (by omega) hM).mono ?_
 rintro v9 w3 ⟨hB9, xs9, xa9, rfl, hn9⟩
 obtain ⟨LL, B2⟩ := ub2 hB9 LL B2
 obtain ⟨oxa9, _⟩ := hn9.one
 refine zV rfl rfl xE B2 rfl rfl (zU (zU xY)) rfl (fun w4 Cw4 B2 => ?_)
 obtain ⟨LL, hn9⟩ := up2 (lc LL Cw4 zQ nF2) LL hn9
 refine zD (zW ?_)
 refine lv1 ⟨⟨_, rfl, yQ xX xE B2 rfl rfl⟩, trivial⟩ ?_
 subst hFz
 exact ⟨LL.b, _, _, rfl, (hn9.less (fun k c => zJ (zJ c))).up (by omega)⟩
theorem i5two_c {z : Int} {n0 : Nat} {xs0 : Bool} {xa0 : Value} {y : Int} {n1 : Nat} {xs1 : Bool} {xa1 : Value} (h0 : ZQ M w n0 z xs0 xa0) (h1 : ZQ M w n1 y xs1 xa1) (hl0 : n0 ≤ 400000) (hl1 : n1 ≤ 400000) (hM : OkM M w) :
    CallsV prog 203 [.agg #[.bool xs0, xa0], .agg #[.bool xs1, xa1]] w fun r w' => Bel w.heap.size w w' ∧ ∃ xsr xar, r = .agg #[.bool xsr, xar] ∧ ZC M w' (max n0 n1 + 1) (z + y) xsr xar := by
 obtain ⟨Fz, hFz, hF, _⟩ := fz0 M w
 obtain ⟨oxa0, _⟩ := h0.one
 obtain ⟨oxa1, _⟩ := h1.one
 obtain ⟨xs, hx, hxl, hz⟩ := h0.ex
 obtain ⟨ys, hy, hyl, hzy⟩ := h1.ex
 have hvx := jH hx.lt hxl
 have hvy := jH hy.lt hyl
 have ex := yN xs hx.lt
 have ey := yN ys hy.lt
 have esx := yS (Nat.sub_le (val xs) (val ys))
 have esy := yS (Nat.sub_le (val ys) (val xs))
 have esum : (limbs (val xs + val ys)).length ≤ max n0 n1 + 1 := xT (by
   have a1 : (4294967296 : Nat) ^ n0 ≤ 4294967296 ^ max n0 n1 := Nat.pow_le_pow_right (by omega) (by omega)
   have a2 : (4294967296 : Nat) ^ n1 ≤ 4294967296 ^ max n0 n1 := Nat.pow_le_pow_right (by omega) (by omega)
   rw [Nat.pow_succ]; generalize (4294967296 : Nat) ^ max n0 n1 = B at *; omega)
 have LL := Le.refl Fz M w
 refine jP func203 rfl ntmps203 rfl ?_
 refine zH (zB (yG rfl rfl (fun w1 b2 N2 => ?_)))
 obtain ⟨_, nF2, nM2, Lw1, B2⟩ := nza hF hM N2
 obtain ⟨LL, hM, hF, hx, hy⟩ := up5 Lw1 LL hM hF hx hy
 refine yG rfl rfl (fun w2 b3 N3 => ?_)
 obtain ⟨hBw2, nF3, nM3, Lw2, B3⟩ := nza hF hM N3
 obtain ⟨B2, ne2_3⟩ := bn B2 N3
 obtain ⟨LL, hM, hF, hx, hy⟩ := up5 Lw2 LL hM hF hx hy
 refine yI rfl xE (fun w3 b4 N4 => ?_)
 obtain ⟨hBw3, nF4, nM4, Lw3, B4⟩ := nza hF hM N4
 obtain ⟨B2, ne2_4⟩ := bn B2 N4
 obtain ⟨B3, ne3_4⟩ := bn B3 N4
 obtain ⟨LL, hM, hx, hy⟩ := up4 Lw3 LL hM hx hy
 refine zD (zH (zH (zB (zL 0 rfl yu31 rfl rfl sz4 rfl rfl (zT rfl uP rfl B2 rfl (zL 0 rfl yu31 rfl rfl sz4 rfl rfl (zT rfl uP rfl B3 rfl (ops_beq rfl rfl rfl underlying4 (zD ?_)))))))))
 refine qI rfl (fun hc0 => ?_) (fun hc0 => ?_)
 ·refine zH ?_
  refine wd mixed 8 [4, 13, 19] (by decide +kernel) ?_
  refine zN (fun _ _ _ => zP rfl rfl (zC (zL 0 rfl yu31 rfl rfl sz4 rfl rfl (on0 rfl)))) ?_
  refine zN (fun _ hR _ => zK rfl (zC (zT rfl uP rfl (B2.below hR) rfl (on0 rfl)))) ?_
  refine zN (fun _ _ _ => zP rfl rfl (zC (zL 1 rfl yu31 rfl rfl xV rfl rfl (on0 rfl)))) ?_
  refine zN (fun _ hR _ => zK rfl (zC (zT rfl yU rfl (B2.below hR) rfl (on0 rfl)))) ?_
  refine zN (fun _ _ _ => zP rfl rfl (zC (zL 1 rfl yu31 rfl rfl xV rfl rfl (on0 rfl)))) ?_
  refine zN (fun _ hR _ => zK rfl (zC (zT rfl yU rfl (B3.below hR) rfl (on0 rfl)))) ?_
  refine zS (fun v w => IsNats (Ins b4 (Ins b3 (Ins b2 M))) w v [xs, ys]) cH (fun wq hR hst => ?_) ?_
  ·refine zK rfl (zK rfl (zC ?_))
   obtain ⟨hM, hx, hy⟩ := ub3 hR hM hx hy
   refine xH rfl yu255 xV rfl rfl rfl (fN (by first | rfl | exact yX (by assumption) | exact yZ (by assumption) | assumption) (by first | rfl | exact yX (by assumption) | exact yZ (by assumption) | assumption)) rfl (fun w4 b18 N18 => ?_)
   have hBw4 := N18.below
   have nM18 := hM.new N18
   have B18 := N18.blk
   obtain ⟨hx, hy⟩ := ub2 hBw4 hx hy
   have hn18 := eS B18 nM18 hx hy
   have hB18 := hBw4
   exact on1 hB18 rfl hn18
  refine zS (fun v w => IsNat (Ins b4 (Ins b3 (Ins b2 M))) w v (limbs (val xs + val ys))) jQ (fun wq hR hst => ?_) ?_
  ·refine yD rfl (fun v18 hp18 => ?_)
   have hn18 := hp18
   refine zC ?_
   obtain ⟨LL, hM⟩ := ub2 hR LL hM
   refine zI rfl (bo func225) rfl rfl ?_
   refine (radd_c hn18 (by intro q hq; rcases List.mem_cons.1 hq with rfl | hq; omega; rcases List.mem_cons.1 hq with rfl | hq; omega; cases hq) (by simp) hM).mono ?_
   rintro v19 w5 ⟨hB19, hf19⟩
   have hM19 := hM
   have hS19 := LL.size
   simp only [List.map_cons, List.map_nil, List.sum_cons, List.sum_nil, Nat.add_zero] at hf19
   have hn19 := hf19.nat hM19
   exact on1 hB19 rfl hn19
  refine xI (fun wq2 hR2 hpost2 => ?_)
  refine zP rfl rfl (zK rfl (yD rfl (fun v19 hp19 => ?_)))
  have hn19 := hp19
  refine zC ?_
  simp only [jC, jB, jA, xZ]
  obtain ⟨LL, hM, B4⟩ := ub3 hR2 LL hM B4
  refine xM rfl bA rfl rfl (zX (gS rfl) (zX (gS (by first | rfl | exact yX (by assumption) | exact yZ (by assumption) | assumption)) xD)) rfl ?_
  have hqz : ZQ (Ins b4 (Ins b3 (Ins b2 M))) wq2 (max n0 n1 + 1) (z + y) xs0 v19 := ⟨_, hn19, esum, by rw [zv_same hc0, hz, hzy]⟩
  refine zI rfl (bo func155) rfl rfl ?_
  refine (uJ hqz (by omega) hM).mono ?_
  rintro v21 w6 ⟨hB21, xs21, xa21, rfl, hn21⟩
  obtain ⟨LL, B4⟩ := ub2 hB21 LL B4
  obtain ⟨oxa21, _⟩ := hn21.one
  refine zV rfl rfl xE B4 rfl rfl (zU (zU xY)) rfl (fun w7 Cw7 B4 => ?_)
  obtain ⟨LL, hn21⟩ := up2 (lc LL Cw7 zQ nF4) LL hn21
  refine zD (zW ?_)
  refine lv1 ⟨⟨_, rfl, yQ xX xE B4 rfl rfl⟩, trivial⟩ ?_
  subst hFz
  exact ⟨LL.b, _, _, rfl, (hn21.less (fun k c => zJ (zJ (zJ c)))).up (by omega)⟩
 ·refine yH (zH (zB (zL 1 rfl yu31 rfl rfl xV rfl rfl (zT rfl yU rfl B2 rfl (zL 1 rfl yu31 rfl rfl xV rfl rfl (zT rfl yU rfl B3 rfl (zI rfl (bo func229) rfl rfl ?_)))))))
  refine (eJ hx hy (by omega) (by omega) hM).mono ?_
  rintro v27 w8 ⟨hB27, q27, rfl, hf27⟩
  have hMx := hM
  obtain ⟨LL, hM, hx, hy, B2, B3, B4⟩ := ub7 hB27 LL hM hx hy B2 B3 B4
  have hn27 := hf27.nat hMx
  refine zA rfl rfl (yK rfl rfl rfl (yK rfl rfl rfl (zF rfl rfl (zF rfl rfl (zD (zH (zH (zB (zA rfl rfl (gN rfl rfl rfl (zD ?_)))))))))))
  refine yA rfl (fun hc1 => ?_) (fun hc1 => ?_)
  ·refine zH (zB (zL 0 rfl yu31 rfl rfl sz4 rfl rfl (zT rfl uP rfl B2 rfl (zA rfl rfl (xM rfl bA rfl rfl (zX (gS rfl) (zX (gS (by first | rfl | exact yX (by assumption) | exact yZ (by assumption) | assumption)) xD)) rfl ?_)))))
   have hqz : ZQ (Ins b4 (Ins b3 (Ins b2 M))) w8 (max n0 n1 + 1) (z + y) xs0 q27 := ⟨_, hn27, by omega, by rw [zv_ge hc0 (by have := hc1; by_cases c : val xs < val ys; rw [if_pos c] at this; simp at this; omega), hz, hzy]⟩
   refine zI rfl (bo func155) rfl rfl ?_
   refine (uJ hqz (by omega) hM).mono ?_
   rintro v36 w9 ⟨hB36, xs36, xa36, rfl, hn36⟩
   obtain ⟨LL, B4⟩ := ub2 hB36 LL B4
   obtain ⟨oxa36, _⟩ := hn36.one
   refine zV rfl rfl xE B4 rfl rfl (zU (zU xY)) rfl (fun w10 Cw10 B4 => ?_)
   obtain ⟨LL, hn36⟩ := up2 (lc LL Cw10 zQ nF4) LL hn36
   refine zD (zW ?_)
   refine lv1 ⟨⟨_, rfl, yQ xX xE B4 rfl rfl⟩, trivial⟩ ?_
   subst hFz
   exact ⟨LL.b, _, _, rfl, (hn36.less (fun k c => zJ (zJ (zJ c)))).up (by omega)⟩
  ·refine yH (zH (zB (zL 1 rfl yu31 rfl rfl xV rfl rfl (zT rfl yU rfl B3 rfl (zL 1 rfl yu31 rfl rfl xV rfl rfl (zT rfl yU rfl B2 rfl (zI rfl (bo func229) rfl rfl ?_)))))))
   refine (eJ hy hx (by omega) (by omega) hM).mono ?_
   rintro v42 w11 ⟨hB42, q42, rfl, hf42⟩
   have hMx := hM
   obtain ⟨LL, hM, B3, B4⟩ := ub4 hB42 LL hM B3 B4
   have hn42 := hf42.nat hMx
   refine zA rfl rfl (yK rfl rfl rfl (yK rfl rfl rfl (zF rfl rfl (zD (zH (zB (zL 0 rfl yu31 rfl rfl sz4 rfl rfl (zT rfl uP rfl B3 rfl (zA rfl rfl (xM rfl bA rfl rfl (zX (gS rfl) (zX (gS (by first | rfl | exact yX (by assumption) | exact yZ (by assumption) | assumption)) xD)) rfl ?_))))))))))
   have hqz : ZQ (Ins b4 (Ins b3 (Ins b2 M))) w11 (max n0 n1 + 1) (z + y) xs1 q42 := ⟨_, hn42, by omega, by rw [zv_lt hc0 (by have := hc1; by_cases c : val xs < val ys; omega; rw [if_neg c] at this; simp at this), hz, hzy]⟩
   refine zI rfl (bo func155) rfl rfl ?_
   refine (uJ hqz (by omega) hM).mono ?_
   rintro v49 w12 ⟨hB49, xs49, xa49, rfl, hn49⟩
   obtain ⟨LL, B4⟩ := ub2 hB49 LL B4
   obtain ⟨oxa49, _⟩ := hn49.one
   refine zV rfl rfl xE B4 rfl rfl (zU (zU xY)) rfl (fun w13 Cw13 B4 => ?_)
   obtain ⟨LL, hn49⟩ := up2 (lc LL Cw13 zQ nF4) LL hn49
   refine zD (zW ?_)
   refine lv1 ⟨⟨_, rfl, yQ xX xE B4 rfl rfl⟩, trivial⟩ ?_
   subst hFz
   exact ⟨LL.b, _, _, rfl, (hn49.less (fun k c => zJ (zJ (zJ c)))).up (by omega)⟩
theorem i5add_c {l : List Int} {n0 : Nat} {xa0 : Value} (h0 : ZL M w n0 l xa0) (hl0 : n0 ≤ 390000) (hlen : l.length ≤ 2) (hM : OkM M w) :
    CallsV prog 150 [xa0] w fun r w' => Bel w.heap.size w w' ∧ ∃ xsr xar, r = .agg #[.bool xsr, xar] ∧ ZC M w' (n0 + 2) (l.sum) xsr xar := by
 obtain ⟨oxa0, _⟩ := h0.one
 refine ci M func150 ntmps150 fun Fz hFz hF LL => ?_
 refine zH (zB (yI rfl xE (fun w1 b2 N2 => ?_)))
 obtain ⟨_, nF2, nM2, Lw1, B2⟩ := nza hF hM N2
 obtain ⟨LL, hM, hF, h0⟩ := up4 Lw1 LL hM hF h0
 refine zD (zH (zB (yI rfl xE (fun w2 b3 N3 => ?_))))
 obtain ⟨hBw2, nF3, nM3, Lw2, B3⟩ := nza hF hM N3
 obtain ⟨B2, ne2_3⟩ := bn B2 N3
 obtain ⟨LL, hM, h0⟩ := up3 Lw2 LL hM h0
 refine zD (zH (zH (zB (zF rfl rfl (zD (yC ?_))))))
 refine xP (σ := Nat) [(0, _), (2, _), (3, _)] (fun s => [(4, .int .i64 ((s : Nat) : Int))]) (fun s w3 => Le Fz (Ins b3 (Ins b2 M)) w2 (Ins b3 (Ins b2 M)) w3 ∧ s ≤ l.length ∧ Blk w3 b2 31 [.bool false, .slice none 0 0] ∧ ∃ xs3 xa3, Blk w3 b3 31 [.bool xs3, xa3] ∧ ZC (Ins b3 (Ins b2 M)) w3 (n0 + s) ((l.take s).sum) xs3 xa3) (fun s => l.length - s) (0) (zG rfl (zG rfl (zG rfl (zG rfl yE)))) ?_ (fun s w3 hJ => ?_)
 · exact ⟨Le.refl _ _ _, by omega, B2, _, _, B3, by simpa using zc_zero⟩
 ·obtain ⟨LR, hk, B2, xs3, xa3, B3, hn3⟩ := hJ
  obtain ⟨oxa3, _⟩ := hn3.one
  obtain ⟨LL, hM, h0⟩ := up3 LR LL hM h0
  refine zH (zH (zB (zA rfl rfl (zA rfl rfl (gQ rfl yu174 rfl h0.row (jI rfl rfl rfl (zD ?_)))))))
  refine yA rfl (fun hc0 => ?_) (fun hc0 => ?_)
  ·refine yH (zH (yC ?_))
   refine wd mixed 6 [0, 2, 3, 4, 11, 16] (by decide +kernel) ?_
   refine zN (fun _ hR _ => zP rfl rfl (zC (zM rfl xX xE rfl (B3.below hR) rfl rfl (on0 rfl)))) ?_
   refine dv (fun v w => ∃ xa12, v = xa12 ∧ ZL (Ins b3 (Ins b2 M)) w (n0) (l) xa12) (fun wq hR hst => ?_) ?_
   ·refine zP rfl rfl (zC ?_)
    replace h0 := ub1 hR h0
    exact zA rfl rfl (zD ⟨rfl, zY _, _, rfl, ⟨_, rfl, h0⟩⟩)
   refine zN (fun _ _ _ => zP rfl rfl (zC (zA rfl rfl (on0 rfl)))) ?_
   refine dv (rZQ (Ins b3 (Ins b2 M)) (n0) (l.getD s 0)) (fun wq hR hst => ?_) ?_
   ·refine yD rfl (fun v12 hp12 => ?_)
    obtain ⟨xa12, rfl, hn12⟩ := hp12
    refine zK rfl (zC ?_)
    refine jL (dflt := (0 : Int)) (s) rfl yu174 xE rfl rfl hn12.row (by first | rfl | omega) (by first | omega | (simp; omega) | simp) (fun b14 o14 us14 hul14 hu14 hc14 => ?_)
    obtain ⟨xs14, xa14, rfl, hn14⟩ := hu14
    exact on1 (zY _) rfl ⟨b14, o14, _, _, rfl, hc14, hn14⟩
   refine zS (vZQ (Ins b3 (Ins b2 M)) (n0) (l.getD s 0)) vZQ_m (fun wq hR hst => ?_) ?_
   ·refine yD rfl (fun v14 hp14 => ?_)
    obtain ⟨b14, o14, xs14, xa14, rfl, hc14, hn14⟩ := hp14
    refine zC ?_
    exact jF rfl xX xE rfl hc14 rfl (zD ⟨rfl, zY _, _, rfl, ⟨_, _, rfl, hn14⟩⟩)
   refine zS (vZC (Ins b3 (Ins b2 M)) (n0) ((l.getD s 0))) fK (fun wq hR hst => ?_) ?_
   ·refine yD rfl (fun v15 hp15 => ?_)
    obtain ⟨xs15, xa15, rfl, hn15⟩ := hp15
    refine zC ?_
    replace hM := ub1 hR hM
    refine zI rfl (bo func155) rfl rfl ?_
    refine (uJ hn15 (by omega) hM).mono ?_
    rintro v16 w4 ⟨hB16, xs16, xa16, rfl, hn16⟩
    exact on1 hB16 rfl ⟨_, _, rfl, hn16⟩
   refine xI (fun wq5 hR5 hpost5 => ?_)
   refine zP rfl rfl (zP rfl rfl (zP rfl rfl (zP rfl rfl (zK rfl (yD rfl (fun v16 hp16 => ?_))))))
   obtain ⟨xs16, xa16, rfl, hn16⟩ := hp16; obtain ⟨oxa16, _⟩ := hn16.one
   refine zC ?_
   simp only [jC, jB, jA, xZ]
   obtain ⟨LR, hM, hn3, B2, B3⟩ := ub5 hR5 LR hM hn3 B2 B3
   refine zI rfl (bo func203) rfl rfl ?_
   refine (i5two_c hn3.gen hn16.gen (by omega) (by omega) hM).mono ?_
   rintro v17 w5 ⟨hB17, xs17, xa17, rfl, hn17⟩
   obtain ⟨LR, B2, B3⟩ := ub3 hB17 LR B2 B3
   obtain ⟨oxa17, _⟩ := hn17.one
   refine zV rfl rfl xE B3 rfl rfl (zU (zU xY)) rfl (fun w6 Cw6 B3 => ?_)
   obtain ⟨LR, hn17⟩ := up2 (lc LR Cw6 zQ nF3) LR hn17
   replace B2 := B2.other Cw6 ne2_3
   refine zD (zB (zA rfl rfl (xC rfl rfl rfl (by omega) (zF rfl rfl (zD ?_)))))
   refine ⟨rfl, s + 1, (zZ rfl (by rw [Int.natCast_add]; rfl) (zG rfl (zG rfl (zG rfl yE)))), ?_, ?_⟩
   exact ⟨LR, by omega, B2, _, _, B3, by rw [sum_take (by omega)]; exact hn17.up (by omega)⟩
   omega
  ·refine xN (xO (zH (zB (zM rfl xX xE rfl B3 rfl rfl (zI rfl (bo func155) rfl rfl ?_)))))
   refine (uJ hn3.gen (by omega) hM).mono ?_
   rintro v19 w7 ⟨hB19, xs19, xa19, rfl, hn19⟩
   obtain ⟨LL, B2⟩ := ub2 hB19 LL B2
   obtain ⟨oxa19, _⟩ := hn19.one
   refine zV rfl rfl xE B2 rfl rfl (zU (zU xY)) rfl (fun w8 Cw8 B2 => ?_)
   obtain ⟨LL, hn19⟩ := up2 (lc LL Cw8 (.inr zQ) nF2) LL hn19
   refine zD (zW ?_)
   refine lv1 ⟨⟨_, rfl, yQ xX xE B2 rfl rfl⟩, trivial⟩ ?_
   obtain rfl : s = l.length := by omega
   rw [List.take_length] at hn19
   subst hFz
   exact ⟨LL.b, _, _, rfl, (hn19.less (fun k c => zJ (zJ c))).up (by omega)⟩
theorem i5sub_c {z : Int} {n0 : Nat} {xs0 : Bool} {xa0 : Value} {y : Int} {n1 : Nat} {xs1 : Bool} {xa1 : Value} (h0 : ZQ M w n0 z xs0 xa0) (h1 : ZQ M w n1 y xs1 xa1) (hl0 : n0 ≤ 380000) (hl1 : n1 ≤ 380000) (hM : OkM M w) :
    CallsV prog 88 [.agg #[.bool xs0, xa0], .agg #[.bool xs1, xa1]] w fun r w' => Bel w.heap.size w w' ∧ ∃ xsr xar, r = .agg #[.bool xsr, xar] ∧ ZC M w' (max n0 n1 + 2) (z - y) xsr xar := by
 obtain ⟨oxa0, _⟩ := h0.one
 obtain ⟨oxa1, _⟩ := h1.one
 refine ci M func88 ntmps88 fun Fz hFz hF LL => ?_
 refine zH (zB (yG rfl rfl (fun w1 b2 N2 => ?_)))
 obtain ⟨_, nF2, nM2, Lw1, B2⟩ := nza hF hM N2
 obtain ⟨LL, hM, hF, h0, h1⟩ := up5 Lw1 LL hM hF h0 h1
 refine yG rfl rfl (fun w2 b3 N3 => ?_)
 obtain ⟨hBw2, nF3, nM3, Lw2, B3⟩ := nza hF hM N3
 obtain ⟨B2, ne2_3⟩ := bn B2 N3
 obtain ⟨LL, hM, hF, h0, h1⟩ := up5 Lw2 LL hM hF h0 h1
 refine yI rfl xE (fun w3 b4 N4 => ?_)
 obtain ⟨hBw3, nF4, nM4, Lw3, B4⟩ := nza hF hM N4
 obtain ⟨B2, ne2_4⟩ := bn B2 N4
 obtain ⟨B3, ne3_4⟩ := bn B3 N4
 obtain ⟨LL, hM, h0, h1⟩ := up4 Lw3 LL hM h0 h1
 refine zD (zH ?_)
 refine wd mixed 3 [4, 5, 7] (by decide +kernel) ?_
 refine zN (fun _ hR _ => zP rfl rfl (zC (zM rfl xX xE rfl (B2.below hR) rfl rfl (on0 rfl)))) ?_
 refine zN (fun _ hR _ => zP rfl rfl (zC (zM rfl xX xE rfl (B3.below hR) rfl rfl (on0 rfl)))) ?_
 refine zS (vZC (Ins b4 (Ins b3 (Ins b2 M))) (n1) (-y)) fK (fun wq hR hst => ?_) ?_
 ·refine zK rfl (zC ?_)
  obtain ⟨hM, h1⟩ := ub2 hR hM h1
  refine zI rfl (bo func149) rfl rfl ?_
  refine (i5neg_c h1 (by omega) hM).mono ?_
  rintro v7 w4 ⟨hB7, xs7, xa7, rfl, hn7⟩
  exact on1 hB7 rfl ⟨_, _, rfl, hn7⟩
 refine xI (fun wq1 hR1 hpost1 => ?_)
 refine zP rfl rfl (zK rfl (yD rfl (fun v7 hp7 => ?_)))
 obtain ⟨xs7, xa7, rfl, hn7⟩ := hp7; obtain ⟨oxa7, _⟩ := hn7.one
 refine zC ?_
 simp only [jC, jB, jA, xZ]
 obtain ⟨LL, hM, h0, B4⟩ := ub4 hR1 LL hM h0 B4
 refine xA rfl yu174 xE rfl rfl rfl rfl (zX rfl (zX rfl xD)) rfl rfl rfl (fun w5 b8 N8 => ?_)
 have hBw5 := N8.below
 have nM8 := hM.new N8
 have B8 := N8.blk
 obtain ⟨LL, hM, h0, hn7, B4⟩ := ub5 hBw5 LL hM h0 hn7 B4
 refine zI rfl (bo func150) rfl rfl ?_
 refine (i5add_c (zl2 ((KBlk.mk B8 nM8)) h0 hn7.gen) (by omega) (by first | omega | simp) hM).mono ?_
 rintro v9 w6 ⟨hB9, xs9, xa9, rfl, hn9⟩
 obtain ⟨LL, B4⟩ := ub2 hB9 LL B4
 obtain ⟨oxa9, _⟩ := hn9.one
 refine zV rfl rfl xE B4 rfl rfl (zU (zU xY)) rfl (fun w7 Cw7 B4 => ?_)
 obtain ⟨LL, hn9⟩ := up2 (lc LL Cw7 zQ nF4) LL hn9
 refine zD (zW ?_)
 refine lv1 ⟨⟨_, rfl, yQ xX xE B4 rfl rfl⟩, trivial⟩ ?_
 have hsm : [z, -y].sum = z - y := by simp only [List.sum_cons, List.sum_nil]; omega
 rw [hsm] at hn9
 subst hFz
 exact ⟨LL.b, _, _, rfl, (hn9.less (fun k c => zJ (zJ (zJ c)))).up (by omega)⟩
theorem told_z {M M2 : Nat → Prop} {w w2 : World} {n m : Nat} {z y : Int} {s t : Bool} {a b : Value} (h : ZC M w n z s a) (k : ZC M2 w2 m y t b) (e : (s == t) = true) : decide (limbs z.natAbs = limbs y.natAbs) = decide (z = y) := by
  rw [decide_eq_decide]
  have e' : s = t := by simpa using e
  constructor
  · intro c
    have c2 := congrArg val c
    rw [yF, yF] at c2
    have h1 := h.sgn
    have h2 := k.sgn; rw [e', h2] at h1
    have := decide_eq_decide.1 h1
    omega
  · intro c; rw [c]
theorem told_zf {M M2 : Nat → Prop} {w w2 : World} {n m : Nat} {z y : Int} {s t : Bool} {a b : Value} (h : ZC M w n z s a) (k : ZC M2 w2 m y t b) (e : (s == t) = false) : false = decide (z = y) := by
  refine (decide_eq_false fun c => ?_).symm
  have h1 := h.sgn
  have h2 := k.sgn; rw [c, ← h2] at h1; subst h1; simp at e
theorem i5told_c {z : Int} {n0 : Nat} {xs0 : Bool} {xa0 : Value} {y : Int} {n1 : Nat} {xs1 : Bool} {xa1 : Value} (h0 : ZC M w n0 z xs0 xa0) (h1 : ZC M w n1 y xs1 xa1) (hl0 : n0 ≤ 20000) (hl1 : n1 ≤ 20000) (hM : OkM M w) :
    CallsV prog 136 [.agg #[.bool xs0, xa0], .agg #[.bool xs1, xa1]] w fun r w' => Bel w.heap.size w w' ∧ r = .bool (decide (z = y)) := by
 refine ci M func136 ntmps136 fun Fz hFz hF LL => ?_
 refine zH (zB (yG rfl rfl (fun w1 b2 N2 => ?_)))
 obtain ⟨_, nF2, nM2, Lw1, B2⟩ := nza hF hM N2
 obtain ⟨LL, hM, hF, h0, h1⟩ := up5 Lw1 LL hM hF h0 h1
 refine yG rfl rfl (fun w2 b3 N3 => ?_)
 obtain ⟨hBw2, nF3, nM3, Lw2, B3⟩ := nza hF hM N3
 obtain ⟨B2, ne2_3⟩ := bn B2 N3
 obtain ⟨LL, hM, h0, h1⟩ := up4 Lw2 LL hM h0 h1
 refine zF rfl rfl (zD (zH (zB (zL 0 rfl yu31 rfl rfl sz4 rfl rfl (zT rfl uP rfl B2 rfl (zL 0 rfl yu31 rfl rfl sz4 rfl rfl (zT rfl uP rfl B3 rfl (ops_beq rfl rfl rfl underlying4 (zA rfl rfl (bH (d := 10) rfl (fun hg1_5 => ?_) (fun hg1_5 => ?_)))))))))))
 ·refine zO rfl rfl (zL 1 rfl yu31 rfl rfl xV rfl rfl (zO rfl rfl (zT rfl yU rfl B2 rfl (zO rfl rfl (zL 1 rfl yu31 rfl rfl xV rfl rfl (zO rfl rfl (zT rfl yU rfl B3 rfl (zO rfl rfl (zI rfl (bo func137) rfl rfl ?_)))))))))
  refine (same_c h0.num h1.num hM).mono ?_
  rintro v15 w3 ⟨hB15, rfl⟩
  obtain ⟨LL, h0, h1⟩ := ub3 hB15 LL h0 h1
  refine yW rfl rfl rfl (zF rfl rfl (zD (zW ?_)))
  refine lv1 ⟨rfl, trivial⟩ ?_
  subst hFz
  exact ⟨LL.b, by congr 1; exact told_z h0 h1 hg1_5⟩
 ·refine zR rfl rfl rfl rfl (zR rfl rfl rfl rfl (zR rfl rfl rfl rfl (zR rfl rfl rfl rfl (zR rfl rfl rfl rfl (yW rfl rfl rfl (zF rfl rfl (zD (zW ?_))))))))
  refine lv1 ⟨rfl, trivial⟩ ?_
  subst hFz
  exact ⟨LL.b, by congr 1; exact told_zf h0 h1 hg1_5⟩
theorem ZQ.sgn0 {n : Nat} {z : Int} {s : Bool} {a : Value} (h : ZQ M w n z s a) : z ≠ 0 → s = decide (z < 0) := by
  obtain ⟨xs, h1, h2, h3⟩ := h.ex
  intro h0
  subst h3
  cases s
  · simp [zv]
  · have : val xs ≠ 0 := fun c => h0 (by simp [zv, c])
    simp [zv]; omega
theorem ZQ.abs {n : Nat} {z : Int} {s : Bool} {a : Value} (h : ZQ M w n z s a) : ∃ ys, IsNat M w a ys ∧ ys.length ≤ n ∧ val ys = z.natAbs := by
  obtain ⟨xs, h1, h2, h3⟩ := h.ex
  exact ⟨xs, h1, h2, by rw [← h3, uQ]⟩
theorem zv_prod {P z : Int} {b : Bool} (hb : z ≠ 0 → b = decide (z < 0)) : zv (decide (P < 0) != b) (limbs (P.natAbs * z.natAbs)) = P * z := by
  by_cases h0 : z = 0
  · subst h0; simp [zv, yF]
  · rw [hb h0, zv, yF]
    rcases Int.lt_or_le P 0 with hp | hp <;> rcases Int.lt_or_le z 0 with hz | hz
    · rw [decide_eq_true hp, decide_eq_true hz, if_neg (by simp)]
      rw [Int.natCast_mul, show ((P.natAbs : Nat) : Int) = -P by omega, show ((z.natAbs : Nat) : Int) = -z by omega, Int.neg_mul_neg]
    · rw [decide_eq_true hp, decide_eq_false (by omega), if_pos (by simp)]
      rw [Int.natCast_mul, show ((P.natAbs : Nat) : Int) = -P by omega, show ((z.natAbs : Nat) : Int) = z by omega, Int.neg_mul, Int.neg_neg]
    · rw [decide_eq_false (by omega), decide_eq_true hz, if_pos (by simp)]
      rw [Int.natCast_mul, show ((P.natAbs : Nat) : Int) = P by omega, show ((z.natAbs : Nat) : Int) = -z by omega, Int.mul_neg, Int.neg_neg]
    · rw [decide_eq_false (by omega), decide_eq_false (by omega), if_neg (by simp)]
      rw [Int.natCast_mul, show ((P.natAbs : Nat) : Int) = P by omega, show ((z.natAbs : Nat) : Int) = z by omega]
theorem dX {l : List Int} {n0 : Nat} {xa0 : Value} (h0 : ZL M w n0 l xa0) (hl0 : n0 ≤ 100000) (hlen : l.length ≤ 2) (hM : OkM M w) :
    CallsV prog 89 [xa0] w fun r w' => Bel w.heap.size w w' ∧ ∃ xsr xar, r = .agg #[.bool xsr, xar] ∧ ZC M w' (2 * n0 + 2) (qD l) xsr xar := by
 obtain ⟨oxa0, _⟩ := h0.one
 refine ci M func89 ntmps89 fun Fz hFz hF LL => ?_
 refine zH (zB (yI rfl xE (fun w1 b2 N2 => ?_)))
 have hBw1 := N2.below
 have nF2 := hF.new N2; have nM2 := hM.new N2
 have Lw1 := Le.of_new (Fz := Fz) (M := M) N2
 replace LL := LL.trans Lw1
 replace hM := hM.mono Lw1
 replace hF := hF.mono Lw1
 replace h0 := h0.mono Lw1
 have B2 := N2.blk
 rw [kZ] at B2
 refine zD (zH (zB (zI rfl (bo func79) rfl rfl ?_)))
 refine (i5of_c (M := (Ins b2 M)) (k := 1)  (by omega) hM).mono ?_
 rintro v5 w2 ⟨hB5, xs5, xa5, rfl, hn5⟩
 have Lw2 := Le.of_below (Fz := Fz) (M := (Ins b2 M)) hB5
 replace LL := LL.trans Lw2
 replace hM := hM.mono Lw2
 replace hF := hF.mono Lw2
 replace h0 := h0.mono Lw2
 replace B2 := B2.below hB5
 obtain ⟨oxa5, _⟩ := hn5.one
 refine yI rfl xE (fun w3 b3 N3 => ?_)
 have hBw3 := N3.below
 have nF3 := hF.new N3; have nM3 := hM.new N3
 have Lw3 := Le.of_new (Fz := Fz) (M := (Ins b2 M)) N3
 have lt2_3 := B2.lt; replace B2 := B2.below hBw3; have ne2_3 : b2 ≠ b3 := by have := N3.at_; omega
 replace LL := LL.trans Lw3
 replace hM := hM.mono Lw3
 replace hF := hF.mono Lw3
 replace h0 := h0.mono Lw3
 replace hn5 := hn5.mono Lw3
 have B3 := N3.blk
 rw [kZ] at B3
 refine zV rfl rfl xE B3 rfl rfl (zU (zU xY)) rfl (fun w4 Cw4 B3 => ?_)
 have Lw4 := Le.of_chg (M := (Ins b3 (Ins b2 M))) Cw4 zQ nF3
 replace LL := LL.trans Lw4
 replace hM := hM.mono Lw4
 replace hF := hF.mono Lw4
 replace h0 := h0.mono Lw4
 replace hn5 := hn5.mono Lw4
 replace B2 := B2.other Cw4 ne2_3
 try simp only [List.set_cons_zero, List.set_cons_succ, List.take_succ_cons, List.take_zero, List.drop_succ_cons, List.drop_zero, List.drop_nil, List.cons_append, List.nil_append, List.append_nil] at B3
 refine zD (zH (zH (zB (zF rfl rfl (zD (yC ?_))))))
 refine xP (σ := Nat) [(0, _), (2, _), (3, _)] (fun s => [(4, .int .i64 ((s : Nat) : Int))]) (fun s w5 => Le Fz (Ins b3 (Ins b2 M)) w4 (Ins b3 (Ins b2 M)) w5 ∧ s ≤ l.length ∧ Blk w5 b2 31 [.bool false, .slice none 0 0] ∧ ∃ xs3 xa3, Blk w5 b3 31 [.bool xs3, xa3] ∧ ZC (Ins b3 (Ins b2 M)) w5 (s * n0 + 2) (qD (l.take s)) xs3 xa3) (fun s => l.length - s) (0) (zG rfl (zG rfl (zG rfl (zG rfl yE)))) ?_ (fun s w5 hJ => ?_)
 · exact ⟨Le.refl _ _ _, by omega, B2, _, _, B3, by simpa [qD] using hn5.up (by omega)⟩
 ·obtain ⟨LR, hk, B2, xs3, xa3, B3, hn3⟩ := hJ
  obtain ⟨oxa3, _⟩ := hn3.one
  replace LL := LL.trans LR
  replace hM := hM.mono LR
  replace hF := hF.mono LR
  replace h0 := h0.mono LR
  replace hn5 := hn5.mono LR
  refine zH (zH (zB (zA rfl rfl (zA rfl rfl (gQ rfl yu174 rfl h0.row (jI rfl rfl rfl (zD ?_)))))))
  refine yA rfl (fun hc0 => ?_) (fun hc0 => ?_)
  ·refine yH (zH (yC ?_))
   refine wd mixed 16 [0, 2, 3, 4, 19, 27] (by decide +kernel) ?_
   apply zN
   ·intro wq hR hst
    refine zP rfl rfl (zC ?_)
    have Lq := Le.of_below (Fz := Fz) (M := (Ins b3 (Ins b2 M))) hR
    replace LL := LL.trans Lq
    replace LR := LR.trans Lq
    replace hM := hM.mono Lq
    replace hF := hF.mono Lq
    replace h0 := h0.mono Lq
    replace hn5 := hn5.mono Lq
    replace hn3 := hn3.mono Lq
    replace B2 := B2.below hR
    replace B3 := B3.below hR
    refine zL 0 rfl yu31 rfl rfl sz4 rfl rfl ?_
    exact on1 (zY _) rfl rfl
   apply zN
   ·intro wq hR hst
    refine zK rfl (zC ?_)
    have Lq := Le.of_below (Fz := Fz) (M := (Ins b3 (Ins b2 M))) hR
    replace LL := LL.trans Lq
    replace LR := LR.trans Lq
    replace hM := hM.mono Lq
    replace hF := hF.mono Lq
    replace h0 := h0.mono Lq
    replace hn5 := hn5.mono Lq
    replace hn3 := hn3.mono Lq
    replace B2 := B2.below hR
    replace B3 := B3.below hR
    refine zT rfl uP rfl B3 rfl ?_
    exact on1 (zY _) rfl rfl
   refine dv (fun v w => ∃ xa14, v = xa14 ∧ ZL (Ins b3 (Ins b2 M)) w (n0) (l) xa14) (fun wq hR hst => ?_) ?_
   ·refine zP rfl rfl (zC ?_)
    have Lq := Le.of_below (Fz := Fz) (M := (Ins b3 (Ins b2 M))) hR
    replace LL := LL.trans Lq
    replace LR := LR.trans Lq
    replace hM := hM.mono Lq
    replace hF := hF.mono Lq
    replace h0 := h0.mono Lq
    replace hn5 := hn5.mono Lq
    replace hn3 := hn3.mono Lq
    replace B2 := B2.below hR
    replace B3 := B3.below hR
    refine zA rfl rfl ?_
    exact on1 (zY _) rfl ⟨_, rfl, h0⟩
   apply zN
   ·intro wq hR hst
    refine zP rfl rfl (zC ?_)
    have Lq := Le.of_below (Fz := Fz) (M := (Ins b3 (Ins b2 M))) hR
    replace LL := LL.trans Lq
    replace LR := LR.trans Lq
    replace hM := hM.mono Lq
    replace hF := hF.mono Lq
    replace h0 := h0.mono Lq
    replace hn5 := hn5.mono Lq
    replace hn3 := hn3.mono Lq
    replace B2 := B2.below hR
    replace B3 := B3.below hR
    refine zA rfl rfl ?_
    exact on1 (zY _) rfl rfl
   refine dv (rZQ (Ins b3 (Ins b2 M)) (n0) (l.getD s 0)) (fun wq hR hst => ?_) ?_
   ·refine yD rfl (fun v14 hp14 => ?_)
    obtain ⟨xa14, rfl, hn14⟩ := hp14; obtain ⟨oxa14, _⟩ := hn14.one
    refine zK rfl (zC ?_)
    have Lq := Le.of_below (Fz := Fz) (M := (Ins b3 (Ins b2 M))) hR
    replace LL := LL.trans Lq
    replace LR := LR.trans Lq
    replace hM := hM.mono Lq
    replace hF := hF.mono Lq
    replace h0 := h0.mono Lq
    replace hn5 := hn5.mono Lq
    replace hn3 := hn3.mono Lq
    replace B2 := B2.below hR
    replace B3 := B3.below hR
    refine jL (dflt := (0 : Int)) (s) rfl yu174 xE rfl rfl hn14.row (by first | rfl | omega) (by first | omega | (simp; omega) | simp) (fun b16 o16 us16 hul16 hu16 hc16 => ?_)
    obtain ⟨xs16, xa16, rfl, hn16⟩ := hu16
    obtain ⟨oxa16, _⟩ := hn16.one
    exact on1 (zY _) rfl ⟨b16, o16, _, _, rfl, hc16, hn16⟩
   refine dv (rZQ (Ins b3 (Ins b2 M)) (n0) (l.getD s 0)) (fun wq hR hst => ?_) ?_
   ·refine yD rfl (fun v16 hp16 => ?_)
    obtain ⟨b16, o16, xs16, xa16, rfl, hc16, hn16⟩ := hp16; obtain ⟨oxa16, _⟩ := hn16.one
    refine zC ?_
    have Lq := Le.of_below (Fz := Fz) (M := (Ins b3 (Ins b2 M))) hR
    replace LL := LL.trans Lq
    replace LR := LR.trans Lq
    replace hM := hM.mono Lq
    replace hF := hF.mono Lq
    replace h0 := h0.mono Lq
    replace hn5 := hn5.mono Lq
    replace hn3 := hn3.mono Lq
    replace B2 := B2.below hR
    replace B3 := B3.below hR
    refine yY 0 rfl yu31 rfl rfl sz4 rfl rfl ?_
    exact on1 (zY _) rfl ⟨_, _, _, _, rfl, hc16, hn16⟩
   refine zS (fun v w => ∃ b, v = .bool b ∧ (l.getD s 0 ≠ 0 → b = decide (l.getD s 0 < 0))) (fun _ _ _ e r => e) (fun wq hR hst => ?_) ?_
   ·refine yD rfl (fun v17 hp17 => ?_)
    obtain ⟨b17, o17, xs17, xa17, rfl, hc17, hn17⟩ := hp17; obtain ⟨oxa17, _⟩ := hn17.one
    refine zC ?_
    have Lq := Le.of_below (Fz := Fz) (M := (Ins b3 (Ins b2 M))) hR
    replace LL := LL.trans Lq
    replace LR := LR.trans Lq
    replace hM := hM.mono Lq
    replace hF := hF.mono Lq
    replace h0 := h0.mono Lq
    replace hn5 := hn5.mono Lq
    replace hn3 := hn3.mono Lq
    replace B2 := B2.below hR
    replace B3 := B3.below hR
    refine xS rfl uP rfl (hc17 0 _ rfl) ?_
    exact on1 (zY _) rfl ⟨_, rfl, hn17.sgn0⟩
   refine zS (fun v w => ∃ b, v = .bool (xs3 != b) ∧ (l.getD s 0 ≠ 0 → b = decide (l.getD s 0 < 0))) (fun _ _ _ e r => e) (fun wq hR hst => ?_) ?_
   ·refine zK rfl (yD rfl (fun v18 hp18 => ?_))
    obtain ⟨s18, rfl, hsg18⟩ := hp18
    refine zC ?_
    have Lq := Le.of_below (Fz := Fz) (M := (Ins b3 (Ins b2 M))) hR
    replace LL := LL.trans Lq
    replace LR := LR.trans Lq
    replace hM := hM.mono Lq
    replace hF := hF.mono Lq
    replace h0 := h0.mono Lq
    replace hn5 := hn5.mono Lq
    replace hn3 := hn3.mono Lq
    replace B2 := B2.below hR
    replace B3 := B3.below hR
    refine ops_bne rfl rfl rfl underlying4 ?_
    exact on1 (zY _) rfl ⟨_, rfl, hsg18⟩
   apply zN
   ·intro wq hR hst
    refine zP rfl rfl (zC ?_)
    have Lq := Le.of_below (Fz := Fz) (M := (Ins b3 (Ins b2 M))) hR
    replace LL := LL.trans Lq
    replace LR := LR.trans Lq
    replace hM := hM.mono Lq
    replace hF := hF.mono Lq
    replace h0 := h0.mono Lq
    replace hn5 := hn5.mono Lq
    replace hn3 := hn3.mono Lq
    replace B2 := B2.below hR
    replace B3 := B3.below hR
    refine zL 1 rfl yu31 rfl rfl xV rfl rfl ?_
    exact on1 (zY _) rfl rfl
   apply zN
   ·intro wq hR hst
    refine zK rfl (zC ?_)
    have Lq := Le.of_below (Fz := Fz) (M := (Ins b3 (Ins b2 M))) hR
    replace LL := LL.trans Lq
    replace LR := LR.trans Lq
    replace hM := hM.mono Lq
    replace hF := hF.mono Lq
    replace h0 := h0.mono Lq
    replace hn5 := hn5.mono Lq
    replace hn3 := hn3.mono Lq
    replace B2 := B2.below hR
    replace B3 := B3.below hR
    refine zT rfl yU rfl B3 rfl ?_
    exact on1 (zY _) rfl rfl
   refine dv (fun v w => ∃ xa22, v = xa22 ∧ ZL (Ins b3 (Ins b2 M)) w (n0) (l) xa22) (fun wq hR hst => ?_) ?_
   ·refine zP rfl rfl (zC ?_)
    have Lq := Le.of_below (Fz := Fz) (M := (Ins b3 (Ins b2 M))) hR
    replace LL := LL.trans Lq
    replace LR := LR.trans Lq
    replace hM := hM.mono Lq
    replace hF := hF.mono Lq
    replace h0 := h0.mono Lq
    replace hn5 := hn5.mono Lq
    replace hn3 := hn3.mono Lq
    replace B2 := B2.below hR
    replace B3 := B3.below hR
    refine zA rfl rfl ?_
    exact on1 (zY _) rfl ⟨_, rfl, h0⟩
   apply zN
   ·intro wq hR hst
    refine zP rfl rfl (zC ?_)
    have Lq := Le.of_below (Fz := Fz) (M := (Ins b3 (Ins b2 M))) hR
    replace LL := LL.trans Lq
    replace LR := LR.trans Lq
    replace hM := hM.mono Lq
    replace hF := hF.mono Lq
    replace h0 := h0.mono Lq
    replace hn5 := hn5.mono Lq
    replace hn3 := hn3.mono Lq
    replace B2 := B2.below hR
    replace B3 := B3.below hR
    refine zA rfl rfl ?_
    exact on1 (zY _) rfl rfl
   refine dv (rZQ (Ins b3 (Ins b2 M)) (n0) (l.getD s 0)) (fun wq hR hst => ?_) ?_
   ·refine yD rfl (fun v22 hp22 => ?_)
    obtain ⟨xa22, rfl, hn22⟩ := hp22; obtain ⟨oxa22, _⟩ := hn22.one
    refine zK rfl (zC ?_)
    have Lq := Le.of_below (Fz := Fz) (M := (Ins b3 (Ins b2 M))) hR
    replace LL := LL.trans Lq
    replace LR := LR.trans Lq
    replace hM := hM.mono Lq
    replace hF := hF.mono Lq
    replace h0 := h0.mono Lq
    replace hn5 := hn5.mono Lq
    replace hn3 := hn3.mono Lq
    replace B2 := B2.below hR
    replace B3 := B3.below hR
    refine jL (dflt := (0 : Int)) (s) rfl yu174 xE rfl rfl hn22.row (by first | rfl | omega) (by first | omega | (simp; omega) | simp) (fun b24 o24 us24 hul24 hu24 hc24 => ?_)
    obtain ⟨xs24, xa24, rfl, hn24⟩ := hu24
    obtain ⟨oxa24, _⟩ := hn24.one
    exact on1 (zY _) rfl ⟨b24, o24, _, _, rfl, hc24, hn24⟩
   refine dv (rZQko 1 (Ins b3 (Ins b2 M)) (n0) (l.getD s 0)) (fun wq hR hst => ?_) ?_
   ·refine yD rfl (fun v24 hp24 => ?_)
    obtain ⟨b24, o24, xs24, xa24, rfl, hc24, hn24⟩ := hp24; obtain ⟨oxa24, _⟩ := hn24.one
    refine zC ?_
    have Lq := Le.of_below (Fz := Fz) (M := (Ins b3 (Ins b2 M))) hR
    replace LL := LL.trans Lq
    replace LR := LR.trans Lq
    replace hM := hM.mono Lq
    replace hF := hF.mono Lq
    replace h0 := h0.mono Lq
    replace hn5 := hn5.mono Lq
    replace hn3 := hn3.mono Lq
    replace B2 := B2.below hR
    replace B3 := B3.below hR
    refine yY 1 rfl yu31 rfl rfl xV rfl rfl ?_
    exact on1 (zY _) rfl ⟨_, _, _, _, rfl, hc24, hn24⟩
   refine dv (fun v w => ∃ ys, IsNat (Ins b3 (Ins b2 M)) w v ys ∧ ys.length ≤ n0 ∧ val ys = (l.getD s 0).natAbs) (fun wq hR hst => ?_) ?_
   ·refine yD rfl (fun v25 hp25 => ?_)
    obtain ⟨b25, o25, xs25, xa25, rfl, hc25, hn25⟩ := hp25; obtain ⟨oxa25, _⟩ := hn25.one
    refine zC ?_
    have Lq := Le.of_below (Fz := Fz) (M := (Ins b3 (Ins b2 M))) hR
    replace LL := LL.trans Lq
    replace LR := LR.trans Lq
    replace hM := hM.mono Lq
    replace hF := hF.mono Lq
    replace h0 := h0.mono Lq
    replace hn5 := hn5.mono Lq
    replace hn3 := hn3.mono Lq
    replace B2 := B2.below hR
    replace B3 := B3.below hR
    refine xS rfl yU rfl (hc25 1 _ rfl) ?_
    exact on1 (zY _) rfl hn25.abs
   refine dv (fun v w => IsNat (Ins b3 (Ins b2 M)) w v (limbs ((qD (l.take s)).natAbs * (l.getD s 0).natAbs)) ∧ (limbs (l.getD s 0).natAbs).length ≤ n0) (fun wq hR hst => ?_) ?_
   ·refine zK rfl (yD rfl (fun v26 hp26 => ?_))
    obtain ⟨ys, hn26, hyl, hyv⟩ := hp26
    refine zC ?_
    have Lq := Le.of_below (Fz := Fz) (M := (Ins b3 (Ins b2 M))) hR
    replace LL := LL.trans Lq
    replace LR := LR.trans Lq
    replace hM := hM.mono Lq
    replace hF := hF.mono Lq
    replace h0 := h0.mono Lq
    replace hn5 := hn5.mono Lq
    replace hn3 := hn3.mono Lq
    replace B2 := B2.below hR
    replace B3 := B3.below hR
    refine zI rfl (bo func108) rfl rfl ?_
    refine (rmul_c (M := (Ins b3 (Ins b2 M))) hn3.num hn26 (by have := hn3.len; have : s * n0 ≤ 2 * n0 := Nat.mul_le_mul_right _ (by omega); omega) (by omega) hM).mono ?_
    rintro v27 w6 ⟨hB27, hf27⟩
    have hM27 := hM; have hS27 := LL.size
    have Lw6 := Le.of_below (Fz := Fz) (M := (Ins b3 (Ins b2 M))) hB27
    replace LL := LL.trans Lw6
    replace LR := LR.trans Lw6
    replace hM := hM.mono Lw6
    replace hF := hF.mono Lw6
    replace h0 := h0.mono Lw6
    replace hn5 := hn5.mono Lw6
    replace hn3 := hn3.mono Lw6
    replace hn26 := hn26.mono Lw6
    replace B2 := B2.below hB27
    replace B3 := B3.below hB27
    rw [yF, hyv] at hf27
    have hyl2 : (limbs (l.getD s 0).natAbs).length ≤ n0 := by rw [← hyv]; exact Nat.le_trans (yN ys hn26.lt) hyl
    have hn27 := hf27.nat hM27; replace hf27 := hf27.less hS27
    exact on1 hB27 rfl ⟨hn27, hyl2⟩
   refine xI (fun wq5 hR5 hpost5 => ?_)
   refine zP rfl rfl (zP rfl rfl (zP rfl rfl (zP rfl rfl (yD rfl (fun v19 hp19 => ?_)))))
   obtain ⟨s19, rfl, hsg19⟩ := hp19
   refine yD rfl (fun v27 hp27 => ?_)
   obtain ⟨hn27, hyl2⟩ := hp27
   refine zC ?_
   simp only [jC, jB, jA, xZ]
   have Lwq5 := Le.of_below (Fz := Fz) (M := (Ins b3 (Ins b2 M))) hR5
   replace LL := LL.trans Lwq5
   replace LR := LR.trans Lwq5
   replace hM := hM.mono Lwq5
   replace hF := hF.mono Lwq5
   replace h0 := h0.mono Lwq5
   replace hn5 := hn5.mono Lwq5
   replace hn3 := hn3.mono Lwq5
   replace B2 := B2.below hR5
   replace B3 := B3.below hR5
   refine xM rfl bA rfl rfl (zX (gS rfl) (zX (gS (by first | rfl | exact yX (by assumption) | exact yZ (by assumption) | assumption)) xD)) rfl ?_
   have hz28 : ZQ (Ins b3 (Ins b2 M)) wq5 (s * n0 + 2 + n0) (qD (l.take s) * l.getD s 0) (xs3 != s19) v27 := ⟨_, hn27, xT (by have a1 := xJ hn3.len; have a2 := xJ hyl2; exact qB a1 a2), by rw [hn3.sgn]; exact zv_prod hsg19⟩
   have hsn : s * n0 ≤ 2 * n0 := Nat.mul_le_mul_right _ (by omega)
   refine zI rfl (bo func155) rfl rfl ?_
   refine (uJ (M := (Ins b3 (Ins b2 M))) hz28 (by omega) hM).mono ?_
   rintro v29 w7 ⟨hB29, xs29, xa29, rfl, hn29⟩
   have Lw7 := Le.of_below (Fz := Fz) (M := (Ins b3 (Ins b2 M))) hB29
   replace LL := LL.trans Lw7
   replace LR := LR.trans Lw7
   replace hM := hM.mono Lw7
   replace hF := hF.mono Lw7
   replace h0 := h0.mono Lw7
   replace hn5 := hn5.mono Lw7
   replace hn3 := hn3.mono Lw7
   replace hn27 := hn27.mono Lw7
   replace hz28 := hz28.mono Lw7
   replace B2 := B2.below hB29
   replace B3 := B3.below hB29
   obtain ⟨oxa29, _⟩ := hn29.one
   refine zV rfl rfl xE B3 rfl rfl (zU (zU xY)) rfl (fun w8 Cw8 B3 => ?_)
   have Lw8 := Le.of_chg (M := (Ins b3 (Ins b2 M))) Cw8 zQ nF3
   replace LL := LL.trans Lw8
   replace LR := LR.trans Lw8
   replace hM := hM.mono Lw8
   replace hF := hF.mono Lw8
   replace h0 := h0.mono Lw8
   replace hn5 := hn5.mono Lw8
   replace hn3 := hn3.mono Lw8
   replace hn27 := hn27.mono Lw8
   replace hz28 := hz28.mono Lw8
   replace hn29 := hn29.mono Lw8
   replace B2 := B2.other Cw8 ne2_3
   try simp only [List.set_cons_zero, List.set_cons_succ, List.take_succ_cons, List.take_zero, List.drop_succ_cons, List.drop_zero, List.drop_nil, List.cons_append, List.nil_append, List.append_nil] at B3
   refine zD (zB (zA rfl rfl (xC rfl rfl rfl (by omega) (zF rfl rfl (zD ?_)))))
   refine ⟨rfl, s + 1, (zZ rfl (by rw [Int.natCast_add]; rfl) (zG rfl (zG rfl (zG rfl yE)))), ?_, ?_⟩
   have e2 : (s + 1) * n0 + 2 = s * n0 + 2 + n0 := by rw [Nat.add_mul, Nat.one_mul]; omega
   exact ⟨LR, by omega, B2, _, _, B3, by rw [prod_take (by omega), e2]; exact hn29⟩
   omega
  ·refine xN (xO (zH (zB (zM rfl xX xE rfl B3 rfl rfl (zV rfl rfl xE B2 rfl rfl (zU (zU xY)) rfl (fun w9 Cw9 B2 => ?_))))))
   have Lw9 := Le.of_chg (M := (Ins b3 (Ins b2 M))) Cw9 (.inr zQ) nF2
   replace LL := LL.trans Lw9
   replace LR := LR.trans Lw9
   replace hM := hM.mono Lw9
   replace hF := hF.mono Lw9
   replace h0 := h0.mono Lw9
   replace hn5 := hn5.mono Lw9
   replace hn3 := hn3.mono Lw9
   replace B3 := B3.other Cw9 ne2_3.symm
   try simp only [List.set_cons_zero, List.set_cons_succ, List.take_succ_cons, List.take_zero, List.drop_succ_cons, List.drop_zero, List.drop_nil, List.cons_append, List.nil_append, List.append_nil] at B2
   refine zD (zW ?_)
   refine lv1 ⟨⟨_, rfl, yQ xX xE B2 rfl rfl⟩, trivial⟩ ?_
   obtain rfl : s = l.length := by omega
   rw [List.take_length] at hn3
   have hsn : l.length * n0 ≤ 2 * n0 := Nat.mul_le_mul_right _ (by omega)
   subst hFz
   exact ⟨LL.b, _, _, rfl, (hn3.less (fun k c => zJ (zJ c))).up (by omega)⟩
end Go.Proofs.YtfkejnlohkgbgaaGreatDoor
set_option maxRecDepth 100000
namespace Go.Proofs.YtfkejnlohkgbgaaGreatDoor
open Go.SL Go.RowKit Go.Proofs Tryz
variable {M : Nat → Prop} {w : World}
theorem tz_even {t : Nat} (h0 : t ≠ 0) (h : t % 2 = 0) : tz t = tz (t / 2) + 1 := by
  conv => lhs; rw [tz]
  rw [dif_neg (by omega)]
theorem tz_odd {t : Nat} (h : t % 2 = 1) : tz t = 0 := by rw [tz, dif_pos (.inl h)]
theorem tz_mul : ∀ (k m : Nat), m ≠ 0 → tz (2 ^ k * m) = k + tz m
  | 0, m, h => by simp
  | k + 1, m, h => by
    have hp : 2 ^ k * m ≠ 0 := Nat.mul_ne_zero (Nat.pos_iff_ne_zero.1 (Nat.pow_pos (by omega))) h
    have e : 2 ^ (k + 1) * m = 2 * (2 ^ k * m) := by rw [Nat.pow_succ, Nat.mul_comm (2 ^ k) 2, Nat.mul_assoc]
    rw [e, tz_even (by omega) (by omega), Nat.mul_div_cancel_left _ (by omega), tz_mul k m h]; omega
def od (x : Nat) : Nat := x / 2 ^ tz x
theorem dJ {x : Nat} (h : x ≠ 0) : x = 2 ^ tz x * od x ∧ od x % 2 = 1 := dF x h
theorem bC (x : Nat) : od x ≤ x := Nat.div_le_self _ _
theorem tz_low {x r : Nat} (hx : x ≠ 0) (hx2 : x < 4294967296) : tz (x + 4294967296 * r) = tz x := by
  obtain ⟨h1, h2⟩ := dJ hx
  have hk := eY (n := 32) hx (Nat.lt_of_lt_of_eq hx2 (by decide))
  obtain ⟨i, hi⟩ : ∃ i, 32 = tz x + (i + 1) := ⟨32 - tz x - 1, by omega⟩
  have e : x + 4294967296 * r = 2 ^ tz x * (od x + 2 * (2 ^ i * r)) := by
    have : (4294967296 : Nat) = 2 ^ tz x * (2 ^ i * 2) := by rw [← Nat.pow_succ, ← Nat.pow_add, ← hi]
    rw [this, Nat.mul_add, ← h1]; congr 1
    simp only [Nat.mul_assoc, Nat.mul_left_comm, Nat.mul_comm]
  rw [e]; generalize 2 ^ i * r = q
  rw [tz_mul _ _ (by omega), tz_odd (t := od x + 2 * q) (by omega)]; rfl
theorem val_low : ∀ (s : Nat) (xs : List Nat), (∀ j, j < s → xs.getD j 0 = 0) → s < xs.length → ∃ r, val xs = 2 ^ (32 * s) * (xs.getD s 0 + 4294967296 * r)
  | 0, x :: xs, _, _ => ⟨val xs, by simp [val]⟩
  | s + 1, x :: xs, h, hl => by
    obtain ⟨r, hr⟩ := val_low s xs (fun j hj => by have := h (j + 1) (by omega); simpa using this) (by simpa using hl)
    have h0 : x = 0 := by have := h 0 (by omega); simpa using this
    refine ⟨r, ?_⟩
    have e : 2 ^ (32 * (s + 1)) = 4294967296 * 2 ^ (32 * s) := by rw [Nat.mul_add, Nat.pow_add, Nat.mul_comm]
    rw [val, h0, hr, e, Nat.mul_assoc]; simp
theorem tz_limbs {xs : List Nat} {s : Nat} (hlt : ∀ x ∈ xs, x < 4294967296) (h : ∀ j, j < s → xs.getD j 0 = 0) (hs : s < xs.length) (h0 : xs.getD s 0 ≠ 0) : tz (val xs) = 32 * s + tz (xs.getD s 0) := by
  obtain ⟨r, hr⟩ := val_low s xs h hs
  rw [hr, tz_mul _ _ (by omega), tz_low h0 (uA hlt s)]
theorem val_zero_all {xs : List Nat} (h : ∀ j, j < xs.length → xs.getD j 0 = 0) : val xs = 0 := by
  have := cU (xs := xs) (n := 0) (fun j _ => by
    rcases Nat.lt_or_ge j xs.length with c | c
    · exact h j c
    · exact gO c)
  simpa [val] using this.symm
theorem gcd_od {x y : Nat} (hx : x ≠ 0) (hy : y ≠ 0) : Nat.gcd x y = Nat.gcd (od x) (od y) * 2 ^ min (tz x) (tz y) := by
  obtain ⟨h1, h2⟩ := dJ hx; obtain ⟨k1, k2⟩ := dJ hy
  rcases Nat.le_total (tz x) (tz y) with h | h
  · obtain ⟨i, hi⟩ : ∃ i, tz y = tz x + i := ⟨tz y - tz x, by omega⟩
    rw [Nat.min_eq_left h]
    conv => lhs; rw [h1, k1, hi, Nat.pow_add, Nat.mul_assoc, Nat.gcd_mul_left, kE h2]
    rw [Nat.mul_comm]
  · obtain ⟨i, hi⟩ : ∃ i, tz x = tz y + i := ⟨tz x - tz y, by omega⟩
    rw [Nat.min_eq_right h]
    conv => lhs; rw [h1, k1, hi, Nat.pow_add, Nat.mul_assoc, Nat.gcd_mul_left, Nat.gcd_comm, kE k2, Nat.gcd_comm]
    rw [Nat.mul_comm]
def GI (G A B : Nat) : Prop := B ≠ 0 ∧ (A ≠ 0 → Nat.gcd (od A) (od B) = G) ∧ (A = 0 → B = G)
theorem gi_step {G A B : Nat} (h : GI G A B) (hA : A ≠ 0) : (od B ≤ od A → GI G (od A - od B) (od B) ∧ od A - od B + od B < A + B) ∧ (od A ≤ od B → GI G (od B - od A) (od A) ∧ od B - od A + od A < A + B) := by
  have hg := h.2.1 hA
  obtain ⟨a1, a2⟩ := dJ hA; obtain ⟨b1, b2⟩ := dJ h.1
  have la := bC A
  have lb := bC B
  have key : ∀ a b : Nat, a % 2 = 1 → b % 2 = 1 → Nat.gcd a b = G → b ≤ a → GI G (a - b) b := fun a b ha hb hab hle => by
    refine ⟨by omega, fun h0 => ?_, fun h0 => ?_⟩
    · obtain ⟨c1, c2⟩ := dJ h0
      have ob : od b = b := by unfold od; rw [tz_odd hb]; simp
      rw [ob, Nat.gcd_comm, ← kE (k := tz (a - b)) hb, ← c1, Nat.gcd_comm]
      have := Nat.gcd_sub_self_left (m := b) (n := a) (by omega)
      rw [this]; exact hab
    · obtain rfl : a = b := by omega
      rw [Nat.gcd_self] at hab; exact hab
  exact ⟨fun hle => ⟨key _ _ a2 b2 hg hle, by omega⟩, fun hle => ⟨key _ _ b2 a2 (by rw [Nat.gcd_comm]; exact hg) hle, by omega⟩⟩
theorem cntN_id {n m : Nat} (h : n ≤ m) : bF ((n : Nat) : Int) ((m : Nat) : Int) = n := by unfold bF; omega
theorem cntN_min {a b : Nat} (h : min a b ≤ 65536) : bF (min ((a : Nat) : Int) ((b : Nat) : Int)) 65536 = min a b := by unfold bF; omega
theorem ops_rem32 {P : Program} {r : Option Nat} {N : Nat} {all : Array Oper} {K : Pd} {D : List Deferred} {E : Env} {w : World} {rest : List Oper} {d : Nat} {x y : Operand} {tx ty t : TypeId} {pos : String} {af : Array Edge} {a b : Nat} (hd : Nat.blt d N = true)
    (hx : ev E x = some (.int .u32 (a : Int))) (hy : ev E y = some (.int .u32 (b : Int))) (hb : 0 < b)
    (h : Ops P r N all K rest D ((d, .int .u32 ((a % b : Nat) : Int)) :: E) w) : Ops P r N all K (⟨some d, .binOp .rem tx x y ty, t, pos, af, none⟩ :: rest) D E w :=
  dI hd (.inr rfl) hx hy (by omega) (by rw [Int.tmod_eq_emod_of_nonneg (by omega)]; rfl) h
theorem tz_bound {x n : Nat} (h0 : x ≠ 0) (h : (limbs x).length ≤ n) : tz x < 32 * n := eY h0 (by have := xJ h; rwa [show (4294967296 : Nat) = 2 ^ 32 by decide, ← Nat.pow_mul] at this)
theorem plain7_c {a b : Nat} (ha : a < 18446744073709551616) (hb : b < 18446744073709551616) (hM : OkM M w) :
    CallsV prog 168 [.int .u64 (a : Int), .int .u64 (b : Int)] w fun r w' => Bel w.heap.size w w' ∧ r = .int .u64 ((Nat.gcd a b : Nat) : Int) := by
 refine ci M func168 ntmps168 fun Fz hFz hF LL => ?_
 refine zH (zB (zF rfl rfl (zD (zH (yC ?_)))))
 refine xP (σ := Nat × Nat) [] (fun s => [(0, .int .u64 ((s.1 : Nat) : Int)), (1, .int .u64 ((s.2 : Nat) : Int))]) (fun s w1 => Le Fz M w M w1 ∧ s.1 < 18446744073709551616 ∧ s.2 < 18446744073709551616 ∧ Nat.gcd s.1 s.2 = Nat.gcd a b) (fun s => s.2) ((a, b)) (zG rfl (zG rfl yE)) ?_ (fun s w1 hJ => ?_)
 · dsimp only
   exact ⟨Le.refl _ _ _, ha, hb, rfl⟩
 ·obtain ⟨p, q⟩ := s
  dsimp only at hJ ⊢
  obtain ⟨LR, hp, hq, hg⟩ := hJ
  replace LL := LL.trans LR
  refine zH (zH (zB (zA rfl rfl (uD rfl rfl rfl (zD ?_)))))
  refine yA rfl (fun hc0 => ?_) (fun hc0 => ?_)
  ·refine yH (yC ?_)
   refine wd mixed 5 [0, 1, 10] (by decide +kernel) ?_
   refine zN (fun _ _ _ => zP rfl rfl (zC (zA rfl rfl (on0 rfl)))) ?_
   refine zN (fun _ _ _ => zP rfl rfl (zC (zA rfl rfl (on0 rfl)))) ?_
   refine zN (fun _ _ _ => zP rfl rfl (zC (zA rfl rfl (on0 rfl)))) ?_
   apply zN
   ·intro wq hR hst
    refine zK rfl (zK rfl (zC ?_))
    exact ops_remu rfl rfl rfl (by omega) (on0 rfl)
   refine zN (fun _ _ _ => zK rfl (zC (zF rfl rfl (on0 rfl)))) ?_
   refine xI (fun wq2 hR2 hpost2 => ?_)
   refine zK rfl (zP rfl rfl (zK rfl (zC ?_)))
   simp only [jC, jB, jA, xZ]
   replace LR := ub1 hR2 LR
   refine zF rfl rfl (zD ?_)
   refine ⟨rfl, (q, p % q), (zZ rfl (rfl) (zZ rfl (rfl) yE)), ?_, ?_⟩
   dsimp only
   have hlt := Nat.mod_lt p (show 0 < q by omega)
   exact ⟨LR, hq, by omega, by rw [← hg, Nat.gcd_comm, ← Nat.gcd_rec, Nat.gcd_comm]⟩
   dsimp only
   exact Nat.mod_lt p (by omega)
  ·refine xN (xO (zH (zB (zA rfl rfl (zF rfl rfl (zD (zW ?_)))))))
   refine lv1 ⟨rfl, trivial⟩ ?_
   obtain rfl : q = 0 := by omega
   rw [Nat.gcd_zero_right] at hg
   subst hFz
   exact ⟨LL.b, by rw [hg]⟩
theorem twos_c {v : Value} {xs : List Nat} (h : IsNat M w v xs) (h0 : val xs ≠ 0) (hl : xs.length ≤ 1000000) (hM : OkM M w) :
    CallsV prog 226 [v] w fun r w' => Bel w.heap.size w w' ∧ r = .int .i64 ((tz (val xs) : Nat) : Int) := by
 refine ci M func226 ntmps226 fun Fz hFz hF LL => ?_
 refine zH (zB (zF rfl rfl (zD (zH (zB (zF rfl rfl (zD (zH (zH (zB (zF rfl rfl (zD (yC ?_)))))))))))))
 refine xP (σ := Nat) [(0, _)] (fun s => [(3, .int .i64 ((32 * s : Nat) : Int)), (4, .int .i64 ((s : Nat) : Int))]) (fun s w1 => Le Fz M w M w1 ∧ s ≤ xs.length ∧ ∀ j, j < s → xs.getD j 0 = 0) (fun s => xs.length - s) (0) (zG rfl (zG rfl (zG rfl yE))) ?_ (fun s w1 hJ => ?_)
 · exact ⟨Le.refl _ _ _, by omega, fun j hj => by omega⟩
 ·obtain ⟨LR, hs, hz⟩ := hJ
  obtain ⟨LL, h⟩ := up2 LR LL h
  refine zH (zH (zB (zA rfl rfl (zA rfl rfl ?_))))
  first | refine yP rfl yu29 rfl (IsNat.slc (by assumption)) ?_ | refine yT rfl yu29 rfl ?_
  refine jI rfl rfl rfl (zA rfl rfl (gE (d := 10) rfl (fun hg3_4 => ?_) (fun hg3_4 => ?_)))
  ·have hsl : s < xs.length := by omega
   refine zO rfl rfl (zA rfl rfl (zO rfl rfl (zA rfl rfl (zO rfl rfl (gA (s) rfl yu29 xG rfl rfl (by assumption) (by omega) (by omega) (fun b13 o13 hc13 hb13 => ?_))))))
   refine zO rfl rfl (xS rfl jJ rfl hc13 (zO rfl rfl (gN rfl rfl rfl (yW rfl rfl rfl (zD ?_)))))
   refine yA rfl (fun hc0 => ?_) (fun hc0 => ?_)
   ·refine yH (zH (yC (zB (zA rfl rfl (xC rfl rfl rfl (by omega) (zF rfl rfl (zD (zB (zA rfl rfl (xC rfl rfl rfl (by omega) (zF rfl rfl (zD ?_))))))))))))
    refine ⟨rfl, s + 1, (zZ rfl (by first | rfl | (show Value.int .i64 _ = Value.int .i64 _; congr 1; omega)) (zZ rfl (by rw [Int.natCast_add]; rfl) (zG rfl yE))), ?_, ?_⟩
    exact ⟨LR, by omega, fun j hj => by
      rcases Nat.lt_or_ge j s with c | c
      · exact hz j c
      · obtain rfl : j = s := by omega
        omega⟩
    omega
   ·have hnz : xs.getD s 0 ≠ 0 := fun c => hc0 (by rw [c]; rfl)
    have hsl2 : s < xs.length := hsl
    have htl := tz_limbs h.lt hz hsl hnz
    have hxb := h.lim s
    refine xN (xO (zH (zH (zB (zA rfl rfl (zA rfl rfl (kA rfl rfl rfl (by omega) (gA (s) rfl yu29 xG rfl rfl (by assumption) (by omega) (by omega) (fun b24 o24 hc24 hb24 => ?_)))))))))
    refine xS rfl jJ rfl hc24 (zF rfl rfl (zD (yC ?_)))
    refine xP (σ := Nat × Nat) [] (fun s => [(3, .int .i64 ((s.1 : Nat) : Int)), (5, .int .u32 ((s.2 : Nat) : Int))]) (fun s w2 => Le Fz M w1 M w2 ∧ s.2 ≠ 0 ∧ s.2 < 4294967296 ∧ s.1 + tz s.2 = tz (val xs) ∧ s.1 + s.2 ≤ 4294967296 + 32 * 1000000) (fun s => s.2) ((32 * s, xs.getD s 0)) (zG rfl (zG rfl yE)) ?_ (fun s w2 hJ => ?_)
    · dsimp only
      exact ⟨Le.refl _ _ _, hnz, hxb, by rw [htl], by omega⟩
    ·obtain ⟨n, t⟩ := s
     dsimp only at hJ ⊢
     obtain ⟨LR2, ht0, htb, hnt, hnb⟩ := hJ
     obtain ⟨LL, h⟩ := up2 LR2 LL h
     refine zH (zH (zB (zA rfl rfl (ops_rem32 (b := 2) rfl rfl rfl (by omega) (gN rfl rfl rfl (zD ?_))))))
     refine yA rfl (fun hc1 => ?_) (fun hc1 => ?_)
     ·refine yH (zH (yC (zB (zA rfl rfl (xC rfl rfl rfl (by omega) (zF rfl rfl (zD (zB (zA rfl rfl (ops_quo32 (b := 2) rfl rfl rfl (by omega) (by omega) (zF rfl rfl (zD ?_))))))))))))
      refine ⟨rfl, (n + 1, t / 2), (zZ rfl (by rw [Int.natCast_add]; rfl) (zZ rfl (rfl) yE)), ?_, ?_⟩
      dsimp only
      have := tz_even ht0 (by omega)
      exact ⟨LR2, by omega, by omega, by omega, by omega⟩
      dsimp only
      omega
     ·refine xN (xO (zH (zB (zA rfl rfl (zF rfl rfl (zD (zW ?_)))))))
      refine lv1 ⟨rfl, trivial⟩ ?_
      have := tz_odd (t := t) (by omega)
      subst hFz
      exact ⟨LL.b, by rw [← hnt, this, Nat.add_zero]⟩
  ·exact absurd (val_zero_all fun j hj => hz j (by omega)) h0
theorem gcd4_c {v u : Value} {xs ys : List Nat} (h1 : IsNat M w v xs) (h2 : IsNat M w u ys) (hl1 : xs.length ≤ 2000) (hl2 : ys.length ≤ 2000) (hM : OkM M w) :
    CallsV prog 169 [v, u] w fun r w' => Bel w.heap.size w w' ∧ IsNat M w' r (limbs (Nat.gcd (val xs) (val ys))) := by
 have hxl := yN xs h1.lt
 have hyl := yN ys h2.lt
 refine ci M func169 ntmps169 fun Fz hFz hF LL => ?_
 refine zH (zB (zF rfl rfl (zD (zH (zB (zA rfl rfl (zI rfl (bo func86) rfl rfl ?_)))))))
 refine (qQ h1 (by omega) hM).mono ?_
 rintro v7 w1 ⟨hB7, hf7⟩
 have hM7 := hM
 have hS7 := LL.size
 obtain ⟨LL, hM, h2⟩ := ub3 hB7 LL hM h2
 have hn7 := hf7.nat hM7
 refine zA rfl rfl (zI rfl (bo func86) rfl rfl ?_)
 refine (qQ h2 (by omega) hM).mono ?_
 rintro v9 w2 ⟨hB9, hf9⟩
 have hM9 := hM
 have hS9 := LL.size
 obtain ⟨LL, hM, hn7⟩ := ub3 hB9 LL hM hn7
 have hn9 := hf9.nat hM9
 refine zF rfl rfl (zF rfl rfl (zD (zH (zH (zB (zA rfl rfl ?_))))))
 first | refine yP rfl yu29 rfl hn7.slc ?_ | refine yT rfl yu29 rfl ?_
 refine gN rfl rfl rfl (zA rfl rfl (gE (d := 13) rfl (fun hg2_3 => ?_) (fun hg2_3 => ?_)))
 ·have hx0 : val xs = 0 := xR.1 (by omega)
  refine zR rfl rfl rfl rfl (zR rfl rfl rfl rfl (zR rfl rfl rfl rfl (yW rfl rfl rfl (zD (kT rfl (zH (zB (zA rfl rfl (zA rfl rfl (xH rfl yu255 xV rfl rfl rfl (fN (by first | rfl | exact yX (by assumption) | exact yZ (by assumption) | assumption) (by first | rfl | exact yX (by assumption) | exact yZ (by assumption) | assumption)) rfl (fun w3 b20 N20 => ?_)))))))))))
  have hBw3 := N20.below
  have nM20 := hM.new N20
  have B20 := N20.blk
  obtain ⟨LL, hM, hn7, hn9⟩ := ub4 hBw3 LL hM hn7 hn9
  have hn20 := eS B20 nM20 hn7 hn9
  refine zI rfl (bo func225) rfl rfl ?_
  refine (radd_c hn20 (by intro q hq; rcases List.mem_cons.1 hq with rfl | hq; omega; rcases List.mem_cons.1 hq with rfl | hq; omega; cases hq) (by simp) hM).mono ?_
  rintro v21 w4 ⟨hB21, hf21⟩
  have hM21 := hM
  have hS21 := LL.size
  replace LL := ub1 hB21 LL
  simp only [List.map_cons, List.map_nil, List.sum_cons, List.sum_nil, Nat.add_zero, yF] at hf21
  have hn21 := hf21.nat hM21
  refine zF rfl rfl (zD (zW ?_))
  refine lv1 ⟨rfl, trivial⟩ ?_
  have e : Nat.gcd (val xs) (val ys) = val xs + val ys := by rw [hx0]; simp
  rw [e]
  subst hFz
  exact ⟨LL.b, hn21⟩
 ·have hx0 : val xs ≠ 0 := fun c => hg2_3 (by rw [c, xQ]; rfl)
  refine zO rfl rfl (zA rfl rfl (zO rfl rfl ?_))
  first | refine yP rfl yu29 rfl hn9.slc ?_ | refine yT rfl yu29 rfl ?_
  refine zO rfl rfl (gN rfl rfl rfl (yW rfl rfl rfl (zD ?_)))
  refine yA rfl (fun hc0 => ?_) (fun hc0 => ?_)
  ·have hy0 : val ys = 0 := xR.1 (by omega)
   refine zH (zB (zA rfl rfl (zA rfl rfl (xH rfl yu255 xV rfl rfl rfl (fN (by first | rfl | exact yX (by assumption) | exact yZ (by assumption) | assumption) (by first | rfl | exact yX (by assumption) | exact yZ (by assumption) | assumption)) rfl (fun w5 b20 N20 => ?_)))))
   have hBw5 := N20.below
   have nM20 := hM.new N20
   have B20 := N20.blk
   obtain ⟨LL, hM, hn7, hn9⟩ := ub4 hBw5 LL hM hn7 hn9
   have hn20 := eS B20 nM20 hn7 hn9
   refine zI rfl (bo func225) rfl rfl ?_
   refine (radd_c hn20 (by intro q hq; rcases List.mem_cons.1 hq with rfl | hq; omega; rcases List.mem_cons.1 hq with rfl | hq; omega; cases hq) (by simp) hM).mono ?_
   rintro v21 w6 ⟨hB21, hf21⟩
   have hM21 := hM
   have hS21 := LL.size
   replace LL := ub1 hB21 LL
   simp only [List.map_cons, List.map_nil, List.sum_cons, List.sum_nil, Nat.add_zero, yF] at hf21
   have hn21 := hf21.nat hM21
   refine zF rfl rfl (zD (zW ?_))
   refine lv1 ⟨rfl, trivial⟩ ?_
   have e : Nat.gcd (val xs) (val ys) = val xs + val ys := by rw [hy0]; simp
   rw [e]
   subst hFz
   exact ⟨LL.b, hn21⟩
  ·have hy0 : val ys ≠ 0 := fun c => hc0 (by rw [c, xQ]; rfl)
   have hxl2 : (limbs (val xs)).length ≤ 2000 := by omega
   have hyl2 : (limbs (val ys)).length ≤ 2000 := by omega
   refine yH (zH (zB (zA rfl rfl (zI rfl (bo func226) rfl rfl ?_))))
   refine (twos_c hn7 (by rw [yF]; exact hx0) (by omega) hM).mono ?_
   rintro v23 w7 ⟨hB23, rfl⟩
   obtain ⟨LL, hM, hn7, hn9⟩ := ub4 hB23 LL hM hn7 hn9
   rw [yF]
   refine zA rfl rfl (zI rfl (bo func226) rfl rfl ?_)
   refine (twos_c hn9 (by rw [yF]; exact hy0) (by omega) hM).mono ?_
   rintro v25 w8 ⟨hB25, rfl⟩
   obtain ⟨LL, hM, hn7, hn9⟩ := ub4 hB25 LL hM hn7 hn9
   rw [yF]
   refine dH rfl rfl rfl (zF rfl rfl (zD (zH (yC ?_))))
   refine xP (σ := Value × Value × Nat × Nat) [(5, _)] (fun s => [(0, s.1), (1, s.2.1)]) (fun s w9 => Le Fz M w8 M w9 ∧ IsNat M w9 s.1 (limbs s.2.2.1) ∧ IsNat M w9 s.2.1 (limbs s.2.2.2) ∧ (limbs s.2.2.1).length ≤ 2000 ∧ (limbs s.2.2.2).length ≤ 2000 ∧ GI (Nat.gcd (od (val xs)) (od (val ys))) s.2.2.1 s.2.2.2) (fun s => s.2.2.1 + s.2.2.2) ((v7, v9, val xs, val ys)) (zG rfl (zG rfl (zG rfl yE))) ?_ (fun s w9 hJ => ?_)
   · dsimp only
     exact ⟨Le.refl _ _ _, hn7, hn9, hxl2, hyl2, hy0, fun _ => rfl, fun c => absurd c hx0⟩
   ·obtain ⟨a, b, A, B⟩ := s
    dsimp only at hJ ⊢
    obtain ⟨LR, ha, hb, hal, hbl, hG⟩ := hJ
    obtain ⟨LL, hM⟩ := up2 LR LL hM
    refine zH (zH (zB (zA rfl rfl ?_)))
    first | refine yP rfl yu29 rfl (IsNat.slc (by assumption)) ?_ | refine yT rfl yu29 rfl ?_
    refine uD rfl rfl rfl (zD ?_)
    refine yA rfl (fun hc1 => ?_) (fun hc1 => ?_)
    ·have hA0 : A ≠ 0 := fun c => by rw [c, xQ] at hc1; simp at hc1
     refine yH (yC (zH (zB (zA rfl rfl (zA rfl rfl (zI rfl (bo func226) rfl rfl ?_))))))
     refine (twos_c ha (by rw [yF]; exact hA0) (by omega) hM).mono ?_
     rintro v32 w10 ⟨hB32, rfl⟩
     obtain ⟨LL, LR, hM, ha, hb⟩ := ub5 hB32 LL LR hM ha hb
     rw [yF]
     refine zI rfl (bo func227) rfl rfl ?_
     refine (rdown_c ha (by omega) hM).mono ?_
     rintro v33 w11 ⟨hB33, hf33⟩
     have hM33 := hM
     have hS33 := LL.size
     obtain ⟨LL, LR, hM, hb⟩ := ub4 hB33 LL LR hM hb
     rw [show (65536 : Int) = ((65536 : Nat) : Int) from rfl, cntN_id (by have := tz_bound hA0 hal; omega), yF, show A / 2 ^ tz A = od A from rfl] at hf33
     have hn33 := hf33.nat hM33
     refine zF rfl rfl (zD (zH (zB (zA rfl rfl (zA rfl rfl (zI rfl (bo func226) rfl rfl ?_))))))
     refine (twos_c hb (by rw [yF]; exact hG.1) (by omega) hM).mono ?_
     rintro v36 w12 ⟨hB36, rfl⟩
     obtain ⟨LL, LR, hM, hb, hn33⟩ := ub5 hB36 LL LR hM hb hn33
     rw [yF]
     refine zI rfl (bo func227) rfl rfl ?_
     refine (rdown_c hb (by omega) hM).mono ?_
     rintro v37 w13 ⟨hB37, hf37⟩
     have hM37 := hM
     have hS37 := LL.size
     obtain ⟨LR, hM, hn33⟩ := ub3 hB37 LR hM hn33
     rw [show (65536 : Int) = ((65536 : Nat) : Int) from rfl, cntN_id (by have := tz_bound hG.1 hbl; omega), yF, show B / 2 ^ tz B = od B from rfl] at hf37
     have hn37 := hf37.nat hM37
     refine zF rfl rfl (zD (zH (zH (zB (zA rfl rfl (zA rfl rfl (zI rfl (bo func228) rfl rfl ?_)))))))
     refine (rcmp_c hn33 hn37 (by have := yS (bC A); omega) (by have := yS (bC B); omega) hM).mono ?_
     rintro v40 w14 ⟨hB40, rfl⟩
     obtain ⟨LR, hM, hn33, hn37⟩ := ub4 hB40 LR hM hn33 hn37
     rw [yF, yF]
     refine jI rfl rfl rfl (zD ?_)
     refine yA rfl (fun hc2 => ?_) (fun hc2 => ?_)
     ·have hlt : od A < od B := by have := hc2; unfold eX at this; split at this <;> grind
      refine zB (zA rfl rfl (zA rfl rfl (zF rfl rfl (zF rfl rfl (zD (zB (zA rfl rfl (zA rfl rfl (zI rfl (bo func229) rfl rfl ?_)))))))))
      refine (eJ (by assumption) (by assumption) (by have := yS (bC A); have := yS (bC B); omega) (by have := yS (bC A); have := yS (bC B); omega) hM).mono ?_
      rintro v47 w15 ⟨hB47, q47, rfl, hf47⟩
      have hMx := hM
      obtain ⟨LR, hn33⟩ := ub2 hB47 LR hn33
      rw [yF, yF] at hf47
      have hn47 := hf47.nat hMx
      refine zA rfl rfl (yK rfl rfl rfl (yK rfl rfl rfl (zF rfl rfl (zD ?_))))
      refine ⟨rfl, (q47, v33, od B - od A, od A), (zZ rfl (rfl) (zZ rfl (rfl) (zG rfl yE))), ?_, ?_⟩
      dsimp only
      have hl3 := yS (show od B - od A ≤ B from Nat.le_trans (Nat.sub_le _ _) (bC _))
      have hl4 := yS (bC A)
      exact ⟨LR, by simpa using hn47, hn33, by omega, by omega, (gi_step hG hA0).2 (Nat.le_of_lt hlt) |>.1⟩
      dsimp only
      exact (gi_step hG hA0).2 (Nat.le_of_lt hlt) |>.2
     ·have hge : od B ≤ od A := by have := hc2; unfold eX at this; split at this <;> grind
      refine yH (zB (zA rfl rfl (zA rfl rfl (zI rfl (bo func229) rfl rfl ?_))))
      refine (eJ (by assumption) (by assumption) (by have := yS (bC A); have := yS (bC B); omega) (by have := yS (bC A); have := yS (bC B); omega) hM).mono ?_
      rintro v47 w16 ⟨hB47, q47, rfl, hf47⟩
      have hMx := hM
      obtain ⟨LR, hn37⟩ := ub2 hB47 LR hn37
      rw [yF, yF] at hf47
      have hn47 := hf47.nat hMx
      refine zA rfl rfl (yK rfl rfl rfl (yK rfl rfl rfl (zF rfl rfl (zD ?_))))
      refine ⟨rfl, (q47, v37, od A - od B, od B), (zZ rfl (rfl) (zZ rfl (rfl) (zG rfl yE))), ?_, ?_⟩
      dsimp only
      have hl3 := yS (show od A - od B ≤ A from Nat.le_trans (Nat.sub_le _ _) (bC _))
      have hl4 := yS (bC B)
      exact ⟨LR, by simpa using hn47, hn37, by omega, by omega, (gi_step hG hA0).1 hge |>.1⟩
      dsimp only
      exact (gi_step hG hA0).1 hge |>.2
    ·refine xN (xO (zH (zB (zA rfl rfl (zA rfl rfl (zI rfl (bo func187) rfl rfl ?_))))))
     refine (rup_c hb (by omega) hM).mono ?_
     rintro v52 w17 ⟨hB52, hf52⟩
     have hM52 := hM
     have hS52 := LL.size
     replace LL := ub1 hB52 LL
     rw [cntN_min (by have := tz_bound hx0 hxl2; omega), yF] at hf52
     have hn52 := hf52.nat hM52
     refine zF rfl rfl (zD (zW ?_))
     refine lv1 ⟨rfl, trivial⟩ ?_
     have hA0 : A = 0 := xR.1 (by omega)
     rw [hG.2.2 hA0, ← gcd_od hx0 hy0] at hn52
     subst hFz
     exact ⟨LL.b, hn52⟩
end Go.Proofs.YtfkejnlohkgbgaaGreatDoor
set_option maxRecDepth 100000
namespace Go.Proofs.YtfkejnlohkgbgaaGreatDoor
open Go.SL Go.RowKit Go.Proofs Tryz
variable {M : Nat → Prop} {w : World}
theorem limb_val {xs : List Nat} (h : ∀ x ∈ xs, x < 4294967296) (j : Nat) : xs.getD j 0 = val xs / 2 ^ (32 * j) % 2 ^ 32 := by
  have e : (2 : Nat) ^ (32 * j) = 4294967296 ^ j := by rw [Nat.pow_mul]
  rw [e, ← val_drop h j]
  rcases Nat.lt_or_ge j xs.length with c | c
  · rw [aH c, show (2 : Nat) ^ 32 = 4294967296 by decide, Nat.add_mul_mod_self_left]
    exact (Nat.mod_eq_of_lt (uA h j)).symm
  · rw [List.drop_of_length_le c, gO c]; rfl
theorem tb (x i : Nat) : x.testBit i = decide (x / 2 ^ i % 2 = 1) := Nat.testBit_eq_decide_div_mod_eq
theorem bit_of {xs : List Nat} (h : ∀ x ∈ xs, x < 4294967296) (i : Nat) : xs.getD (i / 32) 0 / 2 ^ (i % 32) % 2 = val xs / 2 ^ i % 2 := by
  have hk : i % 32 < 32 := Nat.mod_lt _ (by omega)
  have e : 32 * (i / 32) + i % 32 = i := Nat.div_add_mod i 32
  have h1 : (xs.getD (i / 32) 0).testBit (i % 32) = (val xs).testBit i := by
    rw [limb_val h, Nat.testBit_mod_two_pow, Nat.testBit_div_two_pow, Nat.add_comm (i % 32), e]; simp [hk]
  rw [tb, tb] at h1
  have h2 := decide_eq_decide.1 h1
  have a1 := Nat.mod_two_eq_zero_or_one (xs.getD (i / 32) 0 / 2 ^ (i % 32))
  have a2 := Nat.mod_two_eq_zero_or_one (val xs / 2 ^ i)
  generalize xs.getD (i / 32) 0 / 2 ^ (i % 32) % 2 = p at *
  generalize val xs / 2 ^ i % 2 = q at *
  omega
theorem or_bit {zs : List Nat} {i c : Nat} (h : ∀ z ∈ zs, z < 4294967296) (hv : val zs = c * 2 ^ (i + 1)) : zs.getD (i / 32) 0 ||| 2 ^ (i % 32) = zs.getD (i / 32) 0 + 2 ^ (i % 32) := by
  have hk : i % 32 < 32 := Nat.mod_lt _ (by omega)
  have e : 32 * (i / 32) + i % 32 = i := Nat.div_add_mod i 32
  obtain ⟨q, hq⟩ : ∃ q, 32 = i % 32 + 1 + q := ⟨32 - (i % 32 + 1), by omega⟩
  have h1 : zs.getD (i / 32) 0 = 2 ^ (i % 32 + 1) * (c % 2 ^ q) := by
    rw [limb_val h, hv]
    have : c * 2 ^ (i + 1) = 2 ^ (32 * (i / 32)) * (2 ^ (i % 32 + 1) * c) := by
      rw [← Nat.mul_assoc, ← Nat.pow_add, show 32 * (i / 32) + (i % 32 + 1) = i + 1 by omega, Nat.mul_comm]
    rw [this, Nat.mul_div_cancel_left _ (Nat.pow_pos (by omega))]
    rw [show (2 : Nat) ^ 32 = 2 ^ (i % 32 + 1) * 2 ^ q by rw [← Nat.pow_add, ← hq], Nat.mul_mod_mul_left]
  rw [h1]
  have := Nat.shiftLeft_add_eq_or_of_lt (b := 2 ^ (i % 32)) (i := i % 32 + 1) (Nat.pow_lt_pow_right (by omega) (by omega)) (c % 2 ^ q)
  rw [Nat.shiftLeft_eq, Nat.mul_comm] at this
  exact this.symm
theorem set_bit {zs : List Nat} {i : Nat} (hj : i / 32 < zs.length) : val (zs.set (i / 32) (zs.getD (i / 32) 0 + 2 ^ (i % 32))) = val zs + 2 ^ i := by
  have hv := bV (zs := zs) (j := i / 32) (zs.getD (i / 32) 0 + 2 ^ (i % 32)) hj
  have e : (4294967296 : Nat) ^ (i / 32) * 2 ^ (i % 32) = 2 ^ i := by
    rw [show (4294967296 : Nat) = 2 ^ 32 by decide, ← Nat.pow_mul, ← Nat.pow_add, Nat.div_add_mod i 32]
  rw [Nat.mul_add, e] at hv
  omega
theorem or_lt32 {a k : Nat} (ha : a < 4294967296) (hk : k < 32) : a ||| 2 ^ k < 4294967296 := Nat.or_lt_two_pow (n := 32) ha (Nat.pow_lt_pow_right (by omega) hk)
structure DI (X Y V R t : Nat) : Prop where
  eq : X = V * Y + 2 ^ t * R + X % 2 ^ t
  lt : R < Y
  dv : ∃ c, V = c * 2 ^ t
theorem di_step {X Y V R t i : Nat} (h : DI X Y V R t) (ht : t = i + 1) (b : Nat) (hb : X / 2 ^ i % 2 = b) : (Y ≤ 2 * R + b → DI X Y (V + 2 ^ i) (2 * R + b - Y) i) ∧ (2 * R + b < Y → DI X Y V (2 * R + b) i) := by
  subst ht
  obtain ⟨c, hc⟩ := h.dv
  have hm : X % 2 ^ (i + 1) = 2 ^ i * b + X % 2 ^ i := by
    rw [Nat.pow_succ, Nat.mod_mul, hb]; omega
  have hE := h.eq
  rw [hm, Nat.pow_succ] at hE
  have hlt := h.lt
  constructor
  · intro hle
    refine ⟨?_, by have := Nat.mod_two_eq_zero_or_one (X / 2 ^ i); omega, ⟨2 * c + 1, by rw [hc, Nat.pow_succ, Nat.add_mul, Nat.one_mul]; congr 1; rw [Nat.mul_comm 2 c, Nat.mul_assoc, Nat.mul_comm 2]⟩⟩
    obtain ⟨d, hd⟩ : ∃ d, 2 * R + b = Y + d := ⟨2 * R + b - Y, by omega⟩
    rw [hd, Nat.add_sub_cancel_left, Nat.add_mul]
    have e1 : 2 ^ i * (2 * R + b) = 2 ^ i * Y + 2 ^ i * d := by rw [hd, Nat.mul_add]
    have e2 : 2 ^ i * 2 * R = 2 ^ i * (2 * R) := by rw [Nat.mul_assoc]
    rw [Nat.mul_add] at e1
    rw [e2] at hE
    omega
  · intro hl
    refine ⟨?_, hl, ⟨2 * c, by rw [hc, Nat.pow_succ, Nat.mul_comm 2 c, Nat.mul_assoc, Nat.mul_comm 2]⟩⟩
    rw [Nat.mul_add]
    have e2 : 2 ^ i * 2 * R = 2 ^ i * (2 * R) := by rw [Nat.mul_assoc]
    rw [e2] at hE
    omega
theorem di_start {xs : List Nat} {Y f : Nat} (h : ∀ x ∈ xs, x < 4294967296) (hf : xs.length - ((limbs Y).length) + 1 ≤ f ∨ xs.length < (limbs Y).length) (hY : Y ≠ 0) : DI (val xs) Y 0 (val (xs.drop f)) (32 * f) := by
  have e : (2 : Nat) ^ (32 * f) = 4294967296 ^ f := by rw [Nat.pow_mul]
  refine ⟨?_, ?_, ⟨0, by simp⟩⟩
  · rw [val_drop h f, e, Nat.zero_mul, Nat.zero_add]; exact (Nat.div_add_mod _ _).symm
  · have h1 := qC (xs.drop f) (fun x hx => h x (List.mem_of_mem_drop hx))
    rw [List.length_drop] at h1
    have hl : (limbs Y).length ≠ 0 := fun c => hY (xR.1 c)
    have h2 : 4294967296 ^ ((limbs Y).length - 1) ≤ Y := Classical.byContradiction fun c => by
      have := xT (Nat.lt_of_not_le c); omega
    exact Nat.lt_of_lt_of_le h1 (Nat.le_trans (Nat.pow_le_pow_right (by omega) (by omega)) h2)
theorem di_end {X Y V R : Nat} (h : DI X Y V R 0) : V = X / Y ∧ R = X % Y := by
  have hE := h.eq
  rw [Nat.pow_zero, Nat.one_mul, Nat.mod_one, Nat.add_zero] at hE
  have := (Nat.div_mod_unique (a := X) (b := Y) (c := R) (d := V) (by have := h.lt; omega)).2 ⟨by rw [Nat.mul_comm]; omega, h.lt⟩
  exact ⟨this.1.symm, this.2.symm⟩
theorem div3_c {v u : Value} {xs ys : List Nat} (h1 : IsNat M w v xs) (h2 : IsNat M w u ys) (hl1 : xs.length ≤ 100000) (hl2 : ys.length ≤ 100000) (hy0 : val ys ≠ 0) (hM : OkM M w) :
    CallsV prog 170 [v, u] w fun r w' => Bel w.heap.size w w' ∧ ∃ q s, r = .tuple #[q, s, .int .i64 0] ∧ IsNat M w' q (limbs (val xs / val ys)) ∧ IsNat M w' s (limbs (val xs % val ys)) := by
 have hyl := yN ys h2.lt
 have hxl := yN xs h1.lt
 have hylp : (limbs (val ys)).length ≠ 0 := fun c => hy0 (xR.1 c)
 have lenY2 : (limbs (2 * val ys)).length ≤ ys.length + 1 := xT (by have := qC ys h2.lt; rw [Nat.pow_succ]; omega)
 refine ci M func170 ntmps170 fun Fz hFz hF LL => ?_
 refine zH (zB (zF rfl rfl (zF rfl rfl (zF rfl rfl (zD (zH (zH (zB (zA rfl rfl (zI rfl (bo func86) rfl rfl ?_))))))))))
 refine (qQ h2 (by omega) hM).mono ?_
 rintro v14 w1 ⟨hB14, hf14⟩
 have hM14 := hM
 have hS14 := LL.size
 obtain ⟨LL, hM, hF, h1, h2⟩ := ub5 hB14 LL hM hF h1 h2
 have hn14 := hf14.nat hM14
 first | refine yP rfl yu29 rfl hn14.slc ?_ | refine yT rfl yu29 rfl ?_
 refine gN rfl rfl rfl (zD ?_)
 refine yA rfl (fun hp => absurd hp (by omega)) (fun hc0 => ?_)
 refine yH (zH (zB (zA rfl rfl ?_)))
 first | refine yP rfl yu29 rfl (IsNat.slc (by assumption)) ?_ | refine yT rfl yu29 rfl ?_
 refine aD (xs.length) (xs.length) rfl yu29 xG rfl rfl rfl (by omega) (by omega) (by omega) (by omega) (by omega) (fun w2 b19 N19 => ?_)
 obtain ⟨_, nF19, nM19, Lw2, B19⟩ := nz hF hM N19
 obtain ⟨LL, hM, hF, h1, h2⟩ := up5 Lw2 LL hM hF h1 h2
 replace B19 : Blk w2 b19 107 ((List.replicate xs.length 0).map lw) := by simpa [lw] using B19
 refine zF rfl rfl (zD (zH (zB (zA rfl rfl ?_))))
 first | refine yP rfl yu29 rfl (IsNat.slc (by assumption)) ?_ | refine yT rfl yu29 rfl ?_
 refine zA rfl rfl (zI rfl (bo func86) rfl rfl ?_)
 refine (qQ h2 (by omega) hM).mono ?_
 rintro v23 w3 ⟨hB23, hf23⟩
 have hM23 := hM
 have hS23 := LL.size
 obtain ⟨LL, hM, hF, h1, h2, B19⟩ := ub6 hB23 LL hM hF h1 h2 B19
 have hn23 := hf23.nat hM23
 first | refine yP rfl yu29 rfl hn23.slc ?_ | refine yT rfl yu29 rfl ?_
 refine jS rfl rfl rfl (by omega) (xC rfl rfl rfl (by omega) (aC rfl rfl rfl (zF rfl rfl ?_)))
 obtain ⟨f, hf⟩ : ∃ f : Nat, f = xs.length + 1 - (limbs (val ys)).length := ⟨_, rfl⟩
 have hfi : max (0 : Int) (((xs.length : Nat) : Int) - ((limbs (val ys)).length : Nat) + 1) = (f : Int) := by omega
 rw [hfi]
 have hfl : f ≤ xs.length := by omega
 have hst := di_start (f := f) h1.lt (by omega) hy0
 refine zD (zH (zB (xH rfl yu29 xG rfl rfl rfl (by simp) rfl (fun w4 b28 N28 => ?_))))
 have nF28 := hF.new N28
 have nM28 := hM.new N28
 have hBw4 := N28.below
 have Lw4 := Le.of_new_mo (Fz := Fz) (M := (Ins b19 M)) (v := Value.slice (some ⟨b28, 0, none⟩) 0 0) N28 rfl
 obtain ⟨B19, ne19_28⟩ := bn B19 N28
 obtain ⟨LL, hM, hF, h1, h2⟩ := up5 Lw4 LL hM hF h1 h2
 have Of : ∀ k, (Value.slice (some ⟨b28, 0, none⟩) 0 0).ownBlock = some k → ¬ Fz k := gD nF28
 have Om : ∀ k, (Value.slice (some ⟨b28, 0, none⟩) 0 0).ownBlock = some k → ¬ (Ins b19 M) k := gD nM28
 have Ow := aR (n := 0) (c := 0) N28.blk rfl (Nat.le_refl _) (by omega)
 refine zA rfl rfl (zA rfl rfl (gT (M := (Mo (Value.slice (some ⟨b28, 0, none⟩) 0 0) (Ins b19 M))) f xs.length rfl yu29 xG rfl h1.slc ⟨_, rfl⟩ rfl trivial hfl (Nat.le_refl _) (fun v31 hv31 => ?_)))
 have hn31 : IsNat (Mo (Value.slice (some ⟨b28, 0, none⟩) 0 0) (Ins b19 M)) w4 v31 (xs.drop f) := by have := h1.sub (l := f) (m := xs.length) (Nat.le_refl _) hv31; rwa [List.take_of_length_le (by simp)] at this
 refine gG rfl yu29 xG rfl rfl rfl Ow hn31.slc (fE _) (by simp only [List.length_drop]; omega) (by simp only [List.length_drop]; omega) (fun v32 w5 A32 G32 S32 => ?_)
 have Lw5 := Le.of_grown (Fz := Fz) (M := (Ins b19 M)) G32 S32 A32 Of
 have Omo32 := Om
 replace Of := jY (w' := w5) Of hF S32
 replace Om := jX (w' := w5) Om (fun k hk => hM k (.inr hk)) S32
 replace B19 := B19.grown G32 (fun h => Omo32 _ h zQ)
 obtain ⟨LL, hM, h1, h2, hn31⟩ := up5 Lw5 LL hM h1 h2 hn31
 clear Ow; have Ow := A32
 refine zI rfl (bo func86) rfl rfl ?_
 refine (qQ (xs := xs.drop f) ⟨by simpa using uO Ow (fun k hk c => Om k hk c) (by simp only [List.length_drop, List.length_nil]; omega), hn31.lt⟩ (by simp only [List.length_drop]; omega) (fun k hk => hM k (.inr hk))).mono ?_
 rintro v33 w6 ⟨hB33, hf33⟩
 have hM33 : OkM (Ins b19 M) _ := fun k hk => hM k (.inr hk)
 obtain ⟨LL, hM, h1, h2, B19⟩ := ub5 hB33 LL hM h1 h2 B19
 replace Ow := xK Ow hB33
 have hn33 := hf33.nat hM33
 refine zF rfl rfl (zD (zH (zH (zB ?_))))
 have Lo := Le.mo_out (Fz := Fz) (v := v32) (M := (Ins b19 M)) (w := w6)
 obtain ⟨LL, hM, h1, h2⟩ := up4 Lo LL hM h1 h2
 clear Lo Ow Of Om
 refine zA rfl rfl (ops_mul rfl rfl rfl (by omega) (jS rfl rfl rfl (by omega) (zF rfl rfl (zD (yC ?_)))))
 refine xP (σ := Nat × Value × Nat × List Nat) [(0, _), (1, _), (7, _)] (fun s => [(9, s.2.1), (10, .int .i64 (((s.1 : Nat) : Int) - 1))]) (fun s w7 => Le Fz (Ins b19 M) w6 (Ins b19 M) w7 ∧ s.1 ≤ 32 * xs.length ∧ Blk w7 b19 107 (s.2.2.2.map lw) ∧ s.2.2.2.length = xs.length ∧ (∀ z ∈ s.2.2.2, z < 4294967296) ∧ IsNat (Ins b19 M) w7 s.2.1 (limbs s.2.2.1) ∧ DI (val xs) (val ys) (val s.2.2.2) s.2.2.1 s.1) (fun s => s.1) ((32 * f, v33, val (xs.drop f), List.replicate xs.length 0)) (zG rfl (zZ rfl (by congr 1) (zG rfl (zG rfl (zG rfl yE))))) ?_ (fun s w7 hJ => ?_)
 · dsimp only
   exact ⟨Le.refl _ _ _, by omega, B19, by simp, by intro z hz; have := (List.mem_replicate.1 hz).2; omega, hn33, by rw [kU]; exact hst⟩
 ·obtain ⟨t, r9, s2, zs⟩ := s
  dsimp only at hJ ⊢
  obtain ⟨LR, ht, B19, hzl, hzlt, hr, hDI⟩ := hJ
  have hs2l := yS (Nat.le_of_lt hDI.lt)
  obtain ⟨LL, hM, h1, h2⟩ := up4 LR LL hM h1 h2
  refine zH (zH (zB (zA rfl rfl (aM rfl rfl rfl (zD ?_)))))
  refine yA rfl (fun hc1 => ?_) (fun hc1 => ?_)
  ·obtain ⟨i, rfl⟩ : ∃ i, t = i + 1 := ⟨t - 1, by omega⟩
   have hii : ((i + 1 : Nat) : Int) - 1 = (i : Int) := by omega
   simp only [hii]
   have hiz : (i : Int) / 32 = ((i / 32 : Nat) : Int) := by omega
   have hbit := bit_of h1.lt i
   have hbx := h1.lim (i / 32)
   have hki : i % 32 < 32 := Nat.mod_lt _ (by omega)
   obtain ⟨cv, hcv⟩ := hDI.dv
   have horb0 := or_bit hzlt hcv
   have hp2 : 2 ^ (i % 32) < 4294967296 := show 2 ^ (i % 32) < 2 ^ 32 from Nat.pow_lt_pow_right (by omega) hki
   have horb : zs.getD (i / 32) 0 ||| 1 * 2 ^ (i % 32) % 4294967296 = zs.getD (i / 32) 0 + 2 ^ (i % 32) := by rw [Nat.one_mul, Nat.mod_eq_of_lt hp2]; exact horb0
   have horlt : zs.getD (i / 32) 0 + 2 ^ (i % 32) < 4294967296 := by rw [← horb0]; exact or_lt32 (uA hzlt _) hki
   have hsb := set_bit (zs := zs) (i := i) (by omega)
   have hs1 := di_step hDI rfl 1
   have hs0 := di_step hDI rfl 0
   refine yH (zH (yC (zH (zB (zA rfl rfl (zI rfl (bo func187) rfl rfl ?_))))))
   refine (rup_c hr (by omega) hM).mono ?_
   rintro v42 w8 ⟨hB42, hf42⟩
   have hM42 := hM
   have hS42 := LL.size
   obtain ⟨LL, LR, hM, h1, h2, B19⟩ := ub6 hB42 LL LR hM h1 h2 B19
   rw [show bF 1 65536 = 1 by decide, yF, Nat.pow_one] at hf42
   have hn42 := hf42.nat hM42
   refine zF rfl rfl (zD (zH (zH (zB (zA rfl rfl (zA rfl rfl (kA rfl rfl rfl (by omega) (gA (i / 32) rfl yu29 xG rfl rfl h1 hiz (by omega) (fun b46 o46 hc46 hb46 => ?_)))))))))
   refine xS rfl jJ rfl hc46 (zA rfl rfl (kN rfl rfl rfl (by omega) (jE (a := i % 32) rfl yu3 yu179 rfl (by omega) ?_)))
   refine jN (b := ((i % 32 : Nat) : Int)) rfl rfl rfl (by simp only [IntKind.bits]; omega) ?_
   simp only [Int.toNat_natCast]
   refine cG rfl rfl rfl (by simp only [IntKind.bits]; exact Nat.lt_of_le_of_lt (Nat.div_le_self _ _) hbx) (by simp only [IntKind.bits]; omega) (.inr rfl) (gN rfl rfl rfl (zD ?_))
   refine yA rfl (fun hc2 => ?_) (fun hc2 => ?_)
   ·have hb1 : val xs / 2 ^ i % 2 = 1 := by rw [← hbit]; have := hc2; rw [Nat.and_one_is_mod] at this; have := Nat.mod_two_eq_zero_or_one (xs.getD (i / 32) 0 / 2 ^ (i % 32)); grind
    refine zB (zA rfl rfl (xH rfl yu29 xG rfl rfl rfl (by simp [Value.oneCell', lw]) rfl (fun w9 b55 N55 => ?_)))
    have hBw9 := N55.below
    have nM55 := hM.new N55
    have B55 := N55.blk
    obtain ⟨LL, LR, hM, h2, hn42, B19⟩ := ub6 hBw9 LL LR hM h2 hn42 B19
    have hn55 : IsNat (Ins b19 M) w9 (.slice (some ⟨b55, 0, none⟩) 1 1) [1] := dP (xs := [1]) B55 nM55 rfl (by simp) (by simp)
    refine xH rfl yu255 xV rfl rfl rfl (fN (by first | rfl | exact yX (by assumption) | exact yZ (by assumption) | assumption) (by first | rfl | exact yX (by assumption) | exact yZ (by assumption) | assumption)) rfl (fun w10 b56 N56 => ?_)
    have hBw10 := N56.below
    have nM56 := hM.new N56
    have B56 := N56.blk
    obtain ⟨LL, LR, hM, h2, hn42, hn55, B19⟩ := ub7 hBw10 LL LR hM h2 hn42 hn55 B19
    have hn56 := eS B56 nM56 hn42 hn55
    refine zI rfl (bo func225) rfl rfl ?_
    refine (radd_c hn56 (by intro q hq; rcases List.mem_cons.1 hq with rfl | hq; have := yS (show s2 * 2 ≤ 2 * val ys by have := hDI.lt; omega); have := lenY2; omega; rcases List.mem_cons.1 hq with rfl | hq; simp; cases hq) (by simp) hM).mono ?_
    rintro v57 w11 ⟨hB57, hf57⟩
    have hM57 := hM
    have hS57 := LL.size
    obtain ⟨LR, hM, h2, B19⟩ := ub4 hB57 LR hM h2 B19
    simp only [List.map_cons, List.map_nil, List.sum_cons, List.sum_nil, Nat.add_zero, yF, show val [1] = 1 by decide] at hf57
    have hn57 := hf57.nat hM57
    refine zF rfl rfl (zD (zH (zB (zA rfl rfl (zA rfl rfl (zI rfl (bo func229) rfl rfl ?_))))))
    refine (eJ (by assumption) h2 (by have := yS (show s2 * 2 + 1 ≤ 2 * val ys by have := hDI.lt; omega); have := yS (show s2 * 2 ≤ 2 * val ys by have := hDI.lt; omega); have := lenY2; omega) (by omega) hM).mono ?_
    rintro v61 w12 ⟨hB61, q61, rfl, hf61⟩
    have hMx := hM
    obtain ⟨LR, hn57, B19⟩ := ub3 hB61 LR hn57 B19
    rw [yF]
    rw [yF] at hf61
    have hn61 := hf61.nat hMx
    refine zA rfl rfl (yK rfl rfl rfl (yK rfl rfl rfl (zF rfl rfl (zF rfl rfl (zD (zH (zB (zA rfl rfl (gN rfl rfl rfl (zD ?_))))))))))
    refine yA rfl (fun hc3 => ?_) (fun hc3 => ?_)
    ·have hge : val ys ≤ s2 * 2 + 1 := by have h := hc3; split at h <;> omega
     refine zH (zB (zA rfl rfl (zF rfl rfl (zD (zB (zA rfl rfl (zA rfl rfl (kA rfl rfl rfl (by omega) (zA rfl rfl (zA rfl rfl (kA rfl rfl rfl (by omega) (uM (i / 32) rfl yu29 xG rfl rfl hiz (by omega) (xS rfl jJ rfl (cK (ex := []) (by rw [List.append_nil]; exact B19) (by omega)) (zA rfl rfl ?_))))))))))))))
     refine kN rfl rfl rfl (by omega) (jE (a := i % 32) rfl yu3 yu179 rfl (by omega) ?_)
     refine uI (b := ((i % 32 : Nat) : Int)) (a := 1) (m := 4294967296) rfl rfl rfl (by simp only [IntKind.bits]; omega) rfl (.inr rfl) ?_
     simp only [Int.toNat_natCast]
     refine kB rfl rfl rfl (by simp only [IntKind.bits]; exact Nat.lt_of_lt_of_eq (uA hzlt _) (by decide)) (by simp only [IntKind.bits]; exact Nat.lt_of_lt_of_eq (Nat.mod_lt _ (by omega)) (by decide)) (.inr rfl) (uM (i / 32) rfl yu29 xG rfl rfl hiz (by omega) (jM (i := i / 32) rfl rfl xG B19 rfl (by simp; omega) (fun w13 Cw13 Bw13 => ?_)))
     obtain ⟨LR, hn61⟩ := up2 (lc LR Cw13 zQ nF19) LR hn61
     clear B19; have B19 := Bw13; clear Bw13; rw [show Value.int .u32 ((zs.getD (i / 32) 0 ||| 1 * 2 ^ (i % 32) % 4294967296 : Nat) : Int) = lw (zs.getD (i / 32) 0 + 2 ^ (i % 32)) from by rw [horb]; rfl, ← List.map_set] at B19
     refine zD (zB (zA rfl rfl (jS rfl rfl rfl (by omega) (zF rfl rfl (zD ?_)))))
     refine ⟨rfl, (i, q61, s2 * 2 + 1 - val ys, zs.set (i / 32) (zs.getD (i / 32) 0 + 2 ^ (i % 32))), (zZ rfl (rfl) (zZ rfl (rfl) (zG rfl (zG rfl (zG rfl yE))))), ?_, ?_⟩
     dsimp only
     have hR2 := yS (Nat.le_of_lt hDI.lt)
     exact ⟨LR, by omega, B19, by simp [hzl], aL hzlt horlt, hn61, by rw [hsb, Nat.mul_comm s2 2]; exact (hs1 hb1).1 (by omega)⟩
     dsimp only
     omega
    ·have hge : s2 * 2 + 1 < val ys := by have h := hc3; split at h <;> omega
     refine yH (zB (zA rfl rfl (jS rfl rfl rfl (by omega) (zF rfl rfl (zD ?_)))))
     refine ⟨rfl, (i, v57, s2 * 2 + 1, zs), (zZ rfl (rfl) (zZ rfl (rfl) (zG rfl (zG rfl (zG rfl yE))))), ?_, ?_⟩
     dsimp only
     have hR2 := yS (Nat.le_of_lt hDI.lt)
     exact ⟨LR, by omega, B19, by simp [hzl], hzlt, hn57, by rw [Nat.mul_comm s2 2]; exact (hs1 hb1).2 (by omega)⟩
     dsimp only
     omega
   ·have hb1 : val xs / 2 ^ i % 2 = 0 := by rw [← hbit]; have := hc2; rw [Nat.and_one_is_mod] at this; have := Nat.mod_two_eq_zero_or_one (xs.getD (i / 32) 0 / 2 ^ (i % 32)); grind
    refine yH (zH (zB (zA rfl rfl (zA rfl rfl (zI rfl (bo func229) rfl rfl ?_)))))
    refine (eJ (by assumption) h2 (by have := yS (show s2 * 2 + 1 ≤ 2 * val ys by have := hDI.lt; omega); have := yS (show s2 * 2 ≤ 2 * val ys by have := hDI.lt; omega); have := lenY2; omega) (by omega) hM).mono ?_
    rintro v61 w14 ⟨hB61, q61, rfl, hf61⟩
    have hMx := hM
    obtain ⟨LR, hn42, B19⟩ := ub3 hB61 LR hn42 B19
    rw [yF]
    rw [yF] at hf61
    have hn61 := hf61.nat hMx
    refine zA rfl rfl (yK rfl rfl rfl (yK rfl rfl rfl (zF rfl rfl (zF rfl rfl (zD (zH (zB (zA rfl rfl (gN rfl rfl rfl (zD ?_))))))))))
    refine yA rfl (fun hc4 => ?_) (fun hc4 => ?_)
    ·have hge : val ys ≤ s2 * 2 := by have h := hc4; split at h <;> omega
     refine zH (zB (zA rfl rfl (zF rfl rfl (zD (zB (zA rfl rfl (zA rfl rfl (kA rfl rfl rfl (by omega) (zA rfl rfl (zA rfl rfl (kA rfl rfl rfl (by omega) (uM (i / 32) rfl yu29 xG rfl rfl hiz (by omega) (xS rfl jJ rfl (cK (ex := []) (by rw [List.append_nil]; exact B19) (by omega)) (zA rfl rfl ?_))))))))))))))
     refine kN rfl rfl rfl (by omega) (jE (a := i % 32) rfl yu3 yu179 rfl (by omega) ?_)
     refine uI (b := ((i % 32 : Nat) : Int)) (a := 1) (m := 4294967296) rfl rfl rfl (by simp only [IntKind.bits]; omega) rfl (.inr rfl) ?_
     simp only [Int.toNat_natCast]
     refine kB rfl rfl rfl (by simp only [IntKind.bits]; exact Nat.lt_of_lt_of_eq (uA hzlt _) (by decide)) (by simp only [IntKind.bits]; exact Nat.lt_of_lt_of_eq (Nat.mod_lt _ (by omega)) (by decide)) (.inr rfl) (uM (i / 32) rfl yu29 xG rfl rfl hiz (by omega) (jM (i := i / 32) rfl rfl xG B19 rfl (by simp; omega) (fun w15 Cw15 Bw15 => ?_)))
     obtain ⟨LR, hn61⟩ := up2 (lc LR Cw15 zQ nF19) LR hn61
     clear B19; have B19 := Bw15; clear Bw15; rw [show Value.int .u32 ((zs.getD (i / 32) 0 ||| 1 * 2 ^ (i % 32) % 4294967296 : Nat) : Int) = lw (zs.getD (i / 32) 0 + 2 ^ (i % 32)) from by rw [horb]; rfl, ← List.map_set] at B19
     refine zD (zB (zA rfl rfl (jS rfl rfl rfl (by omega) (zF rfl rfl (zD ?_)))))
     refine ⟨rfl, (i, q61, s2 * 2 - val ys, zs.set (i / 32) (zs.getD (i / 32) 0 + 2 ^ (i % 32))), (zZ rfl (rfl) (zZ rfl (rfl) (zG rfl (zG rfl (zG rfl yE))))), ?_, ?_⟩
     dsimp only
     have hR2 := yS (Nat.le_of_lt hDI.lt)
     exact ⟨LR, by omega, B19, by simp [hzl], aL hzlt horlt, hn61, by rw [hsb, Nat.mul_comm s2 2]; exact (hs0 hb1).1 (by omega)⟩
     dsimp only
     omega
    ·have hge : s2 * 2 < val ys := by have h := hc4; split at h <;> omega
     refine yH (zB (zA rfl rfl (jS rfl rfl rfl (by omega) (zF rfl rfl (zD ?_)))))
     refine ⟨rfl, (i, v42, s2 * 2, zs), (zZ rfl (rfl) (zZ rfl (rfl) (zG rfl (zG rfl (zG rfl yE))))), ?_, ?_⟩
     dsimp only
     have hR2 := yS (Nat.le_of_lt hDI.lt)
     exact ⟨LR, by omega, B19, by simp [hzl], hzlt, hn42, by rw [Nat.mul_comm s2 2]; exact (hs0 hb1).2 (by omega)⟩
     dsimp only
     omega
  ·refine xN (xO (zH (zB (zA rfl rfl (zI rfl (bo func86) rfl rfl ?_)))))
   have hq : IsNat (fun _ => False) w7 (.slice (some ⟨b19, 0, none⟩) xs.length xs.length) zs := by have := dP (M := fun _ => False) (xs := zs) B19 (fun c => c) rfl (by omega) hzlt; rw [hzl] at this; exact this
   have hMq := hM
   refine (qQ (xs := zs) hq (by omega) (fun _ c => c.elim)).mono ?_
   rintro v82 w16 ⟨hB82, hf82⟩
   obtain ⟨LL, hM, hr⟩ := ub3 hB82 LL hM hr
   have hn82 := hf82.nat hMq
   refine zA rfl rfl (zI rfl (bo func86) rfl rfl ?_)
   refine (qQ hr (by omega) hM).mono ?_
   rintro v84 w17 ⟨hB84, hf84⟩
   have hM84 := hM
   have hS84 := LL.size
   obtain ⟨LL, hn82⟩ := ub2 hB84 LL hn82
   have hn84 := hf84.nat hM84
   refine zF rfl rfl (zF rfl rfl (zF rfl rfl (zD (zW ?_))))
   refine xL ⟨[_, _, _], ⟨rfl, rfl, rfl, trivial⟩, ?_⟩
   dsimp only [xW]
   have ht0 : t = 0 := by omega
   subst ht0
   obtain ⟨e1, e2⟩ := di_end hDI
   rw [e1] at hn82; rw [yF, e2] at hn84
   subst hFz
   exact ⟨LL.b, _, _, rfl, hn82.less fun k c => zJ c, hn84.less fun k c => zJ c⟩
end Go.Proofs.YtfkejnlohkgbgaaGreatDoor
set_option maxRecDepth 100000
namespace Go.Proofs.YtfkejnlohkgbgaaGreatDoor
open Go.SL Go.RowKit Go.Proofs Tryz
variable {M : Nat → Prop} {w : World}
theorem rc_mk {n m : Nat} {q : Rat} {s : Bool} {a d : Value} (h : ZC M w n q.num s a) (hd : IsNat M w d (limbs q.den)) (hl : (limbs q.den).length ≤ m) : RC M w (max n m) q s a d :=
  ⟨h.sgn, h.num, hd, ⟨Nat.le_trans h.len (by omega), Nat.le_trans hl (by omega)⟩⟩
theorem RC.relen {n m : Nat} {q : Rat} {s : Bool} {a d : Value} (h : RC M w n q s a d) (hl : kP q m) : RC M w m q s a d := ⟨h.sgn, h.num, h.den, hl⟩
theorem one_den (n : Nat) : (limbs ((n : Nat) : Rat).den) = [1] := by rw [show ((n : Nat) : Rat).den = 1 from rfl, qK]
theorem num_eq {z : Int} {k : Nat} (hk : k ≠ 0) : zv (decide (z < 0)) (limbs (z.natAbs / Nat.gcd z.natAbs k)) = (mkRat z k).num := by
  have h := dK (z := z) hk
  rw [← h.1, ← h.2.1]; exact gR _
theorem sgn_mk {z : Int} {k : Nat} (hk : k ≠ 0) : z.sign = eI (mkRat z k) := by
  have h := dK (z := z) hk
  unfold eI
  have h1 := decide_eq_decide.1 h.1
  rcases Int.lt_trichotomy z 0 with c | c | c
  · rw [Int.sign_eq_neg_one_of_neg c, Int.sign_eq_neg_one_of_neg (h1.2 c)]
  · subst c; simp
  · have h2 : (mkRat z k).num ≠ 0 := fun e => by
      rw [Rat.num_eq_zero] at e
      rw [Rat.mkRat_eq_zero hk] at e; omega
    rw [Int.sign_eq_one_of_pos c, Int.sign_eq_one_of_pos (by omega)]
theorem small_mk {z : Int} {k : Nat} (hk : k ≠ 0) : (limbs (z.natAbs / Nat.gcd z.natAbs k)).length ≤ (limbs z.natAbs).length ∧ (limbs (k / Nat.gcd z.natAbs k)).length ≤ (limbs k).length := ⟨yS (Nat.div_le_self _ _), yS (Nat.div_le_self _ _)⟩
theorem eK {k : Nat} (hk : k < 9223372036854775808) (hM : OkM M w) :
    CallsV prog 21 [.int .i64 ((k : Nat) : Int)] w fun r w' => Bel w.heap.size w w' ∧ ∃ xsr xar xdr, r = .agg #[.bool xsr, xar, xdr] ∧ RC M w' (2) (((k : Nat) : Rat)) xsr xar xdr := by
 refine ci M func21 ntmps21 fun Fz hFz hF LL => ?_
 refine zH (zB (yI rfl yM (fun w1 b2 N2 => ?_)))
 obtain ⟨_, nF2, nM2, Lw1, B2⟩ := nza hF hM N2
 obtain ⟨LL, hM⟩ := up2 Lw1 LL hM
 refine zD (zH (zB (zA rfl rfl (zI rfl (bo func79) rfl rfl ?_))))
 refine (i5of_c (k := k)  (by omega) hM).mono ?_
 rintro v4 w2 ⟨hB4, xs4, xa4, rfl, hn4⟩
 obtain ⟨LL, hM, B2⟩ := ub3 hB4 LL hM B2
 obtain ⟨oxa4, _⟩ := hn4.one
 refine xH rfl yu29 xG rfl rfl rfl (by simp [Value.oneCell', lw]) rfl (fun w3 b5 N5 => ?_)
 have hBw3 := N5.below
 have nM5 := hM.new N5
 have B5 := N5.blk
 obtain ⟨LL, hn4, B2⟩ := ub3 hBw3 LL hn4 B2
 have hn5 : IsNat (Ins b2 M) w3 (.slice (some ⟨b5, 0, none⟩) 1 1) [1] := dP (xs := [1]) B5 nM5 rfl (by simp) (by simp)
 refine xM rfl fC rfl rfl (zX (rfl) (zX (gS (by first | rfl | assumption)) xD)) rfl (zV rfl rfl yM B2 rfl rfl (zU (zU (zU xY))) rfl (fun w4 Cw4 B2 => ?_))
 obtain ⟨LL, hn4, hn5⟩ := up3 (lc LL Cw4 zQ nF2) LL hn4 hn5
 refine zD (zW ?_)
 refine lv1 ⟨⟨_, rfl, yQ yV yM B2 rfl rfl⟩, trivial⟩ ?_
 subst hFz
 exact ⟨LL.b, _, _, _, rfl, (((RC.up (rc_mk (q := ((k : Nat) : Rat)) hn4 (m := 2) (by rw [one_den]; exact hn5) (by rw [one_den]; simp)) (m := 2) (by omega))).less (fun k c => zJ c)).up (by omega)⟩
theorem r7new_c {z : Int} {n0 : Nat} {xs0 : Bool} {xa0 : Value} {k : Nat} {n1 : Nat} {xa1 : Value} (h0 : ZQ M w n0 z xs0 xa0) (h1 : NQ M w n1 k xa1) (hl0 : n0 ≤ 2000) (hl1 : n1 ≤ 2000) (hM : OkM M w) :
    CallsV prog 107 [.agg #[.bool xs0, xa0], xa1] w fun r w' => Bel w.heap.size w w' ∧ ∃ xsr xar xdr, r = .tuple #[.agg #[.bool xsr, xar, xdr], .int .i64 (if k = 0 then 30 else 0)] ∧ RC M w' (max n0 n1 + 2) (mkRat z k) xsr xar xdr := by
 obtain ⟨oxa0, _⟩ := h0.one
 obtain ⟨oxa1, _⟩ := h1.one
 obtain ⟨ds, hd, hdl, hdk⟩ := h1.ex
 have hdk2 := yN ds hd.lt
 rw [hdk] at hdk2
 refine ci M func107 ntmps107 fun Fz hFz hF LL => ?_
 refine zH (zB (yG rfl rfl (fun w1 b2 N2 => ?_)))
 obtain ⟨_, nF2, nM2, Lw1, B2⟩ := nza hF hM N2
 obtain ⟨LL, hM, hF, h0, hd⟩ := up5 Lw1 LL hM hF h0 hd
 refine yI rfl yM (fun w2 b4 N4 => ?_)
 obtain ⟨hBw2, nF4, nM4, Lw2, B4⟩ := nza hF hM N4
 obtain ⟨B2, ne2_4⟩ := bn B2 N4
 obtain ⟨LL, hM, h0, hd⟩ := up4 Lw2 LL hM h0 hd
 refine zF rfl rfl (zD (zH (zH (zB (zA rfl rfl (zI rfl (bo func86) rfl rfl ?_))))))
 refine (qQ hd (by omega) hM).mono ?_
 rintro v19 w3 ⟨hB19, hf19⟩
 have hM19 := hM
 have hS19 := LL.size
 obtain ⟨LL, hM, h0, hd, B2, B4⟩ := ub6 hB19 LL hM h0 hd B2 B4
 have hn19 := hf19.nat hM19
 first | refine yP rfl yu29 rfl hn19.slc ?_ | refine yT rfl yu29 rfl ?_
 refine gN rfl rfl rfl (zD ?_)
 refine yA rfl (fun hc0 => ?_) (fun hc0 => ?_)
 ·have hk0 : k = 0 := by rw [← hdk]; exact xR.1 (by omega)
  have hif : (if k = 0 then (30 : Int) else 0) = 30 := if_pos hk0
  have hmk : mkRat z k = ((0 : Nat) : Rat) := by rw [hk0, Rat.mkRat_zero]; rfl
  refine zH (zB (zI rfl (bo func21) rfl rfl ?_))
  refine (eK (k := 0)  (by omega) hM).mono ?_
  rintro v22 w4 ⟨hB22, xs22, xa22, xd22, rfl, hn22⟩
  obtain ⟨LL, B4⟩ := ub2 hB22 LL B4
  obtain ⟨oxa22, oxd22, _⟩ := hn22.one
  refine zV rfl rfl yM B4 rfl rfl (zU (zU (zU xY))) rfl (fun w5 Cw5 B4 => ?_)
  obtain ⟨LL, hn22⟩ := up2 (lc LL Cw5 zQ nF4) LL hn22
  refine zF rfl rfl (zD (zW ?_))
  refine xL ⟨[_, _], ⟨⟨_, rfl, yQ yV yM B4 rfl rfl⟩, rfl, trivial⟩, ?_⟩
  dsimp only [xW]
  rw [hif, hmk]
  subst hFz
  exact ⟨LL.b, _, _, _, rfl, (hn22.less (fun k c => zJ (zJ c))).up (by omega)⟩
 ·have hk0 : k ≠ 0 := fun c => hc0 (by rw [← hdk] at c; rw [c, xQ]; rfl)
  have hif : (if k = 0 then (30 : Int) else 0) = 0 := if_neg hk0
  have hmt := dK (z := z) hk0
  have hsm := small_mk (z := z) hk0
  have hg0 : Nat.gcd z.natAbs k ≠ 0 := fun c => hk0 (Nat.eq_zero_of_gcd_eq_zero_right c)
  have hgl := yS (Nat.gcd_le_right z.natAbs (Nat.pos_of_ne_zero hk0))
  refine yH (zH (zB (zM rfl xX xE rfl B2 rfl rfl (zI rfl (bo func155) rfl rfl ?_))))
  refine (uJ h0 (by omega) hM).mono ?_
  rintro v24 w6 ⟨hB24, xs24, xa24, rfl, hn24⟩
  obtain ⟨LL, hM, h0, hd, B2, B4⟩ := ub6 hB24 LL hM h0 hd B2 B4
  obtain ⟨oxa24, _⟩ := hn24.one
  refine zV rfl rfl xE B2 rfl rfl (zU (zU xY)) rfl (fun w7 Cw7 B2 => ?_)
  obtain ⟨LL, hM, h0, hd, hn24⟩ := up5 (lc LL Cw7 (.inr zQ) nF2) LL hM h0 hd hn24
  replace B4 := B4.other Cw7 ne2_4.symm
  refine zD (zH (zB (zL 1 rfl yu31 rfl rfl xV rfl rfl (zT rfl yU rfl B2 rfl (zI rfl (bo func167) rfl rfl ?_)))))
  refine (rsmall_c hn24.num (by have := hn24.len; omega) hM).mono ?_
  rintro v28 w8 ⟨hB28, rfl⟩
  obtain ⟨LL, hM, h0, hd, hn24, B2, B4⟩ := ub7 hB28 LL hM h0 hd hn24 B2 B4
  simp only [yF]
  refine zA rfl rfl (yK rfl rfl rfl (yK rfl rfl rfl (zF rfl rfl (zF rfl rfl (zD (zH (zB (zA rfl rfl (zI rfl (bo func167) rfl rfl ?_)))))))))
  refine (rsmall_c hd (by omega) hM).mono ?_
  rintro v33 w9 ⟨hB33, rfl⟩
  obtain ⟨LL, hM, h0, hd, hn24, B2, B4⟩ := ub7 hB33 LL hM h0 hd hn24 B2 B4
  simp only [hdk]
  refine zA rfl rfl (yK rfl rfl rfl (yK rfl rfl rfl (zF rfl rfl (zF rfl rfl (zD (zH (zH (zB (zA rfl rfl (zA rfl rfl (gE (d := 37) rfl (fun hg6_1 => ?_) (fun hg6_1 => ?_))))))))))))
  ·refine zO rfl rfl (zA rfl rfl (yW rfl rfl rfl (zD ?_)))
   refine yA rfl (fun hc1 => ?_) (fun hc1 => ?_)
   ·have ea : aK z.natAbs = z.natAbs := if_pos hg6_1
    have ek : aK k = k := if_pos hc1
    rw [ea, ek]
    refine zH (zB (zA rfl rfl (zA rfl rfl (zI rfl (bo func168) rfl rfl ?_))))
    refine (plain7_c (a := z.natAbs) (b := k) hg6_1 hc1 hM).mono ?_
    rintro v42 w10 ⟨hB42, rfl⟩
    obtain ⟨LL, hM, h0, hn24, B2, B4⟩ := ub6 hB42 LL hM h0 hn24 B2 B4
    refine zF rfl rfl (zD (zH ?_))
    refine wd mixed 11 [4, 5, 50, 53] (by decide +kernel) ?_
    refine zN (fun _ _ _ => zP rfl rfl (zC (zL 0 rfl yu31 rfl rfl sz4 rfl rfl (on0 rfl)))) ?_
    refine zN (fun _ hR _ => zK rfl (zC (zT rfl uP rfl (B2.below hR) rfl (on0 rfl)))) ?_
    refine zN (fun _ _ _ => zP rfl rfl (zC (zA rfl rfl (on0 rfl)))) ?_
    refine zN (fun _ _ _ => zP rfl rfl (zC (zA rfl rfl (on0 rfl)))) ?_
    apply zN
    ·intro wq hR hst
     refine zK rfl (zK rfl (zC ?_))
     exact ops_quou rfl rfl rfl (by omega) (by omega) (on0 rfl)
    refine zS (fun v w => IsNat (Ins b4 (Ins b2 M)) w v (limbs (z.natAbs / Nat.gcd z.natAbs k))) jQ (fun wq hR hst => ?_) ?_
    ·refine zK rfl (zC ?_)
     obtain ⟨LL, hM⟩ := ub2 hR LL hM
     refine zI rfl (bo func148) rfl rfl ?_
     refine (rof_c (n := z.natAbs / Nat.gcd z.natAbs k) (Nat.lt_of_le_of_lt (Nat.div_le_self _ _) hg6_1) hM).mono ?_
     rintro v48 w11 ⟨hB48, hf48⟩
     have hM48 := hM
     have hS48 := LL.size
     have hn48 := hf48.nat hM48
     exact on1 hB48 rfl hn48
    refine zS (vZQ (Ins b4 (Ins b2 M)) (n0) ((mkRat z k).num)) vZQ_m (fun wq hR hst => ?_) ?_
    ·refine zK rfl (yD rfl (fun v48 hp48 => ?_))
     have hn48 := hp48
     refine zC ?_
     replace hn24 := ub1 hR hn24
     exact xM rfl bA rfl rfl (zX (gS rfl) (zX (gS (by first | rfl | exact yX (by assumption) | exact yZ (by assumption) | assumption)) xD)) rfl (zD ⟨rfl, zY _, _, rfl, ⟨_, _, rfl, (ZQ.mk ⟨_, hn48, Nat.le_trans hsm.1 hn24.len, by rw [hn24.sgn]; exact num_eq hk0⟩)⟩⟩)
    refine zS (vZC (Ins b4 (Ins b2 M)) (n0) (((mkRat z k).num))) fK (fun wq hR hst => ?_) ?_
    ·refine yD rfl (fun v49 hp49 => ?_)
     obtain ⟨xs49, xa49, rfl, hn49⟩ := hp49
     refine zC ?_
     replace hM := ub1 hR hM
     refine zI rfl (bo func155) rfl rfl ?_
     refine (uJ hn49 (by omega) hM).mono ?_
     rintro v50 w12 ⟨hB50, xs50, xa50, rfl, hn50⟩
     exact on1 hB50 rfl ⟨_, _, rfl, hn50⟩
    refine zN (fun _ _ _ => zP rfl rfl (zC (zA rfl rfl (on0 rfl)))) ?_
    refine zN (fun _ _ _ => zP rfl rfl (zC (zA rfl rfl (on0 rfl)))) ?_
    apply zN
    ·intro wq hR hst
     refine zK rfl (zK rfl (zC ?_))
     exact ops_quou rfl rfl rfl (by omega) (by omega) (on0 rfl)
    refine xI (fun wq8 hR8 hpost8 => ?_)
    refine zP rfl rfl (zP rfl rfl (yD rfl (fun v50 hp50 => ?_)))
    obtain ⟨xs50, xa50, rfl, hn50⟩ := hp50; obtain ⟨oxa50, _⟩ := hn50.one
    refine zK rfl (zC ?_)
    simp only [jC, jB, jA, xZ]
    obtain ⟨LL, hM, B4⟩ := ub3 hR8 LL hM B4
    refine zI rfl (bo func148) rfl rfl ?_
    refine (rof_c (n := k / Nat.gcd z.natAbs k) (Nat.lt_of_le_of_lt (Nat.div_le_self _ _) hc1) hM).mono ?_
    rintro v54 w13 ⟨hB54, hf54⟩
    have hM54 := hM
    have hS54 := LL.size
    obtain ⟨LL, hn50, B4⟩ := ub3 hB54 LL hn50 B4
    have hn54 := hf54.nat hM54
    refine xM rfl fC rfl rfl (zX (rfl) (zX (gS (by first | rfl | exact yX (by assumption) | exact yZ (by assumption) | assumption)) xD)) rfl (zV rfl rfl yM B4 rfl rfl (zU (zU (zU xY))) rfl (fun w14 Cw14 B4 => ?_))
    obtain ⟨LL, hn50, hn54⟩ := up3 (lc LL Cw14 zQ nF4) LL hn50 hn54
    refine zF rfl rfl (zD (zW ?_))
    refine xL ⟨[_, _], ⟨⟨_, rfl, yQ yV yM B4 rfl rfl⟩, rfl, trivial⟩, ?_⟩
    dsimp only [xW]
    rw [hif]
    subst hFz
    exact ⟨LL.b, _, _, _, rfl, (((RC.mk hn50.sgn hn50.num (by rw [hmt.2.2]; exact hn54) ⟨Nat.le_trans hn50.len (by omega), by rw [hmt.2.2]; omega⟩ : RC _ _ (max n0 n1 + 1) (mkRat z k) _ _ _)).less (fun k c => zJ (zJ c))).up (by omega)⟩
   ·refine yH (zH (zB (zL 1 rfl yu31 rfl rfl xV rfl rfl (zT rfl yU rfl B2 rfl (zA rfl rfl (zI rfl (bo func169) rfl rfl ?_))))))
    refine (gcd4_c hn24.num hd (by have := hn24.len; omega) (by omega) hM).mono ?_
    rintro v59 w15 ⟨hB59, hn59⟩
    obtain ⟨LL, hM, hd, hn24, B2, B4⟩ := ub6 hB59 LL hM hd hn24 B2 B4
    rw [yF, hdk] at hn59
    refine zF rfl rfl (zD (zH (zB (zL 1 rfl yu31 rfl rfl xV rfl rfl (zT rfl yU rfl B2 rfl (zA rfl rfl (zI rfl (bo func170) rfl rfl ?_)))))))
    refine (div3_c hn24.num hn59 (by have := hn24.len; omega) (by omega) (by rw [yF]; exact hg0) hM).mono ?_
    rintro v64 w16 ⟨hB64, q64, s64, rfl, hn64, hm64⟩
    obtain ⟨LL, hM, hd, hn24, hn59, B2, B4⟩ := ub7 hB64 LL hM hd hn24 hn59 B2 B4
    simp only [yF] at hn64
    refine zA rfl rfl (yK rfl rfl rfl (yK rfl rfl rfl (yK rfl rfl rfl (zF rfl rfl (zF rfl rfl (zF rfl rfl (zD (zH (zB (zA rfl rfl (zA rfl rfl (zI rfl (bo func170) rfl rfl ?_))))))))))))
    refine (div3_c hd hn59 (by omega) (by omega) (by rw [yF]; exact hg0) hM).mono ?_
    rintro v71 w17 ⟨hB71, q71, s71, rfl, hn71, hm71⟩
    obtain ⟨LL, hM, hn24, hn64, B2, B4⟩ := ub6 hB71 LL hM hn24 hn64 B2 B4
    simp only [yF, hdk] at hn71
    refine zA rfl rfl (yK rfl rfl rfl (yK rfl rfl rfl (yK rfl rfl rfl (zF rfl rfl (zF rfl rfl (zF rfl rfl (zD (zH (zB (zL 0 rfl yu31 rfl rfl sz4 rfl rfl (zT rfl uP rfl B2 rfl (zA rfl rfl (xM rfl bA rfl rfl (zX (gS rfl) (zX (gS (by first | rfl | exact yX (by assumption) | exact yZ (by assumption) | assumption)) xD)) rfl (zI rfl (bo func155) rfl rfl ?_))))))))))))))
    refine (uJ ((ZQ.mk ⟨_, hn64, Nat.le_trans hsm.1 hn24.len, by rw [hn24.sgn]; exact num_eq hk0⟩ : ZQ _ _ n0 (mkRat z k).num _ _)) (by omega) hM).mono ?_
    rintro v79 w18 ⟨hB79, xs79, xa79, rfl, hn79⟩
    obtain ⟨LL, hn71, B4⟩ := ub3 hB79 LL hn71 B4
    obtain ⟨oxa79, _⟩ := hn79.one
    refine zA rfl rfl (xM rfl fC rfl rfl (zX (rfl) (zX (gS (by first | rfl | exact yX (by assumption) | exact yZ (by assumption) | assumption)) xD)) rfl (zV rfl rfl yM B4 rfl rfl (zU (zU (zU xY))) rfl (fun w19 Cw19 B4 => ?_)))
    obtain ⟨LL, hn71, hn79⟩ := up3 (lc LL Cw19 zQ nF4) LL hn71 hn79
    refine zF rfl rfl (zD (zW ?_))
    refine xL ⟨[_, _], ⟨⟨_, rfl, yQ yV yM B4 rfl rfl⟩, rfl, trivial⟩, ?_⟩
    dsimp only [xW]
    rw [hif]
    subst hFz
    exact ⟨LL.b, _, _, _, rfl, (((RC.mk hn79.sgn hn79.num (by rw [hmt.2.2]; exact hn71) ⟨Nat.le_trans hn79.len (by omega), by rw [hmt.2.2]; omega⟩ : RC _ _ (max n0 n1 + 1) (mkRat z k) _ _ _)).less (fun k c => zJ (zJ c))).up (by omega)⟩
  ·refine zR rfl rfl rfl rfl (yW rfl rfl rfl (zD (uL rfl (yH (zH (zB (zL 1 rfl yu31 rfl rfl xV rfl rfl (zT rfl yU rfl B2 rfl (zA rfl rfl (zI rfl (bo func169) rfl rfl ?_))))))))))
   refine (gcd4_c hn24.num hd (by have := hn24.len; omega) (by omega) hM).mono ?_
   rintro v59 w20 ⟨hB59, hn59⟩
   obtain ⟨LL, hM, hd, hn24, B2, B4⟩ := ub6 hB59 LL hM hd hn24 B2 B4
   rw [yF, hdk] at hn59
   refine zF rfl rfl (zD (zH (zB (zL 1 rfl yu31 rfl rfl xV rfl rfl (zT rfl yU rfl B2 rfl (zA rfl rfl (zI rfl (bo func170) rfl rfl ?_)))))))
   refine (div3_c hn24.num hn59 (by have := hn24.len; omega) (by omega) (by rw [yF]; exact hg0) hM).mono ?_
   rintro v64 w21 ⟨hB64, q64, s64, rfl, hn64, hm64⟩
   obtain ⟨LL, hM, hd, hn24, hn59, B2, B4⟩ := ub7 hB64 LL hM hd hn24 hn59 B2 B4
   simp only [yF] at hn64
   refine zA rfl rfl (yK rfl rfl rfl (yK rfl rfl rfl (yK rfl rfl rfl (zF rfl rfl (zF rfl rfl (zF rfl rfl (zD (zH (zB (zA rfl rfl (zA rfl rfl (zI rfl (bo func170) rfl rfl ?_))))))))))))
   refine (div3_c hd hn59 (by omega) (by omega) (by rw [yF]; exact hg0) hM).mono ?_
   rintro v71 w22 ⟨hB71, q71, s71, rfl, hn71, hm71⟩
   obtain ⟨LL, hM, hn24, hn64, B2, B4⟩ := ub6 hB71 LL hM hn24 hn64 B2 B4
   simp only [yF, hdk] at hn71
   refine zA rfl rfl (yK rfl rfl rfl (yK rfl rfl rfl (yK rfl rfl rfl (zF rfl rfl (zF rfl rfl (zF rfl rfl (zD (zH (zB (zL 0 rfl yu31 rfl rfl sz4 rfl rfl (zT rfl uP rfl B2 rfl (zA rfl rfl (xM rfl bA rfl rfl (zX (gS rfl) (zX (gS (by first | rfl | exact yX (by assumption) | exact yZ (by assumption) | assumption)) xD)) rfl (zI rfl (bo func155) rfl rfl ?_))))))))))))))
   refine (uJ ((ZQ.mk ⟨_, hn64, Nat.le_trans hsm.1 hn24.len, by rw [hn24.sgn]; exact num_eq hk0⟩ : ZQ _ _ n0 (mkRat z k).num _ _)) (by omega) hM).mono ?_
   rintro v79 w23 ⟨hB79, xs79, xa79, rfl, hn79⟩
   obtain ⟨LL, hn71, B4⟩ := ub3 hB79 LL hn71 B4
   obtain ⟨oxa79, _⟩ := hn79.one
   refine zA rfl rfl (xM rfl fC rfl rfl (zX (rfl) (zX (gS (by first | rfl | exact yX (by assumption) | exact yZ (by assumption) | assumption)) xD)) rfl (zV rfl rfl yM B4 rfl rfl (zU (zU (zU xY))) rfl (fun w24 Cw24 B4 => ?_)))
   obtain ⟨LL, hn71, hn79⟩ := up3 (lc LL Cw24 zQ nF4) LL hn71 hn79
   refine zF rfl rfl (zD (zW ?_))
   refine xL ⟨[_, _], ⟨⟨_, rfl, yQ yV yM B4 rfl rfl⟩, rfl, trivial⟩, ?_⟩
   dsimp only [xW]
   rw [hif]
   subst hFz
   exact ⟨LL.b, _, _, _, rfl, (((RC.mk hn79.sgn hn79.num (by rw [hmt.2.2]; exact hn71) ⟨Nat.le_trans hn79.len (by omega), by rw [hmt.2.2]; omega⟩ : RC _ _ (max n0 n1 + 1) (mkRat z k) _ _ _)).less (fun k c => zJ (zJ c))).up (by omega)⟩
theorem ZQ.of_nat {n k : Nat} {a : Value} (h : NQ M w n k a) : ZQ M w n ((k : Nat) : Int) false a := by
  obtain ⟨xs, h1, h2, h3⟩ := h.ex
  exact ⟨xs, h1, h2, by rw [← h3]; rfl⟩
theorem nmul_q {n m k l : Nat} {a b : Value} (h1 : NQ M w n k a) (h2 : NQ M w m l b) (hn : n ≤ 1000000) (hm : m ≤ 1000000) (hM : OkM M w) :
    CallsV prog 108 [a, b] w fun r w' => Bel w.heap.size w w' ∧ ∃ x, r = x ∧ NC M w' (n + m) (k * l) x := by
  obtain ⟨xs, i1, i2, rfl⟩ := h1.ex; obtain ⟨ys, j1, j2, rfl⟩ := h2.ex
  exact (rmul_c i1 j1 (by omega) (by omega) hM).mono fun r w' ⟨hB, hf⟩ => ⟨hB, r, rfl, hf.nat hM, xT (by
    have a1 := jH i1.lt i2
    have a2 := jH j1.lt j2; exact qB a1 a2)⟩
theorem over7_c {k : Nat} {n0 : Nat} {xa0 : Value} (h0 : NQ M w n0 k xa0) (hl0 : n0 ≤ 1000000) (hM : OkM M w) :
    CallsV prog 90 [xa0] w fun r w' => Bel w.heap.size w w' ∧ ∃ xsr xar, r = .agg #[.bool xsr, xar] ∧ ZQ M w' (n0) (((k : Nat) : Int)) xsr xar := by
 obtain ⟨oxa0, _⟩ := h0.one
 refine ci M func90 ntmps90 fun Fz hFz hF LL => ?_
 refine zH (zB (yI rfl xE (fun w1 b2 N2 => ?_)))
 obtain ⟨_, nF2, nM2, Lw1, B2⟩ := nza hF hM N2
 obtain ⟨LL, h0⟩ := up2 Lw1 LL h0
 refine zD (zH (zB (zA rfl rfl (kQ rfl bA xE rfl (zX (gS (by first | rfl | assumption)) xD) rfl rfl (zV rfl rfl xE B2 rfl rfl (zU (zU xY)) rfl (fun w2 Cw2 B2 => ?_))))))
 obtain ⟨LL, h0⟩ := up2 (lc LL Cw2 zQ nF2) LL h0
 refine zD (zW ?_)
 refine lv1 ⟨⟨_, rfl, yQ xX xE B2 rfl rfl⟩, trivial⟩ ?_
 subst hFz
 exact ⟨LL.b, _, _, rfl, (((ZQ.of_nat h0)).less (fun k c => zJ c)).up (by omega)⟩
theorem cE {p : Rat} {n0 : Nat} {xs0 : Bool} {xa0 xd0 : Value} (h0 : QC M w n0 p xs0 xa0 xd0) (hl0 : n0 ≤ 1999) (hM : OkM M w) :
    CallsV prog 82 [.agg #[.bool xs0, xa0, xd0]] w fun r w' => Bel w.heap.size w w' ∧ ∃ xsr xar xdr, r = .agg #[.bool xsr, xar, xdr] ∧ RC M w' (n0 + 2) (p) xsr xar xdr := by
 obtain ⟨oxa0, oxd0, _⟩ := h0.one
 obtain ⟨xs, ds, i1, i2, i3, i4, hq⟩ := h0.ex
 refine ci M func82 ntmps82 fun Fz hFz hF LL => ?_
 refine zH (zB (yG rfl rfl (fun w1 b1 N1 => ?_)))
 obtain ⟨_, nF1, nM1, Lw1, B1⟩ := nza hF hM N1
 obtain ⟨LL, hM, hF, i1, i2⟩ := up5 Lw1 LL hM hF i1 i2
 refine yI rfl yM (fun w2 b2 N2 => ?_)
 obtain ⟨hBw2, nF2, nM2, Lw2, B2⟩ := nza hF hM N2
 obtain ⟨B1, ne1_2⟩ := bn B1 N2
 obtain ⟨LL, hM, hF, i1, i2⟩ := up5 Lw2 LL hM hF i1 i2
 refine zD (zH (zB (zL 0 rfl yu33 rfl rfl xE rfl rfl (zM rfl xX xE rfl B1 rfl rfl (zL 2 rfl yu33 rfl rfl xV rfl rfl (zT rfl yU rfl B1 rfl (zI rfl (bo func107) rfl rfl ?_)))))))
 refine (r7new_c ((ZQ.mk ⟨xs, i1, i3, rfl⟩ : ZQ _ _ n0 (zv xs0 xs) _ _)) ((NQ.mk ⟨ds, i2, i4, rfl⟩ : NQ _ _ n0 (val ds) _)) (by omega) (by omega) hM).mono ?_
 rintro v10 w3 ⟨hB10, xs10, xa10, xd10, rfl, hn10⟩
 obtain ⟨LL, hM, hF, B1, B2⟩ := ub5 hB10 LL hM hF B1 B2
 obtain ⟨oxa10, oxd10, _⟩ := hn10.one
 refine zA rfl rfl (yK rfl rfl rfl (yK rfl rfl rfl (yI rfl yM (fun w4 b3 N3 => ?_))))
 obtain ⟨hBw4, nF3, nM3, Lw4, B3⟩ := nza hF hM N3
 have lt1_3 := B1.lt
 have ne1_3 := N3.ne lt1_3
 obtain ⟨B2, ne2_3⟩ := bn B2 N3
 obtain ⟨LL, hn10⟩ := up2 Lw4 LL hn10
 refine zV rfl rfl yM B3 rfl rfl (zU (zU (zU xY))) rfl (fun w5 Cw5 B3 => ?_)
 obtain ⟨LL, hn10⟩ := up2 (lc LL Cw5 zQ nF3) LL hn10
 replace B2 := B2.other Cw5 ne2_3
 refine zF rfl rfl (zD (zH (zB (zM rfl yV yM rfl B3 rfl rfl (zV rfl rfl yM B2 rfl rfl (zU (zU (zU xY))) rfl (fun w6 Cw6 B2 => ?_))))))
 obtain ⟨LL, hn10⟩ := up2 (lc LL Cw6 (.inr zQ) nF2) LL hn10
 refine zD (zW ?_)
 refine lv1 ⟨⟨_, rfl, yQ yV yM B2 rfl rfl⟩, trivial⟩ ?_
 rw [hq] at hn10
 subst hFz
 exact ⟨LL.b, _, _, _, rfl, (hn10.less (fun k c => zJ (zJ (zJ c)))).up (by omega)⟩
theorem r7sign_c {p : Rat} {n0 : Nat} {xs0 : Bool} {xa0 xd0 : Value} (h0 : QC M w n0 p xs0 xa0 xd0) (hl0 : n0 ≤ 500000) (hM : OkM M w) :
    CallsV prog 32 [.agg #[.bool xs0, xa0, xd0]] w fun r w' => Bel w.heap.size w w' ∧ r = .int .i64 (eI p) := by
 obtain ⟨xs, ds, i1, i2, i3, i4, hq⟩ := h0.ex
 refine ci M func32 ntmps32 fun Fz hFz hF LL => ?_
 refine zH (zB (yG rfl rfl (fun w1 b1 N1 => ?_)))
 obtain ⟨_, nF1, nM1, Lw1, B1⟩ := nza hF hM N1
 obtain ⟨LL, hM, i1, i2⟩ := up4 Lw1 LL hM i1 i2
 refine zF rfl rfl (zD (zH (zH (zB (zL 2 rfl yu33 rfl rfl xV rfl rfl (zT rfl yU rfl B1 rfl (zI rfl (bo func86) rfl rfl ?_)))))))
 refine (qQ i2 (by omega) hM).mono ?_
 rintro v5 w2 ⟨hB5, hf5⟩
 have hM5 := hM
 have hS5 := LL.size
 obtain ⟨LL, hM, i1, B1⟩ := ub4 hB5 LL hM i1 B1
 have hn5 := hf5.nat hM5
 first | refine yP rfl yu29 rfl hn5.slc ?_ | refine yT rfl yu29 rfl ?_
 refine gN rfl rfl rfl (zD ?_)
 refine yA rfl (fun hc0 => ?_) (fun hc0 => ?_)
 ·have hd0 : val ds = 0 := xR.1 (by omega)
  refine zH (zB (zF rfl rfl (zD (zW ?_))))
  refine lv1 ⟨rfl, trivial⟩ ?_
  have hs0 : eI p = 0 := by rw [← hq, hd0, Rat.mkRat_zero]; rfl
  rw [hs0]
  subst hFz
  exact ⟨LL.b, rfl⟩
 ·have hd0 : val ds ≠ 0 := fun c => hc0 (by rw [c, xQ]; rfl)
  refine yH (zH (zB (zL 0 rfl yu33 rfl rfl xE rfl rfl (zM rfl xX xE rfl B1 rfl rfl (zI rfl (bo func87) rfl rfl ?_)))))
  refine (i5sign_c ((ZQ.mk ⟨xs, i1, i3, rfl⟩ : ZQ _ _ n0 (zv xs0 xs) _ _)) (by omega) hM).mono ?_
  rintro v10 w3 ⟨hB10, rfl⟩
  replace LL := ub1 hB10 LL
  refine zF rfl rfl (zD (zW ?_))
  refine lv1 ⟨rfl, trivial⟩ ?_
  rw [← hq, ← sgn_mk hd0]
  subst hFz
  exact ⟨LL.b, rfl⟩
end Go.Proofs.YtfkejnlohkgbgaaGreatDoor
set_option maxRecDepth 100000
namespace Go.Proofs.YtfkejnlohkgbgaaGreatDoor
open Go.SL Go.RowKit Go.Proofs Tryz
variable {M : Nat → Prop} {w : World}
theorem RC.ofneg {n m : Nat} {q : Rat} {s : Bool} {a d : Value} (h : ZC M w n (-(q.num)) s a) (k : NC M w m q.den d) : RC M w (max n m) (-q) s a d := by
  have e1 : (-q).num = -(q.num) := Rat.neg_num q
  have e2 : (-q).den = q.den := Rat.neg_den q
  exact ⟨by rw [e1]; exact h.sgn, by rw [e1]; exact h.num, by rw [e2]; exact k.num, by unfold kP; rw [e1, e2]; exact ⟨Nat.le_trans h.len (by omega), Nat.le_trans k.len (by omega)⟩⟩
theorem fM (x y : Int) : qD [x, y] = x * y := by simp [qD]
theorem add_eq (p q : Rat) : mkRat ([qD [p.num, ((q.den : Nat) : Int)], qD [q.num, ((p.den : Nat) : Int)]].sum) (p.den * q.den) = p + q := by
  conv => rhs; rw [← Rat.mkRat_self p, ← Rat.mkRat_self q]
  rw [Rat.mkRat_add_mkRat _ _ p.den_nz q.den_nz, fM, fM]; simp
theorem mul_eq (p q : Rat) : mkRat (qD [p.num, q.num]) (p.den * q.den) = p * q := by
  conv => rhs; rw [← Rat.mkRat_self p, ← Rat.mkRat_self q]
  rw [Rat.mkRat_mul_mkRat, fM]
def fL (l : List Rat) : Rat := l.foldl (· + ·) 0
def kF (l : List Rat) : Rat := l.foldl (· * ·) 1
theorem sumR_take {l : List Rat} {s : Nat} (h : s < l.length) : fL (l.take (s + 1)) = fL (l.take s) + l.getD s 0 := by
  rw [(qA (0 : Rat) h).1, fL, List.foldl_append]; rfl
theorem prodR_take {l : List Rat} {s : Nat} (h : s < l.length) : kF (l.take (s + 1)) = kF (l.take s) * l.getD s 0 := by
  rw [(qA (0 : Rat) h).1, kF, List.foldl_append]; rfl
theorem cmp_eq (p q : Rat) : (qD [p.num, ((q.den : Nat) : Int)] - qD [q.num, ((p.den : Nat) : Int)]).sign = bG p q := by rw [fM, fM]; exact cmpR_eq p q
theorem told_q {p q : Rat} (h : p.num = q.num) : decide (limbs p.den = limbs q.den) = decide (p = q) := by
  rw [decide_eq_decide]
  constructor
  · intro c
    have c2 := congrArg val c
    rw [yF, yF] at c2
    exact Rat.ext h c2
  · intro c; rw [c]
theorem rl2 {bb : Nat} {ty : TypeId} {n m : Nat} {p q : Rat} {s t : Bool} {a d b e : Value} (hk : KBlk M w bb ty [.bool s, a, d, .bool t, b, e]) (h1 : QC M w n p s a d) (h2 : QC M w m q t b e) : QL M w (max n m) [p, q] (.slice (some ⟨bb, 0, none⟩) 2 2) :=
  ⟨row_blk (l := [p, q]) hk (by simp) (by simp) ((Elems.nil.snoc (us := [.bool s, a, d]) rfl ⟨_, _, _, rfl, h1.up (by omega)⟩).snoc (us := [.bool t, b, e]) rfl ⟨_, _, _, rfl, h2.up (by omega)⟩)⟩
theorem r7neg_c {p : Rat} {n0 : Nat} {xs0 : Bool} {xa0 xd0 : Value} (h0 : QC M w n0 p xs0 xa0 xd0) (hl0 : n0 ≤ 1990) (hM : OkM M w) :
    CallsV prog 80 [.agg #[.bool xs0, xa0, xd0]] w fun r w' => Bel w.heap.size w w' ∧ ∃ xsr xar xdr, r = .agg #[.bool xsr, xar, xdr] ∧ RC M w' (n0 + 2) (-p) xsr xar xdr := by
 obtain ⟨oxa0, oxd0, _⟩ := h0.one
 refine ci M func80 ntmps80 fun Fz hFz hF LL => ?_
 refine zH (zB (yG rfl rfl (fun w1 b1 N1 => ?_)))
 obtain ⟨_, nF1, nM1, Lw1, B1⟩ := nza hF hM N1
 obtain ⟨LL, hM, hF, h0⟩ := up4 Lw1 LL hM hF h0
 refine yI rfl yM (fun w2 b2 N2 => ?_)
 obtain ⟨hBw2, nF2, nM2, Lw2, B2⟩ := nza hF hM N2
 obtain ⟨B1, ne1_2⟩ := bn B1 N2
 obtain ⟨LL, hM, h0⟩ := up3 Lw2 LL hM h0
 refine zD (zH (zB (zM rfl yV yM rfl B1 rfl rfl (zI rfl (bo func82) rfl rfl ?_))))
 refine (cE h0 (by omega) hM).mono ?_
 rintro v4 w3 ⟨hB4, xs4, xa4, xd4, rfl, hn4⟩
 obtain ⟨LL, hM, h0, B1, B2⟩ := ub5 hB4 LL hM h0 B1 B2
 obtain ⟨oxa4, oxd4, _⟩ := hn4.one
 refine zV rfl rfl yM B1 rfl rfl (zU (zU (zU xY))) rfl (fun w4 Cw4 B1 => ?_)
 obtain ⟨LL, hM, h0, hn4⟩ := up4 (lc LL Cw4 (.inr zQ) nF1) LL hM h0 hn4
 replace B2 := B2.other Cw4 ne1_2.symm
 refine zD (zH ?_)
 refine wd mixed 5 [2, 7, 9] (by decide +kernel) ?_
 refine zN (fun _ _ _ => zP rfl rfl (zC (zL 0 rfl yu33 rfl rfl xE rfl rfl (on0 rfl)))) ?_
 refine zN (fun _ hR _ => zK rfl (zC (zM rfl xX xE rfl (B1.below hR) rfl rfl (on0 rfl)))) ?_
 refine zS (vZC (Ins b2 (Ins b1 M)) ((n0 + 2)) (-p.num)) fK (fun wq hR hst => ?_) ?_
 ·refine zK rfl (zC ?_)
  obtain ⟨hM, hn4⟩ := ub2 hR hM hn4
  refine zI rfl (bo func149) rfl rfl ?_
  refine (i5neg_c hn4.z.gen (by omega) hM).mono ?_
  rintro v7 w5 ⟨hB7, xs7, xa7, rfl, hn7⟩
  exact on1 hB7 rfl ⟨_, _, rfl, hn7⟩
 refine zN (fun _ _ _ => zP rfl rfl (zC (zL 2 rfl yu33 rfl rfl xV rfl rfl (on0 rfl)))) ?_
 refine zN (fun _ hR _ => zK rfl (zC (zT rfl yU rfl (B1.below hR) rfl (on0 rfl)))) ?_
 refine xI (fun wq2 hR2 hpost2 => ?_)
 refine zP rfl rfl (yD rfl (fun v7 hp7 => ?_))
 obtain ⟨xs7, xa7, rfl, hn7⟩ := hp7; obtain ⟨oxa7, _⟩ := hn7.one
 refine zK rfl (zC ?_)
 simp only [jC, jB, jA, xZ]
 obtain ⟨LL, hn4, B2⟩ := ub3 hR2 LL hn4 B2
 refine xM rfl fC rfl rfl (zX (rfl) (zX (gS (by first | rfl | assumption)) xD)) rfl (zV rfl rfl yM B2 rfl rfl (zU (zU (zU xY))) rfl (fun w6 Cw6 B2 => ?_))
 obtain ⟨LL, hn4, hn7⟩ := up3 (lc LL Cw6 zQ nF2) LL hn4 hn7
 refine zD (zW ?_)
 refine lv1 ⟨⟨_, rfl, yQ yV yM B2 rfl rfl⟩, trivial⟩ ?_
 subst hFz
 exact ⟨LL.b, _, _, _, rfl, (((RC.ofneg hn7 hn4.d)).less (fun k c => zJ (zJ c))).up (by omega)⟩
theorem r7two_c {p : Rat} {n0 : Nat} {xs0 : Bool} {xa0 xd0 : Value} {q : Rat} {n1 : Nat} {xs1 : Bool} {xa1 xd1 : Value} (h0 : RC M w n0 p xs0 xa0 xd0) (h1 : RC M w n1 q xs1 xa1 xd1) (hl0 : n0 ≤ 990) (hl1 : n1 ≤ 990) (hM : OkM M w) :
    CallsV prog 81 [.agg #[.bool xs0, xa0, xd0], .agg #[.bool xs1, xa1, xd1]] w fun r w' => Bel w.heap.size w w' ∧ ∃ xsr xar xdr, r = .agg #[.bool xsr, xar, xdr] ∧ RC M w' (n0 + n1 + 1) (p + q) xsr xar xdr := by
 obtain ⟨oxa0, oxd0, _⟩ := h0.one
 obtain ⟨oxa1, oxd1, _⟩ := h1.one
 refine ci M func81 ntmps81 fun Fz hFz hF LL => ?_
 refine zH (zB (yG rfl rfl (fun w1 b2 N2 => ?_)))
 obtain ⟨_, nF2, nM2, Lw1, B2⟩ := nza hF hM N2
 obtain ⟨LL, hM, hF, h0, h1⟩ := up5 Lw1 LL hM hF h0 h1
 refine yG rfl rfl (fun w2 b3 N3 => ?_)
 obtain ⟨hBw2, nF3, nM3, Lw2, B3⟩ := nza hF hM N3
 obtain ⟨B2, ne2_3⟩ := bn B2 N3
 obtain ⟨LL, hM, hF, h0, h1⟩ := up5 Lw2 LL hM hF h0 h1
 refine yI rfl yM (fun w3 b4 N4 => ?_)
 obtain ⟨hBw3, nF4, nM4, Lw3, B4⟩ := nza hF hM N4
 obtain ⟨B2, ne2_4⟩ := bn B2 N4
 obtain ⟨B3, ne3_4⟩ := bn B3 N4
 obtain ⟨LL, hM, hF, h0, h1⟩ := up5 Lw3 LL hM hF h0 h1
 refine zD (zH ?_)
 refine SL.wp_drawS (R := Rg 25) (R' := Rh [(25, (.agg #[(.bool false), (.slice none 0 0), (.slice none 0 0)]), 33)] 25 26) (Pr := PrA) (st := some (26, fX 25 (.agg #[(.bool false), (.slice none 0 0), (.slice none 0 0)]) 33, fQ 25 (fun b w => ∃ xs5 xa5 xd5, Blk w.1 b 33 [.bool xs5, xa5, xd5] ∧ RC (Mg (Ins b4 (Ins b3 (Ins b2 M))) w.2) w.1 (max ((max ((2 * (max n0 n1) + 2)) (2 * (max n1 n0) + 2)) + 2) (n0 + n1) + 2) (mkRat (([qD ([p.num, ((q.den : Nat) : Int)]), qD ([q.num, ((p.den : Nat) : Int)])]).sum) (p.den * q.den)) xs5 xa5 xd5))) g0 mixed 27 [4, 5, 31] (by decide +kernel) rg_trans rh_rg (rg_drew _) (fun _ _ _ h => by cases h; exact ⟨by decide, preB0, preB_mono rfl, postB_mono (fun b x y hb ⟨xs5, xa5, xd5, B, h0⟩ hl r => ⟨xs5, xa5, xd5, B.below hl, h0.mono r.le⟩), _, rfl⟩) prA0 prA_mono ?_
 apply gL rfl
 ·intro xq hR hst hPr
  obtain ⟨wq, gq⟩ := xq
  refine qY rfl rfl ?_
  refine xF ?_; dsimp only
  exact zL 0 rfl yu33 rfl rfl xE rfl rfl (zD ⟨rfl, gq, gM rfl rfl (Bel.refl _ _), _, rfl, rfl⟩)
 apply gL rfl
 ·intro xq hR hst hPr
  obtain ⟨wq, gq⟩ := xq
  refine qJ rfl ?_
  refine xF ?_; dsimp only
  replace B2 := B2.rg hR
  exact zM rfl xX xE rfl B2 rfl rfl (zD ⟨rfl, gq, gM rfl rfl (Bel.refl _ _), _, rfl, rfl⟩)
 apply gL rfl
 ·intro xq hR hst hPr
  obtain ⟨wq, gq⟩ := xq
  refine qY rfl rfl ?_
  refine xF ?_; dsimp only
  exact zL 2 rfl yu33 rfl rfl xV rfl rfl (zD ⟨rfl, gq, gM rfl rfl (Bel.refl _ _), _, rfl, rfl⟩)
 apply gL rfl
 ·intro xq hR hst hPr
  obtain ⟨wq, gq⟩ := xq
  refine qJ rfl ?_
  refine xF ?_; dsimp only
  replace B3 := B3.rg hR
  exact zT rfl yU rfl B3 rfl (zD ⟨rfl, gq, gM rfl rfl (Bel.refl _ _), _, rfl, rfl⟩)
 refine jK rfl (gZQ (Ins b4 (Ins b3 (Ins b2 M))) (n1) (((q.den : Nat) : Int))) gZQ_m (fun xq hR hst hPr => ?_) ?_
 ·obtain ⟨wq, gq⟩ := xq
  refine qJ rfl ?_
  refine xF ?_; dsimp only
  obtain ⟨hM, h1⟩ := up2 (hR.lz hM) hM h1
  refine zI rfl (bo func90) rfl rfl ?_
  refine (over7_c h1.d.gen (by omega) hM).mono ?_
  rintro v12 w4 ⟨hB12, xs12, xa12, rfl, hn12⟩
  exact zD ⟨rfl, gq, gM rfl rfl hB12, _, rfl, ⟨_, _, rfl, hn12⟩⟩
 refine jK rfl (fun v w => ∃ bb xs13 xa13 xs13b xa13b, v = .slice (some ⟨bb, 0, none⟩) 2 2 ∧ KBlk (Mg (Ins b4 (Ins b3 (Ins b2 M))) w.2) w.1 bb 31 [.bool xs13, xa13, .bool xs13b, xa13b] ∧ ZC (Mg (Ins b4 (Ins b3 (Ins b2 M))) w.2) w.1 (n0) (p.num) xs13 xa13 ∧ ZQ (Mg (Ins b4 (Ins b3 (Ins b2 M))) w.2) w.1 (n1) (((q.den : Nat) : Int)) xs13b xa13b) (fun _ _ _ ⟨bb, xs13, xa13, xs13b, xa13b, e, hk, h0, h1⟩ r => ⟨bb, xs13, xa13, xs13b, xa13b, e, hk.mono (r.le), h0.mono (r.le), h1.mono (r.le)⟩) (fun xq hR hst hPr => ?_) ?_
 ·obtain ⟨wq, gq⟩ := xq
  refine qJ rfl ?_
  refine gV rfl (fun v12 hp12 => ?_)
  obtain ⟨xs12, xa12, rfl, hn12⟩ := hp12
  refine xF ?_; dsimp only
  obtain ⟨hM, h0⟩ := up2 (hR.lz hM) hM h0
  refine xA rfl yu174 xE rfl rfl rfl rfl (zX rfl (zX rfl xD)) rfl rfl rfl (fun w5 b13 N13 => ?_)
  have hBw5 := N13.below
  have nM13 := hM.new N13
  have B13 := N13.blk
  obtain ⟨h0, hn12⟩ := ub2 hBw5 h0 hn12
  have hB13 := hBw5
  exact zD ⟨rfl, gq, gM rfl rfl hB13, _, rfl, ⟨b13, _, _, _, _, rfl, KBlk.mk B13 nM13, h0.z, hn12⟩⟩
 refine jK rfl (gZC (Ins b4 (Ins b3 (Ins b2 M))) (2 * (max n0 n1) + 2) (qD ([p.num, ((q.den : Nat) : Int)]))) gZC_m (fun xq hR hst hPr => ?_) ?_
 ·obtain ⟨wq, gq⟩ := xq
  refine gV rfl (fun v13 hp13 => ?_)
  obtain ⟨bb13, xs13, xa13, xs13b, xa13b, rfl, hk13, hn13, hnb13⟩ := hp13; obtain ⟨oxa13, _⟩ := hn13.one
  refine xF ?_; dsimp only
  have Lq : Le Fz (Ins b4 (Ins b3 (Ins b2 M))) w3 (Mg (Ins b4 (Ins b3 (Ins b2 M))) gq) wq := hR.le0
  replace hM := hM.mono Lq
  refine zI rfl (bo func89) rfl rfl ?_
  refine (dX (zl2 hk13 hn13.gen hnb13) (by omega) (by first | omega | simp) hM).mono ?_
  rintro v14 w6 ⟨hB14, xs14, xa14, rfl, hn14⟩
  exact zD ⟨rfl, gq, gM rfl rfl hB14, _, rfl, ⟨_, _, rfl, hn14⟩⟩
 apply gL rfl
 ·intro xq hR hst hPr
  obtain ⟨wq, gq⟩ := xq
  refine qY rfl rfl ?_
  refine xF ?_; dsimp only
  exact zL 0 rfl yu33 rfl rfl xE rfl rfl (zD ⟨rfl, gq, gM rfl rfl (Bel.refl _ _), _, rfl, rfl⟩)
 apply gL rfl
 ·intro xq hR hst hPr
  obtain ⟨wq, gq⟩ := xq
  refine qJ rfl ?_
  refine xF ?_; dsimp only
  replace B3 := B3.rg hR
  exact zM rfl xX xE rfl B3 rfl rfl (zD ⟨rfl, gq, gM rfl rfl (Bel.refl _ _), _, rfl, rfl⟩)
 apply gL rfl
 ·intro xq hR hst hPr
  obtain ⟨wq, gq⟩ := xq
  refine qY rfl rfl ?_
  refine xF ?_; dsimp only
  exact zL 2 rfl yu33 rfl rfl xV rfl rfl (zD ⟨rfl, gq, gM rfl rfl (Bel.refl _ _), _, rfl, rfl⟩)
 apply gL rfl
 ·intro xq hR hst hPr
  obtain ⟨wq, gq⟩ := xq
  refine qJ rfl ?_
  refine xF ?_; dsimp only
  replace B2 := B2.rg hR
  exact zT rfl yU rfl B2 rfl (zD ⟨rfl, gq, gM rfl rfl (Bel.refl _ _), _, rfl, rfl⟩)
 refine jK rfl (gZQ (Ins b4 (Ins b3 (Ins b2 M))) (n0) (((p.den : Nat) : Int))) gZQ_m (fun xq hR hst hPr => ?_) ?_
 ·obtain ⟨wq, gq⟩ := xq
  refine qJ rfl ?_
  refine xF ?_; dsimp only
  obtain ⟨hM, h0⟩ := up2 (hR.lz hM) hM h0
  refine zI rfl (bo func90) rfl rfl ?_
  refine (over7_c h0.d.gen (by omega) hM).mono ?_
  rintro v19 w7 ⟨hB19, xs19, xa19, rfl, hn19⟩
  exact zD ⟨rfl, gq, gM rfl rfl hB19, _, rfl, ⟨_, _, rfl, hn19⟩⟩
 refine jK rfl (fun v w => ∃ bb xs20 xa20 xs20b xa20b, v = .slice (some ⟨bb, 0, none⟩) 2 2 ∧ KBlk (Mg (Ins b4 (Ins b3 (Ins b2 M))) w.2) w.1 bb 31 [.bool xs20, xa20, .bool xs20b, xa20b] ∧ ZC (Mg (Ins b4 (Ins b3 (Ins b2 M))) w.2) w.1 (n1) (q.num) xs20 xa20 ∧ ZQ (Mg (Ins b4 (Ins b3 (Ins b2 M))) w.2) w.1 (n0) (((p.den : Nat) : Int)) xs20b xa20b) (fun _ _ _ ⟨bb, xs20, xa20, xs20b, xa20b, e, hk, h0, h1⟩ r => ⟨bb, xs20, xa20, xs20b, xa20b, e, hk.mono (r.le), h0.mono (r.le), h1.mono (r.le)⟩) (fun xq hR hst hPr => ?_) ?_
 ·obtain ⟨wq, gq⟩ := xq
  refine qJ rfl ?_
  refine gV rfl (fun v19 hp19 => ?_)
  obtain ⟨xs19, xa19, rfl, hn19⟩ := hp19
  refine xF ?_; dsimp only
  obtain ⟨hM, h1⟩ := up2 (hR.lz hM) hM h1
  refine xA rfl yu174 xE rfl rfl rfl rfl (zX rfl (zX rfl xD)) rfl rfl rfl (fun w8 b20 N20 => ?_)
  have hBw8 := N20.below
  have nM20 := hM.new N20
  have B20 := N20.blk
  obtain ⟨h1, hn19⟩ := ub2 hBw8 h1 hn19
  have hB20 := hBw8
  exact zD ⟨rfl, gq, gM rfl rfl hB20, _, rfl, ⟨b20, _, _, _, _, rfl, KBlk.mk B20 nM20, h1.z, hn19⟩⟩
 refine jK rfl (gZC (Ins b4 (Ins b3 (Ins b2 M))) (2 * (max n1 n0) + 2) (qD ([q.num, ((p.den : Nat) : Int)]))) gZC_m (fun xq hR hst hPr => ?_) ?_
 ·obtain ⟨wq, gq⟩ := xq
  refine gV rfl (fun v20 hp20 => ?_)
  obtain ⟨bb20, xs20, xa20, xs20b, xa20b, rfl, hk20, hn20, hnb20⟩ := hp20; obtain ⟨oxa20, _⟩ := hn20.one
  refine xF ?_; dsimp only
  have Lq : Le Fz (Ins b4 (Ins b3 (Ins b2 M))) w3 (Mg (Ins b4 (Ins b3 (Ins b2 M))) gq) wq := hR.le0
  replace hM := hM.mono Lq
  refine zI rfl (bo func89) rfl rfl ?_
  refine (dX (zl2 hk20 hn20.gen hnb20) (by omega) (by first | omega | simp) hM).mono ?_
  rintro v21 w9 ⟨hB21, xs21, xa21, rfl, hn21⟩
  exact zD ⟨rfl, gq, gM rfl rfl hB21, _, rfl, ⟨_, _, rfl, hn21⟩⟩
 refine jK rfl (fun v w => ∃ bb xs22 xa22 xs22b xa22b, v = .slice (some ⟨bb, 0, none⟩) 2 2 ∧ KBlk (Mg (Ins b4 (Ins b3 (Ins b2 M))) w.2) w.1 bb 31 [.bool xs22, xa22, .bool xs22b, xa22b] ∧ ZC (Mg (Ins b4 (Ins b3 (Ins b2 M))) w.2) w.1 (2 * (max n0 n1) + 2) (qD ([p.num, ((q.den : Nat) : Int)])) xs22 xa22 ∧ ZC (Mg (Ins b4 (Ins b3 (Ins b2 M))) w.2) w.1 (2 * (max n1 n0) + 2) (qD ([q.num, ((p.den : Nat) : Int)])) xs22b xa22b) (fun _ _ _ ⟨bb, xs22, xa22, xs22b, xa22b, e, hk, h0, h1⟩ r => ⟨bb, xs22, xa22, xs22b, xa22b, e, hk.mono (r.le), h0.mono (r.le), h1.mono (r.le)⟩) (fun xq hR hst hPr => ?_) ?_
 ·obtain ⟨wq, gq⟩ := xq
  refine gV rfl (fun v14 hp14 => ?_)
  obtain ⟨xs14, xa14, rfl, hn14⟩ := hp14
  refine gV rfl (fun v21 hp21 => ?_)
  obtain ⟨xs21, xa21, rfl, hn21⟩ := hp21
  refine xF ?_; dsimp only
  have Lq : Le Fz (Ins b4 (Ins b3 (Ins b2 M))) w3 (Mg (Ins b4 (Ins b3 (Ins b2 M))) gq) wq := hR.le0
  replace hM := hM.mono Lq
  refine xA rfl yu174 xE rfl rfl rfl rfl (zX rfl (zX rfl xD)) rfl rfl rfl (fun w10 b22 N22 => ?_)
  have hBw10 := N22.below
  have nM22 := hM.new N22
  have B22 := N22.blk
  obtain ⟨hn14, hn21⟩ := ub2 hBw10 hn14 hn21
  have hB22 := hBw10
  exact zD ⟨rfl, gq, gM rfl rfl hB22, _, rfl, ⟨b22, _, _, _, _, rfl, KBlk.mk B22 nM22, hn14, hn21⟩⟩
 refine jK rfl (gZC (Ins b4 (Ins b3 (Ins b2 M))) ((max ((2 * (max n0 n1) + 2)) (2 * (max n1 n0) + 2)) + 2) (([qD ([p.num, ((q.den : Nat) : Int)]), qD ([q.num, ((p.den : Nat) : Int)])]).sum)) gZC_m (fun xq hR hst hPr => ?_) ?_
 ·obtain ⟨wq, gq⟩ := xq
  refine gV rfl (fun v22 hp22 => ?_)
  obtain ⟨bb22, xs22, xa22, xs22b, xa22b, rfl, hk22, hn22, hnb22⟩ := hp22; obtain ⟨oxa22, _⟩ := hn22.one
  refine xF ?_; dsimp only
  have Lq : Le Fz (Ins b4 (Ins b3 (Ins b2 M))) w3 (Mg (Ins b4 (Ins b3 (Ins b2 M))) gq) wq := hR.le0
  replace hM := hM.mono Lq
  refine zI rfl (bo func150) rfl rfl ?_
  refine (i5add_c (zl2 hk22 hn22.gen hnb22.gen) (by omega) (by first | omega | simp) hM).mono ?_
  rintro v23 w11 ⟨hB23, xs23, xa23, rfl, hn23⟩
  exact zD ⟨rfl, gq, gM rfl rfl hB23, _, rfl, ⟨_, _, rfl, hn23⟩⟩
 apply gL rfl
 ·intro xq hR hst hPr
  obtain ⟨wq, gq⟩ := xq
  refine qY rfl rfl ?_
  refine xF ?_; dsimp only
  exact zL 2 rfl yu33 rfl rfl xV rfl rfl (zD ⟨rfl, gq, gM rfl rfl (Bel.refl _ _), _, rfl, rfl⟩)
 apply gL rfl
 ·intro xq hR hst hPr
  obtain ⟨wq, gq⟩ := xq
  refine qJ rfl ?_
  refine xF ?_; dsimp only
  replace B2 := B2.rg hR
  exact zT rfl yU rfl B2 rfl (zD ⟨rfl, gq, gM rfl rfl (Bel.refl _ _), _, rfl, rfl⟩)
 apply gL rfl
 ·intro xq hR hst hPr
  obtain ⟨wq, gq⟩ := xq
  refine qY rfl rfl ?_
  refine xF ?_; dsimp only
  exact zL 2 rfl yu33 rfl rfl xV rfl rfl (zD ⟨rfl, gq, gM rfl rfl (Bel.refl _ _), _, rfl, rfl⟩)
 apply gL rfl
 ·intro xq hR hst hPr
  obtain ⟨wq, gq⟩ := xq
  refine qJ rfl ?_
  refine xF ?_; dsimp only
  replace B3 := B3.rg hR
  exact zT rfl yU rfl B3 rfl (zD ⟨rfl, gq, gM rfl rfl (Bel.refl _ _), _, rfl, rfl⟩)
 refine jK rfl (fun v w => ∃ xa28, v = xa28 ∧ NC (Mg (Ins b4 (Ins b3 (Ins b2 M))) w.2) w.1 (n0 + n1) (p.den * q.den) xa28) (fun _ _ _ ⟨xa28, e, h0⟩ r => ⟨xa28, e, h0.mono (r.le)⟩) (fun xq hR hst hPr => ?_) ?_
 ·obtain ⟨wq, gq⟩ := xq
  refine qJ rfl ?_
  refine qJ rfl ?_
  refine xF ?_; dsimp only
  obtain ⟨hM, h0, h1⟩ := up3 (hR.lz hM) hM h0 h1
  refine zI rfl (bo func108) rfl rfl ?_
  refine (nmul_q h0.d.gen h1.d.gen (by omega) (by omega) hM).mono ?_
  rintro v28 w12 ⟨hB28, xa28, rfl, hn28⟩
  exact zD ⟨rfl, gq, gM rfl rfl hB28, _, rfl, ⟨_, rfl, hn28⟩⟩
 refine jK rfl (fun v w => ∃ xs29 xa29 xd29, v = .tuple #[.agg #[.bool xs29, xa29, xd29], .int .i64 (if (p.den * q.den) = 0 then 30 else 0)] ∧ RC (Mg (Ins b4 (Ins b3 (Ins b2 M))) w.2) w.1 (max ((max ((2 * (max n0 n1) + 2)) (2 * (max n1 n0) + 2)) + 2) (n0 + n1) + 2) (mkRat (([qD ([p.num, ((q.den : Nat) : Int)]), qD ([q.num, ((p.den : Nat) : Int)])]).sum) (p.den * q.den)) xs29 xa29 xd29) (fun _ _ _ ⟨xs29, xa29, xd29, e, h0⟩ r => ⟨xs29, xa29, xd29, e, h0.mono (r.le)⟩) (fun xq hR hst hPr => ?_) ?_
 ·obtain ⟨wq, gq⟩ := xq
  refine gV rfl (fun v23 hp23 => ?_)
  obtain ⟨xs23, xa23, rfl, hn23⟩ := hp23
  refine gV rfl (fun v28 hp28 => ?_)
  obtain ⟨xa28, rfl, hn28⟩ := hp28
  refine xF ?_; dsimp only
  have Lq : Le Fz (Ins b4 (Ins b3 (Ins b2 M))) w3 (Mg (Ins b4 (Ins b3 (Ins b2 M))) gq) wq := hR.le0
  replace hM := hM.mono Lq
  refine zI rfl (bo func107) rfl rfl ?_
  refine (r7new_c hn23.gen hn28.gen (by omega) (by omega) hM).mono ?_
  rintro v29 w13 ⟨hB29, xs29, xa29, xd29, rfl, hn29⟩
  exact zD ⟨rfl, gq, gM rfl rfl hB29, _, rfl, ⟨_, _, _, rfl, hn29⟩⟩
 refine jK rfl (fun v w => ∃ xs7 xa7 xd7, v = .tuple #[.agg #[.bool xs7, xa7, xd7], .int .i64 (if (p.den * q.den) = 0 then 30 else 0)] ∧ RC (Mg (Ins b4 (Ins b3 (Ins b2 M))) w.2) w.1 (max ((max ((2 * (max n0 n1) + 2)) (2 * (max n1 n0) + 2)) + 2) (n0 + n1) + 2) (mkRat (([qD ([p.num, ((q.den : Nat) : Int)]), qD ([q.num, ((p.den : Nat) : Int)])]).sum) (p.den * q.den)) xs7 xa7 xd7) (fun _ _ _ ⟨xs7, xa7, xd7, e, h0⟩ r => ⟨xs7, xa7, xd7, e, h0.mono (r.le)⟩) (fun xq hR hst hPr => ?_) ?_
 ·obtain ⟨wq, gq⟩ := xq
  refine gV rfl (fun v29 hp29 => ?_)
  obtain ⟨xs29, xa29, xd29, rfl, hn29⟩ := hp29
  refine xF ?_; dsimp only
  exact zA rfl rfl (zD ⟨rfl, gq, gM rfl rfl (Bel.refl _ _), _, rfl, ⟨_, _, _, rfl, hn29⟩⟩)
 refine jK rfl (gRC (Ins b4 (Ins b3 (Ins b2 M))) (max ((max ((2 * (max n0 n1) + 2)) (2 * (max n1 n0) + 2)) + 2) (n0 + n1) + 2) (mkRat (([qD ([p.num, ((q.den : Nat) : Int)]), qD ([q.num, ((p.den : Nat) : Int)])]).sum) (p.den * q.den))) gRC_m (fun xq hR hst hPr => ?_) ?_
 ·obtain ⟨wq, gq⟩ := xq
  refine gV rfl (fun v7 hp7 => ?_)
  obtain ⟨xs7, xa7, xd7, rfl, hn7⟩ := hp7
  refine xF ?_; dsimp only
  exact yK rfl rfl rfl (zD ⟨rfl, gq, gM rfl rfl (Bel.refl _ _), _, rfl, ⟨_, _, _, rfl, hn7⟩⟩)
 refine jK rfl (ExS (.int .i64 (if (p.den * q.den) = 0 then 30 else 0))) (fun _ _ _ h _ => h) (fun xq hR hst hPr => ?_) ?_
 ·obtain ⟨wq, gq⟩ := xq
  refine gV rfl (fun v7 hp7 => ?_)
  obtain ⟨xs7, xa7, xd7, rfl, hn7⟩ := hp7
  refine xF ?_; dsimp only
  exact yK rfl rfl rfl (zD ⟨rfl, gq, gM rfl rfl (Bel.refl _ _), _, rfl, rfl⟩)
 refine jK rfl (Pb 25) pb_mono (fun xq hR hst hPr => ?_) ?_
 ·obtain ⟨wq, gq⟩ := xq; refine xF ?_; dsimp only
  exact yI rfl yM (fun w14 b5 N5 => (zD ⟨rfl, _, rh_new rfl hPr N5, _, rfl, pb_new⟩))
 refine drsS_eff rfl (fun xq hR hpre => ?_) ?_
 ·obtain ⟨wq, gq⟩ := xq
  refine gV rfl (fun v5 hp5 => ?_)
  obtain ⟨b5, rfl, hg5⟩ := hp5; dsimp only at hg5
  refine gV rfl (fun v30 hp30 => ?_)
  obtain ⟨xs30, xa30, xd30, rfl, hn30⟩ := hp30; obtain ⟨oxa30, oxd30, _⟩ := hn30.one
  refine xF ?_; dsimp only
  have ge5 := hR.ge hg5
  have nF5 : ¬ Fz b5 := fun c => Nat.not_lt.2 ge5 (hF _ c)
  have nM5 : ¬ (Ins b4 (Ins b3 (Ins b2 M))) b5 := fun c => Nat.not_lt.2 ge5 (hM _ c)
  have ne2_5 : b2 ≠ b5 := by have := B2.lt; omega
  have ne3_5 : b3 ≠ b5 := by have := B3.lt; omega
  have ne4_5 : b4 ≠ b5 := by have := B4.lt; omega
  have Lq : Le Fz (Ins b4 (Ins b3 (Ins b2 M))) w3 (Ins b5 (Mg (Ins b4 (Ins b3 (Ins b2 M))) gq)) wq := hR.le0.trans (Le.less (Mg.ins hg5))
  have B5 := hpre b5 hg5; rw [kZ] at B5
  replace hn30 := hn30.less (Mg.ins hg5)
  refine zV rfl rfl yM B5 rfl rfl (zU (zU (zU xY))) rfl (fun w15 Cw15 B5 => ?_)
  have Lw15 := Le.of_chg (M := (Ins b5 (Mg (Ins b4 (Ins b3 (Ins b2 M))) gq))) Cw15 zQ nF5
  replace hn30 := hn30.mono Lw15
  exact zD ⟨rfl, gq, rh_chg rfl hg5 Cw15, b5, hg5, _, _, _, B5, (hn30).mono (Fz := fun _ => False) (Le.less (fun k c => .inr c))⟩
 refine drsS_nil (fun xq hR hpost => ?_)
 obtain ⟨wq1, gq⟩ := xq
 refine qY rfl rfl ?_
 refine gV rfl (fun v5 hp5 => ?_)
 obtain ⟨b5, rfl, hg5⟩ := hp5; dsimp only at hg5
 refine qJ rfl ?_
 refine xF ?_; dsimp only
 simp only [jC, jB, jA, xZ]
 obtain ⟨bx, hgx, hQ⟩ := hpost _ _ _ rfl; dsimp only at hgx; obtain rfl : b5 = bx := by rw [hg5] at hgx; exact Option.some.inj hgx
 obtain ⟨xs5, xa5, xd5, B5, hn5⟩ := hQ; dsimp only at B5
 have ge5 := hR.ge hg5
 have nF5 : ¬ Fz b5 := fun c => Nat.not_lt.2 ge5 (hF _ c)
 have nM5 : ¬ (Ins b4 (Ins b3 (Ins b2 M))) b5 := fun c => Nat.not_lt.2 ge5 (hM _ c)
 have ne2_5 : b2 ≠ b5 := by have := B2.lt; omega
 have ne3_5 : b3 ≠ b5 := by have := B3.lt; omega
 have ne4_5 : b4 ≠ b5 := by have := B4.lt; omega
 have hsub : ∀ k, (Ins b5 (Ins b4 (Ins b3 (Ins b2 M)))) k → Mg (Ins b4 (Ins b3 (Ins b2 M))) gq k := (ins_sub (.inl ⟨_, hg5⟩) Mg.base)
 have Lq : Le Fz (Ins b4 (Ins b3 (Ins b2 M))) w3 (Ins b5 (Ins b4 (Ins b3 (Ins b2 M)))) wq1 := hR.le0.trans (Le.less hsub)
 obtain ⟨LL, h0, h1⟩ := up3 Lq LL h0 h1
 replace B4 := B4.rg hR
 replace hn5 : _ := hn5.less hsub
 obtain ⟨oxa5, oxd5, _⟩ := hn5.one
 refine zF rfl rfl (zD (zH (zB (zM rfl yV yM rfl B5 rfl rfl (zV rfl rfl yM B4 rfl rfl (zU (zU (zU xY))) rfl (fun w16 Cw16 B4 => ?_))))))
 obtain ⟨LL, h0, h1, hn5⟩ := up4 (lc LL Cw16 (.inr zQ) nF4) LL h0 h1 hn5
 refine zD (zW ?_)
 refine lv1 ⟨⟨_, rfl, yQ yV yM B4 rfl rfl⟩, trivial⟩ ?_
 rw [add_eq] at hn5
 replace hn5 := RC.relen hn5 (cY h0.len h1.len)
 subst hFz
 exact ⟨LL.b, _, _, _, rfl, (hn5.less (fun k c => zJ (zJ (zJ (zJ c))))).up (by omega)⟩
theorem r7add_c {l : List Rat} {n0 : Nat} {xa0 : Value} (h0 : QL M w n0 l xa0) (hl0 : n0 ≤ 970) (hlen : l.length ≤ 2) (hM : OkM M w) :
    CallsV prog 23 [xa0] w fun r w' => Bel w.heap.size w w' ∧ ∃ xsr xar xdr, r = .agg #[.bool xsr, xar, xdr] ∧ RC M w' (2 * n0 + 8) (fL l) xsr xar xdr := by
 obtain ⟨oxa0, _⟩ := h0.one
 refine ci M func23 ntmps23 fun Fz hFz hF LL => ?_
 refine zH (zB (yI rfl yM (fun w1 b2 N2 => ?_)))
 obtain ⟨_, nF2, nM2, Lw1, B2⟩ := nza hF hM N2
 obtain ⟨LL, hM, hF, h0⟩ := up4 Lw1 LL hM hF h0
 refine zD (zH (zB (zI rfl (bo func21) rfl rfl ?_)))
 refine (eK (k := 0)  (by omega) hM).mono ?_
 rintro v5 w2 ⟨hB5, xs5, xa5, xd5, rfl, hn5⟩
 obtain ⟨LL, hM, hF, h0, B2⟩ := ub5 hB5 LL hM hF h0 B2
 obtain ⟨oxa5, oxd5, _⟩ := hn5.one
 refine yI rfl yM (fun w3 b3 N3 => ?_)
 obtain ⟨hBw3, nF3, nM3, Lw3, B3⟩ := nza hF hM N3
 obtain ⟨B2, ne2_3⟩ := bn B2 N3
 obtain ⟨LL, hM, h0, hn5⟩ := up4 Lw3 LL hM h0 hn5
 refine zV rfl rfl yM B3 rfl rfl (zU (zU (zU xY))) rfl (fun w4 Cw4 B3 => ?_)
 obtain ⟨LL, hM, h0, hn5⟩ := up4 (lc LL Cw4 zQ nF3) LL hM h0 hn5
 replace B2 := B2.other Cw4 ne2_3
 refine zD (zH (zH (zB (zF rfl rfl (zD (yC ?_))))))
 refine xP (σ := Nat) [(0, _), (2, _), (3, _)] (fun s => [(4, .int .i64 ((s : Nat) : Int))]) (fun s w5 => Le Fz (Ins b3 (Ins b2 M)) w4 (Ins b3 (Ins b2 M)) w5 ∧ s ≤ l.length ∧ Blk w5 b2 33 [.bool false, .slice none 0 0, .slice none 0 0] ∧ ∃ xs3 xa3 xd3, Blk w5 b3 33 [.bool xs3, xa3, xd3] ∧ RC (Ins b3 (Ins b2 M)) w5 (s * (n0 + 3) + 2) (fL (l.take s)) xs3 xa3 xd3) (fun s => l.length - s) (0) (zG rfl (zG rfl (zG rfl (zG rfl yE)))) ?_ (fun s w5 hJ => ?_)
 · exact ⟨Le.refl _ _ _, by omega, B2, _, _, _, B3, by simpa [fL] using hn5.up (by omega)⟩
 ·obtain ⟨LR, hk, B2, xs3, xa3, xd3, B3, hn3⟩ := hJ
  obtain ⟨oxa3, oxd3, _⟩ := hn3.one
  have hsn : s * (n0 + 3) ≤ 2 * (n0 + 3) := Nat.mul_le_mul_right _ (by omega)
  have hsn1 : s ≤ 1 → s * (n0 + 3) ≤ n0 + 3 := fun c => by have := Nat.mul_le_mul_right (n0 + 3) c; omega
  have hst : (s + 1) * (n0 + 3) = s * (n0 + 3) + (n0 + 3) := by rw [Nat.add_mul, Nat.one_mul]
  obtain ⟨LL, hM, h0⟩ := up3 LR LL hM h0
  refine zH (zH (zB (zA rfl rfl (zA rfl rfl (gQ rfl yu22 rfl h0.row (jI rfl rfl rfl (zD ?_)))))))
  refine yA rfl (fun hc0 => ?_) (fun hc0 => ?_)
  ·refine yH (zH (yC ?_))
   refine wd mixed 6 [0, 2, 3, 4, 12, 17] (by decide +kernel) ?_
   refine zN (fun _ hR _ => zP rfl rfl (zC (zM rfl yV yM rfl (B3.below hR) rfl rfl (on0 rfl)))) ?_
   refine dv (fun v w => ∃ xa13, v = xa13 ∧ QL (Ins b3 (Ins b2 M)) w (n0) (l) xa13) (fun wq hR hst => ?_) ?_
   ·refine zP rfl rfl (zC ?_)
    replace h0 := ub1 hR h0
    exact zA rfl rfl (zD ⟨rfl, zY _, _, rfl, ⟨_, rfl, h0⟩⟩)
   refine zN (fun _ _ _ => zP rfl rfl (zC (zA rfl rfl (on0 rfl)))) ?_
   refine dv (rQC (Ins b3 (Ins b2 M)) (n0) (l.getD s 0)) (fun wq hR hst => ?_) ?_
   ·refine yD rfl (fun v13 hp13 => ?_)
    obtain ⟨xa13, rfl, hn13⟩ := hp13
    refine zK rfl (zC ?_)
    refine jL (dflt := (0 : Rat)) (s) rfl yu22 yM rfl rfl hn13.row (by first | rfl | omega) (by first | omega | (simp; omega) | simp) (fun b15 o15 us15 hul15 hu15 hc15 => ?_)
    obtain ⟨xs15, xa15, xd15, rfl, hn15⟩ := hu15
    exact on1 (zY _) rfl ⟨b15, o15, _, _, _, rfl, hc15, hn15⟩
   refine zS (vQC (Ins b3 (Ins b2 M)) (n0) (l.getD s 0)) vQC_m (fun wq hR hst => ?_) ?_
   ·refine yD rfl (fun v15 hp15 => ?_)
    obtain ⟨b15, o15, xs15, xa15, xd15, rfl, hc15, hn15⟩ := hp15
    refine zC ?_
    exact jF rfl yV yM rfl hc15 rfl (zD ⟨rfl, zY _, _, rfl, ⟨_, _, _, rfl, hn15⟩⟩)
   refine zS (vRC (Ins b3 (Ins b2 M)) (n0 + 2) ((l.getD s 0))) kJ (fun wq hR hst => ?_) ?_
   ·refine yD rfl (fun v16 hp16 => ?_)
    obtain ⟨xs16, xa16, xd16, rfl, hn16⟩ := hp16
    refine zC ?_
    replace hM := ub1 hR hM
    refine zI rfl (bo func82) rfl rfl ?_
    refine (cE hn16 (by omega) hM).mono ?_
    rintro v17 w6 ⟨hB17, xs17, xa17, xd17, rfl, hn17⟩
    exact on1 hB17 rfl ⟨_, _, _, rfl, hn17⟩
   refine xI (fun wq5 hR5 hpost5 => ?_)
   refine zP rfl rfl (zP rfl rfl (zP rfl rfl (zP rfl rfl (zK rfl (yD rfl (fun v17 hp17 => ?_))))))
   obtain ⟨xs17, xa17, xd17, rfl, hn17⟩ := hp17; obtain ⟨oxa17, oxd17, _⟩ := hn17.one
   refine zC ?_
   simp only [jC, jB, jA, xZ]
   obtain ⟨LR, hM, hn3, B2, B3⟩ := ub5 hR5 LR hM hn3 B2 B3
   refine zI rfl (bo func81) rfl rfl ?_
   refine (r7two_c hn3 hn17 (by omega) (by omega) hM).mono ?_
   rintro v18 w7 ⟨hB18, xs18, xa18, xd18, rfl, hn18⟩
   obtain ⟨LR, B2, B3⟩ := ub3 hB18 LR B2 B3
   obtain ⟨oxa18, oxd18, _⟩ := hn18.one
   refine zV rfl rfl yM B3 rfl rfl (zU (zU (zU xY))) rfl (fun w8 Cw8 B3 => ?_)
   obtain ⟨LR, hn18⟩ := up2 (lc LR Cw8 zQ nF3) LR hn18
   replace B2 := B2.other Cw8 ne2_3
   refine zD (zB (zA rfl rfl (xC rfl rfl rfl (by omega) (zF rfl rfl (zD ?_)))))
   refine ⟨rfl, s + 1, (zZ rfl (by rw [Int.natCast_add]; rfl) (zG rfl (zG rfl (zG rfl yE)))), ?_, ?_⟩
   exact ⟨LR, by omega, B2, _, _, _, B3, by rw [sumR_take (by omega)]; exact hn18.up (by omega)⟩
   omega
  ·refine xN (xO (zH (zB (zM rfl yV yM rfl B3 rfl rfl (zV rfl rfl yM B2 rfl rfl (zU (zU (zU xY))) rfl (fun w9 Cw9 B2 => ?_))))))
   obtain ⟨LL, hn3⟩ := up2 (lc LL Cw9 (.inr zQ) nF2) LL hn3
   refine zD (zW ?_)
   refine lv1 ⟨⟨_, rfl, yQ yV yM B2 rfl rfl⟩, trivial⟩ ?_
   obtain rfl : s = l.length := by omega
   rw [List.take_length] at hn3
   subst hFz
   exact ⟨LL.b, _, _, _, rfl, (hn3.less (fun k c => zJ (zJ c))).up (by omega)⟩
theorem r7mul_c {l : List Rat} {n0 : Nat} {xa0 : Value} (h0 : QL M w n0 l xa0) (hl0 : n0 ≤ 970) (hlen : l.length ≤ 2) (hM : OkM M w) :
    CallsV prog 52 [xa0] w fun r w' => Bel w.heap.size w w' ∧ ∃ xsr xar xdr, r = .agg #[.bool xsr, xar, xdr] ∧ RC M w' (2 * n0 + 8) (kF l) xsr xar xdr := by
 obtain ⟨oxa0, _⟩ := h0.one
 refine ci M func52 ntmps52 fun Fz hFz hF LL => ?_
 refine zH (zB (yI rfl yM (fun w1 b2 N2 => ?_)))
 obtain ⟨_, nF2, nM2, Lw1, B2⟩ := nza hF hM N2
 obtain ⟨LL, hM, hF, h0⟩ := up4 Lw1 LL hM hF h0
 refine zD (zH (zB (zI rfl (bo func21) rfl rfl ?_)))
 refine (eK (k := 1)  (by omega) hM).mono ?_
 rintro v6 w2 ⟨hB6, xs6, xa6, xd6, rfl, hn6⟩
 obtain ⟨LL, hM, hF, h0, B2⟩ := ub5 hB6 LL hM hF h0 B2
 obtain ⟨oxa6, oxd6, _⟩ := hn6.one
 refine yI rfl yM (fun w3 b3 N3 => ?_)
 obtain ⟨hBw3, nF3, nM3, Lw3, B3⟩ := nza hF hM N3
 obtain ⟨B2, ne2_3⟩ := bn B2 N3
 obtain ⟨LL, hM, hF, h0, hn6⟩ := up5 Lw3 LL hM hF h0 hn6
 refine zV rfl rfl yM B3 rfl rfl (zU (zU (zU xY))) rfl (fun w4 Cw4 B3 => ?_)
 obtain ⟨LL, hM, hF, h0, hn6⟩ := up5 (lc LL Cw4 zQ nF3) LL hM hF h0 hn6
 replace B2 := B2.other Cw4 ne2_3
 refine zD (zH (zH (zB (zF rfl rfl (zD (yC ?_))))))
 refine xP (σ := Nat) [(0, _), (2, _), (3, _)] (fun s => [(4, .int .i64 ((s : Nat) : Int))]) (fun s w5 => Le Fz (Ins b3 (Ins b2 M)) w4 (Ins b3 (Ins b2 M)) w5 ∧ s ≤ l.length ∧ Blk w5 b2 33 [.bool false, .slice none 0 0, .slice none 0 0] ∧ ∃ xs3 xa3 xd3, Blk w5 b3 33 [.bool xs3, xa3, xd3] ∧ RC (Ins b3 (Ins b2 M)) w5 (s * (n0 + 3) + 2) (kF (l.take s)) xs3 xa3 xd3) (fun s => l.length - s) (0) (zG rfl (zG rfl (zG rfl (zG rfl yE)))) ?_ (fun s w5 hJ => ?_)
 · exact ⟨Le.refl _ _ _, by omega, B2, _, _, _, B3, by simpa [kF] using hn6.up (by omega)⟩
 ·obtain ⟨LR, hk, B2, xs3, xa3, xd3, B3, hn3⟩ := hJ
  obtain ⟨oxa3, oxd3, _⟩ := hn3.one
  have hsn : s * (n0 + 3) ≤ 2 * (n0 + 3) := Nat.mul_le_mul_right _ (by omega)
  have hsn1 : s ≤ 1 → s * (n0 + 3) ≤ n0 + 3 := fun c => by have := Nat.mul_le_mul_right (n0 + 3) c; omega
  have hst : (s + 1) * (n0 + 3) = s * (n0 + 3) + (n0 + 3) := by rw [Nat.add_mul, Nat.one_mul]
  have hl3 := hn3.len
  obtain ⟨LL, hM, hF, h0⟩ := up4 LR LL hM hF h0
  refine zH (zH (zB (zA rfl rfl (zA rfl rfl (gQ rfl yu22 rfl h0.row (jI rfl rfl rfl (zD ?_)))))))
  refine yA rfl (fun hc0 => ?_) (fun hc0 => ?_)
  ·refine yH (zH (yC (zH (zB (zA rfl rfl (zA rfl rfl (jL (dflt := (0 : Rat)) (s) rfl yu22 yM rfl rfl h0.row (by first | rfl | omega) (by first | omega | (simp; omega) | simp) (fun b15 o15 us15 hul15 hu15 hc15 => ?_))))))))
   obtain ⟨xs15, xa15, xd15, rfl, hn15⟩ := hu15
   obtain ⟨oxa15, oxd15, _⟩ := hn15.one
   have hle := hn15.rlen
   refine jF rfl yV yM rfl hc15 rfl (zI rfl (bo func82) rfl rfl ?_)
   refine (cE hn15 (by omega) hM).mono ?_
   rintro v17 w6 ⟨hB17, xs17, xa17, xd17, rfl, hn17⟩
   obtain ⟨LR, hM, hF, h0, hn3, B2, B3⟩ := ub7 hB17 LR hM hF h0 hn3 B2 B3
   obtain ⟨oxa17, oxd17, _⟩ := hn17.one
   refine yI rfl yM (fun w7 b5 N5 => ?_)
   obtain ⟨hBw7, nF5, nM5, Lw7, B5⟩ := nza hF hM N5
   obtain ⟨B2, ne2_5⟩ := bn B2 N5
   obtain ⟨B3, ne3_5⟩ := bn B3 N5
   obtain ⟨LR, hM, h0, hn3, hn17⟩ := up5 Lw7 LR hM h0 hn3 hn17
   refine zV rfl rfl yM B5 rfl rfl (zU (zU (zU xY))) rfl (fun w8 Cw8 B5 => ?_)
   obtain ⟨LR, hM, h0, hn3, hn17⟩ := up5 (lc LR Cw8 zQ nF5) LR hM h0 hn3 hn17
   replace B2 := B2.other Cw8 ne2_5
   replace B3 := B3.other Cw8 ne3_5
   refine zD ?_
   refine bU (R := Rs (· = b3)) (R' := Rb) (st := some (15, (fun w => Blk w b3 33 [.bool xs3, xa3, xd3]), (fun w => ∃ xs3 xa3 xd3, Blk w b3 33 [.bool xs3, xa3, xd3] ∧ RC (Ins b5 (Ins b3 (Ins b2 M))) w (max (2 * (max ((s * (n0 + 3) + 2)) (n0 + 2)) + 2) ((s * (n0 + 3) + 2) + (n0 + 2)) + 2) (mkRat (qD ([(kF (l.take s)).num, ((l.getD s 0)).num])) (((kF (l.take s)).den) * (((l.getD s 0)).den))) xs3 xa3 xd3))) mixed 16 [0, 2, 3, 4] (by decide +kernel) bM eQ (cM _) (fun _ _ _ h => by cases h; exact ⟨by decide, B3, fun _ _ h r => h.below r, fun _ _ ⟨xs3, xa3, xd3, B, h0⟩ r => ⟨xs3, xa3, xd3, B.below r, h0.mono (lb r)⟩, _, rfl⟩) ?_
   apply yO rfl
   ·intro wq hR hst
    refine zP rfl rfl (zC ?_)
    have Lq := lqb (M := (Ins b5 (Ins b3 (Ins b2 M)))) hR (.inr zQ) nF3
    exact zL 0 rfl yu33 rfl rfl xE rfl rfl (on0 rfl)
   apply yO rfl
   ·intro wq hR hst
    refine zK rfl (zC ?_)
    have Lq := lqb (M := (Ins b5 (Ins b3 (Ins b2 M)))) hR (.inr zQ) nF3
    replace B3 := (hst.2 (by decide +kernel))
    exact zM rfl xX xE rfl B3 rfl rfl (on0 rfl)
   apply yO rfl
   ·intro wq hR hst
    refine zP rfl rfl (zC ?_)
    have Lq := lqb (M := (Ins b5 (Ins b3 (Ins b2 M)))) hR (.inr zQ) nF3
    exact zL 0 rfl yu33 rfl rfl xE rfl rfl (on0 rfl)
   apply yO rfl
   ·intro wq hR hst
    refine zK rfl (zC ?_)
    have Lq := lqb (M := (Ins b5 (Ins b3 (Ins b2 M)))) hR (.inr zQ) nF3
    replace B5 := B5.rs hR ne3_5.symm
    exact zM rfl xX xE rfl B5 rfl rfl (on0 rfl)
   refine qG rfl (fun v w => ∃ bb xs23 xa23 xs23b xa23b, v = .slice (some ⟨bb, 0, none⟩) 2 2 ∧ KBlk (Ins b5 (Ins b3 (Ins b2 M))) w bb 31 [.bool xs23, xa23, .bool xs23b, xa23b] ∧ ZC (Ins b5 (Ins b3 (Ins b2 M))) w (s * (n0 + 3) + 2) ((kF (l.take s)).num) xs23 xa23 ∧ ZC (Ins b5 (Ins b3 (Ins b2 M))) w (n0 + 2) (((l.getD s 0)).num) xs23b xa23b) (fun _ _ _ ⟨bb, xs23, xa23, xs23b, xa23b, e, hk, h0, h1⟩ r => ⟨bb, xs23, xa23, xs23b, xa23b, e, hk.mono (Fz := fun _ => False) (Le.of_rs r (by rintro _ rfl; exact (.inr zQ)) (fun _ _ h => h)), h0.mono (Fz := fun _ => False) (Le.of_rs r (by rintro _ rfl; exact (.inr zQ)) (fun _ _ h => h)), h1.mono (Fz := fun _ => False) (Le.of_rs r (by rintro _ rfl; exact (.inr zQ)) (fun _ _ h => h))⟩) (fun wq hR hst => ?_) ?_
   ·refine zK rfl (zK rfl (zC ?_))
    have Lq := lqb (M := (Ins b5 (Ins b3 (Ins b2 M)))) hR (.inr zQ) nF3
    obtain ⟨hM, hn3, hn17⟩ := up3 Lq hM hn3 hn17
    refine xA rfl yu174 xE rfl rfl rfl rfl (zX rfl (zX rfl xD)) rfl rfl rfl (fun w9 b23 N23 => ?_)
    have hBw9 := N23.below
    have nM23 := hM.new N23
    have B23 := N23.blk
    obtain ⟨hn3, hn17⟩ := ub2 hBw9 hn3 hn17
    have hB23 := hBw9
    exact on1 hB23 rfl ⟨b23, _, _, _, _, rfl, KBlk.mk B23 nM23, hn3.z, hn17.z⟩
   refine qG rfl (fun v w => ∃ xs24 xa24, v = .agg #[.bool xs24, xa24] ∧ ZC (Ins b5 (Ins b3 (Ins b2 M))) w (2 * (max ((s * (n0 + 3) + 2)) (n0 + 2)) + 2) (qD ([(kF (l.take s)).num, ((l.getD s 0)).num])) xs24 xa24) (fun _ _ _ ⟨xs24, xa24, e, h0⟩ r => ⟨xs24, xa24, e, h0.mono (Fz := fun _ => False) (Le.of_rs r (by rintro _ rfl; exact (.inr zQ)) (fun _ _ h => h))⟩) (fun wq hR hst => ?_) ?_
   ·refine yD rfl (fun v23 hp23 => ?_)
    obtain ⟨bb23, xs23, xa23, xs23b, xa23b, rfl, hk23, hn23, hnb23⟩ := hp23; obtain ⟨oxa23, _⟩ := hn23.one
    refine zC ?_
    have Lq := lqb (M := (Ins b5 (Ins b3 (Ins b2 M)))) hR (.inr zQ) nF3
    replace hM := hM.mono Lq
    refine zI rfl (bo func89) rfl rfl ?_
    refine (dX (zl2 hk23 hn23.gen hnb23.gen) (by omega) (by first | omega | simp) hM).mono ?_
    rintro v24 w10 ⟨hB24, xs24, xa24, rfl, hn24⟩
    exact on1 hB24 rfl ⟨_, _, rfl, hn24⟩
   apply yO rfl
   ·intro wq hR hst
    refine zP rfl rfl (zC ?_)
    have Lq := lqb (M := (Ins b5 (Ins b3 (Ins b2 M)))) hR (.inr zQ) nF3
    exact zL 2 rfl yu33 rfl rfl xV rfl rfl (on0 rfl)
   apply yO rfl
   ·intro wq hR hst
    refine zK rfl (zC ?_)
    have Lq := lqb (M := (Ins b5 (Ins b3 (Ins b2 M)))) hR (.inr zQ) nF3
    replace B3 := (hst.2 (by decide +kernel))
    exact zT rfl yU rfl B3 rfl (on0 rfl)
   apply yO rfl
   ·intro wq hR hst
    refine zP rfl rfl (zC ?_)
    have Lq := lqb (M := (Ins b5 (Ins b3 (Ins b2 M)))) hR (.inr zQ) nF3
    exact zL 2 rfl yu33 rfl rfl xV rfl rfl (on0 rfl)
   apply yO rfl
   ·intro wq hR hst
    refine zK rfl (zC ?_)
    have Lq := lqb (M := (Ins b5 (Ins b3 (Ins b2 M)))) hR (.inr zQ) nF3
    replace B5 := B5.rs hR ne3_5.symm
    exact zT rfl yU rfl B5 rfl (on0 rfl)
   refine qG rfl (fun v w => ∃ xa29, v = xa29 ∧ NC (Ins b5 (Ins b3 (Ins b2 M))) w ((s * (n0 + 3) + 2) + (n0 + 2)) (((kF (l.take s)).den) * (((l.getD s 0)).den)) xa29) (fun _ _ _ ⟨xa29, e, h0⟩ r => ⟨xa29, e, h0.mono (Fz := fun _ => False) (Le.of_rs r (by rintro _ rfl; exact (.inr zQ)) (fun _ _ h => h))⟩) (fun wq hR hst => ?_) ?_
   ·refine zK rfl (zK rfl (zC ?_))
    have Lq := lqb (M := (Ins b5 (Ins b3 (Ins b2 M)))) hR (.inr zQ) nF3
    obtain ⟨hM, hn3, hn17⟩ := up3 Lq hM hn3 hn17
    refine zI rfl (bo func108) rfl rfl ?_
    refine (nmul_q hn3.d.gen hn17.d.gen (by omega) (by omega) hM).mono ?_
    rintro v29 w11 ⟨hB29, xa29, rfl, hn29⟩
    exact on1 hB29 rfl ⟨_, rfl, hn29⟩
   refine qG rfl (fun v w => ∃ xs30 xa30 xd30, v = .tuple #[.agg #[.bool xs30, xa30, xd30], .int .i64 (if (((kF (l.take s)).den) * (((l.getD s 0)).den)) = 0 then 30 else 0)] ∧ RC (Ins b5 (Ins b3 (Ins b2 M))) w (max (2 * (max ((s * (n0 + 3) + 2)) (n0 + 2)) + 2) ((s * (n0 + 3) + 2) + (n0 + 2)) + 2) (mkRat (qD ([(kF (l.take s)).num, ((l.getD s 0)).num])) (((kF (l.take s)).den) * (((l.getD s 0)).den))) xs30 xa30 xd30) (fun _ _ _ ⟨xs30, xa30, xd30, e, h0⟩ r => ⟨xs30, xa30, xd30, e, h0.mono (Fz := fun _ => False) (Le.of_rs r (by rintro _ rfl; exact (.inr zQ)) (fun _ _ h => h))⟩) (fun wq hR hst => ?_) ?_
   ·refine yD rfl (fun v24 hp24 => ?_)
    obtain ⟨xs24, xa24, rfl, hn24⟩ := hp24
    refine yD rfl (fun v29 hp29 => ?_)
    obtain ⟨xa29, rfl, hn29⟩ := hp29
    refine zC ?_
    have Lq := lqb (M := (Ins b5 (Ins b3 (Ins b2 M)))) hR (.inr zQ) nF3
    replace hM := hM.mono Lq
    refine zI rfl (bo func107) rfl rfl ?_
    refine (r7new_c hn24.gen hn29.gen (by omega) (by omega) hM).mono ?_
    rintro v30 w12 ⟨hB30, xs30, xa30, xd30, rfl, hn30⟩
    exact on1 hB30 rfl ⟨_, _, _, rfl, hn30⟩
   refine qG rfl (fun v w => ∃ xs18 xa18 xd18, v = .tuple #[.agg #[.bool xs18, xa18, xd18], .int .i64 (if (((kF (l.take s)).den) * (((l.getD s 0)).den)) = 0 then 30 else 0)] ∧ RC (Ins b5 (Ins b3 (Ins b2 M))) w (max (2 * (max ((s * (n0 + 3) + 2)) (n0 + 2)) + 2) ((s * (n0 + 3) + 2) + (n0 + 2)) + 2) (mkRat (qD ([(kF (l.take s)).num, ((l.getD s 0)).num])) (((kF (l.take s)).den) * (((l.getD s 0)).den))) xs18 xa18 xd18) (fun _ _ _ ⟨xs18, xa18, xd18, e, h0⟩ r => ⟨xs18, xa18, xd18, e, h0.mono (Fz := fun _ => False) (Le.of_rs r (by rintro _ rfl; exact (.inr zQ)) (fun _ _ h => h))⟩) (fun wq hR hst => ?_) ?_
   ·refine yD rfl (fun v30 hp30 => ?_)
    obtain ⟨xs30, xa30, xd30, rfl, hn30⟩ := hp30
    refine zC ?_
    have Lq := lqb (M := (Ins b5 (Ins b3 (Ins b2 M)))) hR (.inr zQ) nF3
    exact zA rfl rfl (zD ⟨rfl, zY _, _, rfl, ⟨_, _, _, rfl, hn30⟩⟩)
   refine qG rfl (fun v w => ∃ xs31 xa31 xd31, v = .agg #[.bool xs31, xa31, xd31] ∧ RC (Ins b5 (Ins b3 (Ins b2 M))) w (max (2 * (max ((s * (n0 + 3) + 2)) (n0 + 2)) + 2) ((s * (n0 + 3) + 2) + (n0 + 2)) + 2) (mkRat (qD ([(kF (l.take s)).num, ((l.getD s 0)).num])) (((kF (l.take s)).den) * (((l.getD s 0)).den))) xs31 xa31 xd31) (fun _ _ _ ⟨xs31, xa31, xd31, e, h0⟩ r => ⟨xs31, xa31, xd31, e, h0.mono (Fz := fun _ => False) (Le.of_rs r (by rintro _ rfl; exact (.inr zQ)) (fun _ _ h => h))⟩) (fun wq hR hst => ?_) ?_
   ·refine yD rfl (fun v18 hp18 => ?_)
    obtain ⟨xs18, xa18, xd18, rfl, hn18⟩ := hp18
    refine zC ?_
    have Lq := lqb (M := (Ins b5 (Ins b3 (Ins b2 M)))) hR (.inr zQ) nF3
    exact yK rfl rfl rfl (zD ⟨rfl, zY _, _, rfl, ⟨_, _, _, rfl, hn18⟩⟩)
   refine qG rfl (Ex (.int .i64 (if (((kF (l.take s)).den) * (((l.getD s 0)).den)) = 0 then 30 else 0))) xU (fun wq hR hst => ?_) ?_
   ·refine yD rfl (fun v18 hp18 => ?_)
    obtain ⟨xs18, xa18, xd18, rfl, hn18⟩ := hp18
    refine zC ?_
    have Lq := lqb (M := (Ins b5 (Ins b3 (Ins b2 M)))) hR (.inr zQ) nF3
    exact yK rfl rfl rfl (on0 rfl)
   refine dM rfl (fun wq hR hp => ?_) ?_
   ·refine zP rfl rfl (yD rfl (fun v31 hp31 => ?_))
    obtain ⟨xs31, xa31, xd31, rfl, hn31⟩ := hp31; obtain ⟨oxa31, oxd31, _⟩ := hn31.one
    refine zC ?_
    have Lq := lqb (M := (Ins b5 (Ins b3 (Ins b2 M)))) hR (.inr zQ) nF3
    replace B3 := hp
    refine zV rfl rfl yM B3 rfl rfl (zU (zU (zU xY))) rfl (fun w13 Cw13 B3 => ?_)
    have Lw13 := Le.of_chg (M := (Ins b5 (Ins b3 (Ins b2 M)))) Cw13 (.inr zQ) nF3
    replace hn31 := hn31.mono Lw13
    exact zD ⟨rfl, cN Cw13, _, _, _, B3, hn31⟩
   refine xI (fun wq6 hR6 hpost6 => ?_)
   refine zP rfl rfl (zP rfl rfl (zP rfl rfl (zP rfl rfl (zC ?_))))
   simp only [jC, jB, jA, xZ]
   obtain ⟨LR, hn3⟩ := up2 (lqc LR hR6 (.inr zQ) nF3) LR hn3
   replace B2 := B2.rs hR6 ne2_3
   obtain ⟨xs3, xa3, xd3, B3, hn3⟩ := hpost6 _ _ _ rfl
   refine zD (zB (zA rfl rfl (xC rfl rfl rfl (by omega) (zF rfl rfl (zD ?_)))))
   replace LR := LR.trans (Le.less (fun k c => (zJ c)))
   replace hn3 := hn3.mono (Fz := fun _ => False) (Le.less (fun k c => (zJ c)))
   refine ⟨rfl, s + 1, (zZ rfl (by rw [Int.natCast_add]; rfl) (zG rfl (zG rfl (zG rfl yE)))), ?_, ?_⟩
   rw [mul_eq] at hn3
   exact ⟨LR, by omega, B2, _, _, _, B3, by rw [prodR_take (by omega)]; exact RC.relen hn3 (qR (rlen_mul hl3 hle) (by omega))⟩
   omega
  ·refine xN (xO (zH (zB (zM rfl yV yM rfl B3 rfl rfl (zV rfl rfl yM B2 rfl rfl (zU (zU (zU xY))) rfl (fun w14 Cw14 B2 => ?_))))))
   obtain ⟨LL, hn3⟩ := up2 (lc LL Cw14 (.inr zQ) nF2) LL hn3
   refine zD (zW ?_)
   refine lv1 ⟨⟨_, rfl, yQ yV yM B2 rfl rfl⟩, trivial⟩ ?_
   obtain rfl : s = l.length := by omega
   rw [List.take_length] at hn3
   subst hFz
   exact ⟨LL.b, _, _, _, rfl, (hn3.less (fun k c => zJ (zJ c))).up (by omega)⟩
theorem r7add2 {bb : Nat} {ty : TypeId} {n m : Nat} {p q : Rat} {s t : Bool} {a d b e : Value} (hk : KBlk M w bb ty [.bool s, a, d, .bool t, b, e]) (h1 : QC M w n p s a d) (h2 : QC M w m q t b e) (hn : n ≤ 970) (hm : m ≤ 970) (hM : OkM M w) : CallsV prog 23 [.slice (some ⟨bb, 0, none⟩) 2 2] w fun r w' => Bel w.heap.size w w' ∧ RV M (n + m + 3) (p + q) r w' :=
  (r7add_c (rl2 hk h1 h2) (by omega) (by simp) hM).mono fun r w' ⟨hB, x, y, z, e, h⟩ => ⟨hB, x, y, z, e, by
    have e2 : fL [p, q] = p + q := by simp [fL, Rat.zero_add]
    rw [e2] at h
    exact RC.relen h (qR (cY h1.rlen h2.rlen) (by omega))⟩
theorem r7mul2 {bb : Nat} {ty : TypeId} {n m : Nat} {p q : Rat} {s t : Bool} {a d b e : Value} (hk : KBlk M w bb ty [.bool s, a, d, .bool t, b, e]) (h1 : QC M w n p s a d) (h2 : QC M w m q t b e) (hn : n ≤ 970) (hm : m ≤ 970) (hM : OkM M w) : CallsV prog 52 [.slice (some ⟨bb, 0, none⟩) 2 2] w fun r w' => Bel w.heap.size w w' ∧ RV M (n + m + 3) (p * q) r w' :=
  (r7mul_c (rl2 hk h1 h2) (by omega) (by simp) hM).mono fun r w' ⟨hB, x, y, z, e, h⟩ => ⟨hB, x, y, z, e, by
    have e2 : kF [p, q] = p * q := by simp [kF, Rat.one_mul]
    rw [e2] at h
    exact RC.relen h (qR (rlen_mul h1.rlen h2.rlen) (by omega))⟩
theorem r7sub_c {p : Rat} {n0 : Nat} {xs0 : Bool} {xa0 xd0 : Value} {q : Rat} {n1 : Nat} {xs1 : Bool} {xa1 xd1 : Value} (h0 : QC M w n0 p xs0 xa0 xd0) (h1 : QC M w n1 q xs1 xa1 xd1) (hl0 : n0 ≤ 960) (hl1 : n1 ≤ 960) (hM : OkM M w) :
    CallsV prog 22 [.agg #[.bool xs0, xa0, xd0], .agg #[.bool xs1, xa1, xd1]] w fun r w' => Bel w.heap.size w w' ∧ ∃ xsr xar xdr, r = .agg #[.bool xsr, xar, xdr] ∧ RC M w' (n0 + n1 + 5) (p - q) xsr xar xdr := by
 obtain ⟨oxa0, oxd0, _⟩ := h0.one
 obtain ⟨oxa1, oxd1, _⟩ := h1.one
 refine ci M func22 ntmps22 fun Fz hFz hF LL => ?_
 refine zH (zB (yG rfl rfl (fun w1 b2 N2 => ?_)))
 obtain ⟨_, nF2, nM2, Lw1, B2⟩ := nza hF hM N2
 obtain ⟨LL, hM, hF, h0, h1⟩ := up5 Lw1 LL hM hF h0 h1
 refine yG rfl rfl (fun w2 b3 N3 => ?_)
 obtain ⟨hBw2, nF3, nM3, Lw2, B3⟩ := nza hF hM N3
 obtain ⟨B2, ne2_3⟩ := bn B2 N3
 obtain ⟨LL, hM, hF, h0, h1⟩ := up5 Lw2 LL hM hF h0 h1
 refine yI rfl yM (fun w3 b4 N4 => ?_)
 obtain ⟨hBw3, nF4, nM4, Lw3, B4⟩ := nza hF hM N4
 obtain ⟨B2, ne2_4⟩ := bn B2 N4
 obtain ⟨B3, ne3_4⟩ := bn B3 N4
 obtain ⟨LL, hM, h0, h1⟩ := up4 Lw3 LL hM h0 h1
 refine zD (zH ?_)
 refine wd mixed 3 [4, 5, 7] (by decide +kernel) ?_
 refine zN (fun _ hR _ => zP rfl rfl (zC (zM rfl yV yM rfl (B2.below hR) rfl rfl (on0 rfl)))) ?_
 refine zN (fun _ hR _ => zP rfl rfl (zC (zM rfl yV yM rfl (B3.below hR) rfl rfl (on0 rfl)))) ?_
 refine zS (vRC (Ins b4 (Ins b3 (Ins b2 M))) (n1 + 2) (-q)) kJ (fun wq hR hst => ?_) ?_
 ·refine zK rfl (zC ?_)
  obtain ⟨hM, h1⟩ := ub2 hR hM h1
  refine zI rfl (bo func80) rfl rfl ?_
  refine (r7neg_c h1 (by omega) hM).mono ?_
  rintro v7 w4 ⟨hB7, xs7, xa7, xd7, rfl, hn7⟩
  exact on1 hB7 rfl ⟨_, _, _, rfl, hn7⟩
 refine xI (fun wq1 hR1 hpost1 => ?_)
 refine zP rfl rfl (zK rfl (yD rfl (fun v7 hp7 => ?_)))
 obtain ⟨xs7, xa7, xd7, rfl, hn7⟩ := hp7; obtain ⟨oxa7, oxd7, _⟩ := hn7.one
 refine zC ?_
 simp only [jC, jB, jA, xZ]
 obtain ⟨LL, hM, h0, B4⟩ := ub4 hR1 LL hM h0 B4
 refine xA rfl yu22 yM rfl rfl rfl rfl (zX rfl (zX rfl xD)) rfl rfl rfl (fun w5 b8 N8 => ?_)
 have hBw5 := N8.below
 have nM8 := hM.new N8
 have B8 := N8.blk
 obtain ⟨LL, hM, h0, hn7, B4⟩ := ub5 hBw5 LL hM h0 hn7 B4
 refine zI rfl (bo func23) rfl rfl ?_
 refine (r7add2 (KBlk.mk B8 nM8) h0 hn7.gen (by omega) (by omega) hM).mono ?_
 rintro v9 w6 ⟨hB9, xs9, xa9, xd9, rfl, hn9⟩
 obtain ⟨LL, B4⟩ := ub2 hB9 LL B4
 obtain ⟨oxa9, oxd9, _⟩ := hn9.one
 refine zV rfl rfl yM B4 rfl rfl (zU (zU (zU xY))) rfl (fun w7 Cw7 B4 => ?_)
 obtain ⟨LL, hn9⟩ := up2 (lc LL Cw7 zQ nF4) LL hn9
 refine zD (zW ?_)
 refine lv1 ⟨⟨_, rfl, yQ yV yM B4 rfl rfl⟩, trivial⟩ ?_
 rw [Rat.sub_eq_add_neg]
 subst hFz
 exact ⟨LL.b, _, _, _, rfl, (hn9.less (fun k c => zJ (zJ (zJ c)))).up (by omega)⟩
theorem r7cmp_c {p : Rat} {n0 : Nat} {xs0 : Bool} {xa0 xd0 : Value} {q : Rat} {n1 : Nat} {xs1 : Bool} {xa1 xd1 : Value} (h0 : QC M w n0 p xs0 xa0 xd0) (h1 : QC M w n1 q xs1 xa1 xd1) (hl0 : n0 ≤ 1990) (hl1 : n1 ≤ 1990) (hM : OkM M w) :
    CallsV prog 33 [.agg #[.bool xs0, xa0, xd0], .agg #[.bool xs1, xa1, xd1]] w fun r w' => Bel w.heap.size w w' ∧ r = .int .i64 (bG p q) := by
 obtain ⟨oxa0, oxd0, _⟩ := h0.one
 obtain ⟨oxa1, oxd1, _⟩ := h1.one
 refine ci M func33 ntmps33 fun Fz hFz hF LL => ?_
 refine zH (zB (yG rfl rfl (fun w1 b2 N2 => ?_)))
 obtain ⟨_, nF2, nM2, Lw1, B2⟩ := nza hF hM N2
 obtain ⟨LL, hM, hF, h0, h1⟩ := up5 Lw1 LL hM hF h0 h1
 refine yG rfl rfl (fun w2 b3 N3 => ?_)
 obtain ⟨hBw2, nF3, nM3, Lw2, B3⟩ := nza hF hM N3
 obtain ⟨B2, ne2_3⟩ := bn B2 N3
 obtain ⟨LL, hM, h0, h1⟩ := up4 Lw2 LL hM h0 h1
 refine zF rfl rfl (zD (zH ?_))
 refine wd mixed 3 [2, 3, 6, 7] (by decide +kernel) ?_
 refine zN (fun _ hR _ => zP rfl rfl (zC (zM rfl yV yM rfl (B2.below hR) rfl rfl (on0 rfl)))) ?_
 refine zS (vRC (Ins b3 (Ins b2 M)) (n0 + 2) (p)) kJ (fun wq hR hst => ?_) ?_
 ·refine zK rfl (zC ?_)
  obtain ⟨hM, h0⟩ := ub2 hR hM h0
  refine zI rfl (bo func82) rfl rfl ?_
  refine (cE h0 (by omega) hM).mono ?_
  rintro v6 w3 ⟨hB6, xs6, xa6, xd6, rfl, hn6⟩
  exact on1 hB6 rfl ⟨_, _, _, rfl, hn6⟩
 refine zN (fun _ hR _ => zP rfl rfl (zC (zM rfl yV yM rfl (B3.below hR) rfl rfl (on0 rfl)))) ?_
 refine xI (fun wq1 hR1 hpost1 => ?_)
 refine zP rfl rfl (zP rfl rfl (yD rfl (fun v6 hp6 => ?_)))
 obtain ⟨xs6, xa6, xd6, rfl, hn6⟩ := hp6; obtain ⟨oxa6, oxd6, _⟩ := hn6.one
 refine zK rfl (zC ?_)
 simp only [jC, jB, jA, xZ]
 obtain ⟨LL, hM, h0, h1, B2, B3⟩ := ub6 hR1 LL hM h0 h1 B2 B3
 refine zI rfl (bo func82) rfl rfl ?_
 refine (cE h1 (by omega) hM).mono ?_
 rintro v8 w4 ⟨hB8, xs8, xa8, xd8, rfl, hn8⟩
 obtain ⟨LL, hM, h0, h1, hn6, B2, B3⟩ := ub7 hB8 LL hM h0 h1 hn6 B2 B3
 obtain ⟨oxa8, oxd8, _⟩ := hn8.one
 refine zV rfl rfl yM B2 rfl rfl (zU (zU (zU xY))) rfl (fun w5 Cw5 B2 => ?_)
 obtain ⟨LL, hM, h0, h1, hn6, hn8⟩ := up6 (lc LL Cw5 (.inr zQ) nF2) LL hM h0 h1 hn6 hn8
 replace B3 := B3.other Cw5 ne2_3.symm
 refine zV rfl rfl yM B3 rfl rfl (zU (zU (zU xY))) rfl (fun w6 Cw6 B3 => ?_)
 obtain ⟨LL, hM, h0, h1, hn6, hn8⟩ := up6 (lc LL Cw6 zQ nF3) LL hM h0 h1 hn6 hn8
 replace B2 := B2.other Cw6 ne2_3
 refine zD (zH ?_)
 refine wd mixed 12 [15, 17, 20] (by decide +kernel) ?_
 refine zN (fun _ _ _ => zP rfl rfl (zC (zL 0 rfl yu33 rfl rfl xE rfl rfl (on0 rfl)))) ?_
 refine zN (fun _ hR _ => zK rfl (zC (zM rfl xX xE rfl (B2.below hR) rfl rfl (on0 rfl)))) ?_
 refine zN (fun _ _ _ => zP rfl rfl (zC (zL 2 rfl yu33 rfl rfl xV rfl rfl (on0 rfl)))) ?_
 refine zN (fun _ hR _ => zK rfl (zC (zT rfl yU rfl (B3.below hR) rfl (on0 rfl)))) ?_
 refine zS (vZQ (Ins b3 (Ins b2 M)) ((n1 + 2)) (((q.den : Nat) : Int))) vZQ_m (fun wq hR hst => ?_) ?_
 ·refine zK rfl (zC ?_)
  obtain ⟨hM, hn8⟩ := ub2 hR hM hn8
  refine zI rfl (bo func90) rfl rfl ?_
  refine (over7_c hn8.d.gen (by omega) hM).mono ?_
  rintro v13 w7 ⟨hB13, xs13, xa13, rfl, hn13⟩
  exact on1 hB13 rfl ⟨_, _, rfl, hn13⟩
 refine dv (fun v w => ∃ bb xs14 xa14 xs14b xa14b, v = .slice (some ⟨bb, 0, none⟩) 2 2 ∧ KBlk (Ins b3 (Ins b2 M)) w bb 31 [.bool xs14, xa14, .bool xs14b, xa14b] ∧ ZC (Ins b3 (Ins b2 M)) w (n0 + 2) (p.num) xs14 xa14 ∧ ZQ (Ins b3 (Ins b2 M)) w ((n1 + 2)) (((q.den : Nat) : Int)) xs14b xa14b) (fun wq hR hst => ?_) ?_
 ·refine zK rfl (yD rfl (fun v13 hp13 => ?_))
  obtain ⟨xs13, xa13, rfl, hn13⟩ := hp13
  refine zC ?_
  obtain ⟨hM, hn6⟩ := ub2 hR hM hn6
  refine xA rfl yu174 xE rfl rfl rfl rfl (zX rfl (zX rfl xD)) rfl rfl rfl (fun w8 b14 N14 => ?_)
  have hBw8 := N14.below
  have nM14 := hM.new N14
  have B14 := N14.blk
  obtain ⟨hn6, hn13⟩ := ub2 hBw8 hn6 hn13
  have hB14 := hBw8
  exact on1 hB14 rfl ⟨b14, _, _, _, _, rfl, KBlk.mk B14 nM14, hn6.z, hn13⟩
 refine zS (vZC (Ins b3 (Ins b2 M)) (2 * (max ((n0 + 2)) ((n1 + 2))) + 2) (qD ([p.num, ((q.den : Nat) : Int)]))) fK (fun wq hR hst => ?_) ?_
 ·refine yD rfl (fun v14 hp14 => ?_)
  obtain ⟨bb14, xs14, xa14, xs14b, xa14b, rfl, hk14, hn14, hnb14⟩ := hp14; obtain ⟨oxa14, _⟩ := hn14.one
  refine zC ?_
  replace hM := ub1 hR hM
  refine zI rfl (bo func89) rfl rfl ?_
  refine (dX (zl2 hk14 hn14.gen hnb14) (by omega) (by first | omega | simp) hM).mono ?_
  rintro v15 w9 ⟨hB15, xs15, xa15, rfl, hn15⟩
  exact on1 hB15 rfl ⟨_, _, rfl, hn15⟩
 refine zN (fun _ _ _ => zP rfl rfl (zC (zL 0 rfl yu33 rfl rfl xE rfl rfl (on0 rfl)))) ?_
 refine zN (fun _ hR _ => zK rfl (zC (zM rfl xX xE rfl (B3.below hR) rfl rfl (on0 rfl)))) ?_
 refine zN (fun _ _ _ => zP rfl rfl (zC (zL 2 rfl yu33 rfl rfl xV rfl rfl (on0 rfl)))) ?_
 refine zN (fun _ hR _ => zK rfl (zC (zT rfl yU rfl (B2.below hR) rfl (on0 rfl)))) ?_
 refine zS (vZQ (Ins b3 (Ins b2 M)) ((n0 + 2)) (((p.den : Nat) : Int))) vZQ_m (fun wq hR hst => ?_) ?_
 ·refine zK rfl (zC ?_)
  obtain ⟨hM, hn6⟩ := ub2 hR hM hn6
  refine zI rfl (bo func90) rfl rfl ?_
  refine (over7_c hn6.d.gen (by omega) hM).mono ?_
  rintro v20 w10 ⟨hB20, xs20, xa20, rfl, hn20⟩
  exact on1 hB20 rfl ⟨_, _, rfl, hn20⟩
 refine xI (fun wq2 hR2 hpost2 => ?_)
 refine yD rfl (fun v15 hp15 => ?_)
 obtain ⟨xs15, xa15, rfl, hn15⟩ := hp15
 refine zK rfl (yD rfl (fun v20 hp20 => ?_))
 obtain ⟨xs20, xa20, rfl, hn20⟩ := hp20
 refine zC ?_
 simp only [jC, jB, jA, xZ]
 obtain ⟨LL, hM, hn8⟩ := ub3 hR2 LL hM hn8
 refine xA rfl yu174 xE rfl rfl rfl rfl (zX rfl (zX rfl xD)) rfl rfl rfl (fun w11 b21 N21 => ?_)
 have hBw11 := N21.below
 have nM21 := hM.new N21
 have B21 := N21.blk
 obtain ⟨LL, hM, hn8, hn15, hn20⟩ := ub5 hBw11 LL hM hn8 hn15 hn20
 refine zI rfl (bo func89) rfl rfl ?_
 refine (dX (zl2 ((KBlk.mk B21 nM21)) hn8.z.gen hn20) (by omega) (by first | omega | simp) hM).mono ?_
 rintro v22 w12 ⟨hB22, xs22, xa22, rfl, hn22⟩
 obtain ⟨LL, hM, hn15⟩ := ub3 hB22 LL hM hn15
 refine zI rfl (bo func88) rfl rfl ?_
 refine (i5sub_c hn15.gen hn22.gen (by omega) (by omega) hM).mono ?_
 rintro v23 w13 ⟨hB23, xs23, xa23, rfl, hn23⟩
 obtain ⟨LL, hM⟩ := ub2 hB23 LL hM
 refine zI rfl (bo func87) rfl rfl ?_
 refine (i5sign_c hn23.gen (by omega) hM).mono ?_
 rintro v24 w14 ⟨hB24, rfl⟩
 replace LL := ub1 hB24 LL
 refine zF rfl rfl (zD (zW ?_))
 refine lv1 ⟨rfl, trivial⟩ ?_
 rw [cmp_eq]
 subst hFz
 exact ⟨LL.b, rfl⟩
theorem r7same_c {p : Rat} {n0 : Nat} {xs0 : Bool} {xa0 xd0 : Value} {q : Rat} {n1 : Nat} {xs1 : Bool} {xa1 xd1 : Value} (h0 : QC M w n0 p xs0 xa0 xd0) (h1 : QC M w n1 q xs1 xa1 xd1) (hl0 : n0 ≤ 1990) (hl1 : n1 ≤ 1990) (hM : OkM M w) :
    CallsV prog 58 [.agg #[.bool xs0, xa0, xd0], .agg #[.bool xs1, xa1, xd1]] w fun r w' => Bel w.heap.size w w' ∧ r = .bool (decide (bG p q = 0)) := by
 refine ci M func58 ntmps58 fun Fz hFz hF LL => ?_
 refine zH (zB (yG rfl rfl (fun w1 b2 N2 => ?_)))
 obtain ⟨_, nF2, nM2, Lw1, B2⟩ := nza hF hM N2
 obtain ⟨LL, hM, hF, h0, h1⟩ := up5 Lw1 LL hM hF h0 h1
 refine yG rfl rfl (fun w2 b3 N3 => ?_)
 obtain ⟨hBw2, nF3, nM3, Lw2, B3⟩ := nza hF hM N3
 obtain ⟨B2, ne2_3⟩ := bn B2 N3
 obtain ⟨LL, hM, h0, h1⟩ := up4 Lw2 LL hM h0 h1
 refine zF rfl rfl (zD (zH (zB (zM rfl yV yM rfl B2 rfl rfl (zM rfl yV yM rfl B3 rfl rfl (zI rfl (bo func33) rfl rfl ?_))))))
 refine (r7cmp_c h0 h1 (by omega) (by omega) hM).mono ?_
 rintro v7 w3 ⟨hB7, rfl⟩
 replace LL := ub1 hB7 LL
 refine gN rfl rfl rfl (zF rfl rfl (zD (zW ?_)))
 refine lv1 ⟨rfl, trivial⟩ ?_
 subst hFz
 exact ⟨LL.b, rfl⟩
theorem r7told_c {p : Rat} {n0 : Nat} {xs0 : Bool} {xa0 xd0 : Value} {q : Rat} {n1 : Nat} {xs1 : Bool} {xa1 xd1 : Value} (h0 : RC M w n0 p xs0 xa0 xd0) (h1 : RC M w n1 q xs1 xa1 xd1) (hl0 : n0 ≤ 20000) (hl1 : n1 ≤ 20000) (hM : OkM M w) :
    CallsV prog 74 [.agg #[.bool xs0, xa0, xd0], .agg #[.bool xs1, xa1, xd1]] w fun r w' => Bel w.heap.size w w' ∧ r = .bool (decide (p = q)) := by
 refine ci M func74 ntmps74 fun Fz hFz hF LL => ?_
 refine zH (zB (yG rfl rfl (fun w1 b2 N2 => ?_)))
 obtain ⟨_, nF2, nM2, Lw1, B2⟩ := nza hF hM N2
 obtain ⟨LL, hM, hF, h0, h1⟩ := up5 Lw1 LL hM hF h0 h1
 refine yG rfl rfl (fun w2 b3 N3 => ?_)
 obtain ⟨hBw2, nF3, nM3, Lw2, B3⟩ := nza hF hM N3
 obtain ⟨B2, ne2_3⟩ := bn B2 N3
 obtain ⟨LL, hM, h0, h1⟩ := up4 Lw2 LL hM h0 h1
 refine zF rfl rfl (zD (zH (zB (zL 0 rfl yu33 rfl rfl xE rfl rfl (zM rfl xX xE rfl B2 rfl rfl (zL 0 rfl yu33 rfl rfl xE rfl rfl (zM rfl xX xE rfl B3 rfl rfl (zI rfl (bo func136) rfl rfl ?_))))))))
 refine (i5told_c h0.z h1.z (by omega) (by omega) hM).mono ?_
 rintro v9 w3 ⟨hB9, rfl⟩
 obtain ⟨LL, hM, h0, h1, B2, B3⟩ := ub6 hB9 LL hM h0 h1 B2 B3
 refine zA rfl rfl (gE (d := 10) rfl (fun hg1_5 => ?_) (fun hg1_5 => ?_))
 ·refine zO rfl rfl (zL 2 rfl yu33 rfl rfl xV rfl rfl (zO rfl rfl (zT rfl yU rfl B2 rfl (zO rfl rfl (zL 2 rfl yu33 rfl rfl xV rfl rfl (zO rfl rfl (zT rfl yU rfl B3 rfl (zO rfl rfl (zI rfl (bo func137) rfl rfl ?_)))))))))
  refine (same_c h0.den h1.den hM).mono ?_
  rintro v15 w4 ⟨hB15, rfl⟩
  replace LL := ub1 hB15 LL
  refine yW rfl rfl rfl (zF rfl rfl (zD (zW ?_)))
  refine lv1 ⟨rfl, trivial⟩ ?_
  subst hFz
  exact ⟨LL.b, by congr 1; exact told_q hg1_5⟩
 ·refine zR rfl rfl rfl rfl (zR rfl rfl rfl rfl (zR rfl rfl rfl rfl (zR rfl rfl rfl rfl (zR rfl rfl rfl rfl (yW rfl rfl rfl (zF rfl rfl (zD (zW ?_))))))))
  refine lv1 ⟨rfl, trivial⟩ ?_
  subst hFz
  exact ⟨LL.b, by congr 1; exact (decide_eq_false fun c => hg1_5 (by rw [c])).symm⟩
end Go.Proofs.YtfkejnlohkgbgaaGreatDoor
set_option maxRecDepth 100000
namespace Go.Proofs.YtfkejnlohkgbgaaGreatDoor
open Go.SL Go.RowKit Go.Proofs Tryz
variable {M : Nat → Prop} {w : World}
theorem absR_neg {q : Rat} (h : eI q < 0) : fJ q = 0 - q := by unfold fJ; rw [if_pos (sgnR_lt.1 h)]; grind
theorem absR_pos {q : Rat} (h : ¬ eI q < 0) : fJ q = q := by unfold fJ; rw [if_neg (fun c => h (sgnR_lt.2 c))]
theorem alike_f {p q : P2} (h : p.1 ≠ q.1) : decide (p = q) = false := decide_eq_false fun c => h (by rw [c])
theorem alike_t {p q : P2} (h : p.1 = q.1) : decide (p.2 = q.2) = decide (p = q) := by
  rw [decide_eq_decide]; exact ⟨fun c => Prod.ext h c, fun c => by rw [c]⟩
theorem r8of_c {k : Nat} {l : Nat} (hk : k < 9223372036854775808) (hl : l < 9223372036854775808) (hM : OkM M w) :
    CallsV prog 85 [.int .i64 ((k : Nat) : Int), .int .i64 ((l : Nat) : Int)] w fun r w' => Bel w.heap.size w w' ∧ ∃ xsr xar xdr xtr xbr xer, r = .agg #[.bool xsr, xar, xdr, .bool xtr, xbr, xer] ∧ PC M w' (2) ((((k : Nat) : Rat), ((l : Nat) : Rat))) xsr xar xdr xtr xbr xer := by
 refine ci M func85 ntmps85 fun Fz hFz hF LL => ?_
 refine zH (zB (yI rfl yR (fun w1 b4 N4 => ?_)))
 obtain ⟨_, nF4, nM4, Lw1, B4⟩ := nza hF hM N4
 obtain ⟨LL, hM⟩ := up2 Lw1 LL hM
 refine zD (zH (zB (zA rfl rfl (zI rfl (bo func21) rfl rfl ?_))))
 refine (eK (k := k)  (by omega) hM).mono ?_
 rintro v6 w2 ⟨hB6, xs6, xa6, xd6, rfl, hn6⟩
 obtain ⟨LL, hM, B4⟩ := ub3 hB6 LL hM B4
 obtain ⟨oxa6, oxd6, _⟩ := hn6.one
 refine zA rfl rfl (zI rfl (bo func21) rfl rfl ?_)
 refine (eK (k := l)  (by omega) hM).mono ?_
 rintro v8 w3 ⟨hB8, xs8, xa8, xd8, rfl, hn8⟩
 obtain ⟨LL, hn6, B4⟩ := ub3 hB8 LL hn6 B4
 obtain ⟨oxa8, oxd8, _⟩ := hn8.one
 refine xM rfl eR rfl rfl (zX (rfl) (zX (rfl) xD)) rfl (zV rfl rfl yR B4 rfl rfl (zU (zU (zU (zU (zU (zU xY)))))) rfl (fun w4 Cw4 B4 => ?_))
 obtain ⟨LL, hn6, hn8⟩ := up3 (lc LL Cw4 zQ nF4) LL hn6 hn8
 refine zD (zW ?_)
 refine lv1 ⟨⟨_, rfl, yQ yL yR B4 rfl rfl⟩, trivial⟩ ?_
 subst hFz
 exact ⟨LL.b, _, _, _, _, _, _, rfl, ((PC.mk2 hn6 hn8).less (fun k c => zJ c)).up (by omega)⟩
theorem r8sub_c {p : P2} {n0 : Nat} {xs0 xt0 : Bool} {xa0 xd0 xb0 xe0 : Value} {q : P2} {n1 : Nat} {xs1 xt1 : Bool} {xa1 xd1 xb1 xe1 : Value} (h0 : PQ M w n0 p xs0 xa0 xd0 xt0 xb0 xe0) (h1 : PQ M w n1 q xs1 xa1 xd1 xt1 xb1 xe1) (hl0 : n0 ≤ 960) (hl1 : n1 ≤ 960) (hM : OkM M w) :
    CallsV prog 41 [.agg #[.bool xs0, xa0, xd0, .bool xt0, xb0, xe0], .agg #[.bool xs1, xa1, xd1, .bool xt1, xb1, xe1]] w fun r w' => Bel w.heap.size w w' ∧ ∃ xsr xar xdr xtr xbr xer, r = .agg #[.bool xsr, xar, xdr, .bool xtr, xbr, xer] ∧ PC M w' (n0 + n1 + 5) (jW p q) xsr xar xdr xtr xbr xer := by
 obtain ⟨oxa0, oxd0, oxb0, oxe0, _⟩ := h0.one
 obtain ⟨oxa1, oxd1, oxb1, oxe1, _⟩ := h1.one
 refine ci M func41 ntmps41 fun Fz hFz hF LL => ?_
 refine zH (zB (yG rfl rfl (fun w1 b2 N2 => ?_)))
 obtain ⟨_, nF2, nM2, Lw1, B2⟩ := nza hF hM N2
 obtain ⟨LL, hM, hF, h0, h1⟩ := up5 Lw1 LL hM hF h0 h1
 refine yG rfl rfl (fun w2 b3 N3 => ?_)
 obtain ⟨hBw2, nF3, nM3, Lw2, B3⟩ := nza hF hM N3
 obtain ⟨B2, ne2_3⟩ := bn B2 N3
 obtain ⟨LL, hM, hF, h0, h1⟩ := up5 Lw2 LL hM hF h0 h1
 refine yI rfl yR (fun w3 b4 N4 => ?_)
 obtain ⟨hBw3, nF4, nM4, Lw3, B4⟩ := nza hF hM N4
 obtain ⟨B2, ne2_4⟩ := bn B2 N4
 obtain ⟨B3, ne3_4⟩ := bn B3 N4
 obtain ⟨LL, hM, h0, h1⟩ := up4 Lw3 LL hM h0 h1
 refine zD (zH ?_)
 refine wd mixed 9 [4, 9, 11, 13] (by decide +kernel) ?_
 refine zN (fun _ _ _ => zP rfl rfl (zC (zL 0 rfl yu39 rfl rfl yM rfl rfl (on0 rfl)))) ?_
 refine zN (fun _ hR _ => zK rfl (zC (zM rfl yV yM rfl (B2.below hR) rfl rfl (on0 rfl)))) ?_
 refine zN (fun _ _ _ => zP rfl rfl (zC (zL 0 rfl yu39 rfl rfl yM rfl rfl (on0 rfl)))) ?_
 refine zN (fun _ hR _ => zK rfl (zC (zM rfl yV yM rfl (B3.below hR) rfl rfl (on0 rfl)))) ?_
 refine zS (vRC (Ins b4 (Ins b3 (Ins b2 M))) (n0 + n1 + 5) (p.1 - q.1)) kJ (fun wq hR hst => ?_) ?_
 ·refine zK rfl (zK rfl (zC ?_))
  obtain ⟨hM, h0, h1⟩ := ub3 hR hM h0 h1
  refine zI rfl (bo func22) rfl rfl ?_
  refine (r7sub_c h0.x h1.x (by omega) (by omega) hM).mono ?_
  rintro v9 w4 ⟨hB9, xs9, xa9, xd9, rfl, hn9⟩
  exact on1 hB9 rfl ⟨_, _, _, rfl, hn9⟩
 refine zN (fun _ _ _ => zP rfl rfl (zC (zL 3 rfl yu39 rfl rfl yM rfl rfl (on0 rfl)))) ?_
 refine zN (fun _ hR _ => zK rfl (zC (zM rfl yV yM rfl (B2.below hR) rfl rfl (on0 rfl)))) ?_
 refine zN (fun _ _ _ => zP rfl rfl (zC (zL 3 rfl yu39 rfl rfl yM rfl rfl (on0 rfl)))) ?_
 refine zN (fun _ hR _ => zK rfl (zC (zM rfl yV yM rfl (B3.below hR) rfl rfl (on0 rfl)))) ?_
 refine xI (fun wq1 hR1 hpost1 => ?_)
 refine zP rfl rfl (yD rfl (fun v9 hp9 => ?_))
 obtain ⟨xs9, xa9, xd9, rfl, hn9⟩ := hp9; obtain ⟨oxa9, oxd9, _⟩ := hn9.one
 refine zK rfl (zK rfl (zC ?_))
 simp only [jC, jB, jA, xZ]
 obtain ⟨LL, hM, h0, h1, B4⟩ := ub5 hR1 LL hM h0 h1 B4
 refine zI rfl (bo func22) rfl rfl ?_
 refine (r7sub_c h0.y h1.y (by omega) (by omega) hM).mono ?_
 rintro v14 w5 ⟨hB14, xs14, xa14, xd14, rfl, hn14⟩
 obtain ⟨LL, hn9, B4⟩ := ub3 hB14 LL hn9 B4
 obtain ⟨oxa14, oxd14, _⟩ := hn14.one
 refine xM rfl eR rfl rfl (zX (rfl) (zX (rfl) xD)) rfl (zV rfl rfl yR B4 rfl rfl (zU (zU (zU (zU (zU (zU xY)))))) rfl (fun w6 Cw6 B4 => ?_))
 obtain ⟨LL, hn9, hn14⟩ := up3 (lc LL Cw6 zQ nF4) LL hn9 hn14
 refine zD (zW ?_)
 refine lv1 ⟨⟨_, rfl, yQ yL yR B4 rfl rfl⟩, trivial⟩ ?_
 subst hFz
 exact ⟨LL.b, _, _, _, _, _, _, rfl, ((PC.mk2 hn9 hn14).less (fun k c => zJ (zJ (zJ c)))).up (by omega)⟩
theorem r8cross_c {p : P2} {n0 : Nat} {xs0 xt0 : Bool} {xa0 xd0 xb0 xe0 : Value} {q : P2} {n1 : Nat} {xs1 xt1 : Bool} {xa1 xd1 xb1 xe1 : Value} (h0 : PQ M w n0 p xs0 xa0 xd0 xt0 xb0 xe0) (h1 : PQ M w n1 q xs1 xa1 xd1 xt1 xb1 xe1) (hl0 : n0 ≤ 475) (hl1 : n1 ≤ 475) (hM : OkM M w) :
    CallsV prog 40 [.agg #[.bool xs0, xa0, xd0, .bool xt0, xb0, xe0], .agg #[.bool xs1, xa1, xd1, .bool xt1, xb1, xe1]] w fun r w' => Bel w.heap.size w w' ∧ ∃ xsr xar xdr, r = .agg #[.bool xsr, xar, xdr] ∧ RC M w' (2 * n0 + 2 * n1 + 11) (jU p q) xsr xar xdr := by
 obtain ⟨oxa0, oxd0, oxb0, oxe0, _⟩ := h0.one
 obtain ⟨oxa1, oxd1, oxb1, oxe1, _⟩ := h1.one
 refine ci M func40 ntmps40 fun Fz hFz hF LL => ?_
 refine zH (zB (yG rfl rfl (fun w1 b2 N2 => ?_)))
 obtain ⟨_, nF2, nM2, Lw1, B2⟩ := nza hF hM N2
 obtain ⟨LL, hM, hF, h0, h1⟩ := up5 Lw1 LL hM hF h0 h1
 refine yG rfl rfl (fun w2 b3 N3 => ?_)
 obtain ⟨hBw2, nF3, nM3, Lw2, B3⟩ := nza hF hM N3
 obtain ⟨B2, ne2_3⟩ := bn B2 N3
 obtain ⟨LL, hM, hF, h0, h1⟩ := up5 Lw2 LL hM hF h0 h1
 refine yI rfl yM (fun w3 b4 N4 => ?_)
 obtain ⟨hBw3, nF4, nM4, Lw3, B4⟩ := nza hF hM N4
 obtain ⟨B2, ne2_4⟩ := bn B2 N4
 obtain ⟨B3, ne3_4⟩ := bn B3 N4
 obtain ⟨LL, hM, h0, h1⟩ := up4 Lw3 LL hM h0 h1
 refine zD (zH ?_)
 refine wd mixed 11 [4, 10, 15] (by decide +kernel) ?_
 refine zN (fun _ _ _ => zP rfl rfl (zC (zL 0 rfl yu39 rfl rfl yM rfl rfl (on0 rfl)))) ?_
 refine zN (fun _ hR _ => zK rfl (zC (zM rfl yV yM rfl (B2.below hR) rfl rfl (on0 rfl)))) ?_
 refine zN (fun _ _ _ => zP rfl rfl (zC (zL 3 rfl yu39 rfl rfl yM rfl rfl (on0 rfl)))) ?_
 refine zN (fun _ hR _ => zK rfl (zC (zM rfl yV yM rfl (B3.below hR) rfl rfl (on0 rfl)))) ?_
 refine dv (fun v w => ∃ bb xs9 xa9 xd9 xs9b xa9b xd9b, v = .slice (some ⟨bb, 0, none⟩) 2 2 ∧ KBlk (Ins b4 (Ins b3 (Ins b2 M))) w bb 33 [.bool xs9, xa9, xd9, .bool xs9b, xa9b, xd9b] ∧ QC (Ins b4 (Ins b3 (Ins b2 M))) w (n0) (p.1) xs9 xa9 xd9 ∧ QC (Ins b4 (Ins b3 (Ins b2 M))) w (n1) (q.2) xs9b xa9b xd9b) (fun wq hR hst => ?_) ?_
 ·refine zK rfl (zK rfl (zC ?_))
  obtain ⟨hM, h0, h1⟩ := ub3 hR hM h0 h1
  refine xA rfl yu22 yM rfl rfl rfl rfl (zX rfl (zX rfl xD)) rfl rfl rfl (fun w4 b9 N9 => ?_)
  have hBw4 := N9.below
  have nM9 := hM.new N9
  have B9 := N9.blk
  obtain ⟨h0, h1⟩ := ub2 hBw4 h0 h1
  have hB9 := hBw4
  exact on1 hB9 rfl ⟨b9, _, _, _, _, _, _, rfl, KBlk.mk B9 nM9, h0.x, h1.y⟩
 refine zS (vRC (Ins b4 (Ins b3 (Ins b2 M))) (n0 + n1 + 3) (p.1 * q.2)) kJ (fun wq hR hst => ?_) ?_
 ·refine yD rfl (fun v9 hp9 => ?_)
  obtain ⟨bb9, xs9, xa9, xd9, xs9b, xa9b, xd9b, rfl, hk9, hn9, hnb9⟩ := hp9; obtain ⟨oxa9, oxd9, _⟩ := hn9.one
  refine zC ?_
  replace hM := ub1 hR hM
  refine zI rfl (bo func52) rfl rfl ?_
  refine (r7mul2 hk9 hn9 hnb9 (by omega) (by omega) hM).mono ?_
  rintro v10 w5 ⟨hB10, xs10, xa10, xd10, rfl, hn10⟩
  exact on1 hB10 rfl ⟨_, _, _, rfl, hn10⟩
 refine zN (fun _ _ _ => zP rfl rfl (zC (zL 3 rfl yu39 rfl rfl yM rfl rfl (on0 rfl)))) ?_
 refine zN (fun _ hR _ => zK rfl (zC (zM rfl yV yM rfl (B2.below hR) rfl rfl (on0 rfl)))) ?_
 refine zN (fun _ _ _ => zP rfl rfl (zC (zL 0 rfl yu39 rfl rfl yM rfl rfl (on0 rfl)))) ?_
 refine zN (fun _ hR _ => zK rfl (zC (zM rfl yV yM rfl (B3.below hR) rfl rfl (on0 rfl)))) ?_
 refine dv (fun v w => ∃ bb xs15 xa15 xd15 xs15b xa15b xd15b, v = .slice (some ⟨bb, 0, none⟩) 2 2 ∧ KBlk (Ins b4 (Ins b3 (Ins b2 M))) w bb 33 [.bool xs15, xa15, xd15, .bool xs15b, xa15b, xd15b] ∧ QC (Ins b4 (Ins b3 (Ins b2 M))) w (n0) (p.2) xs15 xa15 xd15 ∧ QC (Ins b4 (Ins b3 (Ins b2 M))) w (n1) (q.1) xs15b xa15b xd15b) (fun wq hR hst => ?_) ?_
 ·refine zK rfl (zK rfl (zC ?_))
  obtain ⟨hM, h0, h1⟩ := ub3 hR hM h0 h1
  refine xA rfl yu22 yM rfl rfl rfl rfl (zX rfl (zX rfl xD)) rfl rfl rfl (fun w6 b15 N15 => ?_)
  have hBw6 := N15.below
  have nM15 := hM.new N15
  have B15 := N15.blk
  obtain ⟨h0, h1⟩ := ub2 hBw6 h0 h1
  have hB15 := hBw6
  exact on1 hB15 rfl ⟨b15, _, _, _, _, _, _, rfl, KBlk.mk B15 nM15, h0.y, h1.x⟩
 refine xI (fun wq1 hR1 hpost1 => ?_)
 refine zP rfl rfl (yD rfl (fun v10 hp10 => ?_))
 obtain ⟨xs10, xa10, xd10, rfl, hn10⟩ := hp10; obtain ⟨oxa10, oxd10, _⟩ := hn10.one
 refine yD rfl (fun v15 hp15 => ?_)
 obtain ⟨bb15, xs15, xa15, xd15, xs15b, xa15b, xd15b, rfl, hk15, hn15, hnb15⟩ := hp15; obtain ⟨oxa15, oxd15, _⟩ := hn15.one; obtain ⟨oxa15b, oxd15b, _⟩ := hnb15.one
 refine zC ?_
 simp only [jC, jB, jA, xZ]
 obtain ⟨LL, hM, B4⟩ := ub3 hR1 LL hM B4
 refine zI rfl (bo func52) rfl rfl ?_
 refine (r7mul2 hk15 hn15 hnb15 (by omega) (by omega) hM).mono ?_
 rintro v16 w7 ⟨hB16, xs16, xa16, xd16, rfl, hn16⟩
 obtain ⟨LL, hM, hn10, B4⟩ := ub4 hB16 LL hM hn10 B4
 obtain ⟨oxa16, oxd16, _⟩ := hn16.one
 refine zI rfl (bo func22) rfl rfl ?_
 refine (r7sub_c hn10.gen hn16.gen (by omega) (by omega) hM).mono ?_
 rintro v17 w8 ⟨hB17, xs17, xa17, xd17, rfl, hn17⟩
 obtain ⟨LL, B4⟩ := ub2 hB17 LL B4
 obtain ⟨oxa17, oxd17, _⟩ := hn17.one
 refine zV rfl rfl yM B4 rfl rfl (zU (zU (zU xY))) rfl (fun w9 Cw9 B4 => ?_)
 obtain ⟨LL, hn17⟩ := up2 (lc LL Cw9 zQ nF4) LL hn17
 refine zD (zW ?_)
 refine lv1 ⟨⟨_, rfl, yQ yV yM B4 rfl rfl⟩, trivial⟩ ?_
 subst hFz
 exact ⟨LL.b, _, _, _, rfl, (hn17.less (fun k c => zJ (zJ (zJ c)))).up (by omega)⟩
theorem r8abs_c {p : Rat} {n0 : Nat} {xs0 : Bool} {xa0 xd0 : Value} (h0 : QC M w n0 p xs0 xa0 xd0) (hl0 : n0 ≤ 950) (hM : OkM M w) :
    CallsV prog 156 [.agg #[.bool xs0, xa0, xd0]] w fun r w' => Bel w.heap.size w w' ∧ ∃ xsr xar xdr, r = .agg #[.bool xsr, xar, xdr] ∧ RC M w' (n0 + 7) (fJ p) xsr xar xdr := by
 obtain ⟨oxa0, oxd0, _⟩ := h0.one
 refine ci M func156 ntmps156 fun Fz hFz hF LL => ?_
 refine zH (zB (yG rfl rfl (fun w1 b1 N1 => ?_)))
 obtain ⟨_, nF1, nM1, Lw1, B1⟩ := nza hF hM N1
 obtain ⟨LL, hM, hF, h0⟩ := up4 Lw1 LL hM hF h0
 refine yI rfl yM (fun w2 b2 N2 => ?_)
 obtain ⟨hBw2, nF2, nM2, Lw2, B2⟩ := nza hF hM N2
 obtain ⟨B1, ne1_2⟩ := bn B1 N2
 obtain ⟨LL, hM, h0⟩ := up3 Lw2 LL hM h0
 refine zD (zH (zH (zB (zM rfl yV yM rfl B1 rfl rfl (zI rfl (bo func32) rfl rfl ?_)))))
 refine (r7sign_c h0 (by omega) hM).mono ?_
 rintro v4 w3 ⟨hB4, rfl⟩
 obtain ⟨LL, hM, h0, B1, B2⟩ := ub5 hB4 LL hM h0 B1 B2
 refine jI rfl rfl rfl (zD ?_)
 refine yA rfl (fun hc0 => ?_) (fun hc0 => ?_)
 ·refine zH ?_
  refine wd mixed 2 [2, 6, 7] (by decide +kernel) ?_
  refine zS (vRC (Ins b2 (Ins b1 M)) (2) (((0 : Nat) : Rat))) kJ (fun wq hR hst => ?_) ?_
  ·refine zC ?_
   replace hM := ub1 hR hM
   refine zI rfl (bo func21) rfl rfl ?_
   refine (eK (k := 0)  (by omega) hM).mono ?_
   rintro v6 w4 ⟨hB6, xs6, xa6, xd6, rfl, hn6⟩
   exact on1 hB6 rfl ⟨_, _, _, rfl, hn6⟩
  refine zN (fun _ hR _ => zP rfl rfl (zC (zM rfl yV yM rfl (B1.below hR) rfl rfl (on0 rfl)))) ?_
  refine xI (fun wq2 hR2 hpost2 => ?_)
  refine zP rfl rfl (yD rfl (fun v6 hp6 => ?_))
  obtain ⟨xs6, xa6, xd6, rfl, hn6⟩ := hp6; obtain ⟨oxa6, oxd6, _⟩ := hn6.one
  refine zK rfl (zC ?_)
  simp only [jC, jB, jA, xZ]
  obtain ⟨LL, hM, h0, B2⟩ := ub4 hR2 LL hM h0 B2
  refine zI rfl (bo func22) rfl rfl ?_
  refine (r7sub_c hn6.gen h0 (by omega) (by omega) hM).mono ?_
  rintro v8 w5 ⟨hB8, xs8, xa8, xd8, rfl, hn8⟩
  obtain ⟨LL, B2⟩ := ub2 hB8 LL B2
  obtain ⟨oxa8, oxd8, _⟩ := hn8.one
  refine zV rfl rfl yM B2 rfl rfl (zU (zU (zU xY))) rfl (fun w6 Cw6 B2 => ?_)
  obtain ⟨LL, hn8⟩ := up2 (lc LL Cw6 zQ nF2) LL hn8
  refine zD (zW ?_)
  refine lv1 ⟨⟨_, rfl, yQ yV yM B2 rfl rfl⟩, trivial⟩ ?_
  rw [absR_neg hc0]
  subst hFz
  exact ⟨LL.b, _, _, _, rfl, (hn8.less (fun k c => zJ (zJ c))).up (by omega)⟩
 ·refine yH (zH (zB (zM rfl yV yM rfl B1 rfl rfl (zI rfl (bo func82) rfl rfl ?_))))
  refine (cE h0 (by omega) hM).mono ?_
  rintro v10 w7 ⟨hB10, xs10, xa10, xd10, rfl, hn10⟩
  obtain ⟨LL, B2⟩ := ub2 hB10 LL B2
  obtain ⟨oxa10, oxd10, _⟩ := hn10.one
  refine zV rfl rfl yM B2 rfl rfl (zU (zU (zU xY))) rfl (fun w8 Cw8 B2 => ?_)
  obtain ⟨LL, hn10⟩ := up2 (lc LL Cw8 zQ nF2) LL hn10
  refine zD (zW ?_)
  refine lv1 ⟨⟨_, rfl, yQ yV yM B2 rfl rfl⟩, trivial⟩ ?_
  rw [absR_pos hc0]
  subst hFz
  exact ⟨LL.b, _, _, _, rfl, (hn10.less (fun k c => zJ (zJ c))).up (by omega)⟩
theorem dG {p : P2} {n0 : Nat} {xs0 xt0 : Bool} {xa0 xd0 xb0 xe0 : Value} {q : P2} {n1 : Nat} {xs1 xt1 : Bool} {xa1 xd1 xb1 xe1 : Value} (h0 : PQ M w n0 p xs0 xa0 xd0 xt0 xb0 xe0) (h1 : PQ M w n1 q xs1 xa1 xd1 xt1 xb1 xe1) (hl0 : n0 ≤ 470) (hl1 : n1 ≤ 470) (hM : OkM M w) :
    CallsV prog 92 [.agg #[.bool xs0, xa0, xd0, .bool xt0, xb0, xe0], .agg #[.bool xs1, xa1, xd1, .bool xt1, xb1, xe1]] w fun r w' => Bel w.heap.size w w' ∧ ∃ xsr xar xdr, r = .agg #[.bool xsr, xar, xdr] ∧ RC M w' (2 * n0 + 2 * n1 + 27) (aI p q) xsr xar xdr := by
 obtain ⟨oxa0, oxd0, oxb0, oxe0, _⟩ := h0.one
 obtain ⟨oxa1, oxd1, oxb1, oxe1, _⟩ := h1.one
 refine ci M func92 ntmps92 fun Fz hFz hF LL => ?_
 refine zH (zB (yG rfl rfl (fun w1 b2 N2 => ?_)))
 obtain ⟨_, nF2, nM2, Lw1, B2⟩ := nza hF hM N2
 obtain ⟨LL, hM, hF, h0, h1⟩ := up5 Lw1 LL hM hF h0 h1
 refine yG rfl rfl (fun w2 b3 N3 => ?_)
 obtain ⟨hBw2, nF3, nM3, Lw2, B3⟩ := nza hF hM N3
 obtain ⟨B2, ne2_3⟩ := bn B2 N3
 obtain ⟨LL, hM, hF, h0, h1⟩ := up5 Lw2 LL hM hF h0 h1
 refine yI rfl yM (fun w3 b4 N4 => ?_)
 obtain ⟨hBw3, nF4, nM4, Lw3, B4⟩ := nza hF hM N4
 obtain ⟨B2, ne2_4⟩ := bn B2 N4
 obtain ⟨B3, ne3_4⟩ := bn B3 N4
 obtain ⟨LL, hM, hF, h0, h1⟩ := up5 Lw3 LL hM hF h0 h1
 refine zD (zH (zB (zM rfl yL yR rfl B2 rfl rfl (zM rfl yL yR rfl B3 rfl rfl (zI rfl (bo func41) rfl rfl ?_)))))
 refine (r8sub_c h0 h1 (by omega) (by omega) hM).mono ?_
 rintro v8 w4 ⟨hB8, xs8, xa8, xd8, xt8, xb8, xe8, rfl, hn8⟩
 obtain ⟨LL, hM, hF, h0, B2, B3, B4⟩ := ub7 hB8 LL hM hF h0 B2 B3 B4
 obtain ⟨oxa8, oxd8, oxb8, oxe8, _⟩ := hn8.one
 refine yI rfl yR (fun w5 b5 N5 => ?_)
 obtain ⟨hBw5, nF5, nM5, Lw5, B5⟩ := nza hF hM N5
 have lt2_5 := B2.lt
 have ne2_5 := N5.ne lt2_5
 have lt3_5 := B3.lt
 have ne3_5 := N5.ne lt3_5
 obtain ⟨B4, ne4_5⟩ := bn B4 N5
 obtain ⟨LL, hM, h0, hn8⟩ := up4 Lw5 LL hM h0 hn8
 refine zV rfl rfl yR B5 rfl rfl (zU (zU (zU (zU (zU (zU xY)))))) rfl (fun w6 Cw6 B5 => ?_)
 obtain ⟨LL, hM, h0, hn8⟩ := up4 (lc LL Cw6 zQ nF5) LL hM h0 hn8
 replace B4 := B4.other Cw6 ne4_5
 refine zD (zH ?_)
 refine wd mixed 5 [4, 11, 13] (by decide +kernel) ?_
 refine zN (fun _ _ _ => zP rfl rfl (zC (zL 0 rfl yu39 rfl rfl yM rfl rfl (on0 rfl)))) ?_
 refine zN (fun _ hR _ => zK rfl (zC (zM rfl yV yM rfl (B5.below hR) rfl rfl (on0 rfl)))) ?_
 refine zS (vRC (Ins b5 (Ins b4 (Ins b3 (Ins b2 M)))) ((n0 + n1 + 5) + 7) (fJ ((jW p q).1))) kJ (fun wq hR hst => ?_) ?_
 ·refine zK rfl (zC ?_)
  obtain ⟨hM, hn8⟩ := ub2 hR hM hn8
  refine zI rfl (bo func156) rfl rfl ?_
  refine (r8abs_c hn8.x.gen (by omega) hM).mono ?_
  rintro v11 w7 ⟨hB11, xs11, xa11, xd11, rfl, hn11⟩
  exact on1 hB11 rfl ⟨_, _, _, rfl, hn11⟩
 refine zN (fun _ _ _ => zP rfl rfl (zC (zL 3 rfl yu39 rfl rfl yM rfl rfl (on0 rfl)))) ?_
 refine zN (fun _ hR _ => zK rfl (zC (zM rfl yV yM rfl (B5.below hR) rfl rfl (on0 rfl)))) ?_
 refine xI (fun wq2 hR2 hpost2 => ?_)
 refine zP rfl rfl (yD rfl (fun v11 hp11 => ?_))
 obtain ⟨xs11, xa11, xd11, rfl, hn11⟩ := hp11; obtain ⟨oxa11, oxd11, _⟩ := hn11.one
 refine zK rfl (zC ?_)
 simp only [jC, jB, jA, xZ]
 obtain ⟨LL, hM, hn8, B4⟩ := ub4 hR2 LL hM hn8 B4
 refine zI rfl (bo func156) rfl rfl ?_
 refine (r8abs_c hn8.y.gen (by omega) hM).mono ?_
 rintro v14 w8 ⟨hB14, xs14, xa14, xd14, rfl, hn14⟩
 obtain ⟨LL, hM, hn11, B4⟩ := ub4 hB14 LL hM hn11 B4
 obtain ⟨oxa14, oxd14, _⟩ := hn14.one
 refine xA rfl yu22 yM rfl rfl rfl rfl (zX rfl (zX rfl xD)) rfl rfl rfl (fun w9 b15 N15 => ?_)
 have hBw9 := N15.below
 have nM15 := hM.new N15
 have B15 := N15.blk
 obtain ⟨LL, hM, hn11, hn14, B4⟩ := ub5 hBw9 LL hM hn11 hn14 B4
 refine zI rfl (bo func23) rfl rfl ?_
 refine (r7add2 (KBlk.mk B15 nM15) hn11.gen hn14.gen (by omega) (by omega) hM).mono ?_
 rintro v16 w10 ⟨hB16, xs16, xa16, xd16, rfl, hn16⟩
 obtain ⟨LL, B4⟩ := ub2 hB16 LL B4
 obtain ⟨oxa16, oxd16, _⟩ := hn16.one
 refine zV rfl rfl yM B4 rfl rfl (zU (zU (zU xY))) rfl (fun w11 Cw11 B4 => ?_)
 obtain ⟨LL, hn16⟩ := up2 (lc LL Cw11 (.inr zQ) nF4) LL hn16
 refine zD (zW ?_)
 refine lv1 ⟨⟨_, rfl, yQ yV yM B4 rfl rfl⟩, trivial⟩ ?_
 subst hFz
 exact ⟨LL.b, _, _, _, rfl, (hn16.less (fun k c => zJ (zJ (zJ (zJ c))))).up (by omega)⟩
theorem r8cmp_c {p : P2} {n0 : Nat} {xs0 xt0 : Bool} {xa0 xd0 xb0 xe0 : Value} {q : P2} {n1 : Nat} {xs1 xt1 : Bool} {xa1 xd1 xb1 xe1 : Value} (h0 : PQ M w n0 p xs0 xa0 xd0 xt0 xb0 xe0) (h1 : PQ M w n1 q xs1 xa1 xd1 xt1 xb1 xe1) (hl0 : n0 ≤ 1990) (hl1 : n1 ≤ 1990) (hM : OkM M w) :
    CallsV prog 36 [.agg #[.bool xs0, xa0, xd0, .bool xt0, xb0, xe0], .agg #[.bool xs1, xa1, xd1, .bool xt1, xb1, xe1]] w fun r w' => Bel w.heap.size w w' ∧ r = .int .i64 (qO p q) := by
 refine ci M func36 ntmps36 fun Fz hFz hF LL => ?_
 refine zH (zB (yG rfl rfl (fun w1 b2 N2 => ?_)))
 obtain ⟨_, nF2, nM2, Lw1, B2⟩ := nza hF hM N2
 obtain ⟨LL, hM, hF, h0, h1⟩ := up5 Lw1 LL hM hF h0 h1
 refine yG rfl rfl (fun w2 b3 N3 => ?_)
 obtain ⟨hBw2, nF3, nM3, Lw2, B3⟩ := nza hF hM N3
 obtain ⟨B2, ne2_3⟩ := bn B2 N3
 obtain ⟨LL, hM, h0, h1⟩ := up4 Lw2 LL hM h0 h1
 refine zF rfl rfl (zD (zH (zB (zL 0 rfl yu39 rfl rfl yM rfl rfl (zM rfl yV yM rfl B2 rfl rfl (zL 0 rfl yu39 rfl rfl yM rfl rfl (zM rfl yV yM rfl B3 rfl rfl (zI rfl (bo func33) rfl rfl ?_))))))))
 refine (r7cmp_c h0.x h1.x (by omega) (by omega) hM).mono ?_
 rintro v10 w3 ⟨hB10, rfl⟩
 obtain ⟨LL, hM, h0, h1, B2, B3⟩ := ub6 hB10 LL hM h0 h1 B2 B3
 refine zF rfl rfl (zD (zH (zH (zB (zA rfl rfl (bO rfl rfl rfl (zD ?_)))))))
 refine yA rfl (fun hc0 => ?_) (fun hc0 => ?_)
 ·have hcc : qO p q = bG p.1 q.1 := if_pos hc0
  refine zH (zB (zA rfl rfl (zF rfl rfl (zD (zW ?_)))))
  refine lv1 ⟨rfl, trivial⟩ ?_
  rw [hcc]
  subst hFz
  exact ⟨LL.b, rfl⟩
 ·have hcc : qO p q = bG p.2 q.2 := if_neg hc0
  refine yH (zH (zB (zL 3 rfl yu39 rfl rfl yM rfl rfl (zM rfl yV yM rfl B2 rfl rfl (zL 3 rfl yu39 rfl rfl yM rfl rfl (zM rfl yV yM rfl B3 rfl rfl (zI rfl (bo func33) rfl rfl ?_)))))))
  refine (r7cmp_c h0.y h1.y (by omega) (by omega) hM).mono ?_
  rintro v18 w4 ⟨hB18, rfl⟩
  replace LL := ub1 hB18 LL
  refine zF rfl rfl (zD (zW ?_))
  refine lv1 ⟨rfl, trivial⟩ ?_
  rw [hcc]
  subst hFz
  exact ⟨LL.b, rfl⟩
theorem r8same_c {p : P2} {n0 : Nat} {xs0 xt0 : Bool} {xa0 xd0 xb0 xe0 : Value} {q : P2} {n1 : Nat} {xs1 xt1 : Bool} {xa1 xd1 xb1 xe1 : Value} (h0 : PQ M w n0 p xs0 xa0 xd0 xt0 xb0 xe0) (h1 : PQ M w n1 q xs1 xa1 xd1 xt1 xb1 xe1) (hl0 : n0 ≤ 1990) (hl1 : n1 ≤ 1990) (hM : OkM M w) :
    CallsV prog 38 [.agg #[.bool xs0, xa0, xd0, .bool xt0, xb0, xe0], .agg #[.bool xs1, xa1, xd1, .bool xt1, xb1, xe1]] w fun r w' => Bel w.heap.size w w' ∧ r = .bool (decide (qO p q = 0)) := by
 refine ci M func38 ntmps38 fun Fz hFz hF LL => ?_
 refine zH (zB (yG rfl rfl (fun w1 b2 N2 => ?_)))
 obtain ⟨_, nF2, nM2, Lw1, B2⟩ := nza hF hM N2
 obtain ⟨LL, hM, hF, h0, h1⟩ := up5 Lw1 LL hM hF h0 h1
 refine yG rfl rfl (fun w2 b3 N3 => ?_)
 obtain ⟨hBw2, nF3, nM3, Lw2, B3⟩ := nza hF hM N3
 obtain ⟨B2, ne2_3⟩ := bn B2 N3
 obtain ⟨LL, hM, h0, h1⟩ := up4 Lw2 LL hM h0 h1
 refine zF rfl rfl (zD (zH (zB (zM rfl yL yR rfl B2 rfl rfl (zM rfl yL yR rfl B3 rfl rfl (zI rfl (bo func36) rfl rfl ?_))))))
 refine (r8cmp_c h0 h1 (by omega) (by omega) hM).mono ?_
 rintro v7 w3 ⟨hB7, rfl⟩
 replace LL := ub1 hB7 LL
 refine gN rfl rfl rfl (zF rfl rfl (zD (zW ?_)))
 refine lv1 ⟨rfl, trivial⟩ ?_
 subst hFz
 exact ⟨LL.b, rfl⟩
theorem r8alike_c {p : P2} {n0 : Nat} {xs0 xt0 : Bool} {xa0 xd0 xb0 xe0 : Value} {q : P2} {n1 : Nat} {xs1 xt1 : Bool} {xa1 xd1 xb1 xe1 : Value} (h0 : PC M w n0 p xs0 xa0 xd0 xt0 xb0 xe0) (h1 : PC M w n1 q xs1 xa1 xd1 xt1 xb1 xe1) (hl0 : n0 ≤ 20000) (hl1 : n1 ≤ 20000) (hM : OkM M w) :
    CallsV prog 30 [.agg #[.bool xs0, xa0, xd0, .bool xt0, xb0, xe0], .agg #[.bool xs1, xa1, xd1, .bool xt1, xb1, xe1]] w fun r w' => Bel w.heap.size w w' ∧ r = .bool (decide (p = q)) := by
 refine ci M func30 ntmps30 fun Fz hFz hF LL => ?_
 refine zH (zB (yG rfl rfl (fun w1 b2 N2 => ?_)))
 obtain ⟨_, nF2, nM2, Lw1, B2⟩ := nza hF hM N2
 obtain ⟨LL, hM, hF, h0, h1⟩ := up5 Lw1 LL hM hF h0 h1
 refine yG rfl rfl (fun w2 b3 N3 => ?_)
 obtain ⟨hBw2, nF3, nM3, Lw2, B3⟩ := nza hF hM N3
 obtain ⟨B2, ne2_3⟩ := bn B2 N3
 obtain ⟨LL, hM, h0, h1⟩ := up4 Lw2 LL hM h0 h1
 refine zF rfl rfl (zD (zH (zB (zL 0 rfl yu39 rfl rfl yM rfl rfl (zM rfl yV yM rfl B2 rfl rfl (zL 0 rfl yu39 rfl rfl yM rfl rfl (zM rfl yV yM rfl B3 rfl rfl (zI rfl (bo func74) rfl rfl ?_))))))))
 refine (r7told_c h0.x h1.x (by omega) (by omega) hM).mono ?_
 rintro v9 w3 ⟨hB9, rfl⟩
 obtain ⟨LL, hM, h0, h1, B2, B3⟩ := ub6 hB9 LL hM h0 h1 B2 B3
 refine zA rfl rfl (gE (d := 10) rfl (fun hg1_5 => ?_) (fun hg1_5 => ?_))
 ·refine zO rfl rfl (zL 3 rfl yu39 rfl rfl yM rfl rfl (zO rfl rfl (zM rfl yV yM rfl B2 rfl rfl (zO rfl rfl (zL 3 rfl yu39 rfl rfl yM rfl rfl (zO rfl rfl (zM rfl yV yM rfl B3 rfl rfl (zO rfl rfl (zI rfl (bo func74) rfl rfl ?_)))))))))
  refine (r7told_c h0.y h1.y (by omega) (by omega) hM).mono ?_
  rintro v15 w4 ⟨hB15, rfl⟩
  replace LL := ub1 hB15 LL
  refine yW rfl rfl rfl (zF rfl rfl (zD (zW ?_)))
  refine lv1 ⟨rfl, trivial⟩ ?_
  rw [← alike_t hg1_5]
  subst hFz
  exact ⟨LL.b, rfl⟩
 ·refine zR rfl rfl rfl rfl (zR rfl rfl rfl rfl (zR rfl rfl rfl rfl (zR rfl rfl rfl rfl (zR rfl rfl rfl rfl (yW rfl rfl rfl (zF rfl rfl (zD (zW ?_))))))))
  refine lv1 ⟨rfl, trivial⟩ ?_
  rw [alike_f hg1_5]
  subst hFz
  exact ⟨LL.b, rfl⟩
theorem r10alike_c {k : Int} {p : P2} {n0 : Nat} {xs0 xt0 : Bool} {xa0 xd0 xb0 xe0 : Value} {q : P2} {n0b : Nat} {xs0b xt0b : Bool} {xa0b xd0b xb0b xe0b : Value} {l : Int} {u : P2} {n1 : Nat} {xs1 xt1 : Bool} {xa1 xd1 xb1 xe1 : Value} {z : P2} {n1b : Nat} {xs1b xt1b : Bool} {xa1b xd1b xb1b xe1b : Value} (h0 : PC M w n0 p xs0 xa0 xd0 xt0 xb0 xe0) (h0b : PC M w n0b q xs0b xa0b xd0b xt0b xb0b xe0b) (h1 : PC M w n1 u xs1 xa1 xd1 xt1 xb1 xe1) (h1b : PC M w n1b z xs1b xa1b xd1b xt1b xb1b xe1b) (hl0 : n0 ≤ 20000) (hl0b : n0b ≤ 20000) (hl1 : n1 ≤ 20000) (hl1b : n1b ≤ 20000) (hM : OkM M w) :
    CallsV prog 27 [.agg #[.int .i8 k, .bool xs0, xa0, xd0, .bool xt0, xb0, xe0, .bool xs0b, xa0b, xd0b, .bool xt0b, xb0b, xe0b], .agg #[.int .i8 l, .bool xs1, xa1, xd1, .bool xt1, xb1, xe1, .bool xs1b, xa1b, xd1b, .bool xt1b, xb1b, xe1b]] w fun r w' => Bel w.heap.size w w' ∧ r = .bool (decide ((k, p, q) = (l, u, z))) := by
 refine ci M func27 ntmps27 fun Fz hFz hF LL => ?_
 refine zH (zB (yG rfl rfl (fun w1 b2 N2 => ?_)))
 obtain ⟨_, nF2, nM2, Lw1, B2⟩ := nza hF hM N2
 obtain ⟨LL, hM, hF, h0, h0b, h1, h1b⟩ := up7 Lw1 LL hM hF h0 h0b h1 h1b
 refine yG rfl rfl (fun w2 b3 N3 => ?_)
 obtain ⟨hBw2, nF3, nM3, Lw2, B3⟩ := nza hF hM N3
 obtain ⟨B2, ne2_3⟩ := bn B2 N3
 obtain ⟨LL, hM, h0, h0b, h1, h1b⟩ := up6 Lw2 LL hM h0 h0b h1 h1b
 refine zF rfl rfl (zD (zH (zB (zL 0 rfl yu43 rfl rfl sz41 rfl rfl (zT rfl flat41 rfl B2 rfl (zL 0 rfl yu43 rfl rfl sz41 rfl rfl (zT rfl flat41 rfl B3 rfl (gN rfl rfl rfl (zA rfl rfl (gE (d := 10) rfl (fun hg1_5 => ?_) (fun hg1_5 => ?_)))))))))))
 ·refine zO rfl rfl (zL 1 rfl yu43 rfl rfl yR rfl rfl (zO rfl rfl (zM rfl yL yR rfl B2 rfl rfl (zO rfl rfl (zL 1 rfl yu43 rfl rfl yR rfl rfl (zO rfl rfl (zM rfl yL yR rfl B3 rfl rfl (zO rfl rfl (zI rfl (bo func30) rfl rfl ?_)))))))))
  refine (r8alike_c h0 h1 (by omega) (by omega) hM).mono ?_
  rintro v15 w3 ⟨hB15, rfl⟩
  obtain ⟨LL, hM, h0b, h1b, B2, B3⟩ := ub6 hB15 LL hM h0b h1b B2 B3
  refine yW rfl rfl rfl (zA rfl rfl (gE (d := 17) rfl (fun hg1_12 => ?_) (fun hg1_12 => ?_)))
  ·refine zO rfl rfl (zL 7 rfl yu43 rfl rfl yR rfl rfl (zO rfl rfl (zM rfl yL yR rfl B2 rfl rfl (zO rfl rfl (zL 7 rfl yu43 rfl rfl yR rfl rfl (zO rfl rfl (zM rfl yL yR rfl B3 rfl rfl (zO rfl rfl (zI rfl (bo func30) rfl rfl ?_)))))))))
   refine (r8alike_c h0b h1b (by omega) (by omega) hM).mono ?_
   rintro v22 w4 ⟨hB22, rfl⟩
   replace LL := ub1 hB22 LL
   refine yW rfl rfl rfl (zF rfl rfl (zD (zW ?_)))
   refine lv1 ⟨rfl, trivial⟩ ?_
   rw [show decide ((k, p, q) = (l, u, z)) = decide (q = z) by simp [hg1_5, hg1_12]]
   subst hFz
   exact ⟨LL.b, rfl⟩
  ·refine zR rfl rfl rfl rfl (zR rfl rfl rfl rfl (zR rfl rfl rfl rfl (zR rfl rfl rfl rfl (zR rfl rfl rfl rfl (yW rfl rfl rfl (zF rfl rfl (zD (zW ?_))))))))
   refine lv1 ⟨rfl, trivial⟩ ?_
   rw [show decide ((k, p, q) = (l, u, z)) = false by simp [hg1_12]]
   subst hFz
   exact ⟨LL.b, rfl⟩
 ·refine zR rfl rfl rfl rfl (zR rfl rfl rfl rfl (zR rfl rfl rfl rfl (zR rfl rfl rfl rfl (zR rfl rfl rfl rfl (yW rfl rfl rfl (zA rfl rfl (zR rfl rfl rfl rfl (zR rfl rfl rfl rfl (zR rfl rfl rfl rfl (zR rfl rfl rfl rfl (zR rfl rfl rfl rfl (yW rfl rfl rfl (zF rfl rfl (zD ?_))))))))))))))
  refine zW ?_
  refine lv1 ⟨rfl, trivial⟩ ?_
  rw [show decide ((k, p, q) = (l, u, z)) = false by simp [hg1_5]]
  subst hFz
  exact ⟨LL.b, rfl⟩
end Go.Proofs.YtfkejnlohkgbgaaGreatDoor
set_option maxRecDepth 100000
namespace Go.Proofs.YtfkejnlohkgbgaaGreatDoor
open Go.SL Go.RowKit Go.Proofs Tryz
variable {M : Nat → Prop} {w : World}
abbrev N4 := Nat × Nat × Nat × Nat
def m4 (k : N4) : Nat := max (max (max k.1 k.2.1) k.2.2.1) k.2.2.2
structure Q4 (M : Nat → Prop) (w : World) (n : Nat) (q : N4) (s : Bool) (a d : Value) (t : Bool) (b e : Value) : Prop where
  a : ∃ p c, a = .slice p q.1 c
  d : ∃ p c, d = .slice p q.2.1 c
  b : ∃ p c, b = .slice p q.2.2.1 c
  e : ∃ p c, e = .slice p q.2.2.2 c
theorem Q4.mono {M M' : Nat → Prop} {w w' : World} {n : Nat} {q : N4} {s : Bool} {a d : Value} {t : Bool} {b e : Value} {Fz : Nat → Prop} (h : Q4 M w n q s a d t b e) (l : Le Fz M w M' w') : Q4 M' w' n q s a d t b e := ⟨h.a, h.d, h.b, h.e⟩
theorem Q4.one {n : Nat} {q : N4} {s : Bool} {a d : Value} {t : Bool} {b e : Value} (h : Q4 M w n q s a d t b e) : a.oneCell' = true ∧ d.oneCell' = true ∧ b.oneCell' = true ∧ e.oneCell' = true ∧ True := by
  obtain ⟨⟨_, _, rfl⟩, ⟨_, _, rfl⟩, ⟨_, _, rfl⟩, ⟨_, _, rfl⟩⟩ := h; exact ⟨rfl, rfl, rfl, rfl, trivial⟩
def RQ4 (n : Nat) : aA N4 := fun M w q us => ∃ s a d t b e, us = [.bool s, a, d, .bool t, b, e] ∧ Q4 M w n q s a d t b e
structure Q4L (M : Nat → Prop) (w : World) (n : Nat) (q : List N4) (v : Value) : Prop where
  row : RowOf (RQ4 n) 6 M w v q
theorem Q4L.mono {M M' : Nat → Prop} {w w' : World} {n : Nat} {q : List N4} {v : Value} {Fz : Nat → Prop} (h : Q4L M w n q v) (l : Le Fz M w M' w') : Q4L M' w' n q v := ⟨h.row.mono l (fun _ _ ⟨a, b, c, d, e, f, e0, h0⟩ => ⟨a, b, c, d, e, f, e0, h0.mono l⟩)⟩
theorem Q4L.one {n : Nat} {q : List N4} {v : Value} (h : Q4L M w n q v) : v.oneCell' = true ∧ True := by obtain ⟨_, ⟨_, _, ad, cap, rfl, _⟩, _⟩ := h.row; exact ⟨rfl, trivial⟩
instance {Fz M M' : Nat → Prop} {w w' : World} {n : Nat} {q : N4} {s t : Bool} {a d b e : Value} : Up Fz M M' w w' (Q4 M w n q s a d t b e) (Q4 M' w' n q s a d t b e) := ⟨fun l h => h.mono l⟩
instance {M : Nat → Prop} {w w' : World} {n : Nat} {q : N4} {s t : Bool} {a d b e : Value} : UpB w w' (Q4 M w n q s a d t b e) (Q4 M w' n q s a d t b e) := ⟨fun l h => h.mono (lb l)⟩
instance {Fz M M' : Nat → Prop} {w w' : World} {n : Nat} {q : List N4} {v : Value} : Up Fz M M' w w' (Q4L M w n q v) (Q4L M' w' n q v) := ⟨fun l h => h.mono l⟩
instance {M : Nat → Prop} {w w' : World} {n : Nat} {q : List N4} {v : Value} : UpB w w' (Q4L M w n q v) (Q4L M w' n q v) := ⟨fun l h => h.mono (lb l)⟩
abbrev rQ4 (M : Nat → Prop) (n : Nat) (q : N4) : VP := fun v w => ∃ b o s a d t x e, v = .pointer (some ⟨b, o, none⟩) ∧ (∀ (i : Nat) (u : Value), [.bool s, a, d, .bool t, x, e][i]? = some u → w.cell? ⟨b, o + i, none⟩ = some u) ∧ Q4 M w n q s a d t x e
abbrev iA (k : Nat) (M : Nat → Prop) (n : Nat) (q : N4) : VP := fun v w => ∃ b o s a d t x e, v = .pointer (some ⟨b, o + k, none⟩) ∧ (∀ (i : Nat) (u : Value), [.bool s, a, d, .bool t, x, e][i]? = some u → w.cell? ⟨b, o + i, none⟩ = some u) ∧ Q4 M w n q s a d t x e
theorem dA {α : Type} {l : List α} {s : Nat} (d : α) (h : s < l.length) : l.getD s d ∈ l := by rw [List.getD_eq_getElem?_getD, List.getElem?_eq_getElem h]; exact List.getElem_mem h
def eT (l : List N4) : Bool := decide (∃ x ∈ l, 2 < m4 x)
theorem longB_take {l : List N4} {s : Nat} (h : s < l.length) (hs : ∀ x ∈ l.take s, ¬ 2 < m4 x) (hx : ¬ 2 < m4 (l.getD s (0, 0, 0, 0))) : ∀ x ∈ l.take (s + 1), ¬ 2 < m4 x := by
  rw [(qA (0, 0, 0, 0) h).1]
  intro x hx2
  rcases List.mem_append.1 hx2 with c | c
  · exact hs x c
  · rw [List.mem_singleton.1 c]; exact hx
section
variable {P : Program} {r : Option Nat} {N : Nat} {all : Array Oper} {K : Pd} {D : List Deferred} {E : Env} {w : World} {rest : List Oper}
theorem ops_max4 {d : Nat} {x y z u : Operand} {ts : Array TypeId} {t' : TypeId} {pos : String} {af : Array Edge} {k : IntKind} {a b c e : Nat} (hd : Nat.blt d N = true)
    (hx : ev E x = some (.int k (a : Int))) (hy : ev E y = some (.int k (b : Int))) (hz : ev E z = some (.int k (c : Int))) (hu : ev E u = some (.int k (e : Int)))
    (h : Ops P r N all K rest D ((d, .int k ((m4 (a, b, c, e) : Nat) : Int)) :: E) w) : Ops P r N all K (⟨some d, .call ⟨.builtin .max, #[x, y, z, u], ts⟩, t', pos, af, none⟩ :: rest) D E w :=
  jG hd (by intro c hc; cases hc) (fun ac ha => by
    have e1 : (Builtin.max_ ts t' #[.int k (a : Int), .int k (b : Int), .int k (c : Int), .int k (e : Int)]).run P w = .ok (.int k ((m4 (a, b, c, e) : Nat) : Int)) w := by
      have : (let m1 := if (b : Int) > (a : Int) then (b : Int) else a; let m2 := if (c : Int) > m1 then (c : Int) else m1; if (e : Int) > m2 then (e : Int) else m2) = ((m4 (a, b, c, e) : Nat) : Int) := by
        unfold m4; simp only; split <;> split <;> split <;> omega
      rw [← this]; rfl
    simp only [execOp, resolve, invoke, builtin, Sem.run_bind, Sem.run_pure, Result.andThen, List.map_toArray, List.map_cons, List.map_nil, ha.ev hx, ha.ev hy, ha.ev hz, ha.ev hu]
    rw [e1]) h
end
theorem long_c {l : List N4} {n0 : Nat} {xa0 : Value} (h0 : Q4L M w n0 l xa0) (hl0 : n0 ≤ 20000) (hlen : l.length ≤ 1000) (hM : OkM M w) :
    CallsV prog 24 [xa0] w fun r w' => Bel w.heap.size w w' ∧ r = .bool (eT l) := by
 obtain ⟨oxa0, _⟩ := h0.one
 refine ci M func24 ntmps24 fun Fz hFz hF LL => ?_
 refine zH (zB (zF rfl rfl (zD (zH (zH (zB (zF rfl rfl (zD (yC ?_)))))))))
 refine xP (σ := Nat) [(0, _)] (fun s => [(3, .int .i64 ((s : Nat) : Int))]) (fun s w1 => Le Fz M w M w1 ∧ s ≤ l.length ∧ ∀ x ∈ l.take s, ¬ 2 < m4 x) (fun s => l.length - s) (0) (zG rfl (zG rfl yE)) ?_ (fun s w1 hJ => ?_)
 · exact ⟨Le.refl _ _ _, by omega, by simp⟩
 ·obtain ⟨LR, hk, hs⟩ := hJ
  obtain ⟨LL, h0⟩ := up2 LR LL h0
  refine zH (zH (zB (zA rfl rfl (zA rfl rfl (gQ rfl yu63 rfl h0.row (jI rfl rfl rfl (zD ?_)))))))
  refine yA rfl (fun hc0 => ?_) (fun hc0 => ?_)
  ·refine yH (zH (yC (zH ?_)))
   refine wd mixed 30 [0, 3, 17, 24, 32, 39] (qV (by decide +kernel)) ?_
   refine dv (fun v w => ∃ xa10, v = xa10 ∧ Q4L M w (n0) (l) xa10) (fun wq hR hst => ?_) ?_
   ·refine zP rfl rfl (zC ?_)
    replace h0 := ub1 hR h0
    exact zA rfl rfl (zD ⟨rfl, zY _, _, rfl, ⟨_, rfl, h0⟩⟩)
   refine zN (fun _ _ _ => zP rfl rfl (zC (zA rfl rfl (on0 rfl)))) ?_
   refine dv (rQ4 M (n0) (l.getD s (0, 0, 0, 0))) (fun wq hR hst => ?_) ?_
   ·refine yD rfl (fun v10 hp10 => ?_)
    obtain ⟨xa10, rfl, hn10⟩ := hp10
    refine zK rfl (zC ?_)
    refine jL (dflt := ((0, 0, 0, 0) : N4)) (s) rfl yu63 yR rfl rfl hn10.row (by first | rfl | omega) (by first | omega | (simp; omega) | simp) (fun b12 o12 us12 hul12 hu12 hc12 => ?_)
    obtain ⟨xs12, xa12, xd12, xt12, xb12, xe12, rfl, hn12⟩ := hu12
    exact on1 (zY _) rfl ⟨b12, o12, _, _, _, _, _, _, rfl, hc12, hn12⟩
   refine dv (rQ4 M (n0) (l.getD s (0, 0, 0, 0))) (fun wq hR hst => ?_) ?_
   ·refine yD rfl (fun v12 hp12 => ?_)
    obtain ⟨b12, o12, xs12, xa12, xd12, xt12, xb12, xe12, rfl, hc12, hn12⟩ := hp12
    refine zC ?_
    exact yY 0 rfl yu39 rfl rfl yM rfl rfl (zD ⟨rfl, zY _, _, rfl, ⟨_, _, _, _, _, _, _, _, rfl, hc12, hn12⟩⟩)
   refine dv (rQ4 M (n0) (l.getD s (0, 0, 0, 0))) (fun wq hR hst => ?_) ?_
   ·refine yD rfl (fun v13 hp13 => ?_)
    obtain ⟨b13, o13, xs13, xa13, xd13, xt13, xb13, xe13, rfl, hc13, hn13⟩ := hp13
    refine zC ?_
    exact yY 0 rfl yu33 rfl rfl xE rfl rfl (zD ⟨rfl, zY _, _, rfl, ⟨_, _, _, _, _, _, _, _, rfl, hc13, hn13⟩⟩)
   refine dv (iA 1 M (n0) (l.getD s (0, 0, 0, 0))) (fun wq hR hst => ?_) ?_
   ·refine yD rfl (fun v14 hp14 => ?_)
    obtain ⟨b14, o14, xs14, xa14, xd14, xt14, xb14, xe14, rfl, hc14, hn14⟩ := hp14
    refine zC ?_
    exact yY 1 rfl yu31 rfl rfl xV rfl rfl (zD ⟨rfl, zY _, _, rfl, ⟨_, _, _, _, _, _, _, _, rfl, hc14, hn14⟩⟩)
   refine zS (fun v w => ∃ p c, v = .slice p (l.getD s (0, 0, 0, 0)).1 c) (fun _ _ _ h _ => h) (fun wq hR hst => ?_) ?_
   ·refine yD rfl (fun v15 hp15 => ?_)
    obtain ⟨b15, o15, xs15, xa15, xd15, xt15, xb15, xe15, rfl, hc15, hn15⟩ := hp15
    refine zC ?_
    exact xS rfl yU rfl (hc15 1 _ rfl) (zD ⟨rfl, zY _, _, rfl, hn15.a⟩)
   refine zS (Ex (.int .i64 (((l.getD s (0, 0, 0, 0)).1 : Nat) : Int))) xU (fun wq hR hst => ?_) ?_
   ·refine yD rfl (fun v16 hp16 => ?_)
    obtain ⟨p16, c16, rfl⟩ := hp16
    refine zC ?_
    first | refine yP rfl yu29 rfl (IsNat.slc (by assumption)) ?_ | refine yT rfl yu29 rfl ?_
    exact on0 rfl
   refine dv (fun v w => ∃ xa18, v = xa18 ∧ Q4L M w (n0) (l) xa18) (fun wq hR hst => ?_) ?_
   ·refine zP rfl rfl (zC ?_)
    replace h0 := ub1 hR h0
    exact zA rfl rfl (zD ⟨rfl, zY _, _, rfl, ⟨_, rfl, h0⟩⟩)
   refine zN (fun _ _ _ => zP rfl rfl (zC (zA rfl rfl (on0 rfl)))) ?_
   refine dv (rQ4 M (n0) (l.getD s (0, 0, 0, 0))) (fun wq hR hst => ?_) ?_
   ·refine yD rfl (fun v18 hp18 => ?_)
    obtain ⟨xa18, rfl, hn18⟩ := hp18
    refine zK rfl (zC ?_)
    refine jL (dflt := ((0, 0, 0, 0) : N4)) (s) rfl yu63 yR rfl rfl hn18.row (by first | rfl | omega) (by first | omega | (simp; omega) | simp) (fun b20 o20 us20 hul20 hu20 hc20 => ?_)
    obtain ⟨xs20, xa20, xd20, xt20, xb20, xe20, rfl, hn20⟩ := hu20
    exact on1 (zY _) rfl ⟨b20, o20, _, _, _, _, _, _, rfl, hc20, hn20⟩
   refine dv (rQ4 M (n0) (l.getD s (0, 0, 0, 0))) (fun wq hR hst => ?_) ?_
   ·refine yD rfl (fun v20 hp20 => ?_)
    obtain ⟨b20, o20, xs20, xa20, xd20, xt20, xb20, xe20, rfl, hc20, hn20⟩ := hp20
    refine zC ?_
    exact yY 0 rfl yu39 rfl rfl yM rfl rfl (zD ⟨rfl, zY _, _, rfl, ⟨_, _, _, _, _, _, _, _, rfl, hc20, hn20⟩⟩)
   refine dv (iA 2 M (n0) (l.getD s (0, 0, 0, 0))) (fun wq hR hst => ?_) ?_
   ·refine yD rfl (fun v21 hp21 => ?_)
    obtain ⟨b21, o21, xs21, xa21, xd21, xt21, xb21, xe21, rfl, hc21, hn21⟩ := hp21
    refine zC ?_
    exact yY 2 rfl yu33 rfl rfl xV rfl rfl (zD ⟨rfl, zY _, _, rfl, ⟨_, _, _, _, _, _, _, _, rfl, hc21, hn21⟩⟩)
   refine zS (fun v w => ∃ p c, v = .slice p (l.getD s (0, 0, 0, 0)).2.1 c) (fun _ _ _ h _ => h) (fun wq hR hst => ?_) ?_
   ·refine yD rfl (fun v22 hp22 => ?_)
    obtain ⟨b22, o22, xs22, xa22, xd22, xt22, xb22, xe22, rfl, hc22, hn22⟩ := hp22
    refine zC ?_
    exact xS rfl yU rfl (hc22 2 _ rfl) (zD ⟨rfl, zY _, _, rfl, hn22.d⟩)
   refine zS (Ex (.int .i64 (((l.getD s (0, 0, 0, 0)).2.1 : Nat) : Int))) xU (fun wq hR hst => ?_) ?_
   ·refine yD rfl (fun v23 hp23 => ?_)
    obtain ⟨p23, c23, rfl⟩ := hp23
    refine zC ?_
    first | refine yP rfl yu29 rfl (IsNat.slc (by assumption)) ?_ | refine yT rfl yu29 rfl ?_
    exact on0 rfl
   refine dv (fun v w => ∃ xa25, v = xa25 ∧ Q4L M w (n0) (l) xa25) (fun wq hR hst => ?_) ?_
   ·refine zP rfl rfl (zC ?_)
    replace h0 := ub1 hR h0
    exact zA rfl rfl (zD ⟨rfl, zY _, _, rfl, ⟨_, rfl, h0⟩⟩)
   refine zN (fun _ _ _ => zP rfl rfl (zC (zA rfl rfl (on0 rfl)))) ?_
   refine dv (rQ4 M (n0) (l.getD s (0, 0, 0, 0))) (fun wq hR hst => ?_) ?_
   ·refine yD rfl (fun v25 hp25 => ?_)
    obtain ⟨xa25, rfl, hn25⟩ := hp25
    refine zK rfl (zC ?_)
    refine jL (dflt := ((0, 0, 0, 0) : N4)) (s) rfl yu63 yR rfl rfl hn25.row (by first | rfl | omega) (by first | omega | (simp; omega) | simp) (fun b27 o27 us27 hul27 hu27 hc27 => ?_)
    obtain ⟨xs27, xa27, xd27, xt27, xb27, xe27, rfl, hn27⟩ := hu27
    exact on1 (zY _) rfl ⟨b27, o27, _, _, _, _, _, _, rfl, hc27, hn27⟩
   refine dv (iA 3 M (n0) (l.getD s (0, 0, 0, 0))) (fun wq hR hst => ?_) ?_
   ·refine yD rfl (fun v27 hp27 => ?_)
    obtain ⟨b27, o27, xs27, xa27, xd27, xt27, xb27, xe27, rfl, hc27, hn27⟩ := hp27
    refine zC ?_
    exact yY 3 rfl yu39 rfl rfl yM rfl rfl (zD ⟨rfl, zY _, _, rfl, ⟨_, _, _, _, _, _, _, _, rfl, hc27, hn27⟩⟩)
   refine dv (iA 3 M (n0) (l.getD s (0, 0, 0, 0))) (fun wq hR hst => ?_) ?_
   ·refine yD rfl (fun v28 hp28 => ?_)
    obtain ⟨b28, o28, xs28, xa28, xd28, xt28, xb28, xe28, rfl, hc28, hn28⟩ := hp28
    refine zC ?_
    exact yY 0 rfl yu33 rfl rfl xE rfl rfl (zD ⟨rfl, zY _, _, rfl, ⟨_, _, _, _, _, _, _, _, rfl, hc28, hn28⟩⟩)
   refine dv (iA 4 M (n0) (l.getD s (0, 0, 0, 0))) (fun wq hR hst => ?_) ?_
   ·refine yD rfl (fun v29 hp29 => ?_)
    obtain ⟨b29, o29, xs29, xa29, xd29, xt29, xb29, xe29, rfl, hc29, hn29⟩ := hp29
    refine zC ?_
    exact yY 1 rfl yu31 rfl rfl xV rfl rfl (zD ⟨rfl, zY _, _, rfl, ⟨_, _, _, _, _, _, _, _, rfl, hc29, hn29⟩⟩)
   refine zS (fun v w => ∃ p c, v = .slice p (l.getD s (0, 0, 0, 0)).2.2.1 c) (fun _ _ _ h _ => h) (fun wq hR hst => ?_) ?_
   ·refine yD rfl (fun v30 hp30 => ?_)
    obtain ⟨b30, o30, xs30, xa30, xd30, xt30, xb30, xe30, rfl, hc30, hn30⟩ := hp30
    refine zC ?_
    exact xS rfl yU rfl (hc30 4 _ rfl) (zD ⟨rfl, zY _, _, rfl, hn30.b⟩)
   refine zS (Ex (.int .i64 (((l.getD s (0, 0, 0, 0)).2.2.1 : Nat) : Int))) xU (fun wq hR hst => ?_) ?_
   ·refine yD rfl (fun v31 hp31 => ?_)
    obtain ⟨p31, c31, rfl⟩ := hp31
    refine zC ?_
    first | refine yP rfl yu29 rfl (IsNat.slc (by assumption)) ?_ | refine yT rfl yu29 rfl ?_
    exact on0 rfl
   refine dv (fun v w => ∃ xa33, v = xa33 ∧ Q4L M w (n0) (l) xa33) (fun wq hR hst => ?_) ?_
   ·refine zP rfl rfl (zC ?_)
    replace h0 := ub1 hR h0
    exact zA rfl rfl (zD ⟨rfl, zY _, _, rfl, ⟨_, rfl, h0⟩⟩)
   refine zN (fun _ _ _ => zP rfl rfl (zC (zA rfl rfl (on0 rfl)))) ?_
   refine dv (rQ4 M (n0) (l.getD s (0, 0, 0, 0))) (fun wq hR hst => ?_) ?_
   ·refine yD rfl (fun v33 hp33 => ?_)
    obtain ⟨xa33, rfl, hn33⟩ := hp33
    refine zK rfl (zC ?_)
    refine jL (dflt := ((0, 0, 0, 0) : N4)) (s) rfl yu63 yR rfl rfl hn33.row (by first | rfl | omega) (by first | omega | (simp; omega) | simp) (fun b35 o35 us35 hul35 hu35 hc35 => ?_)
    obtain ⟨xs35, xa35, xd35, xt35, xb35, xe35, rfl, hn35⟩ := hu35
    exact on1 (zY _) rfl ⟨b35, o35, _, _, _, _, _, _, rfl, hc35, hn35⟩
   refine dv (iA 3 M (n0) (l.getD s (0, 0, 0, 0))) (fun wq hR hst => ?_) ?_
   ·refine yD rfl (fun v35 hp35 => ?_)
    obtain ⟨b35, o35, xs35, xa35, xd35, xt35, xb35, xe35, rfl, hc35, hn35⟩ := hp35
    refine zC ?_
    exact yY 3 rfl yu39 rfl rfl yM rfl rfl (zD ⟨rfl, zY _, _, rfl, ⟨_, _, _, _, _, _, _, _, rfl, hc35, hn35⟩⟩)
   refine dv (iA 5 M (n0) (l.getD s (0, 0, 0, 0))) (fun wq hR hst => ?_) ?_
   ·refine yD rfl (fun v36 hp36 => ?_)
    obtain ⟨b36, o36, xs36, xa36, xd36, xt36, xb36, xe36, rfl, hc36, hn36⟩ := hp36
    refine zC ?_
    exact yY 2 rfl yu33 rfl rfl xV rfl rfl (zD ⟨rfl, zY _, _, rfl, ⟨_, _, _, _, _, _, _, _, rfl, hc36, hn36⟩⟩)
   refine zS (fun v w => ∃ p c, v = .slice p (l.getD s (0, 0, 0, 0)).2.2.2 c) (fun _ _ _ h _ => h) (fun wq hR hst => ?_) ?_
   ·refine yD rfl (fun v37 hp37 => ?_)
    obtain ⟨b37, o37, xs37, xa37, xd37, xt37, xb37, xe37, rfl, hc37, hn37⟩ := hp37
    refine zC ?_
    exact xS rfl yU rfl (hc37 5 _ rfl) (zD ⟨rfl, zY _, _, rfl, hn37.e⟩)
   refine zS (Ex (.int .i64 (((l.getD s (0, 0, 0, 0)).2.2.2 : Nat) : Int))) xU (fun wq hR hst => ?_) ?_
   ·refine yD rfl (fun v38 hp38 => ?_)
    obtain ⟨p38, c38, rfl⟩ := hp38
    refine zC ?_
    first | refine yP rfl yu29 rfl (IsNat.slc (by assumption)) ?_ | refine yT rfl yu29 rfl ?_
    exact on0 rfl
   refine xI (fun wq4 hR4 hpost4 => ?_)
   refine zP rfl rfl (zP rfl rfl (zK rfl (zK rfl (zK rfl (zK rfl (zC ?_))))))
   simp only [jC, jB, jA, xZ]
   obtain ⟨LL, LR⟩ := ub2 hR4 LL LR
   refine ops_max4 rfl rfl rfl rfl rfl (uD rfl rfl rfl (zD ?_))
   refine yA rfl (fun hc1 => ?_) (fun hc1 => ?_)
   ·refine zH (zB (zF rfl rfl (zD (zW ?_))))
    refine lv1 ⟨rfl, trivial⟩ ?_
    have hsl : s < l.length := by omega
    have hc2 : 2 < m4 (l.getD s (0, 0, 0, 0)) := by change (2 : Int) < ((m4 (l.getD s (0, 0, 0, 0)) : Nat) : Int) at hc1; omega
    rw [show eT l = true from decide_eq_true ⟨l.getD s (0, 0, 0, 0), dA _ hsl, hc2⟩]
    subst hFz
    exact ⟨LL.b, rfl⟩
   ·refine yH (zB (zA rfl rfl (xC rfl rfl rfl (by omega) (zF rfl rfl (zD ?_)))))
    refine ⟨rfl, s + 1, (zZ rfl (by rw [Int.natCast_add]; rfl) (zG rfl yE)), ?_, ?_⟩
    exact ⟨LR, by omega, longB_take (by omega) hs (by change ¬ (2 : Int) < ((m4 (l.getD s (0, 0, 0, 0)) : Nat) : Int) at hc1; omega)⟩
    omega
  ·refine xN (xO (zH (zB (zF rfl rfl (zD (zW ?_))))))
   refine lv1 ⟨rfl, trivial⟩ ?_
   obtain rfl : s = l.length := by omega
   rw [List.take_length] at hs
   rw [show eT l = false from decide_eq_false fun ⟨x, hx, h2⟩ => hs x hx h2]
   subst hFz
   exact ⟨LL.b, rfl⟩
theorem gK {k : Nat} {l : Nat} (hk : k < 9223372036854775808) (hl : l < 9223372036854775808) (hM : OkM M w) :
    CallsV prog 31 [.int .i64 ((k : Nat) : Int), .int .i64 ((l : Nat) : Int)] w fun r w' => Bel w.heap.size w w' ∧ ∃ xsr xar xdr xtr xbr xer, r = .agg #[.bool xsr, xar, xdr, .bool xtr, xbr, xer] ∧ PC M w' (2) ((((k : Nat) : Rat), ((l : Nat) : Rat))) xsr xar xdr xtr xbr xer := by
 refine ci M func31 ntmps31 fun Fz hFz hF LL => ?_
 refine zH (zB (yI rfl yR (fun w1 b4 N4 => ?_)))
 obtain ⟨_, nF4, nM4, Lw1, B4⟩ := nza hF hM N4
 obtain ⟨LL, hM⟩ := up2 Lw1 LL hM
 refine zD (zH (zB (zA rfl rfl (zA rfl rfl (zI rfl (bo func85) rfl rfl ?_)))))
 refine (r8of_c (k := k) (l := l)  (by omega) (by omega) hM).mono ?_
 rintro v7 w2 ⟨hB7, xs7, xa7, xd7, xt7, xb7, xe7, rfl, hn7⟩
 obtain ⟨LL, B4⟩ := ub2 hB7 LL B4
 obtain ⟨oxa7, oxd7, oxb7, oxe7, _⟩ := hn7.one
 refine zV rfl rfl yR B4 rfl rfl (zU (zU (zU (zU (zU (zU xY)))))) rfl (fun w3 Cw3 B4 => ?_)
 obtain ⟨LL, hn7⟩ := up2 (lc LL Cw3 zQ nF4) LL hn7
 refine zD (zW ?_)
 refine lv1 ⟨⟨_, rfl, yQ yL yR B4 rfl rfl⟩, trivial⟩ ?_
 subst hFz
 exact ⟨LL.b, _, _, _, _, _, _, rfl, (hn7.less (fun k c => zJ c)).up (by omega)⟩
theorem l10on_c {p : P2} {n0 : Nat} {xs0 xt0 : Bool} {xa0 xd0 xb0 xe0 : Value} {q : P2} {n1 : Nat} {xs1 xt1 : Bool} {xa1 xd1 xb1 xe1 : Value} {u : P2} {n2 : Nat} {xs2 xt2 : Bool} {xa2 xd2 xb2 xe2 : Value} (h0 : PQ M w n0 p xs0 xa0 xd0 xt0 xb0 xe0) (h1 : PQ M w n1 q xs1 xa1 xd1 xt1 xb1 xe1) (h2 : PQ M w n2 u xs2 xa2 xd2 xt2 xb2 xe2) (hl0 : n0 ≤ 200) (hl1 : n1 ≤ 200) (hl2 : n2 ≤ 200) (hM : OkM M w) :
    CallsV prog 35 [.agg #[.bool xs0, xa0, xd0, .bool xt0, xb0, xe0], .agg #[.bool xs1, xa1, xd1, .bool xt1, xb1, xe1], .agg #[.bool xs2, xa2, xd2, .bool xt2, xb2, xe2]] w fun r w' => Bel w.heap.size w w' ∧ r = .bool (decide (onP p q u)) := by
 refine ci M func35 ntmps35 fun Fz hFz hF LL => ?_
 refine zH (zB (yG rfl rfl (fun w1 b3 N3 => ?_)))
 obtain ⟨_, nF3, nM3, Lw1, B3⟩ := nza hF hM N3
 obtain ⟨LL, hM, hF, h0, h1, h2⟩ := up6 Lw1 LL hM hF h0 h1 h2
 refine yG rfl rfl (fun w2 b4 N4 => ?_)
 obtain ⟨hBw2, nF4, nM4, Lw2, B4⟩ := nza hF hM N4
 obtain ⟨B3, ne3_4⟩ := bn B3 N4
 obtain ⟨LL, hM, hF, h0, h1, h2⟩ := up6 Lw2 LL hM hF h0 h1 h2
 refine yG rfl rfl (fun w3 b5 N5 => ?_)
 obtain ⟨hBw3, nF5, nM5, Lw3, B5⟩ := nza hF hM N5
 obtain ⟨B3, ne3_5⟩ := bn B3 N5
 obtain ⟨B4, ne4_5⟩ := bn B4 N5
 obtain ⟨LL, hM, h0, h1, h2⟩ := up5 Lw3 LL hM h0 h1 h2
 refine zF rfl rfl (zD (zH ?_))
 by_cases hg1_12 : bG (aI p q) (aI p u + aI u q) = 0
 ·skip
  refine wd mixed 18 [6, 19, 22, 23, 24] (by decide +kernel) ?_
  refine zN (fun _ hR _ => zP rfl rfl (zC (zM rfl yL yR rfl (B3.below hR) rfl rfl (on0 rfl)))) ?_
  refine zN (fun _ hR _ => zP rfl rfl (zC (zM rfl yL yR rfl (B4.below hR) rfl rfl (on0 rfl)))) ?_
  refine zS (vRC (Ins b5 (Ins b4 (Ins b3 M))) (2 * n0 + 2 * n1 + 27) (aI p q)) kJ (fun wq hR hst => ?_) ?_
  ·refine zK rfl (zK rfl (zC ?_))
   obtain ⟨hM, h0, h1⟩ := ub3 hR hM h0 h1
   refine zI rfl (bo func92) rfl rfl ?_
   refine (dG h0 h1 (by omega) (by omega) hM).mono ?_
   rintro v9 w4 ⟨hB9, xs9, xa9, xd9, rfl, hn9⟩
   exact on1 hB9 rfl ⟨_, _, _, rfl, hn9⟩
  refine zN (fun _ hR _ => zP rfl rfl (zC (zM rfl yL yR rfl (B3.below hR) rfl rfl (on0 rfl)))) ?_
  refine zN (fun _ hR _ => zP rfl rfl (zC (zM rfl yL yR rfl (B5.below hR) rfl rfl (on0 rfl)))) ?_
  refine zS (vRC (Ins b5 (Ins b4 (Ins b3 M))) (2 * n0 + 2 * n2 + 27) (aI p u)) kJ (fun wq hR hst => ?_) ?_
  ·refine zK rfl (zK rfl (zC ?_))
   obtain ⟨hM, h0, h2⟩ := ub3 hR hM h0 h2
   refine zI rfl (bo func92) rfl rfl ?_
   refine (dG h0 h2 (by omega) (by omega) hM).mono ?_
   rintro v12 w5 ⟨hB12, xs12, xa12, xd12, rfl, hn12⟩
   exact on1 hB12 rfl ⟨_, _, _, rfl, hn12⟩
  refine zN (fun _ hR _ => zP rfl rfl (zC (zM rfl yL yR rfl (B5.below hR) rfl rfl (on0 rfl)))) ?_
  refine zN (fun _ hR _ => zP rfl rfl (zC (zM rfl yL yR rfl (B4.below hR) rfl rfl (on0 rfl)))) ?_
  refine zS (vRC (Ins b5 (Ins b4 (Ins b3 M))) (2 * n2 + 2 * n1 + 27) (aI u q)) kJ (fun wq hR hst => ?_) ?_
  ·refine zK rfl (zK rfl (zC ?_))
   obtain ⟨hM, h1, h2⟩ := ub3 hR hM h1 h2
   refine zI rfl (bo func92) rfl rfl ?_
   refine (dG h2 h1 (by omega) (by omega) hM).mono ?_
   rintro v15 w6 ⟨hB15, xs15, xa15, xd15, rfl, hn15⟩
   exact on1 hB15 rfl ⟨_, _, _, rfl, hn15⟩
  refine dv (fun v w => ∃ bb xs16 xa16 xd16 xs16b xa16b xd16b, v = .slice (some ⟨bb, 0, none⟩) 2 2 ∧ KBlk (Ins b5 (Ins b4 (Ins b3 M))) w bb 33 [.bool xs16, xa16, xd16, .bool xs16b, xa16b, xd16b] ∧ RC (Ins b5 (Ins b4 (Ins b3 M))) w (2 * n0 + 2 * n2 + 27) (aI p u) xs16 xa16 xd16 ∧ RC (Ins b5 (Ins b4 (Ins b3 M))) w (2 * n2 + 2 * n1 + 27) (aI u q) xs16b xa16b xd16b) (fun wq hR hst => ?_) ?_
  ·refine yD rfl (fun v12 hp12 => ?_)
   obtain ⟨xs12, xa12, xd12, rfl, hn12⟩ := hp12
   refine yD rfl (fun v15 hp15 => ?_)
   obtain ⟨xs15, xa15, xd15, rfl, hn15⟩ := hp15
   refine zC ?_
   replace hM := ub1 hR hM
   refine xA rfl yu22 yM rfl rfl rfl rfl (zX rfl (zX rfl xD)) rfl rfl rfl (fun w7 b16 N16 => ?_)
   have hBw7 := N16.below
   have nM16 := hM.new N16
   have B16 := N16.blk
   obtain ⟨hn12, hn15⟩ := ub2 hBw7 hn12 hn15
   have hB16 := hBw7
   exact on1 hB16 rfl ⟨b16, _, _, _, _, _, _, rfl, KBlk.mk B16 nM16, hn12, hn15⟩
  refine zS (vRC (Ins b5 (Ins b4 (Ins b3 M))) ((2 * n0 + 2 * n2 + 27) + (2 * n2 + 2 * n1 + 27) + 3) ((aI p u) + (aI u q))) kJ (fun wq hR hst => ?_) ?_
  ·refine yD rfl (fun v16 hp16 => ?_)
   obtain ⟨bb16, xs16, xa16, xd16, xs16b, xa16b, xd16b, rfl, hk16, hn16, hnb16⟩ := hp16; obtain ⟨oxa16, oxd16, _⟩ := hn16.one
   refine zC ?_
   replace hM := ub1 hR hM
   refine zI rfl (bo func23) rfl rfl ?_
   refine (r7add2 hk16 hn16.gen hnb16.gen (by omega) (by omega) hM).mono ?_
   rintro v17 w8 ⟨hB17, xs17, xa17, xd17, rfl, hn17⟩
   exact on1 hB17 rfl ⟨_, _, _, rfl, hn17⟩
  refine zS (Ex (.bool (decide (bG (aI p q) ((aI p u) + (aI u q)) = 0)))) xU (fun wq hR hst => ?_) ?_
  ·refine yD rfl (fun v9 hp9 => ?_)
   obtain ⟨xs9, xa9, xd9, rfl, hn9⟩ := hp9
   refine yD rfl (fun v17 hp17 => ?_)
   obtain ⟨xs17, xa17, xd17, rfl, hn17⟩ := hp17
   refine zC ?_
   replace hM := ub1 hR hM
   refine zI rfl (bo func58) rfl rfl ?_
   refine (r7same_c hn9.gen hn17.gen (by omega) (by omega) hM).mono ?_
   rintro v18 w9 ⟨hB18, rfl⟩
   exact on1 hB18 rfl rfl
  refine zS (Ex (.bool true)) xU (fun wq hR hst => ?_) ?_
  ·refine zK rfl (zC ?_)
   exact zA rfl rfl (zD ⟨rfl, zY _, _, rfl, congrArg Value.bool (decide_eq_true hg1_12)⟩)
  refine zN (fun _ hR _ => zP rfl rfl (zK rfl (zC (zO rfl rfl (zM rfl yL yR rfl (B4.below hR) rfl rfl (on0 rfl)))))) ?_
  refine zN (fun _ hR _ => zP rfl rfl (zK rfl (zC (zO rfl rfl (zM rfl yL yR rfl (B3.below hR) rfl rfl (on0 rfl)))))) ?_
  refine zS (vPC (Ins b5 (Ins b4 (Ins b3 M))) (n1 + n0 + 5) (jW q p)) qZ (fun wq hR hst => ?_) ?_
  ·refine zK rfl (zK rfl (zK rfl (zC ?_)))
   obtain ⟨hM, h0, h1⟩ := ub3 hR hM h0 h1
   refine zO rfl rfl (zI rfl (bo func41) rfl rfl ?_)
   refine (r8sub_c h1 h0 (by omega) (by omega) hM).mono ?_
   rintro v22 w10 ⟨hB22, xs22, xa22, xd22, xt22, xb22, xe22, rfl, hn22⟩
   exact on1 hB22 rfl ⟨_, _, _, _, _, _, rfl, hn22⟩
  refine zN (fun _ hR _ => zP rfl rfl (zK rfl (zC (zO rfl rfl (zM rfl yL yR rfl (B5.below hR) rfl rfl (on0 rfl)))))) ?_
  refine zN (fun _ hR _ => zP rfl rfl (zK rfl (zC (zO rfl rfl (zM rfl yL yR rfl (B3.below hR) rfl rfl (on0 rfl)))))) ?_
  refine xI (fun wq1 hR1 hpost1 => ?_)
  refine zP rfl rfl (zK rfl (yD rfl (fun v22 hp22 => ?_)))
  obtain ⟨xs22, xa22, xd22, xt22, xb22, xe22, rfl, hn22⟩ := hp22
  refine zK rfl (zK rfl (zC ?_))
  simp only [jC, jB, jA, xZ]
  obtain ⟨LL, hM, h0, h2⟩ := ub4 hR1 LL hM h0 h2
  refine zO rfl rfl (zI rfl (bo func41) rfl rfl ?_)
  refine (r8sub_c h2 h0 (by omega) (by omega) hM).mono ?_
  rintro v25 w11 ⟨hB25, xs25, xa25, xd25, xt25, xb25, xe25, rfl, hn25⟩
  obtain ⟨LL, hM, hn22⟩ := ub3 hB25 LL hM hn22
  refine zO rfl rfl (zI rfl (bo func40) rfl rfl ?_)
  refine (r8cross_c hn22.gen hn25.gen (by omega) (by omega) hM).mono ?_
  rintro v26 w12 ⟨hB26, xs26, xa26, xd26, rfl, hn26⟩
  obtain ⟨LL, hM⟩ := ub2 hB26 LL hM
  refine zO rfl rfl (zI rfl (bo func32) rfl rfl ?_)
  refine (r7sign_c hn26.gen (by omega) hM).mono ?_
  rintro v27 w13 ⟨hB27, rfl⟩
  replace LL := ub1 hB27 LL
  refine zO rfl rfl (gN rfl rfl rfl (yW rfl rfl rfl (zF rfl rfl (zD (zW ?_)))))
  refine lv1 ⟨rfl, trivial⟩ ?_
  rw [show decide (onP p q u) = decide (eI (jU (jW q p) (jW u p)) = 0) from decide_eq_decide.2 ⟨fun c => sgnR_zero.2 c.2, fun c => ⟨aP.1 hg1_12, sgnR_zero.1 c⟩⟩]
  subst hFz
  exact ⟨LL.b, rfl⟩
 ·skip
  refine wd mixed 18 [6, 19, 22, 23, 24] (by decide +kernel) ?_
  refine zN (fun _ hR _ => zP rfl rfl (zC (zM rfl yL yR rfl (B3.below hR) rfl rfl (on0 rfl)))) ?_
  refine zN (fun _ hR _ => zP rfl rfl (zC (zM rfl yL yR rfl (B4.below hR) rfl rfl (on0 rfl)))) ?_
  refine zS (vRC (Ins b5 (Ins b4 (Ins b3 M))) (2 * n0 + 2 * n1 + 27) (aI p q)) kJ (fun wq hR hst => ?_) ?_
  ·refine zK rfl (zK rfl (zC ?_))
   obtain ⟨hM, h0, h1⟩ := ub3 hR hM h0 h1
   refine zI rfl (bo func92) rfl rfl ?_
   refine (dG h0 h1 (by omega) (by omega) hM).mono ?_
   rintro v9 w14 ⟨hB9, xs9, xa9, xd9, rfl, hn9⟩
   exact on1 hB9 rfl ⟨_, _, _, rfl, hn9⟩
  refine zN (fun _ hR _ => zP rfl rfl (zC (zM rfl yL yR rfl (B3.below hR) rfl rfl (on0 rfl)))) ?_
  refine zN (fun _ hR _ => zP rfl rfl (zC (zM rfl yL yR rfl (B5.below hR) rfl rfl (on0 rfl)))) ?_
  refine zS (vRC (Ins b5 (Ins b4 (Ins b3 M))) (2 * n0 + 2 * n2 + 27) (aI p u)) kJ (fun wq hR hst => ?_) ?_
  ·refine zK rfl (zK rfl (zC ?_))
   obtain ⟨hM, h0, h2⟩ := ub3 hR hM h0 h2
   refine zI rfl (bo func92) rfl rfl ?_
   refine (dG h0 h2 (by omega) (by omega) hM).mono ?_
   rintro v12 w15 ⟨hB12, xs12, xa12, xd12, rfl, hn12⟩
   exact on1 hB12 rfl ⟨_, _, _, rfl, hn12⟩
  refine zN (fun _ hR _ => zP rfl rfl (zC (zM rfl yL yR rfl (B5.below hR) rfl rfl (on0 rfl)))) ?_
  refine zN (fun _ hR _ => zP rfl rfl (zC (zM rfl yL yR rfl (B4.below hR) rfl rfl (on0 rfl)))) ?_
  refine zS (vRC (Ins b5 (Ins b4 (Ins b3 M))) (2 * n2 + 2 * n1 + 27) (aI u q)) kJ (fun wq hR hst => ?_) ?_
  ·refine zK rfl (zK rfl (zC ?_))
   obtain ⟨hM, h1, h2⟩ := ub3 hR hM h1 h2
   refine zI rfl (bo func92) rfl rfl ?_
   refine (dG h2 h1 (by omega) (by omega) hM).mono ?_
   rintro v15 w16 ⟨hB15, xs15, xa15, xd15, rfl, hn15⟩
   exact on1 hB15 rfl ⟨_, _, _, rfl, hn15⟩
  refine dv (fun v w => ∃ bb xs16 xa16 xd16 xs16b xa16b xd16b, v = .slice (some ⟨bb, 0, none⟩) 2 2 ∧ KBlk (Ins b5 (Ins b4 (Ins b3 M))) w bb 33 [.bool xs16, xa16, xd16, .bool xs16b, xa16b, xd16b] ∧ RC (Ins b5 (Ins b4 (Ins b3 M))) w (2 * n0 + 2 * n2 + 27) (aI p u) xs16 xa16 xd16 ∧ RC (Ins b5 (Ins b4 (Ins b3 M))) w (2 * n2 + 2 * n1 + 27) (aI u q) xs16b xa16b xd16b) (fun wq hR hst => ?_) ?_
  ·refine yD rfl (fun v12 hp12 => ?_)
   obtain ⟨xs12, xa12, xd12, rfl, hn12⟩ := hp12
   refine yD rfl (fun v15 hp15 => ?_)
   obtain ⟨xs15, xa15, xd15, rfl, hn15⟩ := hp15
   refine zC ?_
   replace hM := ub1 hR hM
   refine xA rfl yu22 yM rfl rfl rfl rfl (zX rfl (zX rfl xD)) rfl rfl rfl (fun w17 b16 N16 => ?_)
   have hBw17 := N16.below
   have nM16 := hM.new N16
   have B16 := N16.blk
   obtain ⟨hn12, hn15⟩ := ub2 hBw17 hn12 hn15
   have hB16 := hBw17
   exact on1 hB16 rfl ⟨b16, _, _, _, _, _, _, rfl, KBlk.mk B16 nM16, hn12, hn15⟩
  refine zS (vRC (Ins b5 (Ins b4 (Ins b3 M))) ((2 * n0 + 2 * n2 + 27) + (2 * n2 + 2 * n1 + 27) + 3) ((aI p u) + (aI u q))) kJ (fun wq hR hst => ?_) ?_
  ·refine yD rfl (fun v16 hp16 => ?_)
   obtain ⟨bb16, xs16, xa16, xd16, xs16b, xa16b, xd16b, rfl, hk16, hn16, hnb16⟩ := hp16; obtain ⟨oxa16, oxd16, _⟩ := hn16.one
   refine zC ?_
   replace hM := ub1 hR hM
   refine zI rfl (bo func23) rfl rfl ?_
   refine (r7add2 hk16 hn16.gen hnb16.gen (by omega) (by omega) hM).mono ?_
   rintro v17 w18 ⟨hB17, xs17, xa17, xd17, rfl, hn17⟩
   exact on1 hB17 rfl ⟨_, _, _, rfl, hn17⟩
  refine zS (Ex (.bool (decide (bG (aI p q) ((aI p u) + (aI u q)) = 0)))) xU (fun wq hR hst => ?_) ?_
  ·refine yD rfl (fun v9 hp9 => ?_)
   obtain ⟨xs9, xa9, xd9, rfl, hn9⟩ := hp9
   refine yD rfl (fun v17 hp17 => ?_)
   obtain ⟨xs17, xa17, xd17, rfl, hn17⟩ := hp17
   refine zC ?_
   replace hM := ub1 hR hM
   refine zI rfl (bo func58) rfl rfl ?_
   refine (r7same_c hn9.gen hn17.gen (by omega) (by omega) hM).mono ?_
   rintro v18 w19 ⟨hB18, rfl⟩
   exact on1 hB18 rfl rfl
  refine zS (Ex (.bool false)) xU (fun wq hR hst => ?_) ?_
  ·refine zK rfl (zC ?_)
   exact zA rfl rfl (zD ⟨rfl, zY _, _, rfl, congrArg Value.bool (decide_eq_false hg1_12)⟩)
  refine zN (fun _ _ _ => zP rfl rfl (zK rfl (zC (zR rfl rfl rfl rfl (on0 rfl))))) ?_
  refine zN (fun _ _ _ => zP rfl rfl (zK rfl (zC (zR rfl rfl rfl rfl (on0 rfl))))) ?_
  refine zN (fun _ _ _ => zK rfl (zK rfl (zK rfl (zC (zR rfl rfl rfl rfl (on0 rfl)))))) ?_
  refine zN (fun _ _ _ => zP rfl rfl (zK rfl (zC (zR rfl rfl rfl rfl (on0 rfl))))) ?_
  refine zN (fun _ _ _ => zP rfl rfl (zK rfl (zC (zR rfl rfl rfl rfl (on0 rfl))))) ?_
  refine xI (fun wq1 hR1 hpost1 => ?_)
  refine zP rfl rfl (zK rfl (zK rfl (zK rfl (zK rfl (zC ?_)))))
  simp only [jC, jB, jA, xZ]
  replace LL := ub1 hR1 LL
  refine zR rfl rfl rfl rfl (zR rfl rfl rfl rfl (zR rfl rfl rfl rfl (zR rfl rfl rfl rfl (yW rfl rfl rfl (zF rfl rfl (zD (zW ?_)))))))
  refine lv1 ⟨rfl, trivial⟩ ?_
  rw [show decide (onP p q u) = false from decide_eq_false fun c => hg1_12 (aP.2 c.1)]
  subst hFz
  exact ⟨LL.b, rfl⟩
end Go.Proofs.YtfkejnlohkgbgaaGreatDoor
namespace Go.Proofs.YtfkejnlohkgbgaaGreatDoor
open Go Go.SL Go.RowKit Tryz
end Go.Proofs.YtfkejnlohkgbgaaGreatDoor
