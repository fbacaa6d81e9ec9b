/- Lemmas and walks of functions; no statement. -/
import Derived.Test.YtfkejnlohkgbgaaGreatDoorPd
set_option linter.unusedVariables false
set_option linter.unusedSimpArgs false
set_option maxRecDepth 100000
namespace Go.Proofs.YtfkejnlohkgbgaaGreatDoor
open Go.SL Go.RowKit Go.Proofs Tryz
section
variable {M : Nat → Prop} {w : World}
theorem lcmp_c {p : P2} {n0 : Nat} {xs0 xt0 : Bool} {xa0 xd0 xb0 xe0 : Value} {q : P2} {n1 : Nat} {xs1 xt1 : Bool} {xa1 xd1 xb1 xe1 : Value} (hT : Tab M w) (h0 : PQ M w n0 p xs0 xa0 xd0 xt0 xb0 xe0) (h1 : PQ M w n1 q xs1 xa1 xd1 xt1 xb1 xe1) (hl0 : n0 ≤ 9000) (hl1 : n1 ≤ 9000) (hM : OkM M w) :
    CallsV prog 113 [.agg #[.bool xs0, xa0, xd0, .bool xt0, xb0, xe0], .agg #[.bool xs1, xa1, xd1, .bool xt1, xb1, xe1]] w fun r w' => Bel w.heap.size w w' ∧ r = .int .i64 (eQ p q) := by
 refine ci M func113 ntmps113 fun Fz hFz hF LL => ?_
 refine zG (zB (yN rfl rfl (fun w1 b2 N2 => ?_)))
 obtain ⟨_, nF2, nM2, Lw1, B2⟩ := nza hF hM N2
 obtain ⟨LL, hM, hF, hT, h0, h1⟩ := up6 Lw1 LL hM hF hT h0 h1
 refine yN rfl rfl (fun w2 b3 N3 => ?_)
 obtain ⟨hBw2, nF3, nM3, Lw2, B3⟩ := nza hF hM N3
 obtain ⟨B2, ne2_3⟩ := bn B2 N3
 obtain ⟨LL, hM, hT, h0, h1⟩ := up5 Lw2 LL hM hT h0 h1
 refine zC rfl rfl (zD (zG (zG ?_)))
 refine wd mixed 11 [2, 3, 11, 16] (by decide +kernel) ?_
 refine zL (fun _ _ _ => zQ rfl rfl (zF (zJ 0 rfl yu83 rfl rfl yL rfl rfl (on0 rfl)))) ?_
 refine zL (fun _ hR _ => zK rfl (zF (zP rfl yQ yL rfl (B2.below hR) rfl rfl (on0 rfl)))) ?_
 refine zL (fun _ _ _ => zQ rfl rfl (zF (zJ 3 rfl yu83 rfl rfl yL rfl rfl (on0 rfl)))) ?_
 refine zL (fun _ hR _ => zK rfl (zF (zP rfl yQ yL rfl (B2.below hR) rfl rfl (on0 rfl)))) ?_
 refine dv (fun v w => ∃ bb xs10 xa10 xd10 xs10b xa10b xd10b, v = .slice (some ⟨bb, 0, none⟩) 2 2 ∧ KBlk (Ins b3 (Ins b2 M)) w bb 33 [.bool xs10, xa10, xd10, .bool xs10b, xa10b, xd10b] ∧ QC (Ins b3 (Ins b2 M)) w (n0) (p.1) xs10 xa10 xd10 ∧ QC (Ins b3 (Ins b2 M)) w (n0) (p.2) xs10b xa10b xd10b) (fun wq hR hst => ?_) ?_
 ·refine zK rfl (zK rfl (zF ?_))
  obtain ⟨hM, h0⟩ := ub2 hR hM h0
  refine xN rfl yu22 yL rfl rfl rfl rfl (yB rfl (yB rfl xI)) rfl rfl rfl (fun w3 b10 N10 => ?_)
  have hBw3 := N10.below
  have nM10 := hM.new N10
  have B10 := N10.blk
  replace h0 := ub1 hBw3 h0
  have hB10 := hBw3
  exact on1 hB10 rfl ⟨b10, _, _, _, _, _, _, rfl, KBlk.mk B10 nM10, h0.x, h0.y⟩
 refine yZ (vRC (Ins b3 (Ins b2 M)) (n0 + n0 + 3) (p.1 + p.2)) vRC_m (fun wq hR hst => ?_) ?_
 ·refine yY rfl (fun v10 hp10 => ?_)
  obtain ⟨bb10, xs10, xa10, xd10, xs10b, xa10b, xd10b, rfl, hk10, hn10, hnb10⟩ := hp10; obtain ⟨oxa10, oxd10, _⟩ := hn10.one
  refine zF ?_
  obtain ⟨hM, hT⟩ := ub2 hR hM hT
  refine zI rfl (bo func163) rfl rfl ?_
  refine (radd2_q hT hk10 hn10 hnb10 (by omega) (by omega) hM).mono ?_
  rintro v11 w4 ⟨hB11, xs11, xa11, xd11, rfl, hn11⟩
  exact on1 hB11 rfl ⟨_, _, _, rfl, hn11⟩
 refine zL (fun _ _ _ => zQ rfl rfl (zF (zJ 0 rfl yu83 rfl rfl yL rfl rfl (on0 rfl)))) ?_
 refine zL (fun _ hR _ => zK rfl (zF (zP rfl yQ yL rfl (B3.below hR) rfl rfl (on0 rfl)))) ?_
 refine zL (fun _ _ _ => zQ rfl rfl (zF (zJ 3 rfl yu83 rfl rfl yL rfl rfl (on0 rfl)))) ?_
 refine zL (fun _ hR _ => zK rfl (zF (zP rfl yQ yL rfl (B3.below hR) rfl rfl (on0 rfl)))) ?_
 refine dv (fun v w => ∃ bb xs16 xa16 xd16 xs16b xa16b xd16b, v = .slice (some ⟨bb, 0, none⟩) 2 2 ∧ KBlk (Ins b3 (Ins b2 M)) w bb 33 [.bool xs16, xa16, xd16, .bool xs16b, xa16b, xd16b] ∧ QC (Ins b3 (Ins b2 M)) w (n1) (q.1) xs16 xa16 xd16 ∧ QC (Ins b3 (Ins b2 M)) w (n1) (q.2) xs16b xa16b xd16b) (fun wq hR hst => ?_) ?_
 ·refine zK rfl (zK rfl (zF ?_))
  obtain ⟨hM, h1⟩ := ub2 hR hM h1
  refine xN rfl yu22 yL rfl rfl rfl rfl (yB rfl (yB rfl xI)) rfl rfl rfl (fun w5 b16 N16 => ?_)
  have hBw5 := N16.below
  have nM16 := hM.new N16
  have B16 := N16.blk
  replace h1 := ub1 hBw5 h1
  have hB16 := hBw5
  exact on1 hB16 rfl ⟨b16, _, _, _, _, _, _, rfl, KBlk.mk B16 nM16, h1.x, h1.y⟩
 refine xQ (fun wq1 hR1 hpost1 => ?_)
 refine zQ rfl rfl (zQ rfl rfl (yY rfl (fun v11 hp11 => ?_)))
 obtain ⟨xs11, xa11, xd11, rfl, hn11⟩ := hp11
 refine yY rfl (fun v16 hp16 => ?_)
 obtain ⟨bb16, xs16, xa16, xd16, xs16b, xa16b, xd16b, rfl, hk16, hn16, hnb16⟩ := hp16; obtain ⟨oxa16, oxd16, _⟩ := hn16.one
 refine zF ?_
 simp only [jW, jV, jU, jT]
 obtain ⟨LL, hM, hT, h0, h1, B2, B3⟩ := ub7 hR1 LL hM hT h0 h1 B2 B3
 refine zI rfl (bo func163) rfl rfl ?_
 refine (radd2_q hT hk16 hn16 hnb16 (by omega) (by omega) hM).mono ?_
 rintro v17 w6 ⟨hB17, xs17, xa17, xd17, rfl, hn17⟩
 obtain ⟨LL, hM, hT, h0, h1, hn11, B2, B3⟩ := ub8 hB17 LL hM hT h0 h1 hn11 B2 B3
 refine zI rfl (bo func78) rfl rfl ?_
 refine (eN hT hn11.gen hn17.gen (by omega) (by omega) hM).mono ?_
 rintro v18 w7 ⟨hB18, rfl⟩
 obtain ⟨LL, hM, hT, h0, h1, B2, B3⟩ := ub7 hB18 LL hM hT h0 h1 B2 B3
 refine zC rfl rfl (zD (zG (zB (zA rfl rfl (fF rfl rfl rfl (zD ?_))))))
 refine zU rfl (fun hc0 => ?_) (fun hc0 => ?_)
 ·have hcc : eQ p q = jY (p.1 + p.2) (q.1 + q.2) := if_pos hc0
  refine zG (zB (zA rfl rfl (zC rfl rfl (zD (zR ?_)))))
  refine lv1 ⟨rfl, trivial⟩ ?_
  rw [hcc]
  subst hFz
  exact ⟨LL.b, rfl⟩
 ·have hcc : eQ p q = jY p.1 q.1 := if_neg hc0
  refine yG (zG (zB (zJ 0 rfl yu83 rfl rfl yL rfl rfl (zP rfl yQ yL rfl B2 rfl rfl (zJ 0 rfl yu83 rfl rfl yL rfl rfl (zP rfl yQ yL rfl B3 rfl rfl (zI rfl (bo func78) rfl rfl ?_)))))))
  refine (eN hT h0.x h1.x (by omega) (by omega) hM).mono ?_
  rintro v26 w8 ⟨hB26, rfl⟩
  replace LL := ub1 hB26 LL
  refine zC rfl rfl (zD (zR ?_))
  refine lv1 ⟨rfl, trivial⟩ ?_
  rw [hcc]
  subst hFz
  exact ⟨LL.b, rfl⟩
theorem lsame_c {p : P2} {n0 : Nat} {xs0 xt0 : Bool} {xa0 xd0 xb0 xe0 : Value} {q : P2} {n1 : Nat} {xs1 xt1 : Bool} {xa1 xd1 xb1 xe1 : Value} (hT : Tab M w) (h0 : PQ M w n0 p xs0 xa0 xd0 xt0 xb0 xe0) (h1 : PQ M w n1 q xs1 xa1 xd1 xt1 xb1 xe1) (hl0 : n0 ≤ 20000) (hl1 : n1 ≤ 20000) (hM : OkM M w) :
    CallsV prog 115 [.agg #[.bool xs0, xa0, xd0, .bool xt0, xb0, xe0], .agg #[.bool xs1, xa1, xd1, .bool xt1, xb1, xe1]] w fun r w' => Bel w.heap.size w w' ∧ r = .bool (decide (p = q)) := by
 refine ci M func115 ntmps115 fun Fz hFz hF LL => ?_
 refine zG (zB (yN rfl rfl (fun w1 b2 N2 => ?_)))
 obtain ⟨_, nF2, nM2, Lw1, B2⟩ := nza hF hM N2
 obtain ⟨LL, hM, hF, hT, h0, h1⟩ := up6 Lw1 LL hM hF hT h0 h1
 refine yN rfl rfl (fun w2 b3 N3 => ?_)
 obtain ⟨hBw2, nF3, nM3, Lw2, B3⟩ := nza hF hM N3
 obtain ⟨B2, ne2_3⟩ := bn B2 N3
 obtain ⟨LL, hM, hT, h0, h1⟩ := up5 Lw2 LL hM hT h0 h1
 refine zC rfl rfl (zD (zG (zB (zJ 0 rfl yu83 rfl rfl yL rfl rfl (zP rfl yQ yL rfl B2 rfl rfl (zJ 0 rfl yu83 rfl rfl yL rfl rfl (zP rfl yQ yL rfl B3 rfl rfl (zI rfl (bo func174) rfl rfl ?_))))))))
 refine (rsame_q hT h0.x h1.x (by omega) (by omega) hM).mono ?_
 rintro v9 w3 ⟨hB9, rfl⟩
 obtain ⟨LL, hM, hT, h0, h1, B2, B3⟩ := ub7 hB9 LL hM hT h0 h1 B2 B3
 refine zA rfl rfl (gV (d := 10) rfl (fun hg1_5 => ?_) (fun hg1_5 => ?_))
 ·refine yA rfl rfl (zJ 3 rfl yu83 rfl rfl yL rfl rfl (yA rfl rfl (zP rfl yQ yL rfl B2 rfl rfl (yA rfl rfl (zJ 3 rfl yu83 rfl rfl yL rfl rfl (yA rfl rfl (zP rfl yQ yL rfl B3 rfl rfl (yA rfl rfl (zI rfl (bo func174) rfl rfl ?_)))))))))
  refine (rsame_q hT h0.y h1.y (by omega) (by omega) hM).mono ?_
  rintro v15 w4 ⟨hB15, rfl⟩
  replace LL := ub1 hB15 LL
  refine xY rfl rfl rfl (zC rfl rfl (zD (zR ?_)))
  refine lv1 ⟨rfl, trivial⟩ ?_
  rw [alike_t hg1_5]
  subst hFz
  exact ⟨LL.b, rfl⟩
 ·refine zY rfl rfl rfl rfl (zY rfl rfl rfl rfl (zY rfl rfl rfl rfl (zY rfl rfl rfl rfl (zY rfl rfl rfl rfl (xY rfl rfl rfl (zC rfl rfl (zD (zR ?_))))))))
  refine lv1 ⟨rfl, trivial⟩ ?_
  rw [alike_f hg1_5]
  subst hFz
  exact ⟨LL.b, rfl⟩
theorem lflat_c {x : Rat} {n0 : Nat} {xs0 : Bool} {xa0 xd0 : Value} (hT : Tab M w) (h0 : QC M w n0 x xs0 xa0 xd0) (hl0 : n0 ≤ 20000) (hM : OkM M w) :
    CallsV prog 111 [.agg #[.bool xs0, xa0, xd0]] w fun r w' => Bel w.heap.size w w' ∧ ∃ xsr xar xdr xtr xbr xer, r = .agg #[.bool xsr, xar, xdr, .bool xtr, xbr, xer] ∧ PC M w' (n0 + 1) ((x, x)) xsr xar xdr xtr xbr xer := by
 obtain ⟨oxa0, oxd0, _⟩ := h0.one
 refine ci M func111 ntmps111 fun Fz hFz hF LL => ?_
 refine zG (zB (yN rfl rfl (fun w1 b1 N1 => ?_)))
 obtain ⟨_, nF1, nM1, Lw1, B1⟩ := nza hF hM N1
 obtain ⟨LL, hM, hF, hT, h0⟩ := up5 Lw1 LL hM hF hT h0
 refine yH rfl kI (fun w2 b2 N2 => ?_)
 obtain ⟨hBw2, nF2, nM2, Lw2, B2⟩ := nza hF hM N2
 obtain ⟨B1, ne1_2⟩ := bn B1 N2
 obtain ⟨LL, hM, hT, h0⟩ := up4 Lw2 LL hM hT h0
 refine zD (zG (zB (zP rfl yQ yL rfl B1 rfl rfl (zI rfl (bo func126) rfl rfl ?_))))
 refine (rnrm_q hT h0 (by omega) hM).mono ?_
 rintro v4 w3 ⟨hB4, xs4, xa4, xd4, rfl, hn4⟩
 obtain ⟨LL, B1, B2⟩ := ub3 hB4 LL B1 B2
 obtain ⟨oxa4, oxd4, _⟩ := hn4.one
 refine yC rfl rfl yL B1 rfl rfl (yK (yK (yK jI))) rfl (fun w4 Cw4 B1 => ?_)
 obtain ⟨LL, hn4⟩ := up2 (lc LL Cw4 (.inr zO) nF1) LL hn4
 replace B2 := B2.other Cw4 ne1_2.symm
 refine zD (zG (zB (zP rfl yQ yL rfl B1 rfl rfl (zP rfl yQ yL rfl B1 rfl rfl (xO rfl plc83 rfl rfl (yB (rfl) (yB (rfl) xI)) rfl (yC rfl rfl kI B2 rfl rfl (yK (yK (yK (yK (yK (yK jI)))))) rfl (fun w5 Cw5 B2 => ?_)))))))
 obtain ⟨LL, hn4⟩ := up2 (lc LL Cw5 zO nF2) LL hn4
 refine zD (zR ?_)
 refine lv1 ⟨⟨_, rfl, yT dA kI B2 rfl rfl⟩, trivial⟩ ?_
 subst hFz
 exact ⟨LL.b, _, _, _, _, _, _, rfl, ((PC.mk2 hn4 hn4).less (fun k c => zM (zM c))).up (by omega)⟩
theorem l23whole_c {k : Nat} (hk : k < 9223372036854775808) (hM : OkM M w) :
    CallsV prog 48 [.int .i64 ((k : Nat) : Int)] w fun r w' => Bel w.heap.size w w' ∧ ∃ xsr xar xdr, r = .agg #[.bool xsr, xar, xdr] ∧ RC M w' (2) (((k : Nat) : Rat)) xsr xar xdr := by
 refine ci M func48 ntmps48 fun Fz hFz hF LL => ?_
 refine zG (zB (yH rfl yL (fun w1 b2 N2 => ?_)))
 obtain ⟨_, nF2, nM2, Lw1, B2⟩ := nza hF hM N2
 obtain ⟨LL, hM⟩ := up2 Lw1 LL hM
 refine zD (zG (zB (zA rfl rfl (zI rfl (bo func21) rfl rfl ?_))))
 refine (eO (k := k)  (by omega) hM).mono ?_
 rintro v4 w2 ⟨hB4, xs4, xa4, xd4, rfl, hn4⟩
 obtain ⟨LL, B2⟩ := ub2 hB4 LL B2
 obtain ⟨oxa4, oxd4, _⟩ := hn4.one
 refine yC rfl rfl yL B2 rfl rfl (yK (yK (yK jI))) rfl (fun w3 Cw3 B2 => ?_)
 obtain ⟨LL, hn4⟩ := up2 (lc LL Cw3 zO nF2) LL hn4
 refine zD (zR ?_)
 refine lv1 ⟨⟨_, rfl, yT yQ yL B2 rfl rfl⟩, trivial⟩ ?_
 subst hFz
 exact ⟨LL.b, _, _, _, rfl, (hn4.less (fun k c => zM c)).up (by omega)⟩
def iA (l : List N2) : Nat → Nat
  | 0 => 0
  | s + 1 => iA l s + min ((l.getD s (0, 0)).1 + (l.getD s (0, 0)).2) 1000
theorem sumM_le (l : List N2) : ∀ s, iA l s ≤ 1000 * s
  | 0 => Nat.le_refl _
  | s + 1 => by
    have := sumM_le l s
    unfold iA; omega
theorem sumM_one {l : List N2} {i : Nat} : ∀ {s : Nat}, i < s → min ((l.getD i (0, 0)).1 + (l.getD i (0, 0)).2) 1000 ≤ iA l s
  | s + 1, h => by
    unfold iA
    rcases Nat.lt_or_ge i s with c | c
    · have := sumM_one (l := l) c; omega
    · obtain rfl : i = s := by omega
      omega
def dN (l : List N2) : Bool := decide (60 < l.length ∨ 40 < iA l l.length)
theorem great7_not {l : List N2} (h : dN l = false) : l.length ≤ 60 ∧ ∀ x ∈ l, x.1 ≤ 40 ∧ x.2 ≤ 40 := by
  unfold dN at h
  rw [decide_eq_false_iff_not] at h
  refine ⟨by omega, fun x hx => ?_⟩
  obtain ⟨i, hi, rfl⟩ := List.mem_iff_getElem.1 hx
  have h1 := sumM_one (l := l) hi
  rw [show l.getD i (0, 0) = l[i] by simp [List.getD_eq_getElem?_getD, List.getElem?_eq_getElem hi]] at h1
  omega
def halves (l : List N4) : List N2 := l.flatMap fun x => [(x.1, x.2.1), (x.2.2.1, x.2.2.2)]
theorem halves_mem {l : List N4} {x : N2} (h : x ∈ halves l) : ∃ y ∈ l, x = (y.1, y.2.1) ∨ x = (y.2.2.1, y.2.2.2) := by
  obtain ⟨y, hy, hx⟩ := List.mem_flatMap.1 h
  exact ⟨y, hy, by simpa using hx⟩
def great23 (l : List N4) : Bool := decide (20 < l.length) || dN (halves l)
theorem great23_not {l : List N4} (h : great23 l = false) : l.length ≤ 20 ∧ ∀ x ∈ l, m4 x ≤ 40 := by
  unfold great23 at h
  simp only [Bool.or_eq_false_iff, decide_eq_false_iff_not] at h
  refine ⟨by omega, fun x hx => ?_⟩
  have h1 := (great7_not h.2).2 (x.1, x.2.1) (List.mem_flatMap.2 ⟨x, hx, by simp⟩)
  have h2 := (great7_not h.2).2 (x.2.2.1, x.2.2.2) (List.mem_flatMap.2 ⟨x, hx, by simp⟩)
  unfold m4; simp only at h1 h2; omega
theorem i5m1_c (hM : OkM M w) :
    CallsV prog 79 [.int .i64 (-1)] w fun r w' => Bel w.heap.size w w' ∧ ∃ xsr xar, r = .agg #[.bool xsr, xar] ∧ ZC M w' (2) ((-1)) xsr xar := by
 refine ci M func79 ntmps79 fun Fz hFz hF LL => ?_
 refine zG (zB (yH rfl yV (fun w1 b2 N2 => ?_)))
 obtain ⟨_, nF2, nM2, Lw1, B2⟩ := nza hF hM N2
 obtain ⟨LL, hM⟩ := up2 Lw1 LL hM
 refine zD (zG (zG (zB (zA rfl rfl (jE rfl rfl rfl (zD ?_))))))
 refine zU rfl (fun hc0 => ?_) (fun hn => absurd (by decide) hn)
 refine zG (zB (zA rfl rfl (yW rfl rfl rfl (by omega) (ops_neg rfl rfl (by omega) (xT (a := 0) rfl yu3 yu170 rfl (by omega) (gI (a := 0) (b := 1) rfl rfl rfl (by omega) (zI rfl (bo func148) rfl rfl ?_)))))))
 refine (rof_c (n := 1) (by omega) hM).mono ?_
 rintro v10 w2 ⟨hB10, hf10⟩
 have hM10 := hM
 have hS10 := LL.size
 obtain ⟨LL, B2⟩ := ub2 hB10 LL B2
 have hn10 := hf10.nat hM10
 refine xO rfl kT rfl rfl (yB (gF rfl) (yB (gF (by first | rfl | exact yM (by assumption) | exact yO (by assumption) | assumption)) xI)) rfl (yC rfl rfl yV B2 rfl rfl (yK (yK jI)) rfl (fun w3 Cw3 B2 => ?_))
 obtain ⟨LL, hn10⟩ := up2 (lc LL Cw3 zO nF2) LL hn10
 refine zD (zR ?_)
 refine lv1 ⟨⟨_, rfl, yT xU yV B2 rfl rfl⟩, trivial⟩ ?_
 subst hFz
 exact ⟨LL.b, _, _, rfl, by simp, hn10.less fun k c => zM c, xG (by simp)⟩
theorem r7m1_c (hM : OkM M w) :
    CallsV prog 21 [.int .i64 (-1)] w fun r w' => Bel w.heap.size w w' ∧ ∃ xsr xar xdr, r = .agg #[.bool xsr, xar, xdr] ∧ RC M w' (2) (((-1 : Int) : Rat)) xsr xar xdr := by
 refine ci M func21 ntmps21 fun Fz hFz hF LL => ?_
 refine zG (zB (yH rfl yL (fun w1 b2 N2 => ?_)))
 obtain ⟨_, nF2, nM2, Lw1, B2⟩ := nza hF hM N2
 obtain ⟨LL, hM⟩ := up2 Lw1 LL hM
 refine zD (zG (zB (zA rfl rfl (zI rfl (bo func79) rfl rfl ?_))))
 refine (i5m1_c   hM).mono ?_
 rintro v4 w2 ⟨hB4, xs4, xa4, rfl, hn4⟩
 obtain ⟨LL, hM, B2⟩ := ub3 hB4 LL hM B2
 obtain ⟨oxa4, _⟩ := hn4.one
 refine yR rfl yu29 yS rfl rfl rfl (by simp [Value.oneCell', lw]) rfl (fun w3 b5 N5 => ?_)
 have hBw3 := N5.below
 have nM5 := hM.new N5
 have B5 := N5.blk
 obtain ⟨LL, hn4, B2⟩ := ub3 hBw3 LL hn4 B2
 have hn5 : IsNat (Ins b2 M) w3 (.slice (some ⟨b5, 0, none⟩) 1 1) [1] := dB (xs := [1]) B5 nM5 rfl (by simp) (by simp)
 refine xO rfl fP rfl rfl (yB (rfl) (yB (gF (by first | rfl | assumption)) xI)) rfl (yC rfl rfl yL B2 rfl rfl (yK (yK (yK jI))) rfl (fun w4 Cw4 B2 => ?_))
 obtain ⟨LL, hn4, hn5⟩ := up3 (lc LL Cw4 zO nF2) LL hn4 hn5
 refine zD (zR ?_)
 refine lv1 ⟨⟨_, rfl, yT yQ yL B2 rfl rfl⟩, trivial⟩ ?_
 subst hFz
 exact ⟨LL.b, _, _, _, rfl, (((RC.up (rc_mk (q := ((-1 : Int) : Rat)) hn4 (m := 2) (by rw [Rat.den_intCast, show limbs 1 = [1] by simp [limbs]]; exact hn5) (by rw [Rat.den_intCast, show limbs 1 = [1] by simp [limbs]]; simp)) (m := 2) (by omega))).less (fun k c => zM c)).up (by omega)⟩
theorem l23m1_c (hM : OkM M w) :
    CallsV prog 48 [.int .i64 (-1)] w fun r w' => Bel w.heap.size w w' ∧ ∃ xsr xar xdr, r = .agg #[.bool xsr, xar, xdr] ∧ RC M w' (2) (((-1 : Int) : Rat)) xsr xar xdr := by
 refine ci M func48 ntmps48 fun Fz hFz hF LL => ?_
 refine zG (zB (yH rfl yL (fun w1 b2 N2 => ?_)))
 obtain ⟨_, nF2, nM2, Lw1, B2⟩ := nza hF hM N2
 obtain ⟨LL, hM⟩ := up2 Lw1 LL hM
 refine zD (zG (zB (zA rfl rfl (zI rfl (bo func21) rfl rfl ?_))))
 refine (r7m1_c   hM).mono ?_
 rintro v4 w2 ⟨hB4, xs4, xa4, xd4, rfl, hn4⟩
 obtain ⟨LL, B2⟩ := ub2 hB4 LL B2
 obtain ⟨oxa4, oxd4, _⟩ := hn4.one
 refine yC rfl rfl yL B2 rfl rfl (yK (yK (yK jI))) rfl (fun w3 Cw3 B2 => ?_)
 obtain ⟨LL, hn4⟩ := up2 (lc LL Cw3 zO nF2) LL hn4
 refine zD (zR ?_)
 refine lv1 ⟨⟨_, rfl, yT yQ yL B2 rfl rfl⟩, trivial⟩ ?_
 subst hFz
 exact ⟨LL.b, _, _, _, rfl, (hn4.less (fun k c => zM c)).up (by omega)⟩
theorem r8m1_c {k : Nat} (hk : k < 9223372036854775808) (hM : OkM M w) :
    CallsV prog 85 [.int .i64 ((k : Nat) : Int), .int .i64 (-1)] w fun r w' => Bel w.heap.size w w' ∧ ∃ xsr xar xdr xtr xbr xer, r = .agg #[.bool xsr, xar, xdr, .bool xtr, xbr, xer] ∧ PC M w' (2) ((((k : Nat) : Rat), ((-1 : Int) : Rat))) xsr xar xdr xtr xbr xer := by
 refine ci M func85 ntmps85 fun Fz hFz hF LL => ?_
 refine zG (zB (yH rfl gT (fun w1 b4 N4 => ?_)))
 obtain ⟨_, nF4, nM4, Lw1, B4⟩ := nza hF hM N4
 obtain ⟨LL, hM⟩ := up2 Lw1 LL hM
 refine zD (zG (zB (zA rfl rfl (zI rfl (bo func21) rfl rfl ?_))))
 refine (eO (k := k)  (by omega) hM).mono ?_
 rintro v6 w2 ⟨hB6, xs6, xa6, xd6, rfl, hn6⟩
 obtain ⟨LL, hM, B4⟩ := ub3 hB6 LL hM B4
 obtain ⟨oxa6, oxd6, _⟩ := hn6.one
 refine zA rfl rfl (zI rfl (bo func21) rfl rfl ?_)
 refine (r7m1_c   hM).mono ?_
 rintro v8 w3 ⟨hB8, xs8, xa8, xd8, rfl, hn8⟩
 obtain ⟨LL, hn6, B4⟩ := ub3 hB8 LL hn6 B4
 obtain ⟨oxa8, oxd8, _⟩ := hn8.one
 refine xO rfl plc39 rfl rfl (yB (rfl) (yB (rfl) xI)) rfl (yC rfl rfl gT B4 rfl rfl (yK (yK (yK (yK (yK (yK jI)))))) rfl (fun w4 Cw4 B4 => ?_))
 obtain ⟨LL, hn6, hn8⟩ := up3 (lc LL Cw4 zO nF4) LL hn6 hn8
 refine zD (zR ?_)
 refine lv1 ⟨⟨_, rfl, yT qG gT B4 rfl rfl⟩, trivial⟩ ?_
 subst hFz
 exact ⟨LL.b, _, _, _, _, _, _, rfl, ((PC.mk2 hn6 hn8).less (fun k c => zM c)).up (by omega)⟩
end
end Go.Proofs.YtfkejnlohkgbgaaGreatDoor
namespace Go.SL
open Go.RowKit
def Cl (M : Nat → Prop) (w : World) (M' : Nat → Prop) (w' : World) : Prop :=
 ∀ k cur t fz, ¬ M k → w.heap[k]? = some (.cells cur t fz) → ¬ M' k ∧ w'.heap[k]? = some (.cells cur t fz)
section
variable {Fz T M M' M'' M0 : Nat → Prop} {n : Nat} {w w' w'' w0 : World}
theorem Le.cl (l : Le Fz M w M' w') : Cl M w M' w' := fun k _ _ _ hm hw => let h := l.kept (Array.getElem?_eq_some_iff.1 hw).1 hm; ⟨h.1, h.2.trans hw⟩
theorem Cl.less (h : ∀ k, M' k → M k) : Cl M w M' w := fun k _ _ _ hm hw => ⟨fun c => hm (h k c), hw⟩
theorem Cl.bel (h : Bel w.heap.size w w') : Cl M w M w' := (Le.of_below (Fz := fun _ => False) h).cl
theorem Seg.cl {b off : Nat} {cs : List Value} (h : Seg w b off cs) (l : Cl M w M' w') (hm : ¬ M b) : ¬ M' b ∧ Seg w' b off cs := by
 obtain ⟨cur, t, fz, h7, h8⟩ := h
 have hk := l b _ _ _ hm h7
 exact ⟨hk.1, cur, t, fz, hk.2, h8⟩
theorem Slc.cl {sz m : Nat} {v : Value} {cs : List Value} (h : Slc M w sz v m cs) (l : Cl M w M' w') : Slc M' w' sz v m cs := by
 obtain ⟨h1, h2, ad, cap, h3, h4, h5⟩ := h
 refine ⟨h1, h2, ad, cap, h3, h4, ?_⟩
 rcases h5 with h5 | ⟨b, off, h5, h6, h7⟩
 ·exact .inl h5
 ·have hk := h7.cl l h6
  exact .inr ⟨b, off, h5, hk.1, hk.2⟩
theorem IsNat.cl {v : Value} {xs : List Nat} (h : IsNat M w v xs) (l : Cl M w M' w') : IsNat M' w' v xs := ⟨h.slc.cl l, h.lt⟩
theorem Tab.cl (h : Tab M w) (l : Cl M w M' w') : Tab M' w' := let k := h.2.cl l h.1; ⟨k.1, k.2⟩
end
structure CT where
 sz : Nat
 p : (Nat → Prop) → World → List Value → Prop
 len : ∀ {M w cs}, p M w cs → cs.length = sz
 one : ∀ {M w cs}, p M w cs → ∀ u ∈ cs, u.oneCell' = true
 mono : ∀ {M M' w w' cs}, p M w cs → Cl M w M' w' → p M' w' cs
def xc (v : Value) : CT := ⟨1, fun _ _ cs => cs = [v] ∧ v.oneCell' = true, fun h => by rw [h.1]; rfl, fun h u hu => by rw [h.1] at hu; rw [List.mem_singleton.1 hu]; exact h.2, fun h _ => h⟩
def stp : List CT → (Nat → Prop) → World → List Value → Prop
 | [], _, _, cs => cs = []
 | c :: r, M, w, cs => ∃ a b, cs = a ++ b ∧ c.p M w a ∧ stp r M w b
def szs : List CT → Nat
 | [] => 0
 | c :: r => c.sz + szs r
section
variable {M M' : Nat → Prop} {w w' : World}
theorem dX : ∀ {l : List CT} {cs : List Value}, stp l M w cs → cs.length = szs l
 | [], _, h => by rw [show _ = [] from h]; rfl
 | c :: r, _, ⟨a, b, e, h1, h2⟩ => by rw [e, List.length_append, c.len h1, dX h2]; rfl
theorem stp_one : ∀ {l : List CT} {cs : List Value}, stp l M w cs → ∀ u ∈ cs, u.oneCell' = true
 | [], _, h, u, hu => by rw [show _ = [] from h] at hu; cases hu
 | c :: r, _, ⟨a, b, e, h1, h2⟩, u, hu => by rw [e] at hu; exact (List.mem_append.1 hu).elim (c.one h1 u) (stp_one h2 u)
theorem qS : ∀ {l : List CT} {cs : List Value}, stp l M w cs → Cl M w M' w' → stp l M' w' cs
 | [], _, h, _ => h
 | c :: r, _, ⟨a, b, e, h1, h2⟩, k => ⟨a, b, e, c.mono h1 k, qS h2 k⟩
theorem eR : ∀ {l m : List CT} {a b : List Value}, stp l M w a → stp m M w b → stp (l ++ m) M w (a ++ b)
 | [], _, _, _, h, k => by rw [show _ = [] from h]; exact k
 | c :: r, _, _, _, ⟨a, b, e, h1, h2⟩, k => ⟨a, b ++ _, by rw [e, List.append_assoc], h1, eR h2 k⟩
theorem stp_split : ∀ {l m : List CT} {cs : List Value}, stp (l ++ m) M w cs → ∃ a b, cs = a ++ b ∧ stp l M w a ∧ stp m M w b
 | [], _, cs, h => ⟨[], cs, rfl, rfl, h⟩
 | c :: r, _, _, ⟨a, b, e, h1, h2⟩ => let ⟨x, y, e2, h3, h4⟩ := stp_split h2; ⟨a ++ x, y, by rw [e, e2, List.append_assoc], ⟨a, x, rfl, h1, h3⟩, h4⟩
theorem iC : ∀ {l : List CT} {cs : List Value} {i : Nat} {c : CT}, stp l M w cs → l[i]? = some c → c.p M w ((cs.drop (szs (l.take i))).take c.sz)
 | [], _, _, _, _, h => by simp at h
 | d :: r, _, 0, c, ⟨a, b, e, h1, h2⟩, h => by
  simp at h; subst h
  show d.p M w (_)
  rw [show szs ((d :: r).take 0) = 0 from rfl, e, List.drop_zero, ← d.len h1, List.take_left]
  exact h1
 | d :: r, _, i + 1, c, ⟨a, b, e, h1, h2⟩, h => by
  have := iC h2 (by simpa using h)
  rw [show szs ((d :: r).take (i + 1)) = d.sz + szs (r.take i) from rfl, e, ← d.len h1, ← List.drop_drop, List.drop_left]
  exact this
end
def st (l : List CT) : CT := ⟨szs l, stp l, dX, stp_one, qS⟩
def eZ (k : Nat) (l : List CT) : Prop := ∀ c ∈ l, c.sz = k
theorem szs_all {k : Nat} : ∀ {l : List CT}, eZ k l → szs l = l.length * k
 | [], _ => by simp [szs]
 | c :: r, h => by rw [szs, h c (by simp), szs_all (l := r) fun d hd => h d (by simp [hd]), List.length_cons, Nat.succ_mul]; omega
theorem szs_take {k i : Nat} {l : List CT} (h : eZ k l) (hi : i ≤ l.length) : szs (l.take i) = i * k := by
 rw [szs_all (k := k) fun d hd => h d (List.mem_of_mem_take hd), List.length_take, Nat.min_eq_left hi]
def sl (k : Nat) (l : List CT) : CT where
 sz := 1
 p M w cs := ∃ v us, cs = [v] ∧ Slc M w k v l.length us ∧ stp l M w us ∧ eZ k l
 len h := by obtain ⟨v, us, e, _⟩ := h; rw [e]; rfl
 one h u hu := by obtain ⟨v, us, e, ⟨_, _, ad, cap, rfl, _⟩, _⟩ := h; rw [e] at hu; rw [List.mem_singleton.1 hu]; rfl
 mono h k := by obtain ⟨v, us, e, h1, h2, h3⟩ := h; exact ⟨v, us, e, h1.cl k, qS h2 k, h3⟩
structure PV where
 p : (Nat → Prop) → World → Value → Prop
 mono : ∀ {M M' w w' v}, p M w v → Cl M w M' w' → p M' w' v
def exP (v : Value) : PV := ⟨fun _ _ u => u = v, fun h _ => h⟩
def sv (c : CT) : PV := ⟨fun M w v => c.p M w [v], fun h k => c.mono h k⟩
def ag (c : CT) : PV := ⟨fun M w v => ∃ us : List Value, v = .agg us.toArray ∧ c.p M w us, fun h k => let ⟨us, e, h⟩ := h; ⟨us, e, c.mono h k⟩⟩
def pa (c : CT) : PV := ⟨fun M w v => ∃ b o us, v = .pointer (some ⟨b, o, none⟩) ∧ ¬ M b ∧ Seg w b o us ∧ c.p M w us,
 fun ⟨b, o, us, e, h1, h2, h3⟩ k => let h := h2.cl k h1; ⟨b, o, us, e, h.1, h.2, c.mono h3 k⟩⟩
def Fa : List PV → (Nat → Prop) → World → List Value → Prop
 | [], _, _, vs => vs = []
 | τ :: τs, M, w, vs => ∃ v us, vs = v :: us ∧ τ.p M w v ∧ Fa τs M w us
theorem Fa.mono {M M' : Nat → Prop} {w w' : World} : ∀ {τs : List PV} {vs : List Value}, Fa τs M w vs → Cl M w M' w' → Fa τs M' w' vs
 | [], _, h, _ => h
 | τ :: τs, _, ⟨v, us, e, h1, h2⟩, k => ⟨v, us, e, τ.mono h1 k, Fa.mono h2 k⟩
theorem Fa.len {M : Nat → Prop} {w : World} : ∀ {τs : List PV} {vs : List Value}, Fa τs M w vs → vs.length = τs.length
 | [], _, h => by rw [show _ = [] from h]; rfl
 | τ :: τs, _, ⟨v, us, e, h1, h2⟩ => by rw [e]; simp [Fa.len h2]
def tu (l : List PV) : PV := ⟨fun M w v => ∃ vs : List Value, v = .tuple vs.toArray ∧ Fa l M w vs, fun h k => let ⟨us, e, h⟩ := h; ⟨us, e, h.mono k⟩⟩
def PSub (Ψ Φ : PV) : Prop := ∀ M w v, Ψ.p M w v → Φ.p M w v
theorem PSub.refl (Ψ : PV) : PSub Ψ Ψ := fun _ _ _ h => h
abbrev TE := List (Nat × Prop × PV)
def tf : TE → Nat → Option (Prop × PV)
 | [], _ => none
 | (k, q) :: Γ, i => bif Nat.beq k i then some q else tf Γ i
def tv (Γ : TE) : Operand → Option (Prop × PV)
 | .tmp t => tf Γ t
 | .const v => some (True, exP v)
 | .global g => some (True, exP (.pointer (some ⟨g, 0, none⟩)))
 | .func f => some (True, exP (.func (.func f) #[] #[]))
def Tok (q : Prop × PV) (M : Nat → Prop) (E : Env) (w : World) (s : Nat) : Prop := (q.1 → ∃ v, get E s = some v ∧ q.2.p M w v) ∧ (¬ q.1 → get E s = some undef)
def Tm (Γ : TE) (ss : List Nat) (M : Nat → Prop) (E : Env) (w : World) : Prop := ∀ s ∈ ss, ∀ q, tf Γ s = some q → Tok q M E w s
def TM (Γ : TE) (M : Nat → Prop) (E : Env) (w : World) : Prop := ∀ s q, tf Γ s = some q → Tok q M E w s
section
variable {M M' : Nat → Prop} {w w' : World} {E : Env} {Γ : TE}
theorem Tok.mono {q : Prop × PV} {s : Nat} (h : Tok q M E w s) (k : Cl M w M' w') : Tok q M' E w' s := ⟨fun c => let ⟨v, h1, h2⟩ := h.1 c; ⟨v, h1, q.2.mono h2 k⟩, h.2⟩
theorem TM.mono (h : TM Γ M E w) (k : Cl M w M' w') : TM Γ M' E w' := fun s q hs => (h s q hs).mono k
theorem TM.tm (h : TM Γ M E w) (ss : List Nat) : Tm Γ ss M E w := fun s _ q hs => h s q hs
theorem TM.put {d : Nat} {v : Value} {q : Prop × PV} (h : TM Γ M E w) (hv : q.1 → q.2.p M w v) (hu : ¬ q.1 → v = undef) : TM ((d, q) :: Γ) M ((d, v) :: E) w := fun s r hs => by
 unfold tf at hs
 cases hb : Nat.beq d s with
 | true =>
  rw [hb] at hs
  obtain rfl := Option.some.inj hs
  exact ⟨fun c => ⟨v, uR hb, hv c⟩, fun c => by rw [uR hb, hu c]⟩
 | false =>
  rw [hb] at hs
  have := h s r hs
  exact ⟨fun c => by rw [dO hb]; exact this.1 c, fun c => by rw [dO hb]; exact this.2 c⟩
theorem tm_ev {ss : List Nat} {x : Operand} {q : Prop} {Ψ : PV} (h : Tm Γ ss M E w) (hx : tv Γ x = some (q, Ψ)) (hs : ∀ t, x = .tmp t → t ∈ ss) (hq : q) : ∃ v, ev E x = some v ∧ Ψ.p M w v := by
 cases x with
 | tmp t => exact (h t (hs t rfl) _ hx).1 hq
 | const u => obtain ⟨rfl, rfl⟩ := Prod.mk.inj (Option.some.inj hx); exact ⟨u, rfl, rfl⟩
 | global g => obtain ⟨rfl, rfl⟩ := Prod.mk.inj (Option.some.inj hx); exact ⟨_, rfl, rfl⟩
 | func f => obtain ⟨rfl, rfl⟩ := Prod.mk.inj (Option.some.inj hx); exact ⟨_, rfl, rfl⟩
end
class Im (p q : Prop) : Prop where h : p → q
instance {p : Prop} : Im p True := ⟨fun _ => trivial⟩
instance {p : Prop} : Im p p := ⟨id⟩
inductive Ow where
 | blk (b : Nat) (ty : TypeId) (cs : List CT)
 | row (v : Value) (ty : TypeId) (k : Nat) (l : List CT)
def Ow.bk : Ow → Option Nat
 | .blk b _ _ => some b
 | .row v _ _ _ => v.ownBlock
def Ow.ok (M : Nat → Prop) (w : World) : Ow → Prop
 | .blk b ty cs => ∃ us, Blk w b ty us ∧ stp cs M w us
 | .row v ty k l => ∃ us, w.ownsRow 0 ty k v l.length us ∧ stp l M w us ∧ eZ k l
def Mk (S : List Ow) (M0 : Nat → Prop) : Nat → Prop := fun k => (∃ o ∈ S, o.bk = some k) ∨ M0 k
structure Gd (M : Nat → Prop) (S : List Ow) (w : World) : Prop where
 ok : OkM M w
 tab : Tab M w
 own : ∀ o ∈ S, o.ok M w
theorem Ow.ok_mono {M M' : Nat → Prop} {w w' : World} {o : Ow} (h : o.ok M w) (k : Cl M w M' w') (hb : ∀ b, o.bk = some b → b < w.heap.size → w'.heap[b]? = w.heap[b]?) : o.ok M' w' := by
 cases o with
 | blk b ty cs => obtain ⟨us, h1, h2⟩ := h; exact ⟨us, (hb b rfl h1.lt).trans h1, qS h2 k⟩
 | row v ty sz l =>
  obtain ⟨us, h1, h2, h3⟩ := h
  refine ⟨us, ?_, qS h2 k, h3⟩
  obtain ⟨g1, g2 | ⟨g, cap, cur, rfl, g4, g5, g6⟩⟩ := h1
  ·exact ⟨g1, .inl g2⟩
  ·exact ⟨g1, .inr ⟨g, cap, cur, rfl, g4, (hb g rfl (Array.getElem?_eq_some_iff.1 g5).1).trans g5, g6⟩⟩
theorem Gd.bel {M : Nat → Prop} {S : List Ow} {w w' : World} (h : Gd M S w) (hb : Bel w.heap.size w w') : Gd M S w' :=
 ⟨fun k hk => Nat.lt_of_lt_of_le (h.ok k hk) hb.size, h.tab.cl (Cl.bel hb), fun o ho => Ow.ok_mono (h.own o ho) (Cl.bel hb) fun b _ hlt => hb.block b hlt⟩
def Apt : List Ow → Prop
 | [] => True
 | o :: S => (∀ b, o.bk = some b → ∀ p ∈ S, p.bk ≠ some b) ∧ Apt S
structure Cx where
 M : Nat → Prop
 w : World
 z : Nat → Prop
structure BZ (X : Cx) (w' : World) : Prop where
 os : w'.os = X.w.os
 tape : Tp X.w w'
 output : w'.output = X.w.output
 size : X.w.heap.size ≤ w'.heap.size
 block : ∀ k, k < X.w.heap.size → ¬ X.z k → w'.heap[k]? = X.w.heap[k]?
theorem BZ.bel {X : Cx} {w w' : World} (h : BZ X w) (k : Rb w w') : BZ X w' :=
 ⟨k.os.trans h.os, k.tape.trans h.tape, k.output.trans h.output, Nat.le_trans h.size k.size, fun i hi hz => (k.block i (Nat.lt_of_lt_of_le hi h.size)).trans (h.block i hi hz)⟩
structure St (X : Cx) (Γ : TE) (S : List Ow) (E : Env) (w : World) : Prop where
 bel : BZ X w
 gd : Gd (Mk S X.M) S w
 new : ∀ o ∈ S, ∀ b, o.bk = some b → X.w.heap.size ≤ b ∨ X.z b
 apt : Apt S
 ok0 : OkM X.M X.w
 zm : ∀ b, X.z b → ¬ X.M b
 tm : TM Γ (Mk S X.M) E w
abbrev TK := TE → List Ow → Prop
def lf (X : Cx) (K : TK) (D : List Deferred) : Pd := fun D' E w => D' = D ∧ ∃ Γ S, K Γ S ∧ St X Γ S E w
def okN (N : Nat) (l : List Oper) : Bool := l.all fun o => match o.dst with | some d => Nat.blt d N | none => true
section
variable {X : Cx} {w w' : World} {Γ : TE} {S : List Ow} {E : Env}
theorem St.pure (h : St X Γ S E w) (hb : Rb w w') : St X Γ S E w' :=
 ⟨h.bel.bel hb, h.gd.bel hb, h.new, h.apt, h.ok0, h.zm, h.tm.mono (Cl.bel hb)⟩
theorem St.put (h : St X Γ S E w) (hb : Rb w w') {d : Nat} {q : Prop × PV} {v : Value} (hv : q.1 → q.2.p (Mk S X.M) w' v) (hu : ¬ q.1 → v = undef) : St X ((d, q) :: Γ) S ((d, v) :: E) w' :=
 let k := h.pure hb; ⟨k.bel, k.gd, k.new, k.apt, k.ok0, k.zm, k.tm.put hv hu⟩
end
section
variable (P : Program) (r : Option Nat) (N : Nat)
def TW (X : Cx) (c : Code) (Kn : TK) (Ke : Nat → TK) (Kr : TK) : TK := fun Γ S =>
 ∀ D E w, St X Γ S E w → Wp P r N c (lf X Kn D) (fun i => lf X (Ke i) D) (lf X Kr D) D E w
def TO (ops : Array Oper) (X : Cx) (K : TK) (l : List Oper) : TK := fun Γ S =>
 okN N l = true → ∀ D E w, St X Γ S E w → Ops P r N ops (lf X K D) l D E w
def Ob (ops : Array Oper) (M : Nat → Prop) (S : List Ow) (p : Prop) (o : Oper) (Γ : TE) (Ψ : PV) : Prop :=
 ∀ (D : List Deferred) (E : Env) (w : World) (d : Nat), o.dst = some d → Nat.blt d N = true → Gd M S w → p → Tm Γ (xP ops o) M E w →
  Ops P r N ops (fun D' E' w' => D' = D ∧ Rb w w' ∧ ∃ v, get E' d = some v ∧ Ψ.p M w' v) [o] D E w
def O2 (ops : Array Oper) (M : Nat → Prop) (S : List Ow) (o : Oper) (Γ : TE) (q : Prop × PV) : Prop :=
 ∀ (D : List Deferred) (E : Env) (w : World) (d : Nat), o.dst = some d → Nat.blt d N = true → Gd M S w → Tm Γ (xP ops o) M E w →
  Ops P r N ops (fun D' E' w' => D' = D ∧ Rb w w' ∧ ∃ v, get E' d = some v ∧ (q.1 → q.2.p M w' v) ∧ (¬ q.1 → v = undef)) [o] D E w
def TD (ops : Array Oper) (S : List Ow) (F : TE → Prop) : List Oper → TE → Prop
 | [], Γ => F Γ
 | o :: l, Γ => ∃ d q, o.dst = some d ∧ (∀ M, O2 P r N ops M S o Γ q) ∧ TD ops S F l ((d, q) :: Γ)
end
def updT (Ke : Nat → TK) (id : Nat) (K : TK) : Nat → TK := fun i => bif Nat.beq i id then K else Ke i
class Tr (q : Prop) : Prop where h : q
instance : Tr True := ⟨trivial⟩
instance {p q : Prop} [hp : Tr p] [hq : Tr q] : Tr (p ∧ q) := ⟨⟨hp.h, hq.h⟩⟩
instance {p q : Prop} [hp : Tr q] : Im p q := ⟨fun _ => hp.h⟩
instance {p a b : Prop} [ha : Im p a] [hb : Im p b] : Im p (a ∧ b) := ⟨fun h => ⟨ha.h h, hb.h h⟩⟩
instance {a b c : Prop} [h : Im a c] : Im (a ∧ b) c := ⟨fun k => h.h k.1⟩
instance {a b : Prop} : Im (a ∧ b) b := ⟨fun k => k.2⟩
class VB (Ψ : PV) (b : outParam Bool) : Prop where h : ∀ {M w v}, Ψ.p M w v → v = .bool b
instance {b : Bool} : VB (exP (.bool b)) b := ⟨id⟩
class VI (Ψ : PV) (k : outParam IntKind) (a : outParam Int) : Prop where h : ∀ {M w v}, Ψ.p M w v → v = .int k a
instance {k : IntKind} {a : Int} : VI (exP (.int k a)) k a := ⟨id⟩
def Ts (X : Cx) (Γ : TE) (S : List Ow) (Γ' : TE) (S' : List Ow) : Prop := ∀ E w, St X Γ S E w → St X Γ' S' E w
theorem aP {Γ : TE} {M : Nat → Prop} {E : Env} {w : World} {ops : Array Oper} {o : Oper} {x : Operand} {p q : Prop} {Ψ : PV} (h : Tm Γ (xP ops o) M E w) (hx : tv Γ x = some (q, Ψ)) [hi : Im p q] (hp : p) (hm : x ∈ o.op.operands.toList) : ∃ v, ev E x = some v ∧ Ψ.p M w v :=
 tm_ev h hx (fun t e => by
  subst e
  unfold xP
  exact List.mem_append_left _ (List.mem_filterMap.2 ⟨_, hm, rfl⟩)) (hi.h hp)
section rules
variable {P : Program} {r : Option Nat} {N : Nat} {X : Cx} {Kn Kr : TK} {Ke : Nat → TK} {Γ : TE} {S : List Ow} {ops : Array Oper}
theorem wp_kn {c : Code} {K K' Kr : Pd} {Ke Ke' : Nat → Pd} {D : List Deferred} {E : Env} {w : World} (h : Wp P r N c K Ke Kr D E w) (hk : ∀ D E w, K D E w → K' D E w) (he : ∀ i D E w, Ke i D E w → Ke' i D E w) : Wp P r N c K' Ke' Kr D E w := by
 intro a ha hd
 refine wpIn_mono (h a ha hd) fun e a' w' hq => ?_
 cases e with
 | normal => obtain ⟨E', h1, h2⟩ := hq; exact ⟨E', h1, hk _ _ _ h2⟩
 | exit id => obtain ⟨E', h1, h2⟩ := hq; exact ⟨E', h1, he _ _ _ _ h2⟩
 | ret => exact hq
 | goto l => exact hq
 | panic c => exact hq
 | outgrown => exact hq
theorem yI {x y : Code} (h : TW P r N X x (TW P r N X y Kn Ke Kr) Ke Kr Γ S) : TW P r N X (.seq x y) Kn Ke Kr Γ S := fun D E w hs =>
 zG (wp_cut (h D E w hs) fun D' E' w' ⟨h1, Γ', S', h2, h3⟩ => by subst h1; exact h2 D' E' w' h3)
theorem gX (h : Kn Γ S) : TW P r N X .skip Kn Ke Kr Γ S := fun D E w hs => yG ⟨rfl, _, _, h, hs⟩
theorem gQ (h : Kr Γ S) : TW P r N X .ret Kn Ke Kr Γ S := fun D E w hs => zR ⟨rfl, _, _, h, hs⟩
theorem bW {id : Nat} (h : Ke id Γ S) : TW P r N X (.exit id) Kn Ke Kr Γ S := fun D E w hs => xK ⟨rfl, _, _, h, hs⟩
theorem gS {id : Nat} {c : Code} (h : TW P r N X c Kn (updT Ke id Kn) Kr Γ S) : TW P r N X (.block id c) Kn Ke Kr Γ S := fun D E w hs =>
 zZ (wp_kn (h D E w hs) (fun _ _ _ h => h) fun i D' E' w' h => by
  unfold upd
  cases hb : Nat.beq i id with
  | true => obtain rfl := Nat.eq_of_beq_eq_true hb; rw [if_pos rfl]; simpa [updT] using h
  | false => rw [if_neg (Nat.ne_of_beq_eq_false hb)]; simpa [updT, hb] using h)
theorem t_scope {c : Code} (h : TW P r N X c Kn Ke Kr Γ S) : TW P r N X (.scope c) Kn Ke Kr Γ S := fun D E w hs => dC (h D E w hs)
theorem t_label {l : Nat} (h : Kn Γ S) : TW P r N X (.label l) Kn Ke Kr Γ S := fun D E w hs => dE ⟨rfl, _, _, h, hs⟩
theorem eI {c : Code} {Γ' : TE} {S' : List Ow} (hs : Ts X Γ S Γ' S') (h : TW P r N X c Kn Ke Kr Γ' S') : TW P r N X c Kn Ke Kr Γ S := fun D E w h1 => h D E w (hs E w h1)
theorem iN {E : Env} {w : World} {x : Operand} {q : Prop} {Ψ : PV} (hs : St X Γ S E w) (hx : tv Γ x = some (q, Ψ)) [hq : Tr q] : ∃ v, ev E x = some v ∧ Ψ.p (Mk S X.M) w v := by
 cases x with
 | tmp t => exact (hs.tm t _ hx).1 hq.h
 | const u => obtain ⟨rfl, rfl⟩ := Prod.mk.inj (Option.some.inj hx); exact ⟨u, rfl, rfl⟩
 | global g => obtain ⟨rfl, rfl⟩ := Prod.mk.inj (Option.some.inj hx); exact ⟨_, rfl, rfl⟩
 | func f => obtain ⟨rfl, rfl⟩ := Prod.mk.inj (Option.some.inj hx); exact ⟨_, rfl, rfl⟩
theorem aM {c : Operand} {x y : Code} {q : Prop} {Ψ : PV} {b : Bool} (hx : tv Γ c = some (q, Ψ)) [Tr q] [hb : VB Ψ b] (ht : Tr (b = true) → TW P r N X x Kn Ke Kr Γ S) (hf : Tr (b = false) → TW P r N X y Kn Ke Kr Γ S) :
  TW P r N X (.cond c x y) Kn Ke Kr Γ S := fun D E w hs => by
 obtain ⟨v, h1, h2⟩ := iN hs hx
 obtain rfl := hb.h h2
 exact qC h1 (fun e => ht ⟨e⟩ D E w hs) (fun e => hf ⟨e⟩ D E w hs)
theorem yX {id : Nat} {l : List Oper} (hN : okN N l = true) (h : TO P r N l.toArray X Kn l Γ S) : TW P r N X (.region id l.toArray false) Kn Ke Kr Γ S := fun D E w hs => zB (h hN D E w hs)
theorem wp_loopI {σ : Type} {body : Code} {Kn Kr : Pd} {Ke : Nat → Pd} {D : List Deferred} {E : Env} {w : World} (I : σ → Pd) (μ : σ → Nat) (s0 : σ) (hI : I s0 D E w)
  (round : ∀ s D E w, I s D E w → Wp P r N body (fun D' E' w' => ∃ s', I s' D' E' w' ∧ μ s' < μ s) Ke Kr D E w) : Wp P r N (.loop body) Kn Ke Kr D E w := by
 intro a ha hd
 have least : ∀ (p : Nat → Prop), (∃ j, p j) → ∃ j, p j ∧ ∀ k, p k → j ≤ k := by
  rintro p ⟨j, hj⟩
  induction j using Nat.strongRecOn with
  | _ j ih =>
   by_cases hm : ∃ k, k < j ∧ p k
   ·obtain ⟨k, hk, hs⟩ := hm; exact ih k hk hs
   ·refine ⟨j, hj, fun k hk => ?_⟩
    rcases Nat.lt_or_ge k j with h | h
    ·exact absurd ⟨k, h, hk⟩ hm
    ·exact h
 refine wpIn_loop (fun a' w' => ∃ j s E, μ s = j ∧ Has a' N E ∧ I s a'.defers E w') (fun a' w' => Classical.epsilon fun j => (∃ s E, μ s = j ∧ Has a' N E ∧ I s a'.defers E w') ∧ ∀ k, (∃ s E, μ s = k ∧ Has a' N E ∧ I s a'.defers E w') → j ≤ k) ⟨_, s0, E, rfl, ha, by rw [hd]; exact hI⟩ ?_
 intro a1 w1 hI1
 obtain ⟨⟨s, E1, hs, hE1, hJ1⟩, hmin⟩ := Classical.epsilon_spec (least _ hI1)
 refine wpIn_mono (round s _ E1 w1 hJ1 a1 hE1 rfl) ?_
 intro e a2 w2 hq
 cases e with
 | normal =>
  obtain ⟨E', hE', s', hJ', hlt⟩ := hq
  have h2 : ∃ s E, μ s = μ s' ∧ Has a2 N E ∧ I s a2.defers E w2 := ⟨s', E', rfl, hE', hJ'⟩
  refine ⟨⟨_, h2⟩, ?_⟩
  have hsp2 := Classical.epsilon_spec (least (fun j => ∃ s E, μ s = j ∧ Has a2 N E ∧ I s a2.defers E w2) ⟨_, h2⟩)
  exact Nat.lt_of_le_of_lt (hsp2.2 _ h2) (by rw [← hs]; exact hlt)
 | exit id => exact hq
 | ret => exact hq
 | goto l => exact hq
 | panic c => exact hq
 | outgrown => exact hq
theorem cP {σ : Type} {body : Code} (Γi : σ → TE) (Si : σ → List Ow) (J : σ → Prop) (μ : σ → Nat) (s0 : σ) (h0 : Ts X Γ S (Γi s0) (Si s0)) (hJ : J s0)
  (round : ∀ s, J s → TW P r N X body (fun Γ' S' => ∃ s', Ts X Γ' S' (Γi s') (Si s') ∧ J s' ∧ μ s' < μ s) Ke Kr (Γi s) (Si s)) : TW P r N X (.loop body) Kn Ke Kr Γ S := fun D E w hs => by
 refine wp_loopI (fun s D' E' w' => D' = D ∧ J s ∧ St X (Γi s) (Si s) E' w') μ s0 ⟨rfl, hJ, h0 E w hs⟩ fun s D' E' w' ⟨hD, h1, h2⟩ => ?_
 subst hD
 exact wp_cut (round s h1 D' E' w' h2) fun D2 E2 w2 ⟨e, Γ2, S2, ⟨s', k1, k2, k3⟩, k4⟩ => ⟨s', ⟨e, k2, k1 _ _ k4⟩, k3⟩
end rules
section ops
variable {P : Program} {r : Option Nat} {N : Nat} {X : Cx} {K : TK} {Γ : TE} {S : List Ow} {ops : Array Oper} {M : Nat → Prop}
theorem iE (h : K Γ S) : TO P r N ops X K [] Γ S := fun _ D E w hs => zD ⟨rfl, _, _, h, hs⟩
theorem o_of {o : Oper} {Ψ : PV} (h : Ob P r N ops M S True o Γ Ψ) : O2 P r N ops M S o Γ (True, Ψ) := fun D E w d hd hN hg hT a Q ha hD hk =>
 h D E w d hd hN hg trivial hT a Q ha hD fun a' w' E' h1 ⟨h2, h3, v, h4, h5⟩ => hk a' w' E' h1 ⟨h2, h3, v, h4, fun _ => h5, fun c => absurd trivial c⟩
theorem ops_guard_n {D : List Deferred} {E : Env} {w : World} {K : Pd} {rest : List Oper} {d : Nat} {op : Op} {t : TypeId} {pos : String} {af : Array Edge} {j dj : Nat} {b : Bool} (hd : Nat.blt d N = true) (hj : (ops[j]?).bind (·.dst) = some dj) (hv : get E dj = some undef)
  (h : Ops P r N ops K rest D ((d, undef) :: E) w) : Ops P r N ops K (⟨some d, op, t, pos, af, some (j, b)⟩ :: rest) D E w := by
 intro a Q ha hD hk
 have h1 := h (a.put (some d) undef) Q (ha.put hd undef) hD hk
 have hy : yielded ops a.tmps j = none := by simp [yielded, hj, ha.at_ dj _ hv, undef]
 unfold wpListIn
 simp only [Region.wanted, hy]
 rw [if_neg (by simp)]
 exact ⟨fun _ _ => trivial, h1⟩
theorem og {d : Nat} {op : Op} {t : TypeId} {pos : String} {af : Array Edge} {j dj : Nat} {b γ : Bool} {q : Prop} {Φ Ψ : PV} (hj : (ops[j]?).bind (·.dst) = some dj) (hΓ : tf Γ dj = some (q, Φ)) [hb : VB Φ γ] (h : Ob P r N ops M S (q ∧ γ = b) ⟨some d, op, t, pos, af, none⟩ Γ Ψ) :
  O2 P r N ops M S ⟨some d, op, t, pos, af, some (j, b)⟩ Γ (q ∧ γ = b, Ψ) := fun D E w d' hd hN hg hT => by
 obtain rfl := Option.some.inj hd
 have hjs : dj ∈ xP ops ⟨some d, op, t, pos, af, some (j, b)⟩ := by unfold xP; simp only [hj]; exact List.mem_append_right _ (by simp)
 have hT' : Tm Γ (xP ops ⟨some d, op, t, pos, af, none⟩) M E w := fun s hs => hT s (by unfold xP at hs ⊢; exact List.mem_append_left _ (by simpa using hs))
 have hk := hT dj hjs _ hΓ
 by_cases hq : q
 ·obtain ⟨v, h1, h2⟩ := hk.1 hq
  obtain rfl := hb.h h2
  by_cases hγ : γ = b
  ·subst hγ
   refine yA hj h1 fun a Q ha hD hk => h D E w d rfl hN hg ⟨hq, rfl⟩ hT' a Q ha hD fun a' w' E' k1 ⟨k2, k3, v, k4, k5⟩ => hk a' w' E' k1 ⟨k2, k3, v, k4, fun _ => k5, fun c => absurd ⟨hq, rfl⟩ c⟩
  ·exact zY hN hj h1 (by simpa using hγ) (zD ⟨rfl, xD _, undef, uR (by simp), fun c => absurd c.2 hγ, fun _ => rfl⟩)
 ·exact ops_guard_n hN hj (hk.2 hq) (zD ⟨rfl, xD _, undef, uR (by simp), fun c => absurd c.1 hq, fun _ => rfl⟩)
theorem ops_then {D : List Deferred} {E : Env} {w : World} {K : Pd} {rest : List Oper} {o : Oper} {d : Nat} {Q : Value → World → Prop} (ho : o.dst = some d) (hd : Nat.blt d N = true)
  (h1 : Ops P r N ops (fun D' E' w' => D' = D ∧ Rb w w' ∧ ∃ v, get E' d = some v ∧ Q v w') [o] D E w) (h2 : ∀ v w', Rb w w' → Q v w' → Ops P r N ops K rest D ((d, v) :: E) w') :
  Ops P r N ops K (o :: rest) D E w := by
 intro a Qx ha hD hk
 have h3 := h1 a (fun e a' w' => match e with | .normal => a'.defers = D ∧ Rb w w' ∧ ∃ E', Has a' N E' ∧ ∃ v, get E' d = some v ∧ Q v w' | e => Qx e a' w') ha hD (fun a' w' E' h4 h5 => ⟨h5.1, h5.2.1, E', h4, h5.2.2⟩)
 have key : ∀ (a' : Act) (w' : World), (a'.defers = D ∧ Rb w w' ∧ ∃ E', Has a' N E' ∧ ∃ v, get E' d = some v ∧ Q v w') → (∃ v, a'.tmps = (a.put o.dst v).tmps) → wpListIn (Fr r) 0 P ops Qx rest a' w' := by
  rintro a' w' ⟨g1, g2, E', g3, v, g4, g5⟩ ⟨u, g6⟩
  have hp := (ha.put hd u)
  rw [ho] at g6
  have e1 := g3.at_ d v g4
  have e2 := hp.at_ d u (uR (by simp))
  rw [g6] at e1
  rw [e2] at e1
  obtain rfl := Option.some.inj e1
  exact h2 u w' g2 g5 a' Qx ⟨by rw [g6]; exact hp.size, fun i x hi => by rw [g6]; exact hp.at_ i x hi⟩ g1 hk
 unfold wpListIn at h3 ⊢
 split
 ·rename_i hw
  rw [if_pos hw] at h3
  exact wpIn_frame h3 (fun a' w' hk' hf => key a' w' hk' hf) (fun c a w h => h) (fun h => h)
 ·rename_i hw
  rw [if_neg hw] at h3
  exact ⟨fun _ _ => trivial, key _ _ h3.2 ⟨_, rfl⟩⟩
theorem lV {o : Oper} {d : Nat} {q : Prop × PV} {l : List Oper} (hd : o.dst = some d) (h1 : O2 P r N ops (Mk S X.M) S o Γ q) (h2 : TO P r N ops X K l ((d, q) :: Γ) S) : TO P r N ops X K (o :: l) Γ S := fun hN D E w hs => by
 unfold okN at hN
 simp only [List.all_cons, Bool.and_eq_true] at hN
 have hdN : Nat.blt d N = true := by have := hN.1; rw [hd] at this; exact this
 exact ops_then hd hdN (h1 D E w d hd hdN hs.gd (hs.tm.tm _)) fun v w' hr ⟨hv, hu⟩ => h2 hN.2 D _ w' (hs.put hr hv hu)
theorem iM {d : Nat} {op : Op} {t : TypeId} {pos : String} {af : Array Edge} {Ψ : PV} {l : List Oper} (h1 : Ob P r N ops (Mk S X.M) S True ⟨some d, op, t, pos, af, none⟩ Γ Ψ) (h2 : TO P r N ops X K l ((d, True, Ψ) :: Γ) S) : TO P r N ops X K (⟨some d, op, t, pos, af, none⟩ :: l) Γ S :=
 lV rfl (o_of h1) h2
theorem t1g {d : Nat} {op : Op} {t : TypeId} {pos : String} {af : Array Edge} {j dj : Nat} {b γ : Bool} {q : Prop} {Φ Ψ : PV} {l : List Oper} (hj : (ops[j]?).bind (·.dst) = some dj) (hΓ : tf Γ dj = some (q, Φ)) [hb : VB Φ γ]
  (h1 : Ob P r N ops (Mk S X.M) S (q ∧ γ = b) ⟨some d, op, t, pos, af, none⟩ Γ Ψ) (h2 : TO P r N ops X K l ((d, q ∧ γ = b, Ψ) :: Γ) S) : TO P r N ops X K (⟨some d, op, t, pos, af, some (j, b)⟩ :: l) Γ S :=
 lV rfl (og hj hΓ h1) h2
variable {F : TE → Prop}
theorem d0 (h : F Γ) : TD P r N ops S F [] Γ := h
theorem d1 {d : Nat} {op : Op} {t : TypeId} {pos : String} {af : Array Edge} {Ψ : PV} {l : List Oper} (h1 : ∀ {M}, Ob P r N ops M S True ⟨some d, op, t, pos, af, none⟩ Γ Ψ) (h2 : TD P r N ops S F l ((d, True, Ψ) :: Γ)) : TD P r N ops S F (⟨some d, op, t, pos, af, none⟩ :: l) Γ :=
 ⟨d, _, rfl, fun _ => o_of h1, h2⟩
theorem d1g {d : Nat} {op : Op} {t : TypeId} {pos : String} {af : Array Edge} {j dj : Nat} {b γ : Bool} {q : Prop} {Φ Ψ : PV} {l : List Oper} (hj : (ops[j]?).bind (·.dst) = some dj) (hΓ : tf Γ dj = some (q, Φ)) [hb : VB Φ γ]
  (h1 : ∀ {M}, Ob P r N ops M S (q ∧ γ = b) ⟨some d, op, t, pos, af, none⟩ Γ Ψ) (h2 : TD P r N ops S F l ((d, q ∧ γ = b, Ψ) :: Γ)) : TD P r N ops S F (⟨some d, op, t, pos, af, some (j, b)⟩ :: l) Γ :=
 ⟨d, _, rfl, fun _ => og hj hΓ h1, h2⟩
end ops
theorem dH {s : Nat} : ∀ {l Γ : TE}, tf (l ++ Γ) s = (match tf l s with | some q => some q | none => tf Γ s)
 | [], Γ => rfl
 | (k, q) :: l, Γ => by
  show (bif Nat.beq k s then some q else tf (l ++ Γ) s) = (match (bif Nat.beq k s then some q else tf l s) with | some q => some q | none => tf Γ s)
  cases Nat.beq k s with
  | true => rfl
  | false => exact dH (l := l) (Γ := Γ)
theorem tf_mem : ∀ {Γ : TE} {s : Nat} {q : Prop × PV}, tf Γ s = some q → s ∈ Γ.map (·.1)
 | [], s, q, h => by simp [tf] at h
 | (k, Φ) :: Γ, s, q, h => by
  unfold tf at h
  cases hb : Nat.beq k s with
  | true => obtain rfl := Nat.eq_of_beq_eq_true hb; simp
  | false => rw [hb] at h; exact List.mem_cons_of_mem _ (tf_mem h)
section
variable {P : Program} {r : Option Nat} {N : Nat} {ops : Array Oper} {D : List Deferred} {E : Env} {w : World}
theorem tok_hit {q : Prop × PV} {M : Nat → Prop} {F : Env} {s : Nat} {v : Value} (h : get F s = some v) (hv : (q.1 → q.2.p M w v) ∧ (¬ q.1 → v = undef)) : Tok q M F w s := ⟨fun c => ⟨v, h, hv.1 c⟩, fun c => by rw [h, hv.2 c]⟩
end
class TSl (P : Program) (t : TypeId) (e : outParam TypeId) (sz bytes : outParam Nat) : Prop where
 u : P.underlying t = some (.slice e)
 n : Nat.beq sz 0 = false
 s : ∃ z, Sz P e sz bytes z ∧ z.cells.size = sz
class TLd (P : Program) (t : TypeId) (a : outParam Bool) (sz : outParam Nat) : Prop where
 s : ∃ bytes z, Sz P t sz bytes z
 h : bif a then fB P t else bN P t ∧ sz = 1
class TFd (P : Program) (s : TypeId) (f : Nat) (a : outParam Bool) (off sz : outParam Nat) : Prop where
 h : ∃ fields fd bytes z, P.underlying s = some (.struct fields) ∧ fields[f]? = some fd ∧ fd.offset = off ∧ Sz P fd.type sz bytes z ∧ Nat.beq sz 0 = false ∧ bif a then fB P fd.type else bN P fd.type ∧ sz = 1
class TPl (P : Program) (t : TypeId) (szs : outParam (List Nat)) : Prop where
 h : Plc P t szs
class LdA (a : Bool) (c : CT) (Ψ : outParam PV) : Prop where
 h : ∀ {M w us}, c.p M w us → bif a then Ψ.p M w (.agg us.toArray) else ∀ v, us = [v] → Ψ.p M w v
instance {c : CT} : LdA true c (ag c) := ⟨fun h => ⟨_, rfl, h⟩⟩
instance (priority := low) {c : CT} : LdA false c (sv c) := ⟨fun h v e => by subst e; exact h⟩
instance {v : Value} : LdA false (xc v) (exP v) := ⟨fun h u e => by subst e; exact List.singleton_inj.1 h.1⟩
class CtOf (Ψ : PV) (c : outParam CT) : Prop where
 h : ∀ {M w v}, Ψ.p M w v → ∃ us : List Value, v.cells = us.toArray ∧ c.p M w us
instance {c : CT} : CtOf (ag c) c := ⟨fun ⟨us, e, h⟩ => ⟨us, by rw [e]; rfl, h⟩⟩
instance {c : CT} : CtOf (sv c) c := ⟨fun {M w v} h => ⟨[v], gF (c.one h v (by simp)), h⟩⟩
instance {b : Bool} : CtOf (exP (.bool b)) (xc (.bool b)) := ⟨fun h => ⟨[_], by rw [h]; rfl, rfl, rfl⟩⟩
instance {k : IntKind} {b : Int} : CtOf (exP (.int k b)) (xc (.int k b)) := ⟨fun h => ⟨[_], by rw [h]; rfl, rfl, rfl⟩⟩
instance {a : Option Addr} {i j : Nat} : CtOf (exP (.slice a i j)) (xc (.slice a i j)) := ⟨fun h => ⟨[_], by rw [h]; rfl, rfl, rfl⟩⟩
class CtL (l : List PV) (cs : outParam (List CT)) : Prop where
 h : ∀ {M w vs}, Fa l M w vs → ∃ uss : List (List Value), Cls vs uss ∧ stp cs M w uss.flatten ∧ uss.map List.length = cs.map CT.sz
instance : CtL [] [] := ⟨fun h => ⟨[], by rw [show _ = [] from h]; trivial, rfl, rfl⟩⟩
instance {Ψ : PV} {l : List PV} {c : CT} {cs : List CT} [h1 : CtOf Ψ c] [h2 : CtL l cs] : CtL (Ψ :: l) (c :: cs) := ⟨fun ⟨v, us, e, k1, k2⟩ => by
 obtain ⟨a, g1, g2⟩ := h1.h k1
 obtain ⟨az, g3, g4, g5⟩ := h2.h k2
 subst e
 exact ⟨a :: az, ⟨g1, g3⟩, ⟨a, _, rfl, g2, g4⟩, by simp [g5, c.len g2]⟩⟩
class VS (Ψ : PV) (k : outParam Nat) (l : outParam (List CT)) : Prop where
 h : ∀ {M w v}, Ψ.p M w v → (sl k l).p M w [v]
instance {k : Nat} {l : List CT} : VS (sv (sl k l)) k l := ⟨id⟩
class LL (l : List CT) (n : outParam Nat) : Prop where
 h : l.length = n
instance {α : Type} {f : α → CT} {xs : List α} : LL (xs.map f) xs.length := ⟨by simp⟩
instance (priority := low) {l : List CT} : LL l l.length := ⟨rfl⟩
class Df (α : Type) where
 d : α
class LA (l : List CT) (j : Nat) (c : outParam CT) : Prop where
 h : j < l.length → l[j]? = some c
instance {α : Type} [Df α] {f : α → CT} {xs : List α} {j : Nat} : LA (xs.map f) j (f (xs.getD j Df.d)) := ⟨fun h => by
 have h : j < xs.length := by simpa using h
 simp [List.getElem?_eq_getElem h]⟩
instance {c : CT} {l : List CT} : LA (c :: l) 0 c := ⟨fun _ => rfl⟩
instance {c d : CT} {l : List CT} {j : Nat} [h : LA l j d] : LA (c :: l) (j + 1) d := ⟨fun k => h.h (by simpa using k)⟩
class LP (S : List Ow) (Ψ : PV) (c : outParam CT) : Prop where
 h : ∀ {M w v}, Gd M S w → Ψ.p M w v → ∃ b o us, v = .pointer (some ⟨b, o, none⟩) ∧ (∀ (j : Nat) (u : Value), us[j]? = some u → w.cell? ⟨b, o + j, none⟩ = some u) ∧ c.p M w us
instance {S : List Ow} {c : CT} : LP S (pa c) c := ⟨fun _ ⟨b, o, us, e, _, h2, h3⟩ => ⟨b, o, us, e, fun _ _ hj => h2.cell hj, h3⟩⟩
def fV : List CT → Nat → Option CT
 | [], _ => none
 | c :: r, o => bif Nat.beq o 0 then some c else bif Nat.ble c.sz o then fV r (o - c.sz) else none
theorem atOff_at : ∀ {l : List CT} {o : Nat} {c : CT}, fV l o = some c → ∃ i, l[i]? = some c ∧ szs (l.take i) = o
 | [], o, c, h => by cases h
 | d :: r, o, c, h => by
  unfold fV at h
  cases h1 : Nat.beq o 0 with
  | true => rw [h1] at h; have := Nat.eq_of_beq_eq_true h1; exact ⟨0, h, this.symm⟩
  | false =>
   rw [h1] at h
   cases h2 : Nat.ble d.sz o with
   | false => rw [h2] at h; cases h
   | true =>
    rw [h2] at h
    have hle := Nat.le_of_ble_eq_true h2
    obtain ⟨i, k1, k2⟩ := atOff_at (l := r) h
    exact ⟨i + 1, by simpa using k1, by rw [List.take_succ_cons, szs, k2]; omega⟩
theorem eY {M : Nat → Prop} {w : World} {l : List CT} {o : Nat} {c : CT} {cs : List Value} (h : stp l M w cs) (ha : fV l o = some c) : c.p M w ((cs.drop o).take c.sz) := by
 obtain ⟨i, h1, h2⟩ := atOff_at ha
 rw [← h2]; exact iC h h1
def fn (f : FuncId) (l : List PV) : PV := ⟨fun M w v => ∃ vs : List Value, v = .func (.func f) #[] vs.toArray ∧ Fa l M w vs, fun h k => let ⟨us, e, h⟩ := h; ⟨us, e, h.mono k⟩⟩
class VF (Ψ : PV) (f : outParam FuncId) (l : outParam (List PV)) : Prop where
 h : ∀ {M w v}, Ψ.p M w v → (fn f l).p M w v
instance {f : FuncId} : VF (exP (.func (.func f) #[] #[])) f [] := ⟨fun h => ⟨[], h, rfl⟩⟩
instance {f : FuncId} {l : List PV} : VF (fn f l) f l := ⟨id⟩
structure CTy (P : Program) (f : FuncId) (τs : List PV) (ρ : PV) : Prop where
 bod : Bod P f
 run : ∀ (M : Nat → Prop) (w : World) (vs : List Value), OkM M w → Tab M w → Fa τs M w vs → CallsV P f vs w fun v w' => Rb w w' ∧ ρ.p M w' v
def tvs (Γ : TE) : List Operand → Option (Prop × List PV)
 | [] => some (True, [])
 | x :: r => match tv Γ x, tvs Γ r with
  | some (q, Ψ), some (qs, l) => some (q ∧ qs, Ψ :: l)
  | _, _ => none
theorem Fa.app {M : Nat → Prop} {w : World} : ∀ {l m : List PV} {a b : List Value}, Fa l M w a → Fa m M w b → Fa (l ++ m) M w (a ++ b)
 | [], _, _, _, h, k => by rw [show _ = [] from h]; exact k
 | τ :: l, _, _, _, ⟨v, us, e, h1, h2⟩, k => ⟨v, us ++ _, by rw [e]; rfl, h1, Fa.app h2 k⟩
theorem Fa.at_ {M : Nat → Prop} {w : World} : ∀ {l : List PV} {vs : List Value} {i : Nat} {Ψ : PV}, Fa l M w vs → l[i]? = some Ψ → ∃ v, vs[i]? = some v ∧ Ψ.p M w v
 | [], _, _, _, _, h => by simp at h
 | τ :: l, _, 0, Ψ, ⟨v, us, e, h1, h2⟩, h => by simp at h; subst h; subst e; exact ⟨v, rfl, h1⟩
 | τ :: l, _, i + 1, Ψ, ⟨v, us, e, h1, h2⟩, h => by
  subst e
  obtain ⟨u, k1, k2⟩ := Fa.at_ (l := l) (vs := us) (i := i) h2 (by simpa using h)
  exact ⟨u, by simpa using k1, k2⟩
theorem hP {Γ : TE} {M : Nat → Prop} {E : Env} {w : World} {ss : List Nat} (h : Tm Γ ss M E w) : ∀ {xs : List Operand} {q : Prop} {l : List PV}, tvs Γ xs = some (q, l) → q → (∀ x ∈ xs, ∀ t, x = .tmp t → t ∈ ss) → ∃ vs, evs E xs = some vs ∧ Fa l M w vs
 | [], q, l, hx, _, _ => by
  obtain ⟨rfl, rfl⟩ := Prod.mk.inj (Option.some.inj hx); exact ⟨[], rfl, rfl⟩
 | x :: r, q, l, hx, hq, hm => by
  unfold tvs at hx
  cases h1 : tv Γ x with
  | none => rw [h1] at hx; cases hx
  | some a =>
   obtain ⟨q1, Ψ⟩ := a
   cases h2 : tvs Γ r with
   | none => rw [h1, h2] at hx; cases hx
   | some b =>
    obtain ⟨q2, l2⟩ := b
    rw [h1, h2] at hx
    obtain ⟨rfl, rfl⟩ := Prod.mk.inj (Option.some.inj hx)
    obtain ⟨v, k1, k2⟩ := tm_ev h h1 (hm x (by simp)) hq.1
    obtain ⟨vs, k3, k4⟩ := hP h h2 hq.2 fun y hy => hm y (by simp [hy])
    exact ⟨v :: vs, by unfold evs; rw [k1, k3], v, vs, rfl, k2, k4⟩
theorem slot_in {ops : Array Oper} {o : Oper} {x : Operand} (hm : x ∈ o.op.operands.toList) : ∀ t, x = .tmp t → t ∈ xP ops o := fun t e => by
 subst e
 unfold xP
 exact List.mem_append_left _ (List.mem_filterMap.2 ⟨_, hm, rfl⟩)
class Pk (γ : Bool) (Ψ Φ : PV) (Θ : outParam PV) : Prop where
 t : γ = true → PSub Ψ Θ
 f : γ = false → PSub Φ Θ
instance {γ a : Bool} : Pk γ (exP (.bool true)) (exP (.bool a)) (exP (.bool (γ || a))) := ⟨fun e _ _ _ h => by rw [show _ = _ from h, e]; rfl, fun e _ _ _ h => by rw [show _ = _ from h, e]; rfl⟩
instance {γ a : Bool} : Pk γ (exP (.bool a)) (exP (.bool false)) (exP (.bool (γ && a))) := ⟨fun e _ _ _ h => by rw [show _ = _ from h, e]; rfl, fun e _ _ _ h => by rw [show _ = _ from h, e]; rfl⟩
instance (priority := low) {γ a b : Bool} : Pk γ (exP (.bool a)) (exP (.bool b)) (exP (.bool (bif γ then a else b))) := ⟨fun e _ _ _ h => by rw [show _ = _ from h, e]; rfl, fun e _ _ _ h => by rw [show _ = _ from h, e]; rfl⟩
instance {γ : Bool} {k : IntKind} {a b : Int} : Pk γ (exP (.int k a)) (exP (.int k b)) (exP (.int k (bif γ then a else b))) := ⟨fun e _ _ _ h => by rw [show _ = _ from h, e]; rfl, fun e _ _ _ h => by rw [show _ = _ from h, e]; rfl⟩
section ops
variable {P : Program} {r : Option Nat} {N : Nat} {ops : Array Oper} {M : Nat → Prop} {S : List Ow} {p qx qy qc q : Prop} {Γ : TE} {Ψx Ψy Ψc Ψ : PV}
variable {d : Nat} {x y c : Operand} {t t' tx ty : TypeId} {pos : String} {af : Array Edge}
theorem fin {D : List Deferred} {E : Env} {w : World} {v : Value} (h : Ψ.p M w v) : Ops P r N ops (fun D' E' w' => D' = D ∧ Rb w w' ∧ ∃ v, get E' d = some v ∧ Ψ.p M w' v) [] D ((d, v) :: E) w :=
 zD ⟨rfl, xD _, v, uR (by simp), h⟩
theorem omv (hx : tv Γ x = some (qx, Ψx)) [Im p qx] : Ob P r N ops M S p ⟨some d, .move x, t', pos, af, none⟩ Γ Ψx := fun D E w d' hd hN hg hp hT => by
 obtain rfl := Option.some.inj hd
 obtain ⟨v, e1, h1⟩ := aP hT hx hp (by simp [Op.operands])
 exact zA hN e1 (fin h1)
theorem oas (hx : tv Γ x = some (qx, Ψx)) [Im p qx] : Ob P r N ops M S p ⟨some d, .assign x, t', pos, af, none⟩ Γ Ψx := fun D E w d' hd hN hg hp hT => by
 obtain rfl := Option.some.inj hd
 obtain ⟨v, e1, h1⟩ := aP hT hx hp (by simp [Op.operands])
 exact zC hN e1 (fin h1)
theorem opk {γ : Bool} (hc : tv Γ c = some (qc, Ψc)) (hx : tv Γ x = some (qx, Ψx)) (hy : tv Γ y = some (qy, Ψy)) [Im p qc] [hb : VB Ψc γ] [h1 : Im (p ∧ γ = true) qx] [h2 : Im (p ∧ γ = false) qy] [hk : Pk γ Ψx Ψy Ψ] :
  Ob P r N ops M S p ⟨some d, .pick c x y, t', pos, af, none⟩ Γ Ψ := fun D E w d' hd hN hg hp hT => by
 obtain rfl := Option.some.inj hd
 obtain ⟨v, e1, k1⟩ := aP hT hc hp (by simp [Op.operands])
 obtain rfl := hb.h k1
 cases hγ : γ with
 | true =>
  obtain ⟨u, e2, k2⟩ := aP hT hx (And.intro hp hγ) (by simp [Op.operands])
  exact xY (b := γ) hN e1 (by rw [hγ]; exact e2) (fin (hk.t hγ _ _ _ k2))
 | false =>
  obtain ⟨u, e2, k2⟩ := aP hT hy (And.intro hp hγ) (by simp [Op.operands])
  exact xY (b := γ) hN e1 (by rw [hγ]; exact e2) (fin (hk.f hγ _ _ _ k2))
theorem ont {γ : Bool} (hx : tv Γ x = some (qx, Ψx)) [Im p qx] [hb : VB Ψx γ] : Ob P r N ops M S p ⟨some d, .unOp .not t x, t', pos, af, none⟩ Γ (exP (.bool (!γ))) := fun D E w d' hd hN hg hp hT => by
 obtain rfl := Option.some.inj hd
 obtain ⟨v, e1, h1⟩ := aP hT hx hp (by simp [Op.operands])
 obtain rfl := hb.h h1
 exact qZ hN e1 (fin rfl)
theorem oex {i : Nat} {l : List PV} (hx : tv Γ x = some (qx, tu l)) (hi : l[i]? = some Ψ) [Im p qx] : Ob P r N ops M S p ⟨some d, .extract x i, t', pos, af, none⟩ Γ Ψ := fun D E w d' hd hN hg hp hT => by
 obtain rfl := Option.some.inj hd
 obtain ⟨v, e1, vs, rfl, h1⟩ := aP hT hx hp (by simp [Op.operands])
 obtain ⟨u, h2, h3⟩ := h1.at_ hi
 exact zX hN e1 (by simpa using h2) (fin h3)
theorem omf {f : FuncId} {ca : List Operand} {l : List PV} (hx : tvs Γ ca = some (q, l)) [hi : Im p q] : Ob P r N ops M S p ⟨some d, .makeFunc (.func f) #[] ca.toArray, t', pos, af, none⟩ Γ (fn f l) := fun D E w d' hd hN hg hp hT => by
 obtain rfl := Option.some.inj hd
 obtain ⟨vs, e1, h1⟩ := hP hT hx (hi.h hp) fun x hx => slot_in (by simp [Op.operands, hx])
 exact jP hN (by simpa using e1) (fin ⟨vs, rfl, h1⟩)
theorem ob1 {op : Op} (hx : tv Γ x = some (qx, Ψx)) [Im p qx] (hm : x ∈ op.operands.toList)
  (h : ∀ D E w u, Nat.blt d N = true → Gd M S w → ev E x = some u → Ψx.p M w u → Ops P r N ops (fun D' E' w' => D' = D ∧ Rb w w' ∧ ∃ v, get E' d = some v ∧ Ψ.p M w' v) [⟨some d, op, t', pos, af, none⟩] D E w) : Ob P r N ops M S p ⟨some d, op, t', pos, af, none⟩ Γ Ψ := fun D E w d' hd hN hg hp hT => by
 obtain rfl := Option.some.inj hd
 obtain ⟨u, e1, h1⟩ := aP hT hx hp hm
 exact h D E w u hN hg e1 h1
theorem ob2 {op : Op} (hx : tv Γ x = some (qx, Ψx)) (hy : tv Γ y = some (qy, Ψy)) [Im p qx] [Im p qy] (hm : x ∈ op.operands.toList) (hn : y ∈ op.operands.toList)
  (h : ∀ D E w u v, Nat.blt d N = true → Gd M S w → ev E x = some u → ev E y = some v → Ψx.p M w u → Ψy.p M w v → Ops P r N ops (fun D' E' w' => D' = D ∧ Rb w w' ∧ ∃ v, get E' d = some v ∧ Ψ.p M w' v) [⟨some d, op, t', pos, af, none⟩] D E w) : Ob P r N ops M S p ⟨some d, op, t', pos, af, none⟩ Γ Ψ := fun D E w d' hd hN hg hp hT => by
 obtain rfl := Option.some.inj hd
 obtain ⟨u, e1, h1⟩ := aP hT hx hp hm
 obtain ⟨v, e2, h2⟩ := aP hT hy hp hn
 exact h D E w u v hN hg e1 e2 h1 h2
section
variable {k : IntKind} {a b : Int} {γ δ : Bool}
theorem olt (hx : tv Γ x = some (qx, Ψx)) (hy : tv Γ y = some (qy, Ψy)) [Im p qx] [Im p qy] [ha : VI Ψx k a] [hb : VI Ψy k b] : Ob P r N ops M S p ⟨some d, .binOp .lss tx x y ty, t', pos, af, none⟩ Γ (exP (.bool (decide (a < b)))) :=
 ob2 hx hy (by simp [Op.operands]) (by simp [Op.operands]) fun D E w u v hN _ e1 e2 h1 h2 => by rw [ha.h h1] at e1; rw [hb.h h2] at e2; exact jE hN e1 e2 (fin rfl)
theorem ole (hx : tv Γ x = some (qx, Ψx)) (hy : tv Γ y = some (qy, Ψy)) [Im p qx] [Im p qy] [ha : VI Ψx k a] [hb : VI Ψy k b] : Ob P r N ops M S p ⟨some d, .binOp .leq tx x y ty, t', pos, af, none⟩ Γ (exP (.bool (decide (a ≤ b)))) :=
 ob2 hx hy (by simp [Op.operands]) (by simp [Op.operands]) fun D E w u v hN _ e1 e2 h1 h2 => by rw [ha.h h1] at e1; rw [hb.h h2] at e2; exact ops_le hN e1 e2 (fin rfl)
theorem ogt (hx : tv Γ x = some (qx, Ψx)) (hy : tv Γ y = some (qy, Ψy)) [Im p qx] [Im p qy] [ha : VI Ψx k a] [hb : VI Ψy k b] : Ob P r N ops M S p ⟨some d, .binOp .gtr tx x y ty, t', pos, af, none⟩ Γ (exP (.bool (decide (b < a)))) :=
 ob2 hx hy (by simp [Op.operands]) (by simp [Op.operands]) fun D E w u v hN _ e1 e2 h1 h2 => by rw [ha.h h1] at e1; rw [hb.h h2] at e2; exact kO hN e1 e2 (fin rfl)
theorem oge (hx : tv Γ x = some (qx, Ψx)) (hy : tv Γ y = some (qy, Ψy)) [Im p qx] [Im p qy] [ha : VI Ψx k a] [hb : VI Ψy k b] : Ob P r N ops M S p ⟨some d, .binOp .geq tx x y ty, t', pos, af, none⟩ Γ (exP (.bool (decide (b ≤ a)))) :=
 ob2 hx hy (by simp [Op.operands]) (by simp [Op.operands]) fun D E w u v hN _ e1 e2 h1 h2 => by rw [ha.h h1] at e1; rw [hb.h h2] at e2; exact kB hN e1 e2 (fin rfl)
theorem oeq (hx : tv Γ x = some (qx, Ψx)) (hy : tv Γ y = some (qy, Ψy)) [Im p qx] [Im p qy] [ha : VI Ψx k a] [hb : VI Ψy k b] : Ob P r N ops M S p ⟨some d, .binOp .eql tx x y ty, t', pos, af, none⟩ Γ (exP (.bool (decide (a = b)))) :=
 ob2 hx hy (by simp [Op.operands]) (by simp [Op.operands]) fun D E w u v hN _ e1 e2 h1 h2 => by rw [ha.h h1] at e1; rw [hb.h h2] at e2; exact gL hN e1 e2 (fin rfl)
theorem oni (hx : tv Γ x = some (qx, Ψx)) (hy : tv Γ y = some (qy, Ψy)) [Im p qx] [Im p qy] [ha : VI Ψx k a] [hb : VI Ψy k b] : Ob P r N ops M S p ⟨some d, .binOp .neq tx x y ty, t', pos, af, none⟩ Γ (exP (.bool (decide (a ≠ b)))) :=
 ob2 hx hy (by simp [Op.operands]) (by simp [Op.operands]) fun D E w u v hN _ e1 e2 h1 h2 => by rw [ha.h h1] at e1; rw [hb.h h2] at e2; exact fF hN e1 e2 (fin rfl)
theorem oad (hx : tv Γ x = some (qx, Ψx)) (hy : tv Γ y = some (qy, Ψy)) [Im p qx] [Im p qy] [ha : VI Ψx .i64 a] [hb : VI Ψy .i64 b] (hs : -9223372036854775808 ≤ a + b ∧ a + b ≤ 9223372036854775807) : Ob P r N ops M S p ⟨some d, .binOp .add tx x y ty, t', pos, af, none⟩ Γ (exP (.int .i64 (a + b))) :=
 ob2 hx hy (by simp [Op.operands]) (by simp [Op.operands]) fun D E w u v hN _ e1 e2 h1 h2 => by rw [ha.h h1] at e1; rw [hb.h h2] at e2; exact yW hN e1 e2 hs (fin rfl)
theorem osb (hx : tv Γ x = some (qx, Ψx)) (hy : tv Γ y = some (qy, Ψy)) [Im p qx] [Im p qy] [ha : VI Ψx .i64 a] [hb : VI Ψy .i64 b] (hs : -9223372036854775808 ≤ a - b ∧ a - b ≤ 9223372036854775807) : Ob P r N ops M S p ⟨some d, .binOp .sub tx x y ty, t', pos, af, none⟩ Γ (exP (.int .i64 (a - b))) :=
 ob2 hx hy (by simp [Op.operands]) (by simp [Op.operands]) fun D E w u v hN _ e1 e2 h1 h2 => by rw [ha.h h1] at e1; rw [hb.h h2] at e2; exact jJ hN e1 e2 hs (fin rfl)
theorem ort (hx : tv Γ x = some (qx, Ψx)) (hy : tv Γ y = some (qy, Ψy)) [Im p qx] [Im p qy] [ha : VI Ψx k a] [hb : VI Ψy k b] (hs : b ≠ 0) : Ob P r N ops M S p ⟨some d, .binOp .rem tx x y ty, t', pos, af, none⟩ Γ (exP (.int k (a.tmod b))) :=
 ob2 hx hy (by simp [Op.operands]) (by simp [Op.operands]) fun D E w u v hN _ e1 e2 h1 h2 => by rw [ha.h h1] at e1; rw [hb.h h2] at e2; exact cW hN (.inr rfl) e1 e2 hs rfl (fin rfl)
end
theorem oln {e : TypeId} {sz bytes : Nat} {k n : Nat} {l : List CT} (hx : tv Γ x = some (qx, Ψx)) [Im p qx] [ht : TSl P t e sz bytes] [hv : VS Ψx k l] [hl : LL l n] : Ob P r N ops M S p ⟨some d, .call ⟨.builtin .len, #[x], #[t]⟩, t', pos, af, none⟩ Γ (exP (.int .i64 (n : Int))) :=
 ob1 hx (by simp [Op.operands, Call.operands]) fun D E w u hN _ e1 h1 => by
  obtain ⟨v, us, e, h2, h3, h4⟩ := hv.h h1
  obtain rfl := List.singleton_inj.1 e
  have := ops_lens (rest := []) (K := fun D' E' w' => D' = D ∧ Rb w w' ∧ ∃ v, get E' d = some v ∧ (exP (.int .i64 (n : Int))).p M w' v) (r := r) (all := ops) (D := D) (t' := t') (pos := pos) (af := af) hN ht.u e1 h2 (by rw [hl.h]; exact fin rfl)
  exact this
theorem oix {ix : Operand} {qi : Prop} {Ψi : PV} {e : TypeId} {sz bytes : Nat} {k n : Nat} {l : List CT} {ki : IntKind} {i : Int} {c : CT} (j : Nat) (hx : tv Γ x = some (qx, Ψx)) (hi : tv Γ ix = some (qi, Ψi)) [Im p qx] [Im p qi] [ht : TSl P t e sz bytes] [hv : VS Ψx k l] [hki : VI Ψi ki i] [hl : LL l n] [ha : LA l j c]
  (hk : Nat.beq k sz = true) (hij : p → i = (j : Int)) (hj : p → j < n) : Ob P r N ops M S p ⟨some d, .indexAddr t x ix, t', pos, af, none⟩ Γ (pa c) := fun D E w d' hd hN hg hp hT => by
 obtain rfl := Option.some.inj hd
 obtain ⟨u, e1, h1⟩ := aP hT hx hp (by simp [Op.operands])
 obtain ⟨u2, e2, h2⟩ := aP hT hi hp (by simp [Op.operands])
 rw [hki.h h2] at e2
 obtain rfl := Nat.eq_of_beq_eq_true hk
 obtain ⟨v, us, ee, h3, h4, h5⟩ := hv.h h1
 obtain rfl := List.singleton_inj.1 ee
 have hjl : j < l.length := by rw [hl.h]; exact hj hp
 have hcl := ha.h hjl
 have h6 := iC h4 hcl
 rw [szs_take h5 (Nat.le_of_lt hjl), h5 c (List.mem_of_getElem? hcl)] at h6
 obtain ⟨g1, g2, ad, cap, rfl, g3, g4⟩ := h3
 obtain ⟨z, hz, _⟩ := ht.s
 rcases g4 with g4 | ⟨b, off, rfl, g5, g6⟩
 ·omega
 ·refine xV hN (by intro c hc; cases hc) (fun a ha => ?_) (fin ⟨b, off + j * k, _, rfl, g5, g6.sub (j * k) k, h6⟩)
  have e3 : (Instr.indexAt t (.slice (some ⟨b, off, none⟩) l.length cap) (.int ki i)).run P w = .ok (.pointer (some ⟨b, off + j * k, none⟩)) w := by
   rw [hij hp]
   simp [Instr.indexAt, asIntOf, run_underlying ht.u, Result.andThen, qT hz, hjl, gZ]
  simp only [execOp, ha.ev e1, ha.ev e2, Sem.run_bind, e3, Result.andThen]; rfl
theorem old {a : Bool} {sz : Nat} {c : CT} (hx : tv Γ x = some (qx, Ψx)) [Im p qx] [ht : TLd P t a sz] [hp : LP S Ψx c] (hs : Nat.beq c.sz sz = true) [hl : LdA a c Ψ] : Ob P r N ops M S p ⟨some d, .load t x, t', pos, af, none⟩ Γ Ψ :=
 ob1 hx (by simp [Op.operands]) fun D E w u hN hg e1 h1 => by
  obtain ⟨b, o, us, rfl, h2, h3⟩ := hp.h hg h1
  have h4 := hl.h h3
  have h5 := ht.h
  have h6 := Nat.eq_of_beq_eq_true hs
  have h7 := c.len h3
  cases a with
  | true =>
   obtain ⟨bytes, z, k2⟩ := ht.s
   exact gU hN h5 k2 e1 h2 (h7.trans h6) (fin h4)
  | false =>
   obtain ⟨k1, rfl⟩ := h5
   rw [h6] at h7
   obtain ⟨v, rfl⟩ := List.length_eq_one_iff.1 h7
   exact xL hN k1 e1 (by have := h2 0 v rfl; simpa using this) (fin (h4 v rfl))
theorem ofa {a : Bool} {f off sz : Nat} {l : List CT} {c : CT} (hx : tv Γ x = some (qx, pa (st l))) [Im p qx] [ht : TFd P t f a off sz] (ha : fV l off = some c) : Ob P r N ops M S p ⟨some d, .fieldAddr t x f, t', pos, af, none⟩ Γ (pa c) :=
 ob1 hx (by simp [Op.operands]) fun D E w u hN hg e1 ⟨b, o, us, e, h1, h2, h3⟩ => by
  subst e
  obtain ⟨fields, fd, bytes, z, k1, k2, k3, k4, k5, _⟩ := ht.h
  exact xA off hN k1 k2 k3 k4 k5 e1 (fin ⟨b, o + off, _, rfl, h1, h2.sub off c.sz, eY h3 ha⟩)
theorem ofl {a : Bool} {f off sz : Nat} {l : List CT} {c : CT} (hx : tv Γ x = some (qx, ag (st l))) [Im p qx] [ht : TFd P t f a off sz] (ha : fV l off = some c) (hs : Nat.beq c.sz sz = true) [hl : LdA a c Ψ] : Ob P r N ops M S p ⟨some d, .field t x f, t', pos, af, none⟩ Γ Ψ :=
 ob1 hx (by simp [Op.operands]) fun D E w u hN hg e1 ⟨us, e, h1⟩ => by
  subst e
  obtain ⟨fields, fd, bytes, z, k1, k2, k3, k4, k5, k6⟩ := ht.h
  have h2 := eY h1 ha
  have h3 := hl.h h2
  have h4 := c.len h2
  have h6 := Nat.eq_of_beq_eq_true hs
  subst h6
  subst k3
  cases a with
  | true =>
   refine ops_fielda hN k1 k2 k4 k6 e1 ?_ rfl (fin h3)
   rw [Nat.ble_eq]
   have h7 := Nat.ne_of_beq_eq_false k5
   simp only [List.length_take, List.length_drop] at h4; omega
  | false =>
   obtain ⟨k6, k7⟩ := k6
   rw [k7] at h4 k4
   obtain ⟨v, hv⟩ := List.length_eq_one_iff.1 h4
   rw [k7] at h3
   have h8 : us[fd.offset]? = some v := by
    have := congrArg (fun l : List Value => l[0]?) hv
    simpa using this
   exact ops_fieldc hN k1 k2 k4 k6 e1 h8 (fin (h3 v hv))
theorem obd {szs' : List Nat} {parts : List (Nat × Operand)} {τs : List PV} {cs : List CT} (hx : tvs Γ (parts.map (·.2)) = some (q, τs)) [hi : Im p q] [ht : TPl P t szs'] [hc : CtL τs cs] (hp : parts.map (·.1) = List.range szs'.length) (hs : cs.map CT.sz = szs') :
  Ob P r N ops M S p ⟨some d, .build t parts.toArray, t', pos, af, none⟩ Γ (ag (st cs)) := fun D E w d' hd hN hg hp' hT => by
 obtain rfl := Option.some.inj hd
 obtain ⟨vs, e1, h1⟩ := hP hT hx (hi.h hp') fun x hx => slot_in (by simpa [Op.operands] using hx)
 obtain ⟨uss, g1, g2, g3⟩ := hc.h h1
 exact xO hN ht.h (by simpa using hp) (by simpa using e1) g1 (g3.trans hs) (fin ⟨_, rfl, g2⟩)
theorem obs {e : TypeId} {sz bytes len : Nat} {parts : List (Nat × Operand)} {τs : List PV} {cs : List CT} (hx : tvs Γ (parts.map (·.2)) = some (q, τs)) [hi : Im p q] [ht : TSl P t e sz bytes] [hc : CtL τs cs] (hp : parts.map (·.1) = List.range len) (hs : (cs.all fun c => Nat.beq c.sz sz) = true) (hl : Nat.ble (len * sz) 1000 = true) (h0 : Nat.beq len 0 = false) (hn : cs.length = len) :
  Ob P r N ops M S p ⟨some d, .buildSlice t len parts.toArray, t', pos, af, none⟩ Γ (sv (sl sz cs)) := fun D E w d' hd hN hg hp' hT => by
 obtain rfl := Option.some.inj hd
 obtain ⟨vs, e1, h1⟩ := hP hT hx (hi.h hp') fun x hx => slot_in (by simpa [Op.operands] using hx)
 obtain ⟨uss, g1, g2, g3⟩ := hc.h h1
 have hall : eZ sz cs := fun c hc => Nat.eq_of_beq_eq_true (List.all_eq_true.1 hs c hc)
 have hlen := dX g2
 rw [szs_all hall, hn] at hlen
 obtain ⟨z, hz, hzc⟩ := ht.s
 refine xN hN ht.u hz hzc ht.n (by simpa using hp) (by simpa using e1) g1 ?_ hl h0 fun w' b hw => ?_
 ·refine List.all_eq_true.2 fun c hc => ?_
  have : c.length ∈ uss.map List.length := List.mem_map_of_mem hc
  rw [g3] at this
  obtain ⟨ct, h3, h4⟩ := List.mem_map.1 this
  rw [← h4, hall ct h3]; simp
 ·refine zD ⟨rfl, hw.below, _, uR (by simp), _, uss.flatten, rfl, ?_, qS g2 (Cl.bel hw.below), hall⟩
  rw [hn]
  have hle : len ≤ 1000 := by
   have := Nat.le_of_ble_eq_true hl
   have h0 := Nat.ne_of_beq_eq_false ht.n
   exact Nat.le_trans (Nat.le_mul_of_pos_right _ (Nat.pos_of_ne_zero h0)) this
  exact hw.blk.slc (hg.ok.new hw) hlen (fun j u hj => by simpa using hj) (by omega) (Nat.le_refl _)
theorem oca {f : FuncId} {xs : List Operand} {ts : Array TypeId} {τs ca : List PV} {ρ : PV} (hf : tv Γ x = some (qx, Ψx)) (hx : tvs Γ xs = some (q, τs)) [Im p qx] [hi : Im p q] [hv : VF Ψx f ca] (hk : p → CTy P f (τs ++ ca) ρ) :
  Ob P r N ops M S p ⟨some d, .call ⟨.value x, xs.toArray, ts⟩, t', pos, af, none⟩ Γ ρ := fun D E w d' hd hN hg hp hT => by
 obtain rfl := Option.some.inj hd
 obtain ⟨u, e1, h1⟩ := aP hT hf hp (by simp [Op.operands, Call.operands])
 obtain ⟨vs, e2, h2⟩ := hP hT hx (hi.h hp) fun x hx => slot_in (by simp [Op.operands, Call.operands, hx])
 obtain ⟨us, rfl, h3⟩ := hv.h h1
 refine zI hN (hk hp).bod e1 e2 (((hk hp).run M w (vs ++ us) hg.ok hg.tab (h2.app h3)).mono fun v w' ⟨k1, k2⟩ => ?_)
 exact zD ⟨rfl, k1, v, uR (by simp), k2⟩
end ops
def par : Nat → List PV → TE
 | _, [] => []
 | i, τ :: τs => (i, True, τ) :: par (i + 1) τs
theorem par_tm {M : Nat → Prop} {w : World} : ∀ {τs : List PV} {vs : List Value} {i : Nat}, Fa τs M w vs → TM (par i τs) M (iK i vs) w
 | [], _, i, h => fun s q hs => by simp [par, tf] at hs
 | τ :: τs, _, i, ⟨v, us, e, h1, h2⟩ => by
  subst e
  exact TM.put (par_tm h2) (fun _ => h1) (fun c => absurd trivial c)
def TR (rs : List Nat) (ρs : List PV) : TK := fun Γ S => ∃ q l, tvs Γ (rs.map .tmp) = some (q, l) ∧ q ∧ ∀ M w vs, Fa l M w vs → Fa ρs M w vs
theorem res_of {P : Program} {E : Env} {w : World} : ∀ {rs : List Nat} {vs : List Value}, evs E (rs.map .tmp) = some vs → Res P E w (rs.map .tmp) vs
 | [], vs, h => by obtain rfl := Option.some.inj h; trivial
 | t :: rs, vs, h => by
  rw [List.map_cons] at h
  unfold evs at h
  cases h1 : ev E (.tmp t) with
  | none => rw [h1] at h; cases h
  | some v =>
   cases h2 : evs E (rs.map .tmp) with
   | none => rw [h1, h2] at h; cases h
   | some us =>
    rw [h1, h2] at h
    obtain rfl := Option.some.inj h
    exact ⟨h1, res_of h2⟩
theorem ct {P : Program} {f : FuncId} {fn : Func} {c : Code} {N : Nat} {τs ρs : List PV} {ρ : PV} {rs : List Nat} (hf : P.funcs[f]? = some fn) (hb : fn.body = some c) (hn : fn.ntmps = N) (hN : Nat.ble τs.length N = true) (hr : fn.results.toList = rs.map .tmp)
    (hnm : (fn.name == "runtime.NumGoroutine") = false) (hρ : ∀ M w vs, Fa ρs M w vs → ρ.p M w (xJ vs)) (h : ∀ X, TW P none N X c (TR rs ρs) (fun _ _ _ => False) (TR rs ρs) (par 0 τs) []) : CTy P f τs ρ := by
  refine ⟨⟨fn, hf, by rw [hb]; rfl, hnm⟩, fun M w vs hM hT hv => ?_⟩
  have hmk : Mk [] M = M := by funext k; simp [Mk]
  have hs : St ⟨M, w, fun _ => False⟩ (par 0 τs) [] (iK 0 vs) w := ⟨⟨rfl, Tp.refl _, rfl, Nat.le_refl _, fun _ _ _ => rfl⟩, ⟨by rw [hmk]; exact hM, by rw [hmk]; exact hT, by simp⟩, by simp, trivial, hM, fun _ h => h.elim, by rw [hmk]; exact par_tm hv⟩
  refine jA hf hb hn (by rw [hv.len]; exact hN) ?_
  have hfin : ∀ D E w', lf ⟨M, w, fun _ => False⟩ (TR rs ρs) [] D E w' → Fin P fn.results.toList (fun v w' => Rb w w' ∧ ρ.p M w' v) D E w' := by
    rintro D E w' ⟨rfl, Γ, S, ⟨q, l, h1, h2, h3⟩, h4⟩
    obtain ⟨us, e1, e2⟩ := hP (h4.tm.tm (rs)) h1 h2 fun x hx t e => by subst e; simpa using hx
    refine xC ⟨us, by rw [hr]; exact res_of e1, ⟨h4.bel.os, h4.bel.tape, h4.bel.output, h4.bel.size, fun k hk => h4.bel.block k hk id⟩, hρ _ _ _ (h3 _ _ _ (e2.mono (Cl.less fun k hk => .inr hk)))⟩
  have h1 := h ⟨M, w, fun _ => False⟩ [] _ w hs
  intro a ha hd
  refine wpIn_mono (h1 a ha hd) fun e a' w' hq => ?_
  cases e with
  | normal => obtain ⟨E', h1, h2⟩ := hq; exact ⟨E', h1, hfin _ _ _ h2⟩
  | exit id => obtain ⟨E', h1, _, _, _, h2, _⟩ := hq; exact h2.elim
  | ret => obtain ⟨E', h1, h2⟩ := hq; exact ⟨E', h1, hfin _ _ _ h2⟩
  | goto l => exact hq
  | panic c => exact hq
  | outgrown => exact hq
theorem dL {ρ : PV} : ∀ M w vs, Fa [ρ] M w vs → ρ.p M w (xJ vs) := fun M w vs ⟨v, us, e, h1, h2⟩ => by
 subst e; rw [show us = [] from h2]; exact h1
theorem mk_cons {o : Ow} {S : List Ow} {M : Nat → Prop} {k : Nat} : Mk (o :: S) M k ↔ o.bk = some k ∨ Mk S M k := by
 unfold Mk; simp only [List.mem_cons]
 constructor
 ·rintro (⟨p, rfl | hp, h⟩ | h)
  ·exact .inl h
  ·exact .inr (.inl ⟨p, hp, h⟩)
  ·exact .inr (.inr h)
 ·rintro (h | ⟨p, hp, h⟩ | h)
  ·exact .inl ⟨o, .inl rfl, h⟩
  ·exact .inl ⟨p, .inr hp, h⟩
  ·exact .inr h
theorem tr1 {t : Nat} {q : Prop} {Ψ ρ : PV} {Γ : TE} {S : List Ow} (h : tv Γ (.tmp t) = some (q, Ψ)) [hq : Tr q] (hs : PSub Ψ ρ) : TR [t] [ρ] Γ S :=
 ⟨q ∧ True, [Ψ], by show tvs Γ [.tmp t] = _; unfold tvs; rw [h]; rfl, ⟨hq.h, trivial⟩, fun M w vs ⟨v, us, e, h1, h2⟩ => ⟨v, us, e, hs _ _ _ h1, h2⟩⟩
theorem psb {b c : Bool} (h : b = c) : PSub (exP (.bool b)) (exP (.bool c)) := fun _ _ _ k => h ▸ k
theorem orl {a b : Bool} (h : (a || b) = false) : a = false := (Bool.or_eq_false_iff.1 h).1
theorem orr {a b : Bool} (h : (a || b) = false) : b = false := (Bool.or_eq_false_iff.1 h).2
theorem Cl.new {M M' : Nat → Prop} {w w' : World} {b : Nat} (hb : Rb w w') (h1 : w.heap.size ≤ b) (hm : ∀ k, M' k → k = b ∨ M k) : Cl M w M' w' := fun k cur t fz hk hw => by
 have hlt := (Array.getElem?_eq_some_iff.1 hw).1
 exact ⟨fun c => (hm k c).elim (fun e => by omega) hk, (hb.block k hlt).trans hw⟩
section
variable {X : Cx} {w w' : World} {Γ : TE} {S : List Ow} {E : Env}
theorem St.okS (h : St X Γ S E w) : ∀ o ∈ S, ∀ k, o.bk = some k → k < w.heap.size := fun o ho k hk => h.gd.ok k (.inl ⟨o, ho, hk⟩)
theorem St.addb (h : St X Γ S E w) {b : Nat} {ty : TypeId} {cs : List CT} {us : List Value} (hn : New w w' b (.cells us.toArray ty (0, 0))) (hc : stp cs (Mk S X.M) w us) : St X Γ (.blk b ty cs :: S) E w' := by
 have hb := hn.below
 have hbs : w.heap.size ≤ b := by rw [hn.at_]; exact Nat.le_refl _
 have cl : Cl (Mk S X.M) w (Mk (.blk b ty cs :: S) X.M) w' := Cl.new hb hbs fun k hk => (mk_cons.1 hk).imp (fun e => (Option.some.inj e).symm) id
 refine ⟨h.bel.bel hb, ⟨fun k hk => ?_, h.gd.tab.cl cl, fun o ho => ?_⟩, fun o ho k hk => ?_, ⟨fun k hk p hp e => ?_, h.apt⟩, h.ok0, h.zm, h.tm.mono cl⟩
 ·rcases mk_cons.1 hk with e | hk
  ·rw [← Option.some.inj e, hn.size, hn.at_]; omega
  ·exact Nat.lt_of_lt_of_le (h.gd.ok k hk) hb.size
 ·rcases List.mem_cons.1 ho with rfl | ho
  ·exact ⟨us, by have := hn.blk; simpa using this, qS hc cl⟩
  ·exact Ow.ok_mono (h.gd.own o ho) cl fun k _ hlt => hb.block k hlt
 ·rcases List.mem_cons.1 ho with rfl | ho
  ·rw [← Option.some.inj hk]; exact .inl (Nat.le_trans h.bel.size hbs)
  ·exact h.new o ho k hk
 ·have := h.okS p hp k e
  rw [← Option.some.inj hk] at this
  omega
theorem fL : ∀ {S : List Ow} {i j : Nat} {o p : Ow} {b : Nat}, Apt S → S[i]? = some o → S[j]? = some p → i ≠ j → o.bk = some b → p.bk ≠ some b
 | [], _, _, _, _, _, _, h, _, _, _ => by simp at h
 | q :: S, 0, 0, o, p, b, _, _, _, hne, _ => absurd rfl hne
 | q :: S, 0, j + 1, o, p, b, ⟨h1, h2⟩, hi, hj, _, hb => by
  simp at hi hj; subst hi
  exact h1 b hb p (List.mem_of_getElem? hj)
 | q :: S, i + 1, 0, o, p, b, ⟨h1, h2⟩, hi, hj, _, hb => by
  simp at hi hj; subst hj
  exact fun e => h1 b e o (List.mem_of_getElem? hi) hb
 | q :: S, i + 1, j + 1, o, p, b, ⟨h1, h2⟩, hi, hj, hne, hb => fL h2 (by simpa using hi) (by simpa using hj) (by omega) hb
theorem apt_set : ∀ {S : List Ow} {i : Nat} {o p : Ow}, Apt S → S[i]? = some o → (∀ b, p.bk = some b → o.bk = some b ∨ ∀ q ∈ S, q.bk ≠ some b) → Apt (S.set i p)
 | [], _, _, _, _, h, _ => by simp at h
 | q :: S, 0, o, p, ⟨h1, h2⟩, h, hb => by
  simp at h; subst h
  exact ⟨fun b e r hr => (hb b e).elim (fun k => h1 b k r hr) (fun k => k r (by simp [hr])), h2⟩
 | q :: S, i + 1, o, p, ⟨h1, h2⟩, h, hb => by
  refine ⟨fun b e r hr => ?_, apt_set h2 (by simpa using h) fun b e => (hb b e).imp id fun k r hr => k r (by simp [hr])⟩
  rcases List.mem_or_eq_of_mem_set hr with hr | rfl
  ·exact h1 b e r hr
  ·intro c
   rcases hb b c with k | k
   ·exact h1 b e o (List.mem_of_getElem? (by simpa using h)) k
   ·exact k q (by simp) e
theorem mem_set_at {S : List Ow} {i : Nat} {p r : Ow} (h : r ∈ S.set i p) : r = p ∨ ∃ j, j ≠ i ∧ S[j]? = some r := by
 obtain ⟨j, hj⟩ := List.mem_iff_getElem?.1 h
 by_cases e : i = j
 ·subst e
  rw [List.getElem?_set_self (by have := (List.getElem?_eq_some_iff.1 hj).1; simpa using this)] at hj
  exact .inl (Option.some.inj hj).symm
 ·rw [List.getElem?_set_ne e] at hj
  exact .inr ⟨j, fun c => e c.symm, hj⟩
theorem St.setb (h : St X Γ S E w) {i b : Nat} {ty : TypeId} {cs ds : List CT} {us : List Value} (hi : S[i]? = some (.blk b ty cs)) (hc : Chg w w' b) (hB : Blk w' b ty us) (hd : stp ds (Mk S X.M) w us) : St X Γ (S.set i (.blk b ty ds)) E w' := by
 have hS : Ow.blk b ty cs ∈ S := List.mem_of_getElem? hi
 have hm : Mk S X.M b := .inl ⟨_, hS, rfl⟩
 have hmk : ∀ k, Mk (S.set i (.blk b ty ds)) X.M k → Mk S X.M k := fun k hk => hk.elim (fun ⟨o, ho, e⟩ => by
  rcases List.mem_or_eq_of_mem_set ho with ho | rfl
  ·exact .inl ⟨o, ho, e⟩
  ·exact Option.some.inj e ▸ hm) .inr
 have cl : Cl (Mk S X.M) w (Mk (S.set i (.blk b ty ds)) X.M) w' := fun k cur t fz hk hw => ⟨fun c => hk (hmk k c), (hc.other k fun e => hk (e ▸ hm)).trans hw⟩
 refine ⟨⟨hc.os.trans h.bel.os, hc.tape.trans h.bel.tape, hc.output.trans h.bel.output, by rw [hc.size]; exact h.bel.size, fun k hk hz => ?_⟩, ⟨fun k hk => by rw [hc.size]; exact h.gd.ok k (hmk k hk), h.gd.tab.cl cl, fun o ho => ?_⟩, fun o ho k hk => ?_, apt_set h.apt hi fun k e => .inl e, h.ok0, h.zm, h.tm.mono cl⟩
 ·refine (hc.other k fun e => ?_).trans (h.bel.block k hk hz)
  subst e
  exact (h.new _ hS _ rfl).elim (fun c => by omega) hz
 ·rcases mem_set_at ho with rfl | ⟨j, hj, hjo⟩
  ·exact ⟨us, hB, qS hd cl⟩
  ·exact Ow.ok_mono (h.gd.own o (List.mem_of_getElem? hjo)) cl fun k hk hlt => hc.other k fun e => fL h.apt hi hjo (fun c => hj c.symm) rfl (e ▸ hk)
 ·rcases mem_set_at ho with rfl | ⟨j, hj, hjo⟩
  ·exact h.new _ hS k hk
  ·exact h.new o (List.mem_of_getElem? hjo) k hk
end
def iT : List CT → Nat → Option (List CT × List CT)
 | cs, 0 => some ([], cs)
 | [], _ + 1 => none
 | c :: r, o + 1 => bif Nat.ble c.sz (o + 1) then (match iT r (o + 1 - c.sz) with | some (a, b) => some (c :: a, b) | none => none) else none
theorem cutT_app : ∀ {cs : List CT} {o : Nat} {a b : List CT}, iT cs o = some (a, b) → cs = a ++ b ∧ szs a = o
 | cs, 0, a, b, h => by
  cases cs <;> (unfold iT at h; obtain ⟨rfl, rfl⟩ := Prod.mk.inj (Option.some.inj h); exact ⟨rfl, rfl⟩)
 | [], o + 1, a, b, h => by simp [iT] at h
 | c :: r, o + 1, a, b, h => by
  unfold iT at h
  cases h1 : Nat.ble c.sz (o + 1) with
  | false => rw [h1] at h; cases h
  | true =>
   rw [h1] at h
   cases h2 : iT r (o + 1 - c.sz) with
   | none => rw [h2] at h; cases h
   | some x =>
    obtain ⟨a', b'⟩ := x
    rw [h2] at h
    obtain ⟨rfl, rfl⟩ := Prod.mk.inj (Option.some.inj h)
    obtain ⟨k1, k2⟩ := cutT_app h2
    have := Nat.le_of_ble_eq_true h1
    exact ⟨by rw [k1]; rfl, by rw [szs, k2]; omega⟩
class CtsOf (Ψ : PV) (cs : outParam (List CT)) : Prop where
 h : ∀ {M w v}, Ψ.p M w v → ∃ us : List Value, v.cells = us.toArray ∧ stp cs M w us
instance {l : List CT} : CtsOf (ag (st l)) l := ⟨fun ⟨us, e, h⟩ => ⟨us, by rw [e]; rfl, h⟩⟩
instance (priority := low) {Ψ : PV} {c : CT} [h : CtOf Ψ c] : CtsOf Ψ [c] := ⟨fun k => let ⟨us, e, g⟩ := h.h k; ⟨us, e, us, [], (List.append_nil _).symm, g, rfl⟩⟩
section ops
variable {P : Program} {r : Option Nat} {N : Nat} {X : Cx} {K : TK} {Γ : TE} {S : List Ow} {ops : Array Oper} {M : Nat → Prop} {p q qx qy : Prop} {Ψ Ψx Ψy : PV} {d : Nat} {x y : Operand} {t t' : TypeId} {pos : String} {af : Array Edge} {l : List Oper}
theorem obx {c : CT} (hx : tv Γ x = some (qx, Ψx)) [Im p qx] [hc : CtOf Ψx c] : Ob P r N ops M S p ⟨some d, .box t x, t', pos, af, none⟩ Γ (pa c) :=
 ob1 hx (by simp [Op.operands]) fun D E w u hN hg e1 h1 => by
  obtain ⟨us, k1, k2⟩ := hc.h h1
  refine yN hN e1 fun w' b hn => zD ⟨rfl, hn.below, _, uR (by simp), b, 0, us, rfl, hg.ok.new hn, ?_, c.mono k2 (Cl.bel hn.below)⟩
  exact ⟨u.cells, t, (0, 0), hn.obj, fun j v hj => by rw [k1]; simpa using hj⟩
theorem cG {a : Bool} {sz b o : Nat} {ty : TypeId} {cs : List CT} {c : CT} (i : Nat) (hx : tv Γ x = some (qx, exP (.pointer (some ⟨b, o, none⟩)))) [Im p qx] (hi : S[i]? = some (.blk b ty cs)) [ht : TLd P t a sz] (ha : fV cs o = some c) (hs : Nat.beq c.sz sz = true) [hl : LdA a c Ψ] : Ob P r N ops M S p ⟨some d, .load t x, t', pos, af, none⟩ Γ Ψ :=
 ob1 hx (by simp [Op.operands]) fun D E w u hN hg e1 h1 => by
  obtain rfl : u = _ := h1
  obtain ⟨vs, k3, k4⟩ := hg.own _ (List.mem_of_getElem? hi)
  have h3 := eY k4 ha
  have h4 := hl.h h3
  have h7 := c.len h3
  have h6 := Nat.eq_of_beq_eq_true hs
  have h2 : ∀ (j : Nat) (u : Value), ((vs.drop o).take c.sz)[j]? = some u → w.cell? ⟨b, o + j, none⟩ = some u := fun j u hj => by
   rw [k3.cell]
   rw [List.getElem?_take] at hj
   split at hj
   ·simpa using hj
   ·cases hj
  have h5 := ht.h
  cases a with
  | true =>
   obtain ⟨bytes, z, k2⟩ := ht.s
   exact gU hN h5 k2 e1 h2 (h7.trans h6) (fin h4)
  | false =>
   obtain ⟨k1, rfl⟩ := h5
   rw [h6] at h7 h2 h4
   obtain ⟨v, hv⟩ := List.length_eq_one_iff.1 h7
   rw [hv] at h2 h4
   exact xL hN k1 e1 (by have := h2 0 v rfl; simpa using this) (fin (h4 v rfl))
theorem tbx {cs : List CT} (hx : tv Γ x = some (qx, Ψx)) [Tr qx] [hc : CtsOf Ψx cs] (h : ∀ b, TO P r N ops X K l ((d, True, exP (.pointer (some ⟨b, 0, none⟩))) :: Γ) (.blk b t cs :: S)) :
  TO P r N ops X K (⟨some d, .box t x, t', pos, af, none⟩ :: l) Γ S := fun hN D E w hs => by
 unfold okN at hN
 simp only [List.all_cons, Bool.and_eq_true] at hN
 obtain ⟨u, e1, h1⟩ := iN hs hx
 obtain ⟨us, k1, k2⟩ := hc.h h1
 refine yN hN.1 e1 fun w' b hn => ?_
 rw [k1] at hn
 exact h b hN.2 D _ w' ((hs.addb hn k2).put (xD _) (fun _ => rfl) (fun c => absurd trivial c))
theorem tst {b o : Nat} {ty : TypeId} {cs A B B1 B2 : List CT} {c : CT} {a : Bool} {sz : Nat} (i : Nat) (hi : S[i]? = some (.blk b ty cs)) (hx : tv Γ x = some (qx, exP (.pointer (some ⟨b, o, none⟩)))) (hy : tv Γ y = some (qy, Ψy)) [Tr qx] [Tr qy] [hc : CtOf Ψy c] [ht : TLd P t a sz]
  (hs : Nat.beq c.sz sz = true) (hA : iT cs o = some (A, B)) (hB : iT B c.sz = some (B1, B2)) (h : TO P r N ops X K l Γ (S.set i (.blk b ty (A ++ c :: B2)))) :
  TO P r N ops X K (⟨none, .store t x y, t', pos, af, none⟩ :: l) Γ S := fun hN D E w hst => by
 unfold okN at hN
 simp only [List.all_cons, Bool.and_eq_true] at hN
 obtain ⟨u, e1, h1⟩ := iN hst hx
 obtain rfl : u = _ := h1
 obtain ⟨v, e2, h2⟩ := iN hst hy
 obtain ⟨us, k1, k2⟩ := hc.h h2
 obtain ⟨vs, k3, k4⟩ := hst.gd.own _ (List.mem_of_getElem? hi)
 obtain ⟨rfl, f2⟩ := cutT_app hA
 obtain ⟨rfl, f4⟩ := cutT_app hB
 obtain ⟨va, vb, rfl, g1, g2⟩ := stp_split k4
 obtain ⟨vc, vd, rfl, g3, g4⟩ := stp_split g2
 have hl1 := dX g1
 have hl3 := dX g3
 have hl := c.len k2
 have hsz := Nat.eq_of_beq_eq_true hs
 obtain ⟨bytes, z, hz⟩ := ht.s
 refine qM e1 e2 hz k3 (by rw [k1]; simp; omega) (by simp; omega) (by rw [k1]; exact fun u hu => c.one k2 u (by simpa using hu)) fun w' hch hB' => ?_
 refine h hN.2 D E w' (hst.setb hi hch hB' ?_)
 have e : va ++ (vc ++ vd) = va ++ (vc ++ vd) := rfl
 rw [k1]
 have e3 : (va ++ (vc ++ vd)).take o = va := by rw [← f2, ← hl1, List.take_left]
 have e4 : (va ++ (vc ++ vd)).drop (o + sz) = vd := by rw [← hsz, ← f4, ← hl3, ← f2, ← hl1, ← List.drop_drop, List.drop_left, List.drop_left]
 rw [e3, e4, List.append_assoc]
 exact eR g1 ⟨us, vd, rfl, k2, g4⟩
end ops
class TZ (P : Program) (t : TypeId) (z : outParam Value) : Prop where
 s : ∃ sz bytes, Sz P t sz bytes z
 o : (z.cells.toList.all fun u => u.oneCell') = true
def zc (z : Value) : List CT := z.cells.toList.map xc
theorem stp_xc {M : Nat → Prop} {w : World} : ∀ {us : List Value}, (us.all fun u => u.oneCell') = true → stp (us.map xc) M w us
 | [], _ => rfl
 | u :: us, h => by
  simp only [List.all_cons, Bool.and_eq_true] at h
  exact ⟨[u], us, rfl, ⟨rfl, h.1⟩, stp_xc h.2⟩
section
variable {P : Program} {r : Option Nat} {N : Nat} {ops : Array Oper} {D : List Deferred} {E : Env}
theorem cK {G : Type} {F H : List (Nat × VPS G) → Prop} {x0 : World × G} {R : World × G → World × G → Prop} {R' : Nat → World × G → World × G → Prop} {Pr : Nat → World × G → Prop} {st : Option (Nat × (World × G → Prop) × (World × G → Prop))} (hFG : ∀ Γ, F Γ → H Γ) : ∀ {l : List Oper} {i : Nat} {Γ : List (Nat × VPS G)}, dU P r N ops D E x0 R R' Pr st F l i Γ → dU P r N ops D E x0 R R' Pr st H l i Γ
 | [], i, Γ, h => hFG Γ h
 | o :: l, i, Γ, ⟨Ψ, h1, h2⟩ => ⟨Ψ, h1, cK hFG h2⟩
end
def bks (S : List Ow) : Nat → Prop := fun b => ∃ o ∈ S, o.bk = some b
structure CTo (P : Program) (f : FuncId) (τs : List PV) (Si : List Ow) (Q : PV → List Ow → Prop) : Prop where
 bod : Bod P f
 run : ∀ (M : Nat → Prop) (w : World) (vs : List Value), Gd (Mk Si M) Si w → Apt Si → (∀ b, bks Si b → ¬ M b) → OkM M w → Fa τs (Mk Si M) w vs →
  CallsV P f vs w fun v w' => BZ ⟨M, w, bks Si⟩ w' ∧ ∃ ρ So, Q ρ So ∧ Gd (Mk So M) So w' ∧ Apt So ∧ (∀ b, bks So b → w.heap.size ≤ b ∨ bks Si b) ∧ ρ.p (Mk So M) w' v
theorem apt_sub : ∀ {S T : List Ow}, S.Sublist T → Apt T → Apt S
 | _, _, .slnil, h => h
 | _, _, .cons _ h, ⟨_, h2⟩ => apt_sub h h2
 | _, _, .cons_cons _ h, ⟨h1, h2⟩ => ⟨fun b hb p hp => h1 b hb p (h.subset hp), apt_sub h h2⟩
theorem dM {S T : List Ow} {M : Nat → Prop} (h : S.Sublist T) : ∀ k, Mk S M k → Mk T M k := fun k hk => hk.imp (fun ⟨o, ho, e⟩ => ⟨o, h.subset ho, e⟩) id
theorem Gd.sub {S T : List Ow} {M : Nat → Prop} {w : World} (h : Gd (Mk T M) T w) (hs : S.Sublist T) : Gd (Mk S M) S w :=
 ⟨fun k hk => h.ok k (dM hs k hk), h.tab.cl (Cl.less (dM hs)), fun o ho => Ow.ok_mono (h.own o (hs.subset ho)) (Cl.less (dM hs)) fun _ _ _ => rfl⟩
section ops
variable {P : Program} {r : Option Nat} {N : Nat} {X : Cx} {K : TK} {Γ : TE} {S Si Sr : List Ow} {ops : Array Oper} {M : Nat → Prop} {p q qx qy : Prop} {Ψ Ψx Ψy : PV} {d : Nat} {x y : Operand} {t t' : TypeId} {pos : String} {af : Array Edge} {l : List Oper}
end ops
theorem own_slr {M : Nat → Prop} {w : World} {v : Value} {ty : TypeId} {k n : Nat} {us : List Value} (h : w.ownsRow 0 ty k v n us) (hm : ∀ b, v.ownBlock = some b → ¬ M b) : Slc M w k v n us := by
 obtain ⟨h1, ⟨rfl, rfl⟩ | ⟨g, cap, cur, rfl, _, hg, hnc, hcm, hcs, htk⟩⟩ := h
 ·exact ⟨h1, by omega, none, 0, rfl, Nat.le_refl _, .inl rfl⟩
 ·refine ⟨h1, by simp [maxLen] at hcm; omega, _, cap, rfl, hnc, .inr ⟨g, 0, rfl, hm g rfl, cur, ty, _, hg, fun j u hj => ?_⟩⟩
  rw [← htk, List.getElem?_take] at hj
  split at hj
  ·simpa using hj
  ·cases hj
theorem mem_erase {S : List Ow} {i : Nat} {p : Ow} (h : p ∈ S.eraseIdx i) : ∃ j, j ≠ i ∧ S[j]? = some p := by
 obtain ⟨j, h1, h2⟩ := List.mem_eraseIdx_iff_getElem?.1 h
 exact ⟨j, h1, h2⟩
section
variable {X : Cx} {w w' : World} {Γ Γ' : TE} {S S' : List Ow} {E : Env}
theorem St.sub (h : St X Γ S E w) (hs : S'.Sublist S) : St X Γ S' E w :=
 ⟨h.bel, h.gd.sub hs, fun o ho => h.new o (hs.subset ho), apt_sub hs h.apt, h.ok0, h.zm, h.tm.mono (Cl.less (dM hs))⟩
theorem St.frz (h : St X Γ S E w) {i : Nat} {v : Value} {ty : TypeId} {k : Nat} {l : List CT} (hi : S[i]? = some (.row v ty k l)) : (sl k l).p (Mk (S.eraseIdx i) X.M) w [v] := by
 have hm : Ow.row v ty k l ∈ S := List.mem_of_getElem? hi
 obtain ⟨us, h1, h2, h3⟩ := h.gd.own _ hm
 refine ⟨v, us, rfl, own_slr h1 fun b hb c => ?_, qS h2 (Cl.less (dM (List.eraseIdx_sublist S i))), h3⟩
 rcases c with ⟨p, hp, e⟩ | c
 ·obtain ⟨j, hj, hp⟩ := mem_erase hp
  exact fL h.apt hi hp (fun c => hj c.symm) hb e
 ·rcases h.new _ hm b hb with h4 | h4
  ·have := h.ok0 b c; omega
  ·exact h.zm b h4 c
theorem St.setr (h : St X Γ S E w) {i : Nat} {v v' : Value} {ty : TypeId} {k : Nat} {l l' : List CT} {us : List Value} (hi : S[i]? = some (.row v ty k l)) (hg : Gro w w' v.ownBlock) (ho : w'.ownsRow 0 ty k v' l'.length us) (hv : v'.ownBlock = v.ownBlock ∨ v'.ownBlock = some w.heap.size) (hl : stp l' (Mk S X.M) w us) (ha : eZ k l') (hv0 : ∀ b, v'.ownBlock = some b → b < w'.heap.size) : St X Γ (S.set i (.row v' ty k l')) E w' := by
 have hS : Ow.row v ty k l ∈ S := List.mem_of_getElem? hi
 have hmk : ∀ b, Mk (S.set i (.row v' ty k l')) X.M b → Mk S X.M b ∨ b = w.heap.size := fun b hk => hk.elim (fun ⟨o, ho', e⟩ => by
  rcases List.mem_or_eq_of_mem_set ho' with ho' | rfl
  ·exact .inl (.inl ⟨o, ho', e⟩)
  ·rcases hv with c | c
   ·exact .inl (.inl ⟨_, hS, c.symm.trans e⟩)
   ·exact .inr (Option.some.inj (e.symm.trans c))) (fun c => .inl (.inr c))
 have hown : ∀ b, Mk S X.M b ∨ some b ≠ v.ownBlock := fun b => by
  by_cases e : some b = v.ownBlock
  ·exact .inl (.inl ⟨_, hS, e.symm⟩)
  ·exact .inr e
 have cl : Cl (Mk S X.M) w (Mk (S.set i (.row v' ty k l')) X.M) w' := fun b cur t fz hk hw => by
  have hlt := (Array.getElem?_eq_some_iff.1 hw).1
  exact ⟨fun c => (hmk b c).elim hk (fun e => by omega), (hg.block b hlt ((hown b).elim (fun c => absurd c hk) id)).trans hw⟩
 refine ⟨⟨hg.os.trans h.bel.os, hg.tape.trans h.bel.tape, hg.output.trans h.bel.output, Nat.le_trans h.bel.size hg.size, fun b hb hz => ?_⟩, ⟨fun b hb => ?_, h.gd.tab.cl cl, fun o ho' => ?_⟩, fun o ho' b hb => ?_, apt_set h.apt hi fun b e => ?_, h.ok0, h.zm, h.tm.mono cl⟩
 ·refine (hg.block b (Nat.lt_of_lt_of_le hb h.bel.size) fun e => ?_).trans (h.bel.block b hb hz)
  exact (h.new _ hS b e.symm).elim (fun c => by omega) hz
 ·rcases hb with ⟨o, ho', e⟩ | c
  ·rcases List.mem_or_eq_of_mem_set ho' with ho' | rfl
   ·exact Nat.lt_of_lt_of_le (h.okS o ho' b e) hg.size
   ·exact hv0 b e
  ·exact Nat.lt_of_lt_of_le (h.gd.ok b (.inr c)) hg.size
 ·rcases mem_set_at ho' with rfl | ⟨j, hj, hjo⟩
  ·exact ⟨us, ho, qS hl cl, ha⟩
  ·exact Ow.ok_mono (h.gd.own o (List.mem_of_getElem? hjo)) cl fun b hb hlt => hg.block b hlt fun e => fL h.apt hi hjo (fun c => hj c.symm) e.symm hb
 ·rcases mem_set_at ho' with rfl | ⟨j, hj, hjo⟩
  ·rcases hv with c | c
   ·exact h.new _ hS b (c.symm.trans hb)
   ·obtain rfl : w.heap.size = b := Option.some.inj (c.symm.trans hb)
    exact .inl h.bel.size
  ·exact h.new o (List.mem_of_getElem? hjo) b hb
 ·rcases hv with c | c
  ·exact .inl (c.symm.trans e)
  ·obtain rfl : w.heap.size = b := Option.some.inj (c.symm.trans e)
   exact .inr fun q hq e2 => by have := h.okS q hq _ e2; omega
theorem ts_nil (ty : TypeId) (k : Nat) : Ts X Γ S Γ (.row (.slice none 0 0) ty k [] :: S) := fun E w h => by
 have hmk : ∀ M, Mk (.row (.slice none 0 0) ty k [] :: S) M = Mk S M := fun M => funext fun b => propext (by rw [mk_cons]; exact ⟨fun c => c.elim (fun e => by cases e) id, .inr⟩)
 refine ⟨h.bel, ⟨by rw [hmk]; exact h.gd.ok, by rw [hmk]; exact h.gd.tab, fun o ho => ?_⟩, fun o ho b e => ?_, ⟨fun b e => (by cases e), h.apt⟩, h.ok0, h.zm, by rw [hmk]; exact h.tm⟩
 ·rw [hmk]
  rcases List.mem_cons.1 ho with rfl | ho
  ·exact ⟨[], World.ownsRow_nil w 0 ty k, rfl, by simp [eZ]⟩
  ·exact h.gd.own o ho
 ·rcases List.mem_cons.1 ho with rfl | ho
  ·cases e
  ·exact h.new o ho b e
theorem ts_frz {v : Value} {ty : TypeId} {k s : Nat} {l : List CT} {q : Prop} (i : Nat) (hi : S[i]? = some (.row v ty k l)) (hs : tf Γ s = some (q, exP v)) : Ts X Γ S ((s, q, sv (sl k l)) :: Γ) (S.eraseIdx i) := fun E w h => by
 have h1 := h.frz hi
 have h2 := h.sub (List.eraseIdx_sublist S i)
 refine ⟨h2.bel, h2.gd, h2.new, h2.apt, h2.ok0, h2.zm, fun t q' ht => ?_⟩
 unfold tf at ht
 cases hb : Nat.beq s t with
 | true =>
  rw [hb] at ht
  obtain rfl := Nat.eq_of_beq_eq_true hb
  obtain rfl := Option.some.inj ht
  have h3 := h.tm s _ hs
  exact ⟨fun c => let ⟨u, h4, h5⟩ := h3.1 c; ⟨u, h4, by rw [show u = v from h5]; exact h1⟩, h3.2⟩
 | false => rw [hb] at ht; exact h2.tm t q' ht
theorem ts_sub (hs : S'.Sublist S) : Ts X Γ S Γ S' := fun E w h => h.sub hs
def Tsub (Γ Γ' : TE) : Prop := ∀ s q, tf Γ' s = some q → ∃ q0, tf Γ s = some q0 ∧ (q.1 ↔ q0.1) ∧ PSub q0.2 q.2
theorem tn : Tsub Γ [] := fun s q h => by cases h
theorem tc {s : Nat} {q : Prop} {Ψ Φ : PV} (h : tf Γ s = some (q, Ψ)) [hq : Tr q] (hp : PSub Ψ Φ) (k : Tsub Γ Γ') : Tsub Γ ((s, True, Φ) :: Γ') := fun t r ht => by
 unfold tf at ht
 cases hb : Nat.beq s t with
 | true =>
  rw [hb] at ht
  obtain rfl := Nat.eq_of_beq_eq_true hb
  obtain rfl := Option.some.inj ht
  exact ⟨_, h, ⟨fun _ => hq.h, fun _ => trivial⟩, hp⟩
 | false => rw [hb] at ht; exact k t r ht
theorem kL (h : Tsub Γ Γ') (e : S = S') : Ts X Γ S Γ' S' := fun E w k => by
 subst e
 refine ⟨k.bel, k.gd, k.new, k.apt, k.ok0, k.zm, fun s q hs => ?_⟩
 obtain ⟨q0, h1, h2, h3⟩ := h s q hs
 have h4 := k.tm s q0 h1
 exact ⟨fun c => let ⟨v, g1, g2⟩ := h4.1 (h2.1 c); ⟨v, g1, h3 _ _ _ g2⟩, fun c => h4.2 fun d => c (h2.2 d)⟩
end
theorem gN (Ψ : PV) : PSub Ψ Ψ := PSub.refl Ψ
theorem uJ {k : IntKind} {a b : Int} (h : a = b) : PSub (exP (.int k a)) (exP (.int k b)) := fun _ _ _ k => h ▸ k
theorem ps_p {Ψ Φ : PV} (h : Ψ = Φ) : PSub Ψ Φ := fun _ _ _ k => h ▸ k
section ops
variable {P : Program} {r : Option Nat} {N : Nat} {X : Cx} {K : TK} {Γ : TE} {S : List Ow} {ops : Array Oper} {M : Nat → Prop} {p q qx qy qi : Prop} {Ψ Ψx Ψy Ψi : PV} {d : Nat} {x y ix : Operand} {t t' : TypeId} {pos : String} {af : Array Edge} {l : List Oper}
variable {v : Value} {ty e : TypeId} {k bytes : Nat} {cs : List CT} {c : CT}
theorem tap {m : List CT} (i : Nat) (hi : S[i]? = some (.row v e k cs)) (hx : tv Γ x = some (qx, exP v)) (hy : tv Γ y = some (qy, Ψy)) [Tr qx] [Tr qy] [ht : TSl P t e k bytes] [hv : VS Ψy k m] (hn : cs.length + m.length ≤ 1000000000) (hb : Nat.ble bytes 1000 = true)
  (h : ∀ v', TO P r N ops X K l ((d, True, exP v') :: Γ) (S.set i (.row v' e k (cs ++ m)))) : TO P r N ops X K (⟨some d, .call ⟨.builtin .append, #[x, y], #[t, t]⟩, t', pos, af, none⟩ :: l) Γ S := fun hN D E w hs => by
 unfold okN at hN
 simp only [List.all_cons, Bool.and_eq_true] at hN
 obtain ⟨u, e1, h1⟩ := iN hs hx
 obtain rfl : u = v := h1
 obtain ⟨u2, e2, h2⟩ := iN hs hy
 obtain ⟨us, g1, g2, g3⟩ := hs.gd.own _ (List.mem_of_getElem? hi)
 obtain ⟨u3, vs, e3, h3, h4, h5⟩ := hv.h h2
 obtain rfl := List.singleton_inj.1 e3
 obtain ⟨z, hz, hzc⟩ := ht.s
 have hbb := Nat.le_of_ble_eq_true hb
 refine ops_appendk hN.1 ht.u hz hzc (by have := Nat.ne_of_beq_eq_false ht.n; rw [Nat.blt_eq]; omega) e1 e2 g1 h3 (stp_one h4) (by omega) ?_ fun v' w' k1 k2 k3 => ?_
 ·exact Nat.le_trans (Nat.mul_le_mul hn hbb) (by omega)
 ·have hb2 : ∀ b, v'.ownBlock = some b → b < w'.heap.size := fun b hb => by
   obtain ⟨_, ⟨rfl, _⟩ | ⟨g, cap, cur, rfl, _, hg, _⟩⟩ := k1
   ·cases hb
   ·rw [← Option.some.inj hb]; exact (Array.getElem?_eq_some_iff.1 hg).1
  have h6 := hs.setr (l' := cs ++ m) hi k2 (by rw [List.length_append]; exact k1) k3 (eR g2 h4) (fun c hc => (List.mem_append.1 hc).elim (g3 c) (h5 c)) hb2
  exact h v' hN.2 D _ w' (h6.put (xD _) (fun _ => rfl) (fun c => absurd trivial c))
end ops
inductive Pv : Type 1 where
 | non
 | slot (g d : Nat) {α : Type} (sh : α → Value × Ow)
 | st (g d : Nat) {α : Type} (sh : α → Value × Ow) (g0 : Nat) (sh0 : α → Value × Ow)
 | val (v : Value) (o : Ow)
abbrev Gh := Nat → Option (Value × Ow)
def QS (g i : Nat) {α : Type} (sh0 sh : α → Value × Ow) : World × Gh → Prop := fun x => ∃ a, x.2 g = some (sh0 a) ∧ x.2 (i + 1) = some (sh a)
def bkM (o : Ow) (M : Nat → Prop) : Nat → Prop := fun b => o.bk = some b ∨ M b
section
variable (P : Program) (r : Option Nat) (N : Nat) (ops : Array Oper) (S : List Ow) (k0 : Option Nat) (Q : World × Gh → Prop)
def CkN (o : Oper) (Γ : TE) {α : Type} (sh : α → Value × Ow) : Prop := ∀ (M : Nat → Prop) (D : List Deferred) (E : Env) (w : World) (d : Nat), o.dst = some d → Nat.blt d N = true → Gd M S w → Tm Γ (xP ops o) M E w →
 Ops P r N ops (fun D' E' w' => D' = D ∧ Rb w w' ∧ ∃ a, get E' d = some (sh a).1 ∧ (∀ b, (sh a).2.bk = some b → w.heap.size ≤ b) ∧ (sh a).2.ok (bkM (sh a).2 M) w') [o] D E w
def CkA (o : Oper) (Γ : TE) (ev : Env → Value → Prop) (os : Value → Ow → Prop) {α : Type} (sh : α → Value × Ow) : Prop := ∀ (M : Nat → Prop) (D : List Deferred) (E : Env) (w : World) (d : Nat) (v : Value) (ob : Ow), o.dst = some d → Nat.blt d N = true → Gd M S w → Tm Γ (xP ops o) M E w → ev E v → os v ob → ob.ok M w → (∀ b, ob.bk = some b → M b) →
 Ops P r N ops (fun D' E' w' => D' = D ∧ Gro w w' ob.bk ∧ ∃ a, get E' d = some (sh a).1 ∧ ((sh a).2.bk = ob.bk ∨ (sh a).2.bk = some w.heap.size) ∧ (sh a).2.ok (bkM (sh a).2 M) w') [o] D E w
def CkS (o : Oper) (Γ : TE) (dp : Nat) {α : Type} (sh0 sh : α → Value × Ow) : Prop := (∀ a, (sh a).1 = (sh0 a).1 ∧ (sh a).2.bk = (sh0 a).2.bk) ∧ ∀ (M : Nat → Prop) (D : List Deferred) (E : Env) (w : World) (a : α), Gd M S w → Tm Γ (xP ops o) M E w → get E dp = some (sh0 a).1 → (sh0 a).2.ok M w → (∀ b, (sh0 a).2.bk = some b → M b) →
 Ops P r N ops (fun D' E' w' => D' = D ∧ Gro w w' (sh0 a).2.bk ∧ (sh a).2.ok M w') [o] D E w
def CkP (o : Oper) (Γ : TE) {α : Type} (sh : α → Value × Ow) : Pv → Prop
 | .non => CkN P r N ops S o Γ sh
 | .slot _ d sh0 => (xP ops o).any (Nat.beq d) = true ∧ CkA P r N ops S o Γ (fun E v => get E d = some v) (fun v ob => ∃ a, (v, ob) = sh0 a) sh
 | .val v0 o0 => CkA P r N ops S o Γ (fun _ v => v = v0) (fun v ob => v = v0 ∧ ob = o0) sh
 | .st _ _ _ _ _ => False
def TDC (F : List Pv → TE → Prop) : List Oper → Nat → List Pv → List (Nat × Nat × Nat) → TE → Prop
 | [], _, ps, cs, Γ => cs = [] ∧ F ps Γ
 | o :: l, i, ps, cs, Γ => (∃ d q, o.dst = some d ∧ (∀ c ∈ cs, c.1 ≠ i) ∧ (∀ M, O2 P r N ops M S o Γ q) ∧ TDC F l (i + 1) ps cs ((d, q) :: Γ)) ∨
  (∃ d c cs' p, ∃ (α : Type) (sh : α → Value × Ow), cs = (i, d, c) :: cs' ∧ o.dst = some d ∧ ps[c]? = some p ∧ CkP P r N ops S o Γ sh p ∧ TDC F l (i + 1) (ps.set c (.slot (i + 1) d sh)) cs' Γ) ∨
  ∃ dd c cs' g dp, ∃ (α : Type) (sh0 sh : α → Value × Ow), cs = (i, dd, c) :: cs' ∧ k0 = some i ∧ o.dst = none ∧ ps[c]? = some (.slot g dp sh0) ∧ (xP ops o).any (Nat.beq dp) = true ∧ CkS P r N ops S o Γ dp sh0 sh ∧ Q = QS g i sh0 sh ∧ TDC F l (i + 1) (ps.set c (.st (i + 1) dp sh g sh0)) cs' Γ
end
section
variable {P : Program} {r : Option Nat} {N : Nat} {ops : Array Oper} {S : List Ow} {k0 : Option Nat} {Q : World × Gh → Prop} {F : List Pv → TE → Prop} {Γ : TE} {i d c : Nat} {l : List Oper} {ps : List Pv} {cs : List (Nat × Nat × Nat)}
theorem cE (h : F ps Γ) : TDC P r N ops S k0 Q F [] i ps [] Γ := ⟨rfl, h⟩
theorem cx1 {op : Op} {t : TypeId} {pos : String} {af : Array Edge} {Ψ : PV} (h1 : ∀ {M}, Ob P r N ops M S True ⟨some d, op, t, pos, af, none⟩ Γ Ψ) (hi : (cs.all fun c => !Nat.beq c.1 i) = true) (h2 : TDC P r N ops S k0 Q F l (i + 1) ps cs ((d, True, Ψ) :: Γ)) :
  TDC P r N ops S k0 Q F (⟨some d, op, t, pos, af, none⟩ :: l) i ps cs Γ := .inl ⟨d, _, rfl, fun c hc e => (by have := List.all_eq_true.1 hi c hc; rw [e] at this; simp at this), fun _ => o_of h1, h2⟩
theorem cN {α : Type} {sh : α → Value × Ow} {o : Oper} (ho : o.dst = some d) (hc : ps[c]? = some .non) (h1 : CkN P r N ops S o Γ sh) (h2 : TDC P r N ops S k0 Q F l (i + 1) (ps.set c (.slot (i + 1) d sh)) cs Γ) : TDC P r N ops S k0 Q F (o :: l) i ps ((i, d, c) :: cs) Γ := .inr (.inl ⟨d, c, cs, _, α, sh, rfl, ho, hc, h1, h2⟩)
theorem cB {α : Type} {sh : α → Value × Ow} {o : Oper} {v0 : Value} {o0 : Ow} (ho : o.dst = some d) (hc : ps[c]? = some (.val v0 o0)) (h1 : CkA P r N ops S o Γ (fun _ v => v = v0) (fun v ob => v = v0 ∧ ob = o0) sh) (h2 : TDC P r N ops S k0 Q F l (i + 1) (ps.set c (.slot (i + 1) d sh)) cs Γ) : TDC P r N ops S k0 Q F (o :: l) i ps ((i, d, c) :: cs) Γ := .inr (.inl ⟨d, c, cs, _, α, sh, rfl, ho, hc, h1, h2⟩)
theorem cS {α : Type} {sh0 sh : α → Value × Ow} {o : Oper} {g dp dd : Nat} (ho : o.dst = none) (hc : ps[c]? = some (.slot g dp sh0)) (hs : (xP ops o).any (Nat.beq dp) = true) (h1 : CkS P r N ops S o Γ dp sh0 sh) (h2 : TDC P r N ops S (some i) (QS g i sh0 sh) F l (i + 1) (ps.set c (.st (i + 1) dp sh g sh0)) cs Γ) : TDC P r N ops S (some i) (QS g i sh0 sh) F (o :: l) i ps ((i, dd, c) :: cs) Γ := .inr (.inr ⟨dd, c, cs, g, dp, α, sh0, sh, rfl, rfl, ho, hc, hs, h1, rfl, h2⟩)
end
def gup (g : Gh) (i : Nat) (a : Value × Ow) : Gh := fun j => if j = i then some a else g j
def gbk (g : Gh) : Nat → Prop := fun b => ∃ i a, g i = some a ∧ a.2.bk = some b
def MH (S : List Ow) (M : Nat → Prop) (g : Gh) : Nat → Prop := fun b => gbk g b ∨ Mk S M b
structure GI (n : Nat) (b0 : Option Nat) (S : List Ow) (M : Nat → Prop) (ic : Nat → Prop) (ch : Nat → Nat) (x : World × Gh) : Prop where
 dom : ∀ i a, x.2 i = some a → ic i
 lo : ∀ i a, x.2 i = some a → ∀ b, a.2.bk = some b → ¬ Mk S M b ∧ (n ≤ b ∨ b0 = some b) ∧ b < x.1.heap.size
 cl : ∀ i j a, j < i → ch j = ch i → ic j → x.2 i = some a → x.2 j ≠ none
 dis : ∀ i j a c, x.2 i = some a → x.2 j = some c → ch i ≠ ch j → ∀ b, a.2.bk = some b → c.2.bk ≠ some b
 row : ∀ i a, x.2 i = some a → (∀ j, i < j → ch j = ch i → x.2 j = none) → a.2.ok (MH S M x.2) x.1
structure RH (I : World × Gh → Prop) (a b : World × Gh) : Prop where
 os : b.1.os = a.1.os
 tape : Tp a.1 b.1
 output : b.1.output = a.1.output
 size : a.1.heap.size ≤ b.1.heap.size
 blk : ∀ i, i < a.1.heap.size → ¬ gbk a.2 i → b.1.heap[i]? = a.1.heap[i]?
 mon : ∀ i c, a.2 i = some c → b.2 i = some c
 new : ∀ i, gbk b.2 i → gbk a.2 i ∨ a.1.heap.size ≤ i
 inv : I a → I b
theorem RH.trans {I : World × Gh → Prop} {a b c : World × Gh} (h : RH I a b) (g : RH I b c) : RH I a c :=
 ⟨g.os.trans h.os, g.tape.trans h.tape, g.output.trans h.output, Nat.le_trans h.size g.size, fun i hi hn => (g.blk i (Nat.lt_of_lt_of_le hi h.size) fun c => (h.new i c).elim hn fun c => by omega).trans (h.blk i hi hn), fun i c hc => g.mon i c (h.mon i c hc), fun i hi => (g.new i hi).elim (h.new i) fun c => .inr (Nat.le_trans h.size c), fun hI => g.inv (h.inv hI)⟩
theorem RH.cl {I : World × Gh → Prop} {S : List Ow} {M : Nat → Prop} {a b : World × Gh} (h : RH I a b) : Cl (MH S M a.2) a.1 (MH S M b.2) b.1 := fun i cur t fz hk hw => by
 have hlt := (Array.getElem?_eq_some_iff.1 hw).1
 refine ⟨fun c => ?_, (h.blk i hlt fun c => hk (.inl c)).trans hw⟩
 rcases c with c | c
 ·rcases h.new i c with c | c
  ·exact hk (.inl c)
  ·omega
 ·exact hk (.inr c)
theorem Ow.ok_lt {o : Ow} {M : Nat → Prop} {w : World} (h : o.ok M w) {b : Nat} (hb : o.bk = some b) : b < w.heap.size := by
 cases o with
 | blk b' ty cs => obtain ⟨us, h1, _⟩ := h; obtain rfl := Option.some.inj hb; exact h1.lt
 | row v ty k l =>
  obtain ⟨us, ⟨_, ⟨rfl, _⟩ | ⟨c, cap, cur, rfl, _, h6, _⟩⟩, _⟩ := h
  ·cases hb
  ·rw [← Option.some.inj (show some c = some b from hb)]; exact (Array.getElem?_eq_some_iff.1 h6).1
section
variable {n : Nat} {b0 : Option Nat} {S : List Ow} {M : Nat → Prop} {ic : Nat → Prop} {ch : Nat → Nat} {w w' : World} {g : Gh}
theorem rh_pure (h : Rb w w') : RH (GI n b0 S M ic ch) (w, g) (w', g) :=
 ⟨h.os, h.tape, h.output, h.size, fun i hi _ => h.block i hi, fun _ _ h => h, fun i h => .inl h, fun hI => ⟨hI.dom, fun i a ha b hb => let q := hI.lo i a ha b hb; ⟨q.1, q.2.1, Nat.lt_of_lt_of_le q.2.2 h.size⟩, hI.cl, hI.dis, fun i a ha hn =>
  Ow.ok_mono (hI.row i a ha hn) (Cl.bel h) fun b _ hlt => h.block b hlt⟩⟩
theorem rh_row {i : Nat} {a : Value × Ow} {rw : Option Nat} (hg : Gro w w' rw) (hrw : ∀ b, rw = some b → ∃ j c, g j = some c ∧ c.2.bk = some b ∧ ch j = ch i) (hM : OkM (Mk S M) w) (hi : g i = none) (hic : ic i) (hpast : ∀ j, j < i → ch j = ch i → ic j → g j ≠ none) (hfut : ∀ j, i < j → ch j = ch i → g j = none) (hv : ∀ b, a.2.bk = some b → (∃ j c, g j = some c ∧ c.2.bk = some b ∧ ch j = ch i) ∨ w.heap.size ≤ b) (hn : n ≤ w.heap.size)
  (ho : a.2.ok (MH S M (gup g i a)) w') : RH (GI n b0 S M ic ch) (w, g) (w', gup g i a) := by
 have hup : ∀ j c, gup g i a j = some c → (j = i ∧ c = a) ∨ (j ≠ i ∧ g j = some c) := fun j c h => by
  unfold gup at h
  split at h
  ·rename_i e; exact .inl ⟨e, (Option.some.inj h).symm⟩
  ·rename_i e; exact .inr ⟨e, h⟩
 have hself : gup g i a i = some a := if_pos rfl
 have hoth : ∀ j, j ≠ i → gup g i a j = g j := fun j e => if_neg e
 have hnb : ∀ b, gbk (gup g i a) b → gbk g b ∨ w.heap.size ≤ b := fun b ⟨j, c, h1, h2⟩ => by
  rcases hup j c h1 with ⟨rfl, rfl⟩ | ⟨e, h1⟩
  ·exact (hv b h2).imp (fun ⟨j, c, h3, h4, _⟩ => ⟨j, c, h3, h4⟩) id
  ·exact .inl ⟨j, c, h1, h2⟩
 refine ⟨hg.os, hg.tape, hg.output, hg.size, fun b hb hnb => hg.block b hb fun e => hnb (let ⟨j, c, h1, h2, _⟩ := hrw b e.symm; ⟨j, c, h1, h2⟩), fun j c hc => ?_, hnb, fun hI => ⟨fun j c h => ?_, fun j c h b hb => ?_, fun j q c hq hch hiq h => ?_, fun j q c e h1 h2 hne b hb hb2 => ?_, fun j c h hno => ?_⟩⟩
 ·show gup g i a j = some c
  rw [hoth j fun e => by subst e; rw [show g j = some c from hc] at hi; cases hi]; exact hc
 ·rcases hup j c h with ⟨rfl, _⟩ | ⟨_, h⟩
  ·exact hic
  ·exact hI.dom j c h
 ·rcases hup j c h with ⟨rfl, rfl⟩ | ⟨_, h⟩
  ·refine ⟨?_, ?_, Ow.ok_lt ho hb⟩
   ·rcases hv b hb with ⟨q, e, h1, h2, _⟩ | h2
    ·exact (hI.lo q e h1 b h2).1
    ·exact fun c => by have := hM b c; omega
   ·rcases hv b hb with ⟨q, e, h1, h2, _⟩ | h2
    ·exact (hI.lo q e h1 b h2).2.1
    ·exact .inl (Nat.le_trans hn h2)
  ·have := hI.lo j c h b hb
   exact ⟨this.1, this.2.1, Nat.lt_of_lt_of_le this.2.2 hg.size⟩
 ·by_cases e : q = i
  ·subst e
   show gup g q a q ≠ none
   rw [hself]; simp
  ·show gup g i a q ≠ none
   rw [hoth q e]
   rcases hup j c h with ⟨rfl, _⟩ | ⟨_, h⟩
   ·exact hpast q hq hch hiq
   ·exact hI.cl j q c hq hch hiq h
 ·have key : ∀ (k : Nat) (f : Value × Ow), g k = some f → ch k ≠ ch i → a.2.bk = some b → f.2.bk ≠ some b := fun k f hk hne hab hfb => by
   rcases hv b hab with ⟨m, c, h3, h4, h5⟩ | h3
   ·exact hI.dis m k c f h3 hk (fun e => hne (e.symm.trans h5)) b h4 hfb
   ·have := (hI.lo k f hk b hfb).2.2; simp only at this; omega
  rcases hup j c h1 with ⟨ej, ea⟩ | ⟨_, h1'⟩
  ·rcases hup q e h2 with ⟨eq, _⟩ | ⟨_, h2'⟩
   ·exact hne (by rw [ej, eq])
   ·exact key q e h2' (fun e => hne (by rw [ej]; exact e.symm)) (ea ▸ hb) hb2
  ·rcases hup q e h2 with ⟨eq, ea⟩ | ⟨_, h2'⟩
   ·exact key j c h1' (fun e => hne (by rw [eq]; exact e)) (ea ▸ hb2) hb
   ·exact hI.dis j q c e h1' h2' hne b hb hb2
 ·rcases hup j c h with ⟨rfl, rfl⟩ | ⟨e, h⟩
  ·exact ho
  ·by_cases hcc : ch j = ch i
   ·rcases Nat.lt_trichotomy j i with c2 | c2 | c2
    ·have this : gup g i a i = none := hno i c2 hcc.symm
     rw [hself] at this; cases this
    ·exact absurd c2 e
    ·have h : g j = some c := h
     rw [hfut j c2 hcc] at h; cases h
   ·have h1 := hI.row j c h fun q hq hch => by
     have : gup g i a q = none := hno q hq hch
     unfold gup at this
     split at this
     ·cases this
     ·exact this
    refine Ow.ok_mono h1 (fun b cur t fz hk hw => ?_) fun b hb hlt => hg.block b hlt fun e2 => ?_
    ·have hlt : b < w.heap.size := (Array.getElem?_eq_some_iff.1 hw).1
     refine ⟨fun c => ?_, (hg.block b hlt fun e2 => hk (.inl (let ⟨j, c, h1, h2, _⟩ := hrw b e2.symm; ⟨j, c, h1, h2⟩))).trans hw⟩
     rcases c with c | c
     ·exact (hnb b c).elim (fun c => hk (.inl c)) fun c => by omega
     ·exact hk (.inr c)
    ·obtain ⟨m, f, h3, h4, h5⟩ := hrw b e2.symm
     exact hI.dis j m c f h h3 (fun e => hcc (e.trans h5)) b hb h4
end
def vph (S : List Ow) (M : Nat → Prop) (q : Prop × PV) : VPS Gh := fun v x => (q.1 → q.2.p (MH S M x.2) x.1 v) ∧ (¬ q.1 → v = undef)
def vpg (i : Nat) {α : Type} (sh : α → Value × Ow) : VPS Gh := fun v x => ∃ a, x.2 i = some (sh a) ∧ v = (sh a).1
theorem vph_mono {I : World × Gh → Prop} {S : List Ow} {M : Nat → Prop} {q : Prop × PV} : ∀ v a b, vph S M q v a → RH I a b → vph S M q v b := fun v a b h r => ⟨fun c => q.2.mono (h.1 c) r.cl, h.2⟩
def RelH (S : List Ow) (M : Nat → Prop) (sl : Nat → Prop) (Γ0 : List (Nat × VPS Gh)) (dr : TE) : Prop := ∀ s, ¬ sl s → match Γ0.find? (fun p => Nat.beq p.1 s) with
 | some p => ∃ q, tf dr s = some q ∧ p.2 = vph S M q
 | none => tf dr s = none
theorem eB {E : Env} {S : List Ow} {M : Nat → Prop} {sl : Nat → Prop} {Γ0 : List (Nat × VPS Gh)} {dr Γ : TE} {x : World × Gh} {body : Env → Prop} (hR : RelH S M sl Γ0 dr) (hda : ∀ s, sl s → tf (dr ++ Γ) s = none) (hE : TM Γ (MH S M x.2) E x.1) : ∀ (ss : List Nat) (F : Env) (done : List Nat), Tm (dr ++ Γ) done (MH S M x.2) F x.1 →
  (∀ s ∈ done, ∀ p, Γ0.find? (fun p => Nat.beq p.1 s) = some p → ∃ v, get F s = some v ∧ p.2 v x) → (∀ F', Tm (dr ++ Γ) (ss ++ done) (MH S M x.2) F' x.1 → (∀ s ∈ ss ++ done, ∀ p, Γ0.find? (fun p => Nat.beq p.1 s) = some p → ∃ v, get F' s = some v ∧ p.2 v x) → body F') → kS Γ0 E x body ss F
 | [], F, done, h, h0, hb => hb F (by simpa using h) (by simpa using h0)
 | s :: ss, F, done, h, h0, hb => by
  have next : ∀ v, (∀ q, tf (dr ++ Γ) s = some q → (q.1 → q.2.p (MH S M x.2) x.1 v) ∧ (¬ q.1 → v = undef)) → (∀ p, Γ0.find? (fun p => Nat.beq p.1 s) = some p → p.2 v x) → kS Γ0 E x body ss ((s, v) :: F) := fun v hv hp => by
   refine eB hR hda hE ss _ (s :: done) (fun i hi q hq => ?_) (fun i hi p hf => ?_) (fun F' hF hG => hb F' (fun i hi => hF i (by simp only [List.mem_append, List.mem_cons] at hi ⊢; rcases hi with (h1 | h1) | h1 <;> simp [h1])) fun i hi => hG i (by simp only [List.mem_append, List.mem_cons] at hi ⊢; rcases hi with (h1 | h1) | h1 <;> simp [h1]))
   ·cases hbq : Nat.beq s i with
    | true =>
     obtain rfl := Nat.eq_of_beq_eq_true hbq
     exact tok_hit (uR (by simp)) (hv q hq)
    | false =>
     rcases List.mem_cons.1 hi with rfl | hi
     ·simp at hbq
     ·have := h i hi q hq
      exact ⟨fun c => by rw [dO hbq]; exact this.1 c, fun c => by rw [dO hbq]; exact this.2 c⟩
   ·cases hbq : Nat.beq s i with
    | true =>
     obtain rfl := Nat.eq_of_beq_eq_true hbq
     exact ⟨v, uR (by simp), hp p hf⟩
    | false =>
     rcases List.mem_cons.1 hi with rfl | hi
     ·simp at hbq
     ·obtain ⟨u, h1, h2⟩ := h0 i hi p hf
      exact ⟨u, by rw [dO hbq]; exact h1, h2⟩
  unfold kS
  cases hf : Γ0.find? (fun p => Nat.beq p.1 s) with
  | some p =>
   intro v hv
   refine next v (fun Φ hΦ => ?_) (fun p' hp' => by rw [hf] at hp'; obtain rfl := Option.some.inj hp'; exact hv)
   by_cases hsl : sl s
   ·rw [hda s hsl] at hΦ; cases hΦ
   ·have hr := hR s hsl
    rw [hf] at hr
    obtain ⟨q, h1, h2⟩ := hr
    rw [dH, h1] at hΦ
    obtain rfl := Option.some.inj hΦ
    rw [h2] at hv; exact hv
  | none =>
   have hno : ∀ p, Γ0.find? (fun p => Nat.beq p.1 s) = some p → ∀ v, p.2 v x := fun p hp => by rw [hf] at hp; cases hp
   have hdr : ∀ q, tf (dr ++ Γ) s = some q → tf Γ s = some q := fun q hq => by
    by_cases hsl : sl s
    ·rw [hda s hsl] at hq; cases hq
    ·have hr := hR s hsl
     rw [hf] at hr
     rw [dH, hr] at hq; exact hq
   cases hg : get E s with
   | some v =>
    refine next v (fun Φ hΦ => ?_) fun p hp => hno p hp v
    have h2 := hE s Φ (hdr Φ hΦ)
    refine ⟨fun c => ?_, fun c => ?_⟩
    ·obtain ⟨u, h3, h4⟩ := h2.1 c
     rw [hg] at h3
     obtain rfl := Option.some.inj h3
     exact h4
    ·have := h2.2 c
     rw [hg] at this
     exact Option.some.inj this
   | none =>
    refine eB hR hda hE ss _ (s :: done) (fun i hi q hq => ?_) (fun i hi p hf' => ?_) (fun F' hF hG => hb F' (fun i hi => hF i (by simp only [List.mem_append, List.mem_cons] at hi ⊢; rcases hi with (h1 | h1) | h1 <;> simp [h1])) fun i hi => hG i (by simp only [List.mem_append, List.mem_cons] at hi ⊢; rcases hi with (h1 | h1) | h1 <;> simp [h1]))
    ·rcases List.mem_cons.1 hi with rfl | hi
     ·have h2 := hE _ q (hdr q hq)
      by_cases c : q.1
      ·obtain ⟨u, h3, _⟩ := h2.1 c; rw [hg] at h3; cases h3
      ·have := h2.2 c; rw [hg] at this; cases this
     ·exact h i hi q hq
    ·rcases List.mem_cons.1 hi with rfl | hi
     ·rw [hf] at hf'; cases hf'
     ·exact h0 i hi p hf'
def lO : Pv → Option Nat
 | .non => none
 | .slot g _ _ => some g
 | .val _ _ => some 0
 | .st g _ _ _ _ => some g
def lQ (ps : List Pv) (ch : Nat → Nat) (j : Nat) : Prop := ∃ p g, ps[ch j]? = some p ∧ lO p = some g ∧ j ≤ g
def pok (Q : World × Gh → Prop) (sl : Nat → Prop) (g0 : Gh) (Γ0 : List (Nat × VPS Gh)) : Pv → Prop
 | .non => True
 | .slot g d sh => sl d ∧ Γ0.find? (fun p => Nat.beq p.1 d) = some (d, vpg g sh)
 | .val v o => g0 0 = some (v, o)
 | .st g d sh g1 sh0 => sl d ∧ Γ0.find? (fun p => Nat.beq p.1 d) = some (d, vpg g1 sh0) ∧ (∀ a, (sh a).1 = (sh0 a).1) ∧ ∀ x, Q x → ∃ a, x.2 g1 = some (sh0 a) ∧ x.2 g = some (sh a)
def psl (d : Nat) : Pv → Prop
 | .slot _ d' _ => d = d'
 | .st _ d' _ _ _ => d = d'
 | _ => False
section
variable {P : Program} {r : Option Nat} {N : Nat} {ops : Array Oper} {D : List Deferred} {E : Env} {S : List Ow} {M : Nat → Prop} {n : Nat} {b0 : Option Nat} {ic sl : Nat → Prop} {ch : Nat → Nat} {w : World} {g0 : Gh} {Γ : TE} {F : List Pv → TE → Prop} {k0 : Option Nat} {Q : World × Gh → Prop}
theorem tdc_drs (hT : TM Γ (MH S M g0) E w) (hG : Gd (MH S M g0) S w) (hok : OkM (Mk S M) w) (hI : GI n b0 S M ic ch (w, g0)) (hn : n ≤ w.heap.size) (hsl : ∀ s, sl s → tf Γ s = none) : ∀ (l : List Oper) (i : Nat) (ps : List Pv) (cs : List (Nat × Nat × Nat)) (dr : TE) (Γ0 : List (Nat × VPS Gh)), okN N l = true →
  (∀ j o, l[j]? = some o → k0 = some (i + j) → o.dst = none) → TDC P r N ops S k0 Q F l i ps cs (dr ++ Γ) → RelH S M sl Γ0 dr → (∀ s, sl s → tf dr s = none) → (∀ j o d, l[j]? = some o → o.dst = some d → sl d → ∃ c, (i + j, d, c) ∈ cs) → cs.Pairwise (fun a b => a.1 < b.1 ∧ a.2.1 ≠ b.2.1) → (∀ c ∈ cs, i ≤ c.1 ∧ ic (c.1 + 1) ∧ sl c.2.1 ∧ ch (c.1 + 1) = c.2.2) → (∀ j, ic j → lQ ps ch j ∨ ∃ c ∈ cs, j = c.1 + 1) →
  (∀ (c : Nat) (p : Pv) (g : Nat), ps[c]? = some p → lO p = some g → g ≤ i ∧ ch g = c) → (∀ (c : Nat) (p : Pv), ps[c]? = some p → pok Q sl g0 Γ0 p ∧ ∀ d, psl d p → ∀ c' ∈ cs, c'.2.1 ≠ d) →
  dU P r N ops D E (w, g0) (RH (GI n b0 S M ic ch)) (fun i a b => RH (GI n b0 S M ic ch) a b ∧ ∀ j, j ≠ i + 1 → b.2 j = a.2 j) (fun i x => x.2 (i + 1) = none) (k0.map fun k => (k, fun x => x.2 (k + 1) = none, Q))
   (fun Γ1 => ∃ dr' ps', RelH S M sl Γ1 dr' ∧ (∀ s, sl s → tf dr' s = none) ∧ (∀ j, ic j → lQ ps' ch j) ∧ (∀ (c : Nat) (p : Pv), ps'[c]? = some p → pok Q sl g0 Γ1 p ∧ ∀ g, lO p = some g → ch g = c) ∧ (∀ s, s ∈ dr'.map (·.1) → s ∈ (l.filterMap (·.dst)) ++ dr.map (·.1)) ∧ F ps' (dr' ++ Γ)) l i Γ0
 | [], i, ps, cs, dr, Γ0, _, _, ⟨hc, h⟩, hR, hd, _, _, _, hic, hpi, hp => ⟨dr, ps, hR, hd, fun j hj => (hic j hj).elim id fun ⟨c, hc', _⟩ => (by subst hc; cases hc'), fun c p h => ⟨(hp c p h).1, fun g hg => (hpi c p g h hg).2⟩, by simp, h⟩
 | o :: l, i, ps, cs, dr, Γ0, hN, hk0, h, hR, hd, hdst, hcs, hc, hic, hpi, hp => by
  unfold okN at hN
  simp only [List.all_cons, Bool.and_eq_true] at hN
  have hx : ∀ x, RH (GI n b0 S M ic ch) (w, g0) x → TM Γ (MH S M x.2) E x.1 ∧ Gd (MH S M x.2) S x.1 ∧ GI n b0 S M ic ch x ∧ OkM (Mk S M) x.1 ∧ n ≤ x.1.heap.size := fun x hr => by
   have hg := hr.inv hI
   refine ⟨hT.mono hr.cl, ⟨fun b hb => ?_, hG.tab.cl hr.cl, fun o ho => Ow.ok_mono (hG.own o ho) hr.cl fun b hb hlt => hr.blk b hlt fun ⟨j, a, h1, h2⟩ => ?_⟩, hg, fun b hb => Nat.lt_of_lt_of_le (hok b hb) hr.size, Nat.le_trans hn hr.size⟩
   ·rcases hb with ⟨j, a, h1, h2⟩ | hb
    ·exact (hg.lo j a h1 b h2).2.2
    ·exact Nat.lt_of_lt_of_le (hok b hb) hr.size
   ·exact (hI.lo j a h1 b h2).1 (.inl ⟨o, ho, hb⟩)
  have hk1 : ∀ j o, l[j]? = some o → k0 = some (i + 1 + j) → o.dst = none := fun j o hj e => hk0 (j + 1) o (by simpa using hj) (by rw [e, show i + 1 + j = i + (j + 1) by omega])
  have hst : ∀ d, o.dst = some d → ∀ k pre post, (k0.map fun k => (k, (fun x : World × Gh => x.2 (k + 1) = none), Q)) = some (k, pre, post) → i ≠ k := fun d ho k pre post h e => by
   cases k0 with
   | none => cases h
   | some k' =>
    obtain rfl : k' = k := (Prod.mk.inj (Option.some.inj h)).1
    have := hk0 0 o rfl (by rw [e]; rfl)
    rw [ho] at this; cases this
  rcases h with ⟨d, q, ho, hne, h1, h2⟩ | ⟨d, c, cs', p, α, sh, rfl, ho, hpc, h1, h2⟩ | ⟨dd, c, cs', g, dp, α, sh0, sh, rfl, hke, ho, hpc, hsd, h1, hQe, h2⟩
  ·have hdN : Nat.blt d N = true := by have := hN.1; rw [ho] at this; exact this
   have hnsl : ¬ sl d := fun c => let ⟨c', h3⟩ := hdst 0 o d rfl ho c; hne _ h3 rfl
   have hbeq : ∀ s, sl s → Nat.beq d s = false := fun s hs => by cases hb : Nat.beq d s with | true => (obtain rfl := Nat.eq_of_beq_eq_true hb; exact absurd hs hnsl) | false => rfl
   have h3 := tdc_drs hT hG hok hI hn hsl l (i + 1) ps cs ((d, q) :: dr) ((d, vph S M q) :: Γ0) hN.2 hk1 h2 (fun s hs => by
    rw [List.find?_cons]
    show match (match Nat.beq d s with | true => some (d, vph S M q) | false => Γ0.find? fun p => Nat.beq p.1 s) with | some p => ∃ q', (bif Nat.beq d s then some q else tf dr s) = some q' ∧ p.2 = vph S M q' | none => (bif Nat.beq d s then some q else tf dr s) = none
    cases hb : Nat.beq d s with
    | true => exact ⟨q, rfl, rfl⟩
    | false => exact hR s hs) (fun s hs => by unfold tf; rw [hbeq s hs]; exact hd s hs) (fun j o' d' hj hd' hs' => by have := hdst (j + 1) o' d' (by simpa using hj) hd' hs'; rwa [show i + 1 + j = i + (j + 1) by omega]) hcs
    (fun c hc' => ⟨by have := (hc c hc').1; have := hne c hc'; omega, (hc c hc').2⟩) hic (fun c p g h4 hg => ⟨by have := (hpi c p g h4 hg).1; omega, (hpi c p g h4 hg).2⟩) (fun c p h4 => ⟨by
     have h5 := (hp c p h4).1
     cases p with
     | non => trivial
     | slot g d' sh => exact ⟨h5.1, by rw [List.find?_cons]; simp only [hbeq _ h5.1]; exact h5.2⟩
     | st g d' sh g1 sh0 => exact ⟨h5.1, by rw [List.find?_cons]; simp only [hbeq _ h5.1]; exact h5.2.1, h5.2.2⟩
     | val v l0 => exact h5, (hp c p h4).2⟩)
   refine ⟨vph S M q, ?_, ?_⟩
   ·unfold dS
    rw [ho]
    refine ⟨vph_mono, .inl ⟨hst d ho, fun x hr _ _ => ?_⟩⟩
    obtain ⟨k1, k2, k3, k4, k5⟩ := hx x hr
    refine eB hR (fun s hs => by rw [dH, hd s hs]; exact hsl s hs) k1 _ _ [] (fun i hi => by simp at hi) (fun i hi => by simp at hi) fun F' hF' _ => ?_
    intro a Q ha hD hk
    refine h1 _ D F' x.1 d ho hdN k2 (by simpa using hF') a Q ha hD fun a' w' E' g1 ⟨g2, g3, v, g4, g5⟩ => hk a' w' E' g1 ⟨g2, x.2, ⟨rh_pure g3, fun _ _ => rfl⟩, v, g4, g5⟩
   ·unfold fS
    rw [ho]
    refine cK (fun Γ1 ⟨dr', p', g1, g2, g3, g4, g5, g6⟩ => ⟨dr', p', g1, g2, g3, g4, fun s hs => ?_, g6⟩) h3
    have := g5 s hs
    simp only [List.mem_append, List.filterMap_cons, ho, List.mem_cons, List.map_cons] at this ⊢
    rcases this with c | c | c
    ·exact .inl (.inr c)
    ·exact .inl (.inl c)
    ·exact .inr c
  ·have hdN : Nat.blt d N = true := by have := hN.1; rw [ho] at this; exact this
   obtain ⟨_, hici, hsld, hchi⟩ := hc (i, d, c) (by simp)
   have hchi : ch (i + 1) = c := hchi
   have hlt : ∀ c' ∈ cs', i < c'.1 ∧ d ≠ c'.2.1 := fun c' hc' => (List.pairwise_cons.1 hcs).1 c' hc'
   have hcl : c < ps.length := (List.getElem?_eq_some_iff.1 hpc).1
   have h3 := tdc_drs hT hG hok hI hn hsl l (i + 1) (ps.set c (.slot (i + 1) d sh)) cs' dr ((d, vpg (i + 1) sh) :: Γ0) hN.2 hk1 h2 (fun s hs => by
    have hb : Nat.beq d s = false := by cases hb : Nat.beq d s with | true => (obtain rfl := Nat.eq_of_beq_eq_true hb; exact absurd hsld hs) | false => rfl
    rw [List.find?_cons]; simp only [hb]; exact hR s hs) hd (fun j o' d' hj hd' hs' => by
     obtain ⟨c2, h4⟩ := hdst (j + 1) o' d' (by simpa using hj) hd' hs'
     rw [show i + 1 + j = i + (j + 1) by omega]
     rcases List.mem_cons.1 h4 with e | e
     ·have := (Prod.mk.inj e).1; omega
     ·exact ⟨c2, e⟩) (List.pairwise_cons.1 hcs).2 (fun c' hc' => ⟨(hlt c' hc').1, (hc c' (by simp [hc'])).2⟩) (fun j hj => by
     rcases hic j hj with ⟨p1, g, h5, h6, h7⟩ | ⟨c', hc', e⟩
     ·by_cases e : ch j = c
      ·exact .inl ⟨_, i + 1, by rw [e, List.getElem?_set_self hcl], rfl, by have := (hpi _ _ _ h5 h6).1; omega⟩
      ·exact .inl ⟨p1, g, by rw [List.getElem?_set_ne (fun e2 => e e2.symm)]; exact h5, h6, h7⟩
     ·rcases List.mem_cons.1 hc' with rfl | hc'
      ·exact .inl ⟨_, i + 1, by rw [e, hchi, List.getElem?_set_self hcl], rfl, by rw [e]; exact Nat.le_refl _⟩
      ·exact .inr ⟨c', hc', e⟩) (fun c' p1 g h5 h6 => by
     by_cases e : c = c'
     ·subst e
      rw [List.getElem?_set_self hcl] at h5
      obtain rfl := Option.some.inj h5
      obtain rfl := Option.some.inj h6
      exact ⟨Nat.le_refl _, hchi⟩
     ·rw [List.getElem?_set_ne e] at h5
      exact ⟨Nat.le_succ_of_le (hpi _ _ _ h5 h6).1, (hpi _ _ _ h5 h6).2⟩) (fun c' p1 h5 => by
     by_cases e : c = c'
     ·subst e
      rw [List.getElem?_set_self hcl] at h5
      obtain rfl := Option.some.inj h5
      exact ⟨⟨hsld, by rw [List.find?_cons]; simp⟩, fun d' hd' c2 hc2 => by obtain rfl : d' = d := hd'; exact fun e => (hlt c2 hc2).2 e.symm⟩
     ·rw [List.getElem?_set_ne e] at h5
      have h6 := hp c' p1 h5
      refine ⟨?_, fun d' hd' c2 hc2 => h6.2 d' hd' c2 (by simp [hc2])⟩
      cases p1 with
      | non => trivial
      | slot g d' sh1 =>
       have hne : d ≠ d' := h6.2 d' rfl (i, d, c) (by simp)
       have hb : Nat.beq d d' = false := by cases hb : Nat.beq d d' with | true => exact absurd (Nat.eq_of_beq_eq_true hb) hne | false => rfl
       exact ⟨h6.1.1, by rw [List.find?_cons]; simp only [hb]; exact h6.1.2⟩
      | st g d' sh1 g1 sh0 =>
       have hne : d ≠ d' := h6.2 d' rfl (i, d, c) (by simp)
       have hb : Nat.beq d d' = false := by cases hb : Nat.beq d d' with | true => exact absurd (Nat.eq_of_beq_eq_true hb) hne | false => rfl
       exact ⟨h6.1.1, by rw [List.find?_cons]; simp only [hb]; exact h6.1.2.1, h6.1.2.2⟩
      | val v l0 => exact h6.1)
   have hall : ∀ x, RH (GI n b0 S M ic ch) (w, g0) x → x.2 (i + 1) = none → (∀ j, i + 1 < j → ch j = c → x.2 j = none) ∧ ∀ g, lO p = some g → ∀ a, x.2 g = some a → (∀ j, j < i + 1 → ch j = c → ic j → x.2 j ≠ none) ∧ ∀ j, g < j → ch j = c → x.2 j = none := fun x hr hpr => by
    have hg := hr.inv hI
    have hf : ∀ j, i + 1 < j → ch j = c → x.2 j = none := fun j hj hcj => by
     cases hxj : x.2 j with
     | none => rfl
     | some a => exact absurd hpr (hg.cl j (i + 1) a hj (hchi.trans hcj.symm) hici hxj)
    refine ⟨hf, fun g hgp a ha => ⟨fun j hj hcj hjc => ?_, fun j hj hcj => ?_⟩⟩
    ·rcases hic j hjc with ⟨p1, g', h5, h6, h7⟩ | ⟨c', hc', e⟩
     ·rw [hcj, hpc] at h5
      obtain rfl := Option.some.inj h5
      obtain rfl : g = g' := Option.some.inj (hgp.symm.trans h6)
      rcases Nat.lt_or_ge j g with c2 | c2
      ·exact hg.cl g j a c2 (hcj.trans (hpi _ _ _ hpc hgp).2.symm) hjc ha
      ·obtain rfl : j = g := by omega
       rw [ha]; simp
     ·have := (hc c' hc').1; omega
    ·cases hxj : x.2 j with
     | none => rfl
     | some b =>
      rcases hic j (hg.dom j b hxj) with ⟨p1, g', h5, h6, h7⟩ | ⟨c', hc', e⟩
      ·rw [hcj, hpc] at h5
       obtain rfl := Option.some.inj h5
       obtain rfl : g = g' := Option.some.inj (hgp.symm.trans h6)
       omega
      ·have := (hc c' hc').1
       rcases Nat.lt_or_ge (i + 1) j with c2 | c2
       ·rw [hf j c2 hcj] at hxj; cases hxj
       ·obtain rfl : j = i + 1 := by omega
        rw [hpr] at hxj; cases hxj
   refine ⟨vpg (i + 1) sh, ?_, ?_⟩
   ·unfold dS
    rw [ho]
    refine ⟨fun v a b ⟨q, h4, h5⟩ hr => ⟨q, hr.mon _ _ h4, h5⟩, .inl ⟨hst d ho, fun x hr _ hpr => ?_⟩⟩
    obtain ⟨k1, k2, k3, k4, k5⟩ := hx x hr
    obtain ⟨a1, a2⟩ := hall x hr hpr
    have hpr : x.2 (i + 1) = none := hpr
    refine eB hR (fun s hs => by rw [dH, hd s hs]; exact hsl s hs) k1 _ _ [] (fun i hi => by simp at hi) (fun i hi => by simp at hi) fun F' hF' hV => ?_
    have lift : ∀ (a : α) (w' : World), (sh a).2.ok (bkM (sh a).2 (MH S M x.2)) w' → (sh a).2.ok (MH S M (gup x.2 (i + 1) (sh a))) w' := fun a w' h4 =>
     Ow.ok_mono h4 (Cl.less fun b hb => by
      rcases hb with ⟨j, f, h6, h7⟩ | f
      ·unfold gup at h6
       split at h6
       ·obtain rfl := Option.some.inj h6
        exact .inl h7
       ·exact .inr (.inl ⟨j, f, h6, h7⟩)
      ·exact .inr (.inr f)) fun _ _ _ => rfl
    have chg : ∀ (v : Value) (ob : Ow) (g : Nat), lO p = some g → x.2 g = some (v, ob) → (ob.ok (MH S M x.2) x.1 → (∀ b, ob.bk = some b → MH S M x.2 b) → Ops P r N ops (fun D' E' w' => D' = D ∧ Gro x.1 w' ob.bk ∧ ∃ a, get E' d = some (sh a).1 ∧ ((sh a).2.bk = ob.bk ∨ (sh a).2.bk = some x.1.heap.size) ∧ (sh a).2.ok (bkM (sh a).2 (MH S M x.2)) w') [o] D F' x.1) →
      Ops P r N ops (fun D' E' w' => D' = D ∧ ∃ g', (RH (GI n b0 S M ic ch) x (w', g') ∧ ∀ j, j ≠ i + 1 → g' j = x.2 j) ∧ ∃ v, get E' d = some v ∧ vpg (i + 1) sh v (w', g')) [o] D F' x.1 := fun v ob g hgp hxg h5 => by
     obtain ⟨b1, b2⟩ := a2 g hgp _ hxg
     have hcg := (hpi _ _ _ hpc hgp).2
     have r1 := k3.row g _ hxg fun j hj hcj => b2 j hj (hcj.trans hcg)
     intro a Q ha hD hk
     refine h5 r1 (fun b hb => .inl ⟨g, _, hxg, hb⟩) a Q ha hD fun a' w' E' g1 ⟨g2, g3, q, g4, g5, g6⟩ => hk a' w' E' g1 ⟨g2, gup x.2 (i + 1) (sh q), ⟨?_, fun j hj => if_neg hj⟩, _, g4, q, if_pos rfl, rfl⟩
     have hmine : ∀ b, ob.bk = some b → ∃ j e, x.2 j = some e ∧ e.2.bk = some b ∧ ch j = ch (i + 1) := fun b hb => ⟨g, _, hxg, hb, hcg.trans hchi.symm⟩
     refine rh_row g3 hmine k4 hpr hici (fun j hj hcj hjc => b1 j hj (hcj.trans hchi) hjc) (fun j hj hcj => a1 j hj (hcj.trans hchi)) (fun b hb => g5.elim (fun e => .inl (hmine b (e.symm.trans hb))) fun e => .inr (Nat.le_of_eq (Option.some.inj (e.symm.trans hb)))) k5 (lift q w' g6)
    cases p with
    | non =>
     have h1 : CkN P r N ops S o (dr ++ Γ) sh := h1
     intro a Q ha hD hk
     refine h1 _ D F' x.1 d ho hdN k2 (by simpa using hF') a Q ha hD fun a' w' E' g1 ⟨g2, g3, q, g4, g5, g6⟩ => hk a' w' E' g1 ⟨g2, gup x.2 (i + 1) (sh q), ⟨?_, fun j hj => if_neg hj⟩, _, g4, q, if_pos rfl, rfl⟩
     refine rh_row (rw := none) ⟨⟨g3.os, g3.tape.eq, g3.output, g3.size, fun b hb _ => g3.block b hb⟩, g3.tape.le⟩ (fun b hb => by cases hb) k4 hpr hici (fun j hj hcj hjc => ?_) (fun j hj hcj => a1 j hj (hcj.trans hchi)) (fun b hb => .inr (g5 b hb)) k5 (lift q w' g6)
     rcases hic j hjc with ⟨p1, g', h5, h6, _⟩ | ⟨c', hc', e⟩
     ·rw [hcj, hchi, hpc] at h5
      obtain rfl := Option.some.inj h5
      cases h6
     ·have := (hc c' hc').1; omega
    | slot g dp sh0 =>
     obtain ⟨h5, h6⟩ : (xP ops o).any (Nat.beq dp) = true ∧ CkA P r N ops S o (dr ++ Γ) (fun E v => get E dp = some v) (fun v ob => ∃ a, (v, ob) = sh0 a) sh := h1
     have hm : dp ∈ xP ops o := by
      obtain ⟨s, h7, h8⟩ := List.any_eq_true.1 h5
      obtain rfl := Nat.eq_of_beq_eq_true h8
      exact h7
     obtain ⟨v, h7, q, h8, h9⟩ := hV dp (by simpa using hm) _ (hp c _ hpc).1.2
     refine chg (sh0 q).1 (sh0 q).2 g rfl h8 fun r1 r2 => h6 _ D F' x.1 d _ _ ho hdN k2 (by simpa using hF') (show get F' dp = some (sh0 q).1 by rw [h7, h9]) ⟨q, rfl⟩ r1 r2
    | st g d2 sh2 g1 sh0 => exact (show False from h1).elim
    | val v0 o0 =>
     have h6 : CkA P r N ops S o (dr ++ Γ) (fun _ v => v = v0) (fun v ob => v = v0 ∧ ob = o0) sh := h1
     have h8 : x.2 0 = some (v0, o0) := hr.mon 0 _ (hp c _ hpc).1
     exact chg v0 o0 0 rfl h8 fun r1 r2 => h6 _ D F' x.1 d v0 o0 ho hdN k2 (by simpa using hF') rfl ⟨rfl, rfl⟩ r1 r2
   ·unfold fS
    rw [ho]
    refine cK (fun Γ1 ⟨dr', p', g1, g2, g3, g4, g5, g6⟩ => ⟨dr', p', g1, g2, g3, g4, fun s hs => ?_, g6⟩) h3
    have := g5 s hs
    simp only [List.mem_append, List.filterMap_cons, ho, List.mem_cons] at this ⊢
    rcases this with c | c
    ·exact .inl (.inr c)
    ·exact .inr c
  ·obtain ⟨_, hici, hsld, hchi⟩ := hc (i, dd, c) (by simp)
   have hchi : ch (i + 1) = c := hchi
   have hlt : ∀ c' ∈ cs', i < c'.1 ∧ dd ≠ c'.2.1 := fun c' hc' => (List.pairwise_cons.1 hcs).1 c' hc'
   have hcl : c < ps.length := (List.getElem?_eq_some_iff.1 hpc).1
   obtain ⟨h0, h1⟩ := h1
   have hpg := hp c _ hpc
   have h3 := tdc_drs hT hG hok hI hn hsl l (i + 1) (ps.set c (.st (i + 1) dp sh g sh0)) cs' dr Γ0 hN.2 hk1 h2 hR hd (fun j o' d' hj hd' hs' => by
     obtain ⟨c2, h4⟩ := hdst (j + 1) o' d' (by simpa using hj) hd' hs'
     rw [show i + 1 + j = i + (j + 1) by omega]
     rcases List.mem_cons.1 h4 with e | e
     ·have := (Prod.mk.inj e).1; omega
     ·exact ⟨c2, e⟩) (List.pairwise_cons.1 hcs).2 (fun c' hc' => ⟨(hlt c' hc').1, (hc c' (by simp [hc'])).2⟩) (fun j hj => by
     rcases hic j hj with ⟨p1, g', h5, h6, h7⟩ | ⟨c', hc', e⟩
     ·by_cases e : ch j = c
      ·exact .inl ⟨_, i + 1, by rw [e, List.getElem?_set_self hcl], rfl, by have := (hpi _ _ _ h5 h6).1; omega⟩
      ·exact .inl ⟨p1, g', by rw [List.getElem?_set_ne (fun e2 => e e2.symm)]; exact h5, h6, h7⟩
     ·rcases List.mem_cons.1 hc' with rfl | hc'
      ·exact .inl ⟨_, i + 1, by rw [e, hchi, List.getElem?_set_self hcl], rfl, by rw [e]; exact Nat.le_refl _⟩
      ·exact .inr ⟨c', hc', e⟩) (fun c' p1 g' h5 h6 => by
     by_cases e : c = c'
     ·subst e
      rw [List.getElem?_set_self hcl] at h5
      obtain rfl := Option.some.inj h5
      obtain rfl := Option.some.inj h6
      exact ⟨Nat.le_refl _, hchi⟩
     ·rw [List.getElem?_set_ne e] at h5
      exact ⟨Nat.le_succ_of_le (hpi _ _ _ h5 h6).1, (hpi _ _ _ h5 h6).2⟩) (fun c' p1 h5 => by
     by_cases e : c = c'
     ·subst e
      rw [List.getElem?_set_self hcl] at h5
      obtain rfl := Option.some.inj h5
      exact ⟨⟨hpg.1.1, hpg.1.2, fun a => (h0 a).1, fun x hx => by rw [hQe] at hx; exact hx⟩, fun d' hd' c2 hc2 => hpg.2 d' hd' c2 (by simp [hc2])⟩
     ·rw [List.getElem?_set_ne e] at h5
      have h6 := hp c' p1 h5
      exact ⟨h6.1, fun d' hd' c2 hc2 => h6.2 d' hd' c2 (by simp [hc2])⟩)
   refine ⟨fun _ _ => True, ?_, ?_⟩
   ·unfold dS
    rw [ho]
    refine ⟨_, _, by rw [hke]; rfl, fun x hr hpr => ?_⟩
    obtain ⟨k1, k2, k3, k4, k5⟩ := hx x hr
    have hpr : x.2 (i + 1) = none := hpr
    refine eB hR (fun s hs => by rw [dH, hd s hs]; exact hsl s hs) k1 _ _ [] (fun i hi => by simp at hi) (fun i hi => by simp at hi) fun F' hF' hV => ?_
    have hm : dp ∈ xP ops o := by
     obtain ⟨s, h7, h8⟩ := List.any_eq_true.1 hsd
     obtain rfl := Nat.eq_of_beq_eq_true h8
     exact h7
    obtain ⟨v, h7, q, h8, h9⟩ := hV dp (by simpa using hm) _ hpg.1.2
    have hcg := (hpi _ _ _ hpc rfl).2
    have hfut : ∀ j, g < j → ch j = c → x.2 j = none := fun j hj hcj => by
     cases hxj : x.2 j with
     | none => rfl
     | some b =>
      rcases hic j (k3.dom j b hxj) with ⟨p1, g', h5, h6, h10⟩ | ⟨c', hc', e⟩
      ·rw [hcj, hpc] at h5
       obtain rfl := Option.some.inj h5
       have := Option.some.inj h6
       omega
      ·have := (hc c' hc').1
       rcases Nat.lt_or_ge (i + 1) j with c2 | c2
       ·exact absurd hpr (k3.cl j (i + 1) b c2 (hchi.trans hcj.symm) hici hxj)
       ·obtain rfl : j = i + 1 := by omega
        rw [hpr] at hxj; cases hxj
    have r1 := k3.row g _ h8 fun j hj hcj => hfut j hj (hcj.trans hcg)
    intro a Q2 ha hD hk
    refine h1 _ D F' x.1 q k2 (by simpa using hF') (by rw [h7, h9]) r1 (fun b hb => .inl ⟨g, _, h8, hb⟩) a Q2 ha hD fun a' w' E' g1 ⟨g2, g3, g6⟩ => hk a' w' E' g1 ⟨g2, gup x.2 (i + 1) (sh q), ⟨?_, fun j hj => if_neg hj⟩, by rw [hQe]; exact ⟨q, by (show gup x.2 (i + 1) (sh q) g = _); unfold gup; rw [if_neg (by have := (hpi _ _ _ hpc rfl).1; omega)]; exact h8, if_pos rfl⟩⟩
    ·have hmine : ∀ b, (sh0 q).2.bk = some b → ∃ j e, x.2 j = some e ∧ e.2.bk = some b ∧ ch j = ch (i + 1) := fun b hb => ⟨g, _, h8, hb, hcg.trans hchi.symm⟩
     refine rh_row g3 hmine k4 hpr hici (fun j hj hcj hjc => ?_) (fun j hj hcj => ?_) (fun b hb => .inl (hmine b ((h0 q).2.symm.trans hb))) k5 (Ow.ok_mono g6 (Cl.less fun b hb => ?_) fun _ _ _ => rfl)
     ·rcases hic j hjc with ⟨p1, g', h5, h6, h10⟩ | ⟨c', hc', e⟩
      ·rw [hcj, hchi, hpc] at h5
       obtain rfl := Option.some.inj h5
       obtain rfl : g = g' := Option.some.inj h6
       rcases Nat.lt_or_ge j g with c2 | c2
       ·exact k3.cl g j _ c2 ((hcj.trans hchi).trans hcg.symm) hjc h8
       ·obtain rfl : j = g := by omega
        rw [h8]; simp
      ·have := (hc c' hc').1; omega
     ·exact hfut j (by have := (hpi _ _ _ hpc rfl).1; omega) (hcj.trans hchi)
     ·rcases hb with ⟨j, f, h10, h11⟩ | f
      ·unfold gup at h10
       split at h10
       ·obtain rfl := Option.some.inj h10
        exact .inl ⟨g, _, h8, (h0 q).2.symm.trans h11⟩
       ·exact .inl ⟨j, f, h10, h11⟩
      ·exact .inr f
   ·unfold fS
    rw [ho]
    refine cK (fun Γ1 ⟨dr', p', g1, g2, g3, g4, g5, g6⟩ => ⟨dr', p', g1, g2, g3, g4, fun s hs => ?_, g6⟩) h3
    have := g5 s hs
    simp only [List.mem_append, List.filterMap_cons, ho] at this ⊢
    exact this
end
def lH (ops : Array Oper) (m k : Nat) (cs : List (Nat × Nat × Nat)) : Bool := decide (cs.Pairwise fun a b => a.1 < b.1 ∧ a.2.1 ≠ b.2.1) && cs.all (fun c => Nat.blt c.2.2 k) && (ops.toList.take m).zipIdx.all fun (o, j) => match o.dst with
 | some d => cs.all fun c => !Nat.beq c.2.1 d || Nat.beq c.1 j
 | none => true
def fK (cs : List (Nat × Nat × Nat)) (j : Nat) : Nat := match cs.find? (fun c => Nat.beq (c.1 + 1) j) with
 | some c => c.2.2
 | none => 0
theorem chOf_at : ∀ {cs : List (Nat × Nat × Nat)}, cs.Pairwise (fun a b => a.1 < b.1 ∧ a.2.1 ≠ b.2.1) → ∀ {c}, c ∈ cs → fK cs (c.1 + 1) = c.2.2
 | a :: cs, h, c, hc => by
  obtain ⟨h1, h2⟩ := List.pairwise_cons.1 h
  unfold fK
  rw [List.find?_cons]
  rcases List.mem_cons.1 hc with rfl | hc
  ·simp
  ·have hne : Nat.beq (a.1 + 1) (c.1 + 1) = false := by
    have := (h1 c hc).1
    cases hb : Nat.beq (a.1 + 1) (c.1 + 1) with
    | true => have := Nat.eq_of_beq_eq_true hb; omega
    | false => rfl
   simp only [hne]
   exact chOf_at h2 hc
section
variable {P : Program} {r : Option Nat} {N : Nat} {ops : Array Oper} {S S0 : List Ow} {X : Cx} {Γ : TE} {Kn Kr : TK} {Ke : Nat → TK} {rid : Nat} {k0 : Option Nat} {Q : World × Gh → Prop}
def lJ (P : Program) (r : Option Nat) (N : Nat) (ops : Array Oper) (X : Cx) (Kn : TK) (m : Nat) : List Pv → TE → List Ow → Prop
 | [], Γ, S => TO P r N ops X Kn (ops.toList.drop m) Γ S
 | .slot _ d sh :: ps, Γ, S | .st _ d sh _ _ :: ps, Γ, S => ∀ a, lJ P r N ops X Kn m ps ((d, True, exP (sh a).1) :: Γ) ((sh a).2 :: S)
 | _ :: _, _, _ => False
def accΓ : List (Nat × Value × Ow) → TE → TE
 | [], Γ => Γ
 | x :: os, Γ => accΓ os ((x.1, True, exP x.2.1) :: Γ)
def lI : List (Nat × Value × Ow) → List Ow → List Ow
 | [], S => S
 | x :: os, S => lI os (x.2.2 :: S)
theorem finM_os {m : Nat} {x2 : Gh} {E : Env} : ∀ {ps : List Pv} {c0 : Nat} {Γ : TE} {S : List Ow}, lJ P r N ops X Kn m ps Γ S → (∀ (c : Nat) (p : Pv), ps[c]? = some p → match p with
  | .slot g d sh | .st g d sh _ _ => ∃ a, x2 g = some (sh a) ∧ get E d = some (sh a).1 ∧ True
  | _ => True) →
  ∃ os : List (Nat × Value × Ow), TO P r N ops X Kn (ops.toList.drop m) (accΓ os Γ) (lI os S) ∧ os.length = ps.length ∧ ∀ (c : Nat) (x : Nat × Value × Ow), os[c]? = some x → get E x.1 = some x.2.1 ∧ ∃ g p, ps[c]? = some p ∧ lO p = some g ∧ x2 g = some x.2
 | [], _, Γ, S, h, _ => ⟨[], h, rfl, fun c x hx => by simp at hx⟩
 | .non :: _, _, _, _, h, _ => h.elim
 | .val _ _ :: _, _, _, _, h, _ => h.elim
 | .slot g d sh :: ps, c0, Γ, S, h, hp | .st g d sh _ _ :: ps, c0, Γ, S, h, hp => by
  obtain ⟨a, h1, h2, _⟩ := hp 0 _ rfl
  obtain ⟨os, h3, h4, h5⟩ := finM_os (c0 := c0 + 1) (h a) fun c p hc => hp (c + 1) p (by simpa using hc)
  refine ⟨(d, sh a) :: os, h3, by simp [h4], fun c x hx => ?_⟩
  cases c with
  | zero => simp at hx; subst hx; exact ⟨h2, g, _, rfl, rfl, h1⟩
  | succ c =>
   obtain ⟨h6, g', p, h7, h8, h9⟩ := h5 c x (by simpa using hx)
   exact ⟨h6, g', p, by simpa using h7, h8, h9⟩
theorem mem_accS : ∀ {os : List (Nat × Value × Ow)} {S : List Ow} {o : Ow}, o ∈ lI os S ↔ (∃ x ∈ os, o = x.2.2) ∨ o ∈ S
 | [], S, o => by simp [lI]
 | x :: os, S, o => by
  unfold lI
  rw [mem_accS]
  simp only [List.mem_cons]
  constructor
  ·rintro (⟨y, h1, h2⟩ | h | h)
   ·exact .inl ⟨y, .inr h1, h2⟩
   ·exact .inl ⟨x, .inl rfl, h⟩
   ·exact .inr h
  ·rintro (⟨y, h1 | h1, h2⟩ | h)
   ·subst h1; exact .inr (.inl h2)
   ·exact .inl ⟨y, h1, h2⟩
   ·exact .inr (.inr h)
theorem apt_accS : ∀ {os : List (Nat × Value × Ow)} {S : List Ow}, Apt S → (∀ x ∈ os, ∀ b, x.2.2.bk = some b → ∀ p ∈ S, p.bk ≠ some b) → os.Pairwise (fun x y => ∀ b, x.2.2.bk = some b → y.2.2.bk ≠ some b) → Apt (lI os S)
 | [], _, h, _, _ => h
 | x :: os, S, h, h1, h2 => by
  obtain ⟨h3, h4⟩ := List.pairwise_cons.1 h2
  refine apt_accS (S := x.2.2 :: S) ⟨h1 x (by simp), h⟩ (fun y hy b hb p hp => ?_) h4
  rcases List.mem_cons.1 hp with rfl | hp
  ·exact fun e => h3 y hy b e hb
  ·exact h1 y (by simp [hy]) b hb p hp
theorem tm_accΓ {M : Nat → Prop} {E : Env} {w : World} : ∀ {os : List (Nat × Value × Ow)} {Γ : TE}, TM Γ M E w → (∀ x ∈ os, get E x.1 = some x.2.1) → TM (accΓ os Γ) M E w
 | [], _, h, _ => h
 | x :: os, Γ, h, h1 => tm_accΓ (os := os) (fun s q hq => by
  unfold tf at hq
  cases hb : Nat.beq x.1 s with
  | true =>
   rw [hb] at hq
   obtain rfl := Nat.eq_of_beq_eq_true hb
   obtain rfl := Option.some.inj hq
   exact ⟨fun _ => ⟨_, h1 x (by simp), rfl⟩, fun c => absurd trivial c⟩
  | false => rw [hb] at hq; exact h s q hq) fun y hy => h1 y (by simp [hy])
theorem t_drawG (m : Nat) (cs : List (Nat × Nat × Nat)) (g0 : Gh) (b0 : Option Nat) (ps0 : List Pv) (hcs : lH ops m ps0.length cs = true) (hda : (cs.all fun c => (tf Γ c.2.1).isNone) = true) (hm : P.follows .mixedOrders = true) (hlook : uQ ops m = true) (hN : okN N ops.toList = true)
  (hg0 : ∀ i, g0 (i + 1) = none) (hp0 : ∀ (c : Nat) (p : Pv), ps0[c]? = some p → match p with | .non => True | .slot _ _ _ | .st _ _ _ _ _ => False | .val v o => g0 0 = some (v, o) ∧ c = 0)
  (hst : ∀ E w, St X Γ S0 E w → TM Γ (MH S X.M g0) E w ∧ Gd (MH S X.M g0) S w ∧ OkM (Mk S X.M) w ∧ GI w.heap.size b0 S X.M (fun j => lQ ps0 (fK cs) j ∨ ∃ c ∈ cs, j = c.1 + 1) (fK cs) (w, g0) ∧ (∀ b, b0 = some b → X.w.heap.size ≤ b ∨ X.z b) ∧ (∀ b, gbk g0 b → X.w.heap.size ≤ b ∨ X.z b) ∧ Apt S ∧ (∀ o ∈ S, ∀ b, o.bk = some b → X.w.heap.size ≤ b ∨ X.z b))
  (hk : (match k0 with | none => true | some k => Nat.blt k m && (match ops[k]? with | some o => o.dst.isNone | none => false)) = true) (hQ : ∀ a b : World × Gh, (∀ j v, a.2 j = some v → b.2 j = some v) → Q a → Q b)
  (hQn : k0 = none → ∀ x, Q x) (h : TDC P r N ops S k0 Q (fun ps Γ' => lJ P r N ops X Kn m ps Γ' S) (ops.toList.take m) 0 ps0 cs Γ) : TW P r N X (.region rid ops true) Kn Ke Kr Γ S0 := fun D E w hs => by
 obtain ⟨s1, s2, s3, s4, s5, s6, s7, s8⟩ := hst E w hs
 have hN1 : okN N (ops.toList.take m) = true := List.all_eq_true.2 fun o ho => List.all_eq_true.1 hN o (List.mem_of_mem_take ho)
 have hN2 : okN N (ops.toList.drop m) = true := List.all_eq_true.2 fun o ho => List.all_eq_true.1 hN o (List.mem_of_mem_drop ho)
 unfold lH at hcs
 simp only [Bool.and_eq_true, decide_eq_true_eq] at hcs
 obtain ⟨⟨hc1, hc2⟩, hc3⟩ := hcs
 have hsl : ∀ s, (∃ c ∈ cs, c.2.1 = s) → tf Γ s = none := fun s ⟨c, hc, e⟩ => by
  have := List.all_eq_true.1 hda c hc
  subst e; simpa using this
 have hch0 : fK cs 0 = 0 := by
  unfold fK
  have : cs.find? (fun c => Nat.beq (c.1 + 1) 0) = none := List.find?_eq_none.2 fun c _ => by
   have : Nat.beq (c.1 + 1) 0 = false := rfl
   simp
  rw [this]
 have h1 := tdc_drs (D := D) (sl := fun s => ∃ c ∈ cs, c.2.1 = s) s1 s2 s3 s4 (Nat.le_refl _) hsl (ops.toList.take m) 0 ps0 cs [] [] hN1 (fun j o hj e => by
   rw [e] at hk
   simp only [Nat.zero_add, Bool.and_eq_true, Nat.blt_eq] at hk
   have h2 : ops[j]? = some o := by rw [List.getElem?_take, if_pos hk.1] at hj; simpa using hj
   rw [h2] at hk
   simpa using hk.2) h (fun s _ => rfl) (fun s _ => rfl) (fun j o d hj hd ⟨c, hc, e⟩ => by
   have h2 := cO hc3 hj
   simp only [hd] at h2
   have h3 := List.all_eq_true.1 h2 c hc
   rw [e] at h3
   have : c.1 = j := by simpa using h3
   exact ⟨c.2.2, by rw [Nat.zero_add, ← this, ← e]; exact hc⟩) hc1 (fun c hc => ⟨Nat.zero_le _, .inr ⟨c, hc, rfl⟩, ⟨c, hc, rfl⟩, chOf_at hc1 hc⟩) (fun j hj => hj) (fun c p g hp hg => by
   have h2 := hp0 c p hp
   cases p with
   | non => cases hg
   | slot _ _ _ => exact h2.elim
   | st _ _ _ _ _ => exact h2.elim
   | val v l => obtain rfl := Option.some.inj hg; exact ⟨Nat.le_refl _, by rw [hch0, h2.2]⟩) (fun c p hp => by
   have h2 := hp0 c p hp
   cases p with
   | non => exact ⟨trivial, fun d hd => hd.elim⟩
   | slot _ _ _ => exact h2.elim
   | st _ _ _ _ _ => exact h2.elim
   | val v l => exact ⟨h2.1, fun d hd => hd.elim⟩)
 refine wp_drawS (g0 := g0) (R := RH (GI w.heap.size b0 S X.M (fun j => lQ ps0 (fK cs) j ∨ ∃ c ∈ cs, j = c.1 + 1) (fK cs))) (R' := fun i a b => RH (GI w.heap.size b0 S X.M (fun j => lQ ps0 (fK cs) j ∨ ∃ c ∈ cs, j = c.1 + 1) (fK cs)) a b ∧ ∀ j, j ≠ i + 1 → b.2 j = a.2 j) (Pr := fun i x => x.2 (i + 1) = none) (st := k0.map fun k => (k, (fun x : World × Gh => x.2 (k + 1) = none), Q)) hm m (((ops.toList.take m).filterMap (·.dst)) ++ cs.map (·.2.1) ++ Γ.map (·.1)) (kG hlook) (fun _ _ _ h g => h.trans g) (fun _ _ _ h => h.1)
  (rh_pure (rb_drew _)) (fun k pre post e => by
   cases k0 with
   | none => cases e
   | some k' =>
    obtain ⟨rfl, e2⟩ := Prod.mk.inj (Option.some.inj e)
    obtain ⟨rfl, rfl⟩ := Prod.mk.inj e2
    simp only [Bool.and_eq_true, Nat.blt_eq] at hk
    refine ⟨hk.1, hg0 k', fun i a b hi hp ⟨_, h2⟩ => (h2 (k' + 1) (by omega)).trans hp, fun i a b hi hq ⟨h1, _⟩ => hQ a b (fun j v => h1.mon j v) hq, ?_⟩
    cases ho : ops[k']? with
    | some o => exact ⟨o, rfl⟩
    | none => rw [ho] at hk; cases hk.2) (fun i => hg0 i) (fun i j a b hij hp ⟨_, h2⟩ => (h2 (i + 1) (by omega)).trans hp) ?_
 refine cK (fun Γ1 ⟨dr', ps', hR, hd', hpast, hp', hkeys, hF⟩ => ?_) h1
 intro x hr hpo
 have hg := hr.inv s4
 refine eB hR (fun s hs => by rw [dH, hd' s hs]; exact hsl s hs) (s1.mono hr.cl) _ _ [] (fun i hi => by simp at hi) (fun i hi => by simp at hi) fun F' hF' hV => ?_
 obtain ⟨os, q1, q2, q3⟩ := finM_os (x2 := x.2) (E := F') (c0 := 0) hF fun c p hc => by
  cases p with
  | non => trivial
  | val _ _ => trivial
  | st g d sh g1 sh0 =>
   obtain ⟨⟨⟨c2, h5, h6⟩, h7, h8, h9⟩, _⟩ := hp' c _ hc
   obtain ⟨v, hv1, a, hv2, hv3⟩ := hV d (by simp only [List.append_nil, List.mem_append]; exact .inl (.inr (List.mem_map.2 ⟨c2, h5, h6⟩))) _ h7
   have hq : Q x := by
    cases k0 with
    | none => exact hQn rfl x
    | some k => exact hpo k _ _ rfl
   obtain ⟨a', h10, h11⟩ := h9 x hq
   have e := Option.some.inj (hv2.symm.trans h10)
   exact ⟨a', h11, by rw [hv1, hv3, h8, e], trivial⟩
  | slot g d sh =>
   obtain ⟨⟨⟨c2, h5, h6⟩, h7⟩, _⟩ := hp' c _ hc
   obtain ⟨v, hv1, a, hv2, hv3⟩ := hV d (by simp only [List.append_nil, List.mem_append]; exact .inl (.inr (List.mem_map.2 ⟨c2, h5, h6⟩))) _ h7
   exact ⟨a, hv2, by rw [hv1, hv3], trivial⟩
 have q4 : ∀ y ∈ os, ∃ c g, os[c]? = some y ∧ x.2 g = some y.2 ∧ fK cs g = c ∧ get F' y.1 = some y.2.1 ∧ y.2.2.ok (MH S X.M x.2) x.1 := fun y hy => by
  obtain ⟨c, hc⟩ := List.mem_iff_getElem?.1 hy
  obtain ⟨h5, g, p, h6, h7, h8⟩ := q3 c y hc
  have h9 := (hp' c p h6).2 g h7
  refine ⟨c, g, hc, h8, h9, h5, hg.row g _ h8 fun j hj hcj => ?_⟩
  cases hxj : x.2 j with
  | none => rfl
  | some a =>
   obtain ⟨p2, g2, h10, h11, h12⟩ := hpast j (hg.dom j a hxj)
   rw [hcj, h9, h6] at h10
   obtain rfl := Option.some.inj h10
   have := Option.some.inj (h7.symm.trans h11)
   omega
 have hsub : ∀ b, Mk (lI os S) X.M b → MH S X.M x.2 b := fun b hb => by
  rcases hb with ⟨o, ho, e⟩ | hb
  ·rcases mem_accS.1 ho with ⟨y, hy, rfl⟩ | ho
   ·obtain ⟨c, g, _, h6, _⟩ := q4 y hy
    exact .inl ⟨g, _, h6, e⟩
   ·exact .inr (.inl ⟨o, ho, e⟩)
  ·exact .inr (.inr hb)
 have cl := Cl.less (w := x.1) hsub
 have hgb := hr.cl (S := S) (M := X.M)
 have hpw : os.Pairwise (fun y z => ∀ b, y.2.2.bk = some b → z.2.2.bk ≠ some b) := by
  refine List.pairwise_iff_getElem.2 fun i j hi hj hij b hb hb2 => ?_
  obtain ⟨h5, g, p, h6, h7, h8⟩ := q3 i _ (List.getElem?_eq_getElem hi)
  obtain ⟨h5', g', p', h6', h7', h8'⟩ := q3 j _ (List.getElem?_eq_getElem hj)
  have e1 := (hp' i p h6).2 g h7
  have e2 := (hp' j p' h6').2 g' h7'
  exact hg.dis g g' _ _ h8 h8' (by rw [e1, e2]; omega) b hb hb2
 refine q1 hN2 D F' x.1 ⟨⟨hr.os.trans hs.bel.os, hr.tape.trans hs.bel.tape, hr.output.trans hs.bel.output, Nat.le_trans hs.bel.size hr.size, fun b hb hz => ?_⟩, ⟨fun b hb => ?_, (s2.tab.cl hgb).cl cl, fun o ho => ?_⟩, fun o ho b hb => ?_, apt_accS s7 (fun y hy b hb p hp e => ?_) hpw, hs.ok0, hs.zm, tm_accΓ (fun s q hq => ?_) fun y hy => ?_⟩
 ·refine (hr.blk b (Nat.lt_of_lt_of_le hb hs.bel.size) fun c => ?_).trans (hs.bel.block b hb hz)
  exact (s6 b c).elim (fun c => by omega) hz
 ·rcases hsub b hb with ⟨j, a, h5, h6⟩ | h5
  ·exact (hg.lo j a h5 b h6).2.2
  ·exact Nat.lt_of_lt_of_le (s3 b h5) hr.size
 ·rcases mem_accS.1 ho with ⟨y, hy, rfl⟩ | ho
  ·obtain ⟨c, g, _, _, _, _, h9⟩ := q4 y hy
   exact Ow.ok_mono h9 cl fun _ _ _ => rfl
  ·refine Ow.ok_mono (Ow.ok_mono (s2.own o ho) hgb fun b hb hlt => hr.blk b hlt fun ⟨j, a, h5, h6⟩ => ?_) cl fun _ _ _ => rfl
   exact (s4.lo j a h5 b h6).1 (.inl ⟨o, ho, hb⟩)
 ·rcases mem_accS.1 ho with ⟨y, hy, rfl⟩ | ho
  ·obtain ⟨c, g, _, h6, _⟩ := q4 y hy
   rcases (hg.lo g _ h6 b hb).2.1 with h5 | h5
   ·exact .inl (Nat.le_trans hs.bel.size h5)
   ·exact s5 b h5
  ·exact s8 o ho b hb
 ·obtain ⟨c, g, _, h6, _⟩ := q4 y hy
  exact (hg.lo g _ h6 b hb).1 (.inl ⟨p, hp, e⟩)
 ·have h3 : tf (dr' ++ Γ) s = some q := hq
  refine (hF' s ?_ q h3).mono cl
  rw [dH] at h3
  simp only [List.append_nil, List.mem_append]
  cases h4 : tf dr' s with
  | some Φ =>
   have := hkeys s (tf_mem h4)
   simp only [List.map_nil, List.append_nil] at this
   exact .inl (.inl this)
  | none => rw [h4] at h3; exact .inr (tf_mem h3)
 ·obtain ⟨c, g, _, _, _, h8, _⟩ := q4 y hy
  exact h8
end
abbrev rowS (ty : TypeId) (k : Nat) (l : List CT) : Value → Value × Ow := fun v => (v, .row v ty k l)
abbrev blkS (ty : TypeId) (cs : List CT) : Nat → Value × Ow := fun b => (.pointer (some ⟨b, 0, none⟩), .blk b ty cs)
section
variable {P : Program} {r : Option Nat} {N : Nat} {ops : Array Oper} {S : List Ow} {X : Cx} {Γ : TE} {Kn Kr : TK} {Ke : Nat → TK} {rid : Nat}
theorem t_drawK {k0 : Option Nat} {Q : World × Gh → Prop} (k m : Nat) (cs : List (Nat × Nat × Nat)) (hcs : lH ops m k cs = true) (hda : (cs.all fun c => (tf Γ c.2.1).isNone) = true) (hm : P.follows .mixedOrders = true) (hlook : uQ ops m = true) (hN : okN N ops.toList = true)
  (hk : (match k0 with | none => true | some k => Nat.blt k m && (match ops[k]? with | some o => o.dst.isNone | none => false)) = true) (hQ : ∀ a b : World × Gh, (∀ j v, a.2 j = some v → b.2 j = some v) → Q a → Q b) (hQn : k0 = none → ∀ x, Q x)
  (h : TDC P r N ops S k0 Q (fun ps Γ' => lJ P r N ops X Kn m ps Γ' S) (ops.toList.take m) 0 (List.replicate k .non) cs Γ) : TW P r N X (.region rid ops true) Kn Ke Kr Γ S := by
 have hnon : ∀ (c : Nat) (p : Pv), (List.replicate k Pv.non)[c]? = some p → p = .non := fun c p hp => by
  rw [List.getElem?_replicate] at hp
  split at hp
  ·exact (Option.some.inj hp).symm
  ·cases hp
 refine t_drawG m cs (fun _ => none) none (List.replicate k .non) (by rw [List.length_replicate]; exact hcs) hda hm hlook hN (fun _ => rfl) (fun c p hp => by rw [hnon c p hp]; trivial) (fun E w hs => ?_) hk hQ hQn h
 have e : MH S X.M (fun _ => none) = Mk S X.M := funext fun b => propext ⟨fun c => c.elim (fun ⟨_, _, c, _⟩ => by cases c) (fun h => h), .inr⟩
 rw [e]
 exact ⟨hs.tm, hs.gd, hs.gd.ok, ⟨fun i a h => (by cases h), fun i a h => (by cases h), fun i j a _ _ _ h => (by cases h), fun i j a c h => (by cases h), fun i a h => (by cases h)⟩, fun b h => (by cases h), fun b ⟨_, _, h, _⟩ => (by cases h), hs.apt, hs.new⟩
theorem t_drawC (k m : Nat) (cs : List (Nat × Nat × Nat)) (hcs : lH ops m k cs = true) (hda : (cs.all fun c => (tf Γ c.2.1).isNone) = true) (hm : P.follows .mixedOrders = true) (hlook : uQ ops m = true) (hN : okN N ops.toList = true)
  (h : TDC P r N ops S none (fun _ => True) (fun ps Γ' => lJ P r N ops X Kn m ps Γ' S) (ops.toList.take m) 0 (List.replicate k .non) cs Γ) : TW P r N X (.region rid ops true) Kn Ke Kr Γ S := t_drawK (k0 := none) k m cs hcs hda hm hlook hN rfl (fun _ _ _ h => h) (fun _ _ => trivial) h
theorem dW (k m i0 : Nat) (cs : List (Nat × Nat × Nat)) (hcs : lH ops m k cs = true) (hda : (cs.all fun c => (tf Γ c.2.1).isNone) = true) (hm : P.follows .mixedOrders = true) (hlook : uQ ops m = true) (hN : okN N ops.toList = true)
  (hk : (Nat.blt i0 m && (match ops[i0]? with | some o => o.dst.isNone | none => false)) = true) {g : Nat} {α : Type} {sh0 sh : α → Value × Ow}
  (h : TDC P r N ops S (some i0) (QS g i0 sh0 sh) (fun ps Γ' => lJ P r N ops X Kn m ps Γ' S) (ops.toList.take m) 0 (List.replicate k .non) cs Γ) : TW P r N X (.region rid ops true) Kn Ke Kr Γ S := t_drawK (k0 := some i0) k m cs hcs hda hm hlook hN hk (fun a b h ⟨q, h1, h2⟩ => ⟨q, h _ _ h1, h _ _ h2⟩) (fun c => by cases c) h
theorem td_tdc {F : TE → Prop} {F' : List Pv → TE → Prop} (hF : ∀ Γ, F Γ → F' [] Γ) : ∀ (l : List Oper) (i : Nat) (Γ : TE), TD P r N ops S F l Γ → TDC P r N ops S none (fun _ => True) F' l i [] [] Γ
 | [], _, _, h => ⟨rfl, hF _ h⟩
 | _ :: l, i, _, ⟨d, q, hd, h1, h2⟩ => .inl ⟨d, q, hd, fun c hc => (by cases hc), h1, td_tdc hF l (i + 1) _ h2⟩
theorem qP (m : Nat) (hm : P.follows .mixedOrders = true) (hlook : uQ ops m = true) (hN : okN N ops.toList = true)
  (h : TD P r N ops S (fun Γ' => TO P r N ops X Kn (ops.toList.drop m) Γ' S) (ops.toList.take m) Γ) : TW P r N X (.region rid ops true) Kn Ke Kr Γ S :=
 t_drawC 0 m [] (by unfold lH; simp only [List.all_nil, Bool.and_true, List.Pairwise.nil, decide_true, Bool.true_and]; exact List.all_eq_true.2 fun x _ => by cases x.1.dst <;> rfl) rfl hm hlook hN (td_tdc (fun _ h => h) _ _ _ h)
theorem t_drawB {v : Value} {ty : TypeId} {sz : Nat} {l : List CT} (k m i : Nat) (cs : List (Nat × Nat × Nat)) (hi : S[i]? = some (.row v ty sz l)) (hcs : lH ops m (k + 1) cs = true) (hda : (cs.all fun c => (tf Γ c.2.1).isNone) = true) (hm : P.follows .mixedOrders = true) (hlook : uQ ops m = true) (hN : okN N ops.toList = true)
  (h : TDC P r N ops (S.eraseIdx i) none (fun _ => True) (fun ps Γ' => lJ P r N ops X Kn m ps Γ' (S.eraseIdx i)) (ops.toList.take m) 0 (.val v (.row v ty sz l) :: List.replicate k .non) cs Γ) : TW P r N X (.region rid ops true) Kn Ke Kr Γ S := by
 have hm' : Ow.row v ty sz l ∈ S := List.mem_of_getElem? hi
 have hnon : ∀ (c : Nat) (p : Pv), (List.replicate k Pv.non)[c]? = some p → p = .non := fun c p hp => by
  rw [List.getElem?_replicate] at hp
  split at hp
  ·exact (Option.some.inj hp).symm
  ·cases hp
 refine t_drawG m cs (fun j => if j = 0 then some (v, .row v ty sz l) else none) v.ownBlock (.val v (.row v ty sz l) :: List.replicate k .non) (by rw [List.length_cons, List.length_replicate]; exact hcs) hda hm hlook hN (fun _ => rfl) (fun c p hp => by
  cases c with
  | zero => obtain rfl := Option.some.inj hp; exact ⟨rfl, rfl⟩
  | succ c => rw [hnon c p (by simpa using hp)]; trivial) (fun E w hs => ?_) rfl (fun _ _ _ h => h) (fun _ _ => trivial) h
 have hback : ∀ o, o ∈ S → o = .row v ty sz l ∨ o ∈ S.eraseIdx i := fun o ho => by
  obtain ⟨j, hj⟩ := List.mem_iff_getElem?.1 ho
  by_cases e : j = i
  ·subst e; rw [hi] at hj; exact .inl (Option.some.inj hj).symm
  ·exact .inr (List.mem_eraseIdx_iff_getElem?.2 ⟨j, e, hj⟩)
 have hgb : ∀ b, gbk (fun j => if j = 0 then some (v, Ow.row v ty sz l) else none) b ↔ v.ownBlock = some b := fun b =>
  ⟨fun ⟨j, a, h1, h2⟩ => (by
   dsimp only at h1
   split at h1
   ·rw [← Option.some.inj h1] at h2; exact h2
   ·cases h1), fun c => ⟨0, _, rfl, c⟩⟩
 have e : MH (S.eraseIdx i) X.M (fun j => if j = 0 then some (v, .row v ty sz l) else none) = Mk S X.M := funext fun b => propext ⟨fun c => c.elim (fun c => .inl ⟨_, hm', (hgb b).1 c⟩) (dM (List.eraseIdx_sublist S i) b), fun c => by
  rcases c with ⟨o, ho, eo⟩ | c
  ·rcases hback o ho with rfl | ho
   ·exact .inl ((hgb b).2 eo)
   ·exact .inr (.inl ⟨o, ho, eo⟩)
  ·exact .inr (.inr c)⟩
 have hne : ∀ b, v.ownBlock = some b → ¬ Mk (S.eraseIdx i) X.M b := fun b hb c => by
  rcases c with ⟨p, hp, ep⟩ | c
  ·obtain ⟨j, hj, hp⟩ := mem_erase hp
   exact fL hs.apt hi hp (fun c => hj c.symm) hb ep
  ·rcases hs.new _ hm' b hb with h4 | h4
   ·have := hs.ok0 b c; omega
   ·exact hs.zm b h4 c
 have hsub := hs.sub (List.eraseIdx_sublist S i)
 refine ⟨by rw [e]; exact hs.tm, by rw [e]; exact ⟨hs.gd.ok, hs.gd.tab, fun o ho => hs.gd.own o ((List.eraseIdx_sublist S i).subset ho)⟩, hsub.gd.ok, ⟨fun j a h => ?_, fun j a h b hb => ?_, fun j q a hq _ _ h => ?_, fun j q a c h h2 hne2 => ?_, fun j a h _ => ?_⟩, fun b hb => hs.new _ hm' b hb, fun b hb => hs.new _ hm' b ((hgb b).1 hb), hsub.apt, hsub.new⟩
 ·dsimp only at h; split at h
  ·rename_i e
   subst e
   refine .inl ⟨.val v (.row v ty sz l), 0, ?_, rfl, Nat.le_refl _⟩
   have : fK cs 0 = 0 := by
    unfold fK
    rw [List.find?_eq_none.2 fun c _ => by simp]
   rw [this]; rfl
  ·cases h
 ·dsimp only at h; split at h
  ·obtain rfl := Option.some.inj h
   exact ⟨hne b hb, .inr hb, hs.okS _ hm' b hb⟩
  ·cases h
 ·dsimp only at h; split at h
  ·omega
  ·cases h
 ·dsimp only at h h2
  split at h
  ·split at h2
   ·rename_i e1 e2; exact absurd (by rw [e1, e2]) hne2
   ·cases h2
  ·cases h
 ·dsimp only at h; split at h
  ·obtain rfl := Option.some.inj h
   rw [e]; exact hs.gd.own _ hm'
  ·cases h
end
section
variable {P : Program} {r : Option Nat} {N : Nat} {ops : Array Oper} {S : List Ow} {ty : TypeId} {k bytes : Nat} {Γ : TE} {d : Nat} {x y : Operand} {t t' : TypeId} {pos : String} {af : Array Edge} {q qx qy : Prop} {Ψ Ψx Ψy : PV} {m l : List CT}
theorem cap_of {ev' : Env → Value → Prop} {os : Value → Ow → Prop} (hos : ∀ v ob, os v ob → ob = .row v ty k l) (hx : ∀ {M E w v}, Tm Γ (xP ops ⟨some d, .call ⟨.builtin .append, #[x, y], #[t, t]⟩, t', pos, af, none⟩) M E w → ev' E v → ev E x = some v) (hy : tv Γ y = some (qy, Ψy)) [hq : Tr qy] [ht : TSl P t ty k bytes] [hv : VS Ψy k m] (hn : l.length + m.length ≤ 1000000000) (hb : Nat.ble bytes 1000 = true) :
  CkA P r N ops S ⟨some d, .call ⟨.builtin .append, #[x, y], #[t, t]⟩, t', pos, af, none⟩ Γ ev' os (rowS ty k (l ++ m)) := fun M D E w d' v ob hd hN hg hT he ho hok hmo => by
 obtain rfl := Option.some.inj hd
 obtain rfl := hos v ob ho
 obtain ⟨us, g1, g2, g3⟩ := hok
 obtain ⟨u2, e2, h2⟩ := aP (p := True) hT hy trivial (by simp [Op.operands, Call.operands])
 obtain ⟨u3, vs, e3, h3, h4, h5⟩ := hv.h h2
 obtain rfl := List.singleton_inj.1 e3
 obtain ⟨z, hz, hzc⟩ := ht.s
 have hbb := Nat.le_of_ble_eq_true hb
 refine ops_appendk hN ht.u hz hzc (by have := Nat.ne_of_beq_eq_false ht.n; rw [Nat.blt_eq]; omega) (hx hT he) e2 g1 h3 (stp_one h4) (by omega) ?_ fun v' w' k1 k2 k3 => ?_
 ·exact Nat.le_trans (Nat.mul_le_mul hn hbb) (by omega)
 ·refine zD ⟨rfl, k2, v', uR (by simp), k3, _, by rw [List.length_append]; exact k1, qS (eR g2 h4) fun b cur ty' fz hk hw => ?_, fun c hc => (List.mem_append.1 hc).elim (g3 c) (h5 c)⟩
  have hlt : b < w.heap.size := (Array.getElem?_eq_some_iff.1 hw).1
  refine ⟨fun c => ?_, (k2.block b hlt fun e => hk (hmo b e.symm)).trans hw⟩
  rcases c with c | c
  ·rcases k3 with e | e
   ·exact hk (hmo b (e.symm.trans c))
   ·have := Option.some.inj (e.symm.trans c); omega
  ·exact hk c
theorem cap0 {v0 : Value} (hx : tv Γ x = some (qx, exP v0)) [hqx : Tr qx] (hy : tv Γ y = some (qy, Ψy)) [hq : Tr qy] [ht : TSl P t ty k bytes] [hv : VS Ψy k m] (hn : l.length + m.length ≤ 1000000000) (hb : Nat.ble bytes 1000 = true) :
  CkA P r N ops S ⟨some d, .call ⟨.builtin .append, #[x, y], #[t, t]⟩, t', pos, af, none⟩ Γ (fun _ v => v = v0) (fun v ob => v = v0 ∧ ob = .row v0 ty k l) (rowS ty k (l ++ m)) :=
 cap_of (fun v ob ⟨e1, e2⟩ => by rw [e1, e2]) (fun hT h => by
  obtain ⟨u, e, h1⟩ := aP (p := True) hT hx trivial (by simp [Op.operands, Call.operands])
  rw [e, h, show u = v0 from h1]) hy hn hb
theorem cal {z : Value} [tz : TZ P t z] : CkN P r N ops S ⟨some d, .alloc t, t', pos, af, none⟩ Γ (blkS t (zc z)) := fun M D E w d' hd hN hg hT => by
 obtain rfl := Option.some.inj hd
 obtain ⟨sz, b2, hz⟩ := tz.s
 refine yH hN hz fun w' b hn => zD ⟨rfl, hn.below, b, uR (by simp), fun c hc => ?_, z.cells.toList, by have := hn.blk; simpa using this, stp_xc tz.o⟩
 rw [← Option.some.inj (show some b = some c from hc), hn.at_]; exact Nat.le_refl _
theorem cst {dp sz : Nat} {c : CT} {cs B1 B2 : List CT} {a : Bool} (hy : tv Γ y = some (qy, Ψy)) [hq : Tr qy] [hc : CtOf Ψy c] [ht : TLd P t a sz] (hs : Nat.beq c.sz sz = true) (hB : iT cs c.sz = some (B1, B2)) :
  CkS P r N ops S ⟨none, .store t (.tmp dp) y, t', pos, af, none⟩ Γ dp (blkS ty cs) (blkS ty (c :: B2)) := ⟨fun a => ⟨rfl, rfl⟩, fun M D E w b hg hT he hok hm => by
 obtain ⟨v, e2, h2⟩ := aP (p := True) hT hy trivial (by simp [Op.operands])
 obtain ⟨us, k1, k2⟩ := hc.h h2
 obtain ⟨vs, k3, k4⟩ := hok
 obtain ⟨rfl, f4⟩ := cutT_app hB
 obtain ⟨vc, vd, rfl, g3, g4⟩ := stp_split k4
 have hl3 := dX g3
 have hl := c.len k2
 have hsz := Nat.eq_of_beq_eq_true hs
 obtain ⟨bytes, z, hz⟩ := ht.s
 refine qM he e2 hz k3 (by rw [k1]; simp; omega) (by simp; omega) (by rw [k1]; exact fun u hu => c.one k2 u (by simpa using hu)) fun w' hch hB' => ?_
 have cl : Cl M w M w' := fun k cur t fz hk hw => ⟨hk, (hch.other k fun e => hk (e ▸ hm b rfl)).trans hw⟩
 rw [k1] at hB'
 have e4 : (vc ++ vd).drop (0 + sz) = vd := by rw [Nat.zero_add, ← hsz, ← f4, ← hl3, List.drop_left]
 rw [e4] at hB'
 refine zD ⟨rfl, ⟨⟨hch.os, hch.tape.eq, hch.output, Nat.le_of_eq hch.size.symm, fun k _ hk => hch.other k fun e => hk (e ▸ rfl)⟩, hch.tape.le⟩, us ++ vd, hB', qS (show stp ([c] ++ B2) M w (us ++ vd) from eR ⟨us, [], by simp, k2, rfl⟩ g4) cl⟩⟩
end
def nln (n : Nat) : CT where
 sz := 1
 p M w cs := ∃ p c, cs = [.slice p n c]
 len h := by obtain ⟨_, _, rfl⟩ := h; rfl
 one h := by obtain ⟨_, _, rfl⟩ := h; exact fun u hu => by rw [List.mem_singleton.1 hu]; rfl
 mono h _ := h
class FA (c : CT) (off : Nat) (c' : outParam CT) : Prop where
 h : ∀ {M w us}, c.p M w us → c'.p M w ((us.drop off).take c'.sz)
section
variable {X : Cx} {Γ : TE} {S : List Ow}
theorem ts_as {s : Nat} {q : Prop} {Ψ Φ : PV} (h : tf Γ s = some (q, Ψ)) (hp : PSub Ψ Φ) : Ts X Γ S ((s, q, Φ) :: Γ) S := fun E w k =>
 ⟨k.bel, k.gd, k.new, k.apt, k.ok0, k.zm, fun t r ht => by
  unfold tf at ht
  cases hb : Nat.beq s t with
  | true =>
   rw [hb] at ht
   obtain rfl := Nat.eq_of_beq_eq_true hb
   obtain rfl := Option.some.inj ht
   have h3 := k.tm s _ h
   exact ⟨fun c => let ⟨u, h4, h5⟩ := h3.1 c; ⟨u, h4, hp _ _ _ h5⟩, h3.2⟩
  | false => rw [hb] at ht; exact k.tm t r ht⟩
variable {P : Program} {r : Option Nat} {N : Nat} {K : TK} {ops : Array Oper} {M : Nat → Prop} {p q qx qy : Prop} {Ψ Ψx Ψy : PV} {d : Nat} {x y : Operand} {t t' : TypeId} {pos : String} {af : Array Edge} {l : List Oper}
theorem t_len {Kn Kr : TK} {Ke : Nat → TK} {c : Code} {k : Nat} {cs : List CT} (s : Nat) (hx : tf Γ s = some (q, sv (sl k cs))) [hq : Tr q] (h : cs.length ≤ 9223372036854775807 → TW P r N X c Kn Ke Kr Γ S) : TW P r N X c Kn Ke Kr Γ S := fun D E w hs => by
 obtain ⟨v, e, u, us, _, h1, _⟩ := (hs.tm s _ hx).1 hq.h
 exact h h1.2.1 D E w hs
theorem wpk {c : Code} {N : Nat} {K K' : Pd} {Ke : Nat → Pd} {D : List Deferred} {E : Env} {w : World} (h : Wp P r N c K Ke K D E w) (hk : ∀ D E w, K D E w → K' D E w) : Wp P r N c K' Ke K' D E w := by
 intro a ha hd
 refine wpIn_mono (h a ha hd) fun e a' w' hq => ?_
 cases e with
 | normal => obtain ⟨E', h1, h2⟩ := hq; exact ⟨E', h1, hk _ _ _ h2⟩
 | ret => obtain ⟨E', h1, h2⟩ := hq; exact ⟨E', h1, hk _ _ _ h2⟩
 | exit id => exact hq
 | goto l => exact hq
 | panic c => exact hq
 | outgrown => exact hq
theorem bn_t {a : Prop} [Decidable a] (h : Tr ((!decide a) = true)) : ¬ a := by have := h.h; simpa using this
theorem bn_f {a : Prop} [Decidable a] (h : Tr ((!decide a) = false)) : a := by have := h.h; simpa using this
theorem tal {z : Value} [tz : TZ P t z] (h : ∀ b, TO P r N ops X K l ((d, True, exP (.pointer (some ⟨b, 0, none⟩))) :: Γ) (.blk b t (zc z) :: S)) : TO P r N ops X K (⟨some d, .alloc t, t', pos, af, none⟩ :: l) Γ S := fun hN D E w hs => by
 unfold okN at hN
 simp only [List.all_cons, Bool.and_eq_true] at hN
 obtain ⟨sz, bytes, hz⟩ := tz.s
 refine yH hN.1 hz fun w' b hn => ?_
 exact h b hN.2 D _ w' ((hs.addb hn (stp_xc tz.o)).put (xD _) (fun _ => rfl) (fun c => absurd trivial c))
theorem oll {e : TypeId} {sz bytes n : Nat} (hx : tv Γ x = some (qx, sv (nln n))) [Im p qx] [ht : TSl P t e sz bytes] : Ob P r N ops M S p ⟨some d, .call ⟨.builtin .len, #[x], #[t]⟩, t', pos, af, none⟩ Γ (exP (.int .i64 (n : Int))) :=
 ob1 hx (by simp [Op.operands, Call.operands]) fun D E w u hN hg e1 ⟨p, c, e⟩ => by
  obtain rfl := List.singleton_inj.1 e
  exact aS hN ht.u e1 (fin rfl)
theorem ofx {a : Bool} {f off sz : Nat} {c c' : CT} (hx : tv Γ x = some (qx, pa c)) [Im p qx] [ht : TFd P t f a off sz] [ha : FA c off c'] : Ob P r N ops M S p ⟨some d, .fieldAddr t x f, t', pos, af, none⟩ Γ (pa c') :=
 ob1 hx (by simp [Op.operands]) fun D E w u hN hg e1 ⟨b, o, us, e, h1, h2, h3⟩ => by
  subst e
  obtain ⟨fields, fd, bytes, z, k1, k2, k3, k4, k5, _⟩ := ht.h
  exact xA off hN k1 k2 k3 k4 k5 e1 (fin ⟨b, o + off, _, rfl, h1, h2.sub off c'.sz, ha.h h3⟩)
def rsT (P : Program) (Γ : TE) (S : List Ow) : List ResultVar → List PV → Prop
 | [], l => l = []
 | .tmp t :: r, l => ∃ q Ψ l', l = Ψ :: l' ∧ tf Γ t = some (q, Ψ) ∧ q ∧ rsT P Γ S r l'
 | .cell a t :: r, l => ∃ (q : Prop) (b i : Nat) (ty : TypeId) (cs : List CT) (c : CT) (f : Bool) (sz : Nat) (Ψ : PV) (l' : List PV), l = Ψ :: l' ∧ tf Γ a = some (q, exP (.pointer (some ⟨b, 0, none⟩))) ∧ q ∧ S[i]? = some (.blk b ty cs) ∧ fV cs 0 = some c ∧ c.sz = sz ∧ TLd P t f sz ∧ LdA f c Ψ ∧ rsT P Γ S r l'
theorem rs0 : rsT P Γ S [] [] := rfl
theorem rst {t : Nat} {rs : List ResultVar} {l : List PV} (h : tf Γ t = some (q, Ψ)) [hq : Tr q] (k : rsT P Γ S rs l) : rsT P Γ S (.tmp t :: rs) (Ψ :: l) := ⟨q, Ψ, l, rfl, h, hq.h, k⟩
theorem rsc {a b sz : Nat} {ty : TypeId} {cs : List CT} {c : CT} {f : Bool} {rs : List ResultVar} {l : List PV} (i : Nat) (h : tf Γ a = some (q, exP (.pointer (some ⟨b, 0, none⟩)))) [hq : Tr q] (hi : S[i]? = some (.blk b ty cs)) (ha : fV cs 0 = some c) [ht : TLd P t f sz] (hs : Nat.beq c.sz sz = true) [hl : LdA f c Ψ] (k : rsT P Γ S rs l) : rsT P Γ S (.cell a t :: rs) (Ψ :: l) :=
 ⟨q, b, i, ty, cs, c, f, sz, Ψ, l, rfl, h, hq.h, hi, ha, Nat.eq_of_beq_eq_true hs, ht, hl, k⟩
theorem rs_res {E : Env} {w : World} (hG : Gd M S w) (hT : TM Γ M E w) : ∀ {rs : List ResultVar} {l : List PV}, rsT P Γ S rs l → ∃ vs, Res P E w rs vs ∧ Fa l M w vs
 | [], _, h => ⟨[], trivial, by rw [show _ = [] from h]; rfl⟩
 | .tmp t :: rs, _, ⟨q, Ψ, l', e, h1, h2, h3⟩ => by
  subst e
  obtain ⟨v, k1, k2⟩ := (hT t _ h1).1 h2
  obtain ⟨vs, k3, k4⟩ := rs_res hG hT h3
  exact ⟨v :: vs, ⟨k1, k3⟩, v, vs, rfl, k2, k4⟩
 | .cell a t :: rs, _, ⟨q, b, i, ty, cs, c, f, sz, Ψ, l', e, h1, h2, h3, h4, h5, h6, h7, h8⟩ => by
  subst e
  obtain ⟨v, k1, k2⟩ := (hT a _ h1).1 h2
  obtain rfl : v = _ := k2
  obtain ⟨vs, k3, k4⟩ := rs_res hG hT h8
  obtain ⟨us, g1, g2⟩ := hG.own _ (List.mem_of_getElem? h3)
  have g3 := eY g2 h4
  have g4 := h7.h g3
  have g5 := c.len g3
  have hld := h6.h
  have key : ∃ u, (loadVar t ⟨b, 0, none⟩).run P w = .ok u w ∧ Ψ.p M w u := by
   cases f with
   | true =>
    obtain ⟨bytes, z, hz⟩ := h6.s
    exact ⟨_, yT hld hz g1 (by rw [← h5]) (g5.trans h5), g4⟩
   | false =>
    obtain ⟨k5, rfl⟩ := hld
    rw [h5] at g5 g4
    obtain ⟨u, hu⟩ := List.length_eq_one_iff.1 g5
    rw [hu] at g4
    refine ⟨u, bI k5 g1 ?_, g4 u rfl⟩
    have := congrArg (fun l : List Value => l[0]?) hu
    simpa using this
  obtain ⟨u, k5, k6⟩ := key
  exact ⟨u :: vs, ⟨⟨_, k1, k5⟩, k3⟩, u, vs, rfl, k6, k4⟩
def TRc (P : Program) (rs : List ResultVar) (ρ : PV) : TK := fun Γ S => ∃ l, rsT P Γ S rs l ∧ ∀ M w vs, Fa l M w vs → ρ.p M w (xJ vs)
def TRd (P : Program) (rs : List ResultVar) (Q : PV → List Ow → Prop) : TK := fun Γ S => ∃ l ρ So, rsT P Γ S rs l ∧ So.Sublist S ∧ Q ρ So ∧ ∀ M w vs, Fa l M w vs → ρ.p M w (xJ vs)
theorem ctd {f : FuncId} {fn : Func} {c : Code} {N : Nat} {τs : List PV} {Si : List Ow} {Q : PV → List Ow → Prop} (hf : P.funcs[f]? = some fn) (hb : fn.body = some c) (hn : fn.ntmps = N) (hN : Nat.ble τs.length N = true)
    (hnm : (fn.name == "runtime.NumGoroutine") = false) (hsc : ∀ ρ So, Q ρ So → ∀ {T : List Ow} {M : Nat → Prop} {w : World} {v : Value}, So.Sublist T → ρ.p (Mk T M) w v → ρ.p (Mk So M) w v) (h : ∀ X, TW P none N X c (TRd P fn.results.toList Q) (fun _ _ _ => False) (TRd P fn.results.toList Q) (par 0 τs) Si) : CTo P f τs Si Q := by
  refine ⟨⟨fn, hf, by rw [hb]; rfl, hnm⟩, fun M w vs hG hA hZ hM hv => ?_⟩
  have hs : St ⟨M, w, bks Si⟩ (par 0 τs) Si (iK 0 vs) w := ⟨⟨rfl, Tp.refl _, rfl, Nat.le_refl _, fun _ _ _ => rfl⟩, hG, fun o ho b hb => .inr ⟨o, ho, hb⟩, hA, hM, hZ, par_tm hv⟩
  refine jA hf hb hn (by rw [hv.len]; exact hN) ?_
  have hfin : ∀ D E w', lf ⟨M, w, bks Si⟩ (TRd P fn.results.toList Q) [] D E w' → Fin P fn.results.toList (fun v w' => BZ ⟨M, w, bks Si⟩ w' ∧ ∃ ρ So, Q ρ So ∧ Gd (Mk So M) So w' ∧ Apt So ∧ (∀ b, bks So b → w.heap.size ≤ b ∨ bks Si b) ∧ ρ.p (Mk So M) w' v) D E w' := by
    rintro D E w' ⟨rfl, Γ, S, ⟨l, ρ, So, h1, h3, h5, h6⟩, h4⟩
    obtain ⟨us, e1, e2⟩ := rs_res h4.gd h4.tm h1
    exact xC ⟨us, e1, h4.bel, ρ, So, h5, h4.gd.sub h3, apt_sub h3 h4.apt, fun b ⟨o, ho, e⟩ => h4.new o (h3.subset ho) b e, hsc ρ So h5 h3 (h6 _ _ _ e2)⟩
  have h1 := h ⟨M, w, bks Si⟩ [] _ w hs
  intro a ha hd
  refine wpIn_mono (h1 a ha hd) fun e a' w' hq => ?_
  cases e with
  | normal => obtain ⟨E', h1, h2⟩ := hq; exact ⟨E', h1, hfin _ _ _ h2⟩
  | exit id => obtain ⟨E', h1, _, _, _, h2, _⟩ := hq; exact h2.elim
  | ret => obtain ⟨E', h1, h2⟩ := hq; exact ⟨E', h1, hfin _ _ _ h2⟩
  | goto l => exact hq
  | panic c => exact hq
  | outgrown => exact hq
theorem sc_all {ρ : PV} {So T : List Ow} {M : Nat → Prop} {w : World} {v : Value} (hs : So.Sublist T) (h : ρ.p (Mk T M) w v) : ρ.p (Mk So M) w v := ρ.mono h (Cl.less (dM hs))
theorem ctc {f : FuncId} {fn : Func} {c : Code} {N : Nat} {τs : List PV} {ρ : PV} (hf : P.funcs[f]? = some fn) (hb : fn.body = some c) (hn : fn.ntmps = N) (hN : Nat.ble τs.length N = true)
    (hnm : (fn.name == "runtime.NumGoroutine") = false) (h : ∀ X, TW P none N X c (TRc P fn.results.toList ρ) (fun _ _ _ => False) (TRc P fn.results.toList ρ) (par 0 τs) []) : CTy P f τs ρ := by
  have h2 : CTo P f τs [] fun ρ' So => ρ' = ρ ∧ So = [] := ctd hf hb hn hN hnm (fun _ _ _ _ _ _ _ hs hp => sc_all hs hp) fun X D E w hs =>
    wpk (h X D E w hs) fun D' E' w' ⟨e, Γ', S', ⟨l, k1, k2⟩, k3⟩ => ⟨e, Γ', S', ⟨l, ρ, [], k1, List.nil_sublist _, ⟨rfl, rfl⟩, k2⟩, k3⟩
  refine ⟨h2.bod, fun M w vs hM hT hv => ?_⟩
  have hmk : Mk [] M = M := by funext k; simp [Mk]
  refine (h2.run M w vs ⟨by rw [hmk]; exact hM, by rw [hmk]; exact hT, by simp⟩ trivial (fun b ⟨o, ho, _⟩ => by cases ho) hM (by rw [hmk]; exact hv)).mono ?_
  rintro v w' ⟨k1, _, _, ⟨rfl, rfl⟩, _, _, _, k6⟩
  exact ⟨⟨k1.os, k1.tape, k1.output, k1.size, fun b hb => k1.block b hb fun ⟨o, ho, _⟩ => (by cases ho)⟩, by rw [hmk] at k6; exact k6⟩
end
end Go.SL
namespace Go.SL
open Go.Proofs Go.Proofs.YtfkejnlohkgbgaaGreatDoor
instance tld4 : TLd Tryz.prog 4 false 1 := ⟨⟨_, _, sz4⟩, uC, rfl⟩
instance tsl22 : TSl Tryz.prog 22 33 3 56 := ⟨Tryz.underlying22, rfl, _, yL, rfl⟩
instance tld29 : TLd Tryz.prog 29 false 1 := ⟨⟨_, _, xS⟩, yP, rfl⟩
instance tsl29 : TSl Tryz.prog 29 107 1 4 := ⟨Tryz.underlying29, rfl, _, yS, rfl⟩
instance tld31 : TLd Tryz.prog 31 true 2 := ⟨⟨_, _, yV⟩, xU⟩
instance tfd31_0 : TFd Tryz.prog 31 0 false 0 1 := ⟨_, _, _, _, Tryz.underlying31, rfl, rfl, sz4, rfl, uC, rfl⟩
instance tfd31_1 : TFd Tryz.prog 31 1 false 1 1 := ⟨_, _, _, _, Tryz.underlying31, rfl, rfl, xS, rfl, yP, rfl⟩
instance tpl31 : TPl Tryz.prog 31 [1, 1] := ⟨kT⟩
instance tz33 : TZ Tryz.prog 33 (.agg #[(.bool false), (.slice none 0 0), (.slice none 0 0)]) := ⟨⟨_, _, yL⟩, rfl⟩
instance tld33 : TLd Tryz.prog 33 true 3 := ⟨⟨_, _, yL⟩, yQ⟩
instance tfd33_0 : TFd Tryz.prog 33 0 true 0 2 := ⟨_, _, _, _, Tryz.underlying33, rfl, rfl, yV, rfl, xU⟩
instance tfd33_1 : TFd Tryz.prog 33 1 false 2 1 := ⟨_, _, _, _, Tryz.underlying33, rfl, rfl, xS, rfl, yP, rfl⟩
instance tpl33 : TPl Tryz.prog 33 [2, 1] := ⟨fP⟩
instance tld35 : TLd Tryz.prog 35 false 1 := ⟨⟨_, _, sz35⟩, flat35, rfl⟩
instance tld36 : TLd Tryz.prog 36 false 1 := ⟨⟨_, _, sz36⟩, flat36, rfl⟩
instance tz39 : TZ Tryz.prog 39 (.agg #[(.bool false), (.slice none 0 0), (.slice none 0 0), (.bool false), (.slice none 0 0), (.slice none 0 0)]) := ⟨⟨_, _, gT⟩, rfl⟩
instance tld39 : TLd Tryz.prog 39 true 6 := ⟨⟨_, _, gT⟩, qG⟩
instance tfd39_0 : TFd Tryz.prog 39 0 true 0 3 := ⟨_, _, _, _, Tryz.underlying39, rfl, rfl, yL, rfl, yQ⟩
instance tfd39_1 : TFd Tryz.prog 39 1 true 3 3 := ⟨_, _, _, _, Tryz.underlying39, rfl, rfl, yL, rfl, yQ⟩
instance tpl39 : TPl Tryz.prog 39 [3, 3] := ⟨plc39⟩
instance tsl67 : TSl Tryz.prog 67 83 6 112 := ⟨Tryz.underlying67, rfl, _, kI, rfl⟩
instance tz74 : TZ Tryz.prog 74 (.agg #[(.bool false), (.slice none 0 0), (.slice none 0 0), (.bool false), (.slice none 0 0), (.slice none 0 0), (.bool false), (.slice none 0 0), (.slice none 0 0), (.bool false), (.slice none 0 0), (.slice none 0 0)]) := ⟨⟨_, _, sz74⟩, rfl⟩
instance tld74 : TLd Tryz.prog 74 true 12 := ⟨⟨_, _, sz74⟩, fold74⟩
instance tpl74 : TPl Tryz.prog 74 [6, 6] := ⟨plc74⟩
instance tsl75 : TSl Tryz.prog 75 79 12 224 := ⟨Tryz.underlying75, rfl, _, lP, rfl⟩
instance tpl79 : TPl Tryz.prog 79 [6, 6] := ⟨plc79⟩
instance tz83 : TZ Tryz.prog 83 (.agg #[(.bool false), (.slice none 0 0), (.slice none 0 0), (.bool false), (.slice none 0 0), (.slice none 0 0)]) := ⟨⟨_, _, kI⟩, rfl⟩
instance tld83 : TLd Tryz.prog 83 true 6 := ⟨⟨_, _, kI⟩, dA⟩
instance tfd83_0 : TFd Tryz.prog 83 0 true 0 3 := ⟨_, _, _, _, Tryz.underlying83, rfl, rfl, yL, rfl, yQ⟩
instance tfd83_1 : TFd Tryz.prog 83 1 true 3 3 := ⟨_, _, _, _, Tryz.underlying83, rfl, rfl, yL, rfl, yQ⟩
instance tpl83 : TPl Tryz.prog 83 [3, 3] := ⟨plc83⟩
instance tsl174 : TSl Tryz.prog 174 31 2 32 := ⟨Tryz.underlying174, rfl, _, yV, rfl⟩
end Go.SL
namespace Go.Proofs.YtfkejnlohkgbgaaGreatDoor
open Go.SL Go.RowKit Go.Proofs Tryz
section
variable {M M' : Nat → Prop} {w w' : World} {n m : Nat} {q : Rat} {s : Bool} {a d : Value}
theorem QC.cl (h : QC M w n q s a d) (l : Cl M w M' w') : QC M' w' n q s a d := by obtain ⟨xs, ds, h1, h2, h3⟩ := h.ex; exact ⟨xs, ds, h1.cl l, h2.cl l, h3⟩
theorem RC.cl (h : RC M w n q s a d) (l : Cl M w M' w') : RC M' w' n q s a d := ⟨h.sgn, h.num.cl l, h.den.cl l, h.len⟩
end
def rtq (n : Nat) (q : Rat) : CT where
 sz := 3
 p M w cs := ∃ s a d, cs = [.bool s, a, d] ∧ QC M w n q s a d
 len h := by obtain ⟨_, _, _, rfl, _⟩ := h; rfl
 one h := by obtain ⟨_, _, _, rfl, h⟩ := h; exact bM rfl (bM h.one.1 (bM h.one.2.1 jI))
 mono h k := by obtain ⟨s, a, d, rfl, h⟩ := h; exact ⟨s, a, d, rfl, h.cl k⟩
def rtc (n : Nat) (q : Rat) : CT where
 sz := 3
 p M w cs := ∃ s a d, cs = [.bool s, a, d] ∧ RC M w n q s a d
 len h := by obtain ⟨_, _, _, rfl, _⟩ := h; rfl
 one h := by obtain ⟨_, _, _, rfl, h⟩ := h; exact bM rfl (bM h.one.1 (bM h.one.2.1 jI))
 mono h k := by obtain ⟨s, a, d, rfl, h⟩ := h; exact ⟨s, a, d, rfl, h.cl k⟩
def rtl (L : N2) (q : Rat) : CT where
 sz := 3
 p M w cs := ∃ s a d, cs = [.bool s, a, d] ∧ QC M w (max L.1 L.2) q s a d ∧ Q2 M w 0 L s a d
 len h := by obtain ⟨_, _, _, rfl, _⟩ := h; rfl
 one h := by obtain ⟨_, _, _, rfl, h, _⟩ := h; exact bM rfl (bM h.one.1 (bM h.one.2.1 jI))
 mono h k := by obtain ⟨s, a, d, rfl, h, h2⟩ := h; exact ⟨s, a, d, rfl, h.cl k, h2.a, h2.d⟩
class CQ (c : CT) (n : outParam Nat) (q : outParam Rat) : Prop where
 h : ∀ {M w us}, c.p M w us → ∃ s a d, us = [.bool s, a, d] ∧ QC M w n q s a d
instance {n : Nat} {q : Rat} : CQ (rtq n q) n q := ⟨id⟩
instance {n : Nat} {q : Rat} : CQ (rtc n q) n q := ⟨fun ⟨s, a, d, e, h⟩ => ⟨s, a, d, e, h.gen⟩⟩
instance {L : N2} {q : Rat} : CQ (rtl L q) (max L.1 L.2) q := ⟨fun ⟨s, a, d, e, h, _⟩ => ⟨s, a, d, e, h⟩⟩
class CP (c : CT) (n : outParam Nat) (q : outParam P2) : Prop where
 h : ∀ {M w us}, c.p M w us → ∃ s a d t b e, us = [.bool s, a, d, .bool t, b, e] ∧ PQ M w n q s a d t b e
instance {c d : CT} {n m : Nat} {p q : Rat} [h1 : CQ c n p] [h2 : CQ d m q] : CP (st [c, d]) (max n m) (p, q) := ⟨fun ⟨x, y, e, k1, z, o, e2, k2, e3⟩ => by
 obtain ⟨s, a, d, rfl, g1⟩ := h1.h k1
 obtain ⟨t, b, f, rfl, g2⟩ := h2.h k2
 obtain rfl : o = [] := e3
 exact ⟨s, a, d, t, b, f, by rw [e, e2]; rfl, g1.up (by omega), g2.up (by omega)⟩⟩
class QR (Ψ : PV) (n : outParam Nat) (q : outParam Rat) : Prop where
 h : ∀ {M w v}, Ψ.p M w v → ∃ s a d, v = .agg #[.bool s, a, d] ∧ QC M w n q s a d
instance {c : CT} {n : Nat} {q : Rat} [h : CQ c n q] : QR (ag c) n q := ⟨fun ⟨us, e, k⟩ => by obtain ⟨s, a, d, rfl, g⟩ := h.h k; exact ⟨s, a, d, e, g⟩⟩
class QP (Ψ : PV) (n : outParam Nat) (q : outParam P2) : Prop where
 h : ∀ {M w v}, Ψ.p M w v → ∃ s a d t b e, v = .agg #[.bool s, a, d, .bool t, b, e] ∧ PQ M w n q s a d t b e
instance {c : CT} {n : Nat} {q : P2} [h : CP c n q] : QP (ag c) n q := ⟨fun ⟨us, e, k⟩ => by obtain ⟨s, a, d, t, b, f, rfl, g⟩ := h.h k; exact ⟨s, a, d, t, b, f, e, g⟩⟩
theorem iD {α : Type} {R : kC α} {f : α → CT} {k : Nat} {M : Nat → Prop} {w : World} {v : Value} {xs : List α} (hsz : ∀ a, (f a).sz = k) (hR : ∀ a us, (f a).p M w us → R M w a us) (h : (sl k (xs.map f)).p M w [v]) : RowOf R k M w v xs := by
 obtain ⟨u, us, e, h1, h2, h3⟩ := h
 obtain rfl := List.singleton_inj.1 e
 rw [List.length_map] at h1
 refine ⟨us, h1, fun i a ha => ?_⟩
 have hi := (List.getElem?_eq_some_iff.1 ha).1
 have h4 := iC h2 (i := i) (c := f a) (by rw [List.getElem?_map, ha]; rfl)
 rw [szs_take h3 (by rw [List.length_map]; omega), hsz] at h4
 refine ⟨_, ((f a).len h4).trans (hsz a), fun q u hq => ?_, hR _ _ h4⟩
 rw [List.getElem?_take] at hq
 split at hq
 ·simpa using hq
 ·cases hq
theorem stp_of {α : Type} {R : kC α} {f : α → CT} {k : Nat} {M : Nat → Prop} {w : World} (hR : ∀ a us, us.length = k → R M w a us → (f a).p M w us) : ∀ {xs : List α} {cs : List Value}, cs.length = xs.length * k →
    (∀ (i : Nat) (a : α), xs[i]? = some a → ∃ us : List Value, us.length = k ∧ (∀ (q : Nat) (u : Value), us[q]? = some u → cs[i * k + q]? = some u) ∧ R M w a us) → stp (xs.map f) M w cs
  | [], cs, h, _ => by have h0 : cs = [] := by simpa using h
                       exact h0
  | a :: xs, cs, h, h2 => by
    obtain ⟨us, k1, k2, k3⟩ := h2 0 a rfl
    rw [List.length_cons, Nat.succ_mul] at h
    have e : cs.take k = us := by
      apply List.ext_getElem?
      intro q
      rw [List.getElem?_take]
      split
      · rename_i hq
        have h5 := k2 q (us[q]'(by omega)) (List.getElem?_eq_getElem (by omega))
        simp only [Nat.zero_mul, Nat.zero_add] at h5
        rw [h5, List.getElem?_eq_getElem (by omega)]
      · rw [List.getElem?_eq_none (by omega)]
    refine ⟨us, cs.drop k, by rw [← e, List.take_append_drop], hR a us k1 k3, stp_of hR (by rw [List.length_drop]; omega) fun i b hb => ?_⟩
    obtain ⟨vs, g1, g2, g3⟩ := h2 (i + 1) b (by simpa using hb)
    refine ⟨vs, g1, fun q u hq => ?_, g3⟩
    have := g2 q u hq
    rw [List.getElem?_drop, show k + (i * k + q) = (i + 1) * k + q by rw [Nat.succ_mul]; omega]; exact this
theorem dK {α : Type} {R : kC α} {f : α → CT} {k : Nat} {M : Nat → Prop} {w : World} {v : Value} {xs : List α} (hsz : ∀ a, (f a).sz = k) (hR : ∀ a us, us.length = k → R M w a us → (f a).p M w us) (h : RowOf R k M w v xs) : (sl k (xs.map f)).p M w [v] := by
 obtain ⟨cs, h1, h2⟩ := h
 exact ⟨v, cs, rfl, by rw [List.length_map]; exact h1, stp_of hR h1.1 h2, fun c hc => by obtain ⟨a, _, rfl⟩ := List.mem_map.1 hc; exact hsz a⟩
class CsQ (cs : List CT) (n : outParam Nat) (qs : outParam (List Rat)) : Prop where
 h : ∀ c ∈ cs, c.sz = 3
 l : cs.length = qs.length
 e : ∀ (i : Nat) (q : Rat), qs[i]? = some q → ∃ c, cs[i]? = some c ∧ ∀ {M w us}, c.p M w us → ∃ s a d, us = [.bool s, a, d] ∧ QC M w n q s a d
instance : CsQ [] 0 [] := ⟨by simp, rfl, by simp⟩
class C3 (c : CT) : Prop where
 h : c.sz = 3
instance {n : Nat} {q : Rat} : C3 (rtq n q) := ⟨rfl⟩
instance {n : Nat} {q : Rat} : C3 (rtc n q) := ⟨rfl⟩
instance {n : N2} {q : Rat} : C3 (rtl n q) := ⟨rfl⟩
instance {c : CT} {cs : List CT} {n m : Nat} {q : Rat} {qs : List Rat} [h1 : CQ c n q] [h3 : C3 c] [h2 : CsQ cs m qs] : CsQ (c :: cs) (max n m) (q :: qs) :=
 ⟨fun x hx => by rcases List.mem_cons.1 hx with rfl | hx; exact h3.h; exact h2.h x hx, by simp [h2.l], fun i p hi => by
  cases i with
  | zero => simp at hi; subst hi; exact ⟨c, rfl, fun k => let ⟨s, a, d, e, g⟩ := h1.h k; ⟨s, a, d, e, g.up (by omega)⟩⟩
  | succ i => obtain ⟨x, g1, g2⟩ := h2.e i p (by simpa using hi); exact ⟨x, by simpa using g1, fun k => let ⟨s, a, d, e, g⟩ := g2 k; ⟨s, a, d, e, g.up (by omega)⟩⟩⟩
theorem row_each {α : Type} {R : kC α} {k : Nat} {M : Nat → Prop} {w : World} {v : Value} {cs : List CT} {xs : List α} (hl : cs.length = xs.length) (h3 : ∀ c ∈ cs, c.sz = k) (hR : ∀ (i : Nat) (a : α), xs[i]? = some a → ∃ c, cs[i]? = some c ∧ ∀ us, c.p M w us → R M w a us) (h : (sl k cs).p M w [v]) : RowOf R k M w v xs := by
 obtain ⟨u, us, e, h1, h2, _⟩ := h
 obtain rfl := List.singleton_inj.1 e
 rw [hl] at h1
 refine ⟨us, h1, fun i a ha => ?_⟩
 have hi := (List.getElem?_eq_some_iff.1 ha).1
 obtain ⟨c, k1, k2⟩ := hR i a ha
 have h4 := iC h2 (i := i) (c := c) k1
 have hc := h3 c (List.mem_of_getElem? k1)
 rw [szs_take h3 (by omega), hc] at h4
 refine ⟨_, (c.len h4).trans hc, fun q u hq => ?_, k2 _ h4⟩
 rw [List.getElem?_take] at hq
 split at hq
 ·simpa using hq
 ·cases hq
class VQ (Ψ : PV) (n : outParam Nat) (l : outParam (List Rat)) : Prop where
 h : ∀ {M w v}, Ψ.p M w v → QL M w n l v
instance {cs : List CT} {n : Nat} {l : List Rat} [h : CsQ cs n l] : VQ (sv (sl 3 cs)) n l := ⟨fun k => ⟨row_each h.l h.h (fun i a ha => let ⟨c, g1, g2⟩ := h.e i a ha; ⟨c, g1, fun us hu => g2 hu⟩) k⟩⟩
instance {n : Nat} {l : List Rat} : VQ (sv (sl 3 (l.map (rtc n)))) n l := ⟨fun k => ⟨iD (fun _ => rfl) (fun a us h => (CQ.h h : _)) k⟩⟩
class VPt (Ψ : PV) (n : outParam Nat) (l : outParam (List P2)) : Prop where
 h : ∀ {M w v}, Ψ.p M w v → PL M w n l v
def ptl (x : N4 × P2) : CT := st [rtl (x.1.1, x.1.2.1) x.2.1, rtl (x.1.2.2.1, x.1.2.2.2) x.2.2]
theorem pl_row {n : Nat} {l : List (N4 × P2)} {M : Nat → Prop} {w : World} {v : Value} (hn : ∀ x ∈ l, m4 x.1 ≤ n) (k : (sl 6 (l.map ptl)).p M w [v]) : PL M w n (l.map (·.2)) v := ⟨by
 obtain ⟨cs, h1, h2⟩ := iD (f := ptl) (k := 6) (R := fun M w (a : N4 × P2) us => RP (m4 a.1) M w a.2 us) (fun _ => rfl) (fun a us h => by
  obtain ⟨s, b, d, t, c, e, e0, g⟩ := CP.h (c := st [rtl (a.1.1, a.1.2.1) a.2.1, rtl (a.1.2.2.1, a.1.2.2.2) a.2.2]) h
  exact ⟨s, b, d, t, c, e, e0, g.up (by unfold m4; omega)⟩) k
 refine ⟨cs, by rw [List.length_map]; exact h1, fun i a ha => ?_⟩
 rw [List.getElem?_map] at ha
 obtain ⟨b, hb, rfl⟩ := Option.map_eq_some_iff.1 ha
 obtain ⟨us, g1, g2, s, x, d, t, c, e, e0, g⟩ := h2 i b hb
 exact ⟨us, g1, g2, s, x, d, t, c, e, e0, g.up (hn b (List.mem_of_getElem? hb))⟩⟩
def intl (k : Nat) : CT where
 sz := 2
 p M w cs := ∃ s p c, cs = [.bool s, .slice p k c]
 len h := by obtain ⟨_, _, _, rfl⟩ := h; rfl
 one h := by obtain ⟨_, _, _, rfl⟩ := h; exact bM rfl (bM rfl jI)
 mono h _ := h
instance {L : N2} {q : Rat} : FA (rtl L q) 0 (intl L.1) := ⟨fun ⟨s, a, d, e, _, ⟨p, c, ea⟩, _⟩ => ⟨s, p, c, by rw [e, ea]; rfl⟩⟩
instance {L : N2} {q : Rat} : FA (rtl L q) 2 (nln L.2) := ⟨fun ⟨s, a, d, e, _, _, ⟨p, c, ea⟩⟩ => ⟨p, c, by rw [e, ea]; rfl⟩⟩
instance {k : Nat} : FA (intl k) 1 (nln k) := ⟨fun ⟨s, p, c, e⟩ => ⟨p, c, by rw [e]; rfl⟩⟩
instance : Df (N4 × P2) := ⟨((0, 0, 0, 0), (0, 0))⟩
instance {x : N4 × P2} : FA (ptl x) 0 (rtl (x.1.1, x.1.2.1) x.2.1) := ⟨fun h => eY (l := [rtl (x.1.1, x.1.2.1) x.2.1, rtl (x.1.2.2.1, x.1.2.2.2) x.2.2]) (o := 0) h rfl⟩
instance {x : N4 × P2} : FA (ptl x) 3 (rtl (x.1.2.2.1, x.1.2.2.2) x.2.2) := ⟨fun h => eY (l := [rtl (x.1.1, x.1.2.1) x.2.1, rtl (x.1.2.2.1, x.1.2.2.2) x.2.2]) (o := 3) h rfl⟩
theorem m4_eta (x : N4) : m4 (x.1, x.2.1, x.2.2.1, x.2.2.2) = m4 x := rfl
theorem dand {a b : Prop} [Decidable a] [Decidable b] (h : Tr ((decide a && decide b) = true)) : a ∧ b := by simpa using h.h
theorem dor {a b : Prop} [Decidable a] [Decidable b] (h : Tr ((decide a && decide b) = false)) : ¬ (a ∧ b) := by have := h.h; simpa using this
theorem dt {a : Prop} [Decidable a] (h : Tr (decide a = true)) : a := of_decide_eq_true h.h
theorem df {a : Prop} [Decidable a] (h : Tr (decide a = false)) : ¬ a := of_decide_eq_false h.h
theorem take_eq_step {α : Type} {l m : List α} {s : Nat} {d : α} (hl : s < l.length) (hm : s < m.length) (h : l.take s = m.take s) (e : l.getD s d = m.getD s d) : l.take (s + 1) = m.take (s + 1) := by
 rw [(gP d hl).1, (gP d hm).1, h, e]
theorem take_eq_all {α : Type} {l m : List α} (h : l.length = m.length) (e : l.take l.length = m.take l.length) : l = m := by
 rw [List.take_length] at e; rw [h, List.take_length] at e; exact e
theorem getD_ne {α : Type} {l m : List α} {s : Nat} {d : α} (h : l.getD s d ≠ m.getD s d) : l ≠ m := fun e => h (by rw [e])
theorem fa1 {τ : PV} {M : Nat → Prop} {w : World} {vs : List Value} (h : Fa [τ] M w vs) : ∃ v, vs = [v] ∧ τ.p M w v := by
 obtain ⟨v, us, e, h1, h2⟩ := h; exact ⟨v, by rw [e, show us = [] from h2], h1⟩
theorem fa2 {τ σ : PV} {M : Nat → Prop} {w : World} {vs : List Value} (h : Fa [τ, σ] M w vs) : ∃ v u, vs = [v, u] ∧ τ.p M w v ∧ σ.p M w u := by
 obtain ⟨v, us, e, h1, h2⟩ := h; obtain ⟨u, e2, h3⟩ := fa1 h2; exact ⟨v, u, by rw [e, e2], h1, h3⟩
theorem fa4 {τ σ ρ θ : PV} {M : Nat → Prop} {w : World} {vs : List Value} (h : Fa [τ, σ, ρ, θ] M w vs) : ∃ v u x y, vs = [v, u, x, y] ∧ τ.p M w v ∧ σ.p M w u ∧ ρ.p M w x ∧ θ.p M w y := by
 obtain ⟨v, us, e, h1, u, us2, e2, h2, h3⟩ := h; obtain ⟨x, y, e3, h4, h5⟩ := fa2 h3; exact ⟨v, u, x, y, by rw [e, e2, e3], h1, h2, h4, h5⟩
theorem bC {M : Nat → Prop} {w : World} {n : Nat} {q : Rat} {s : Bool} {a d : Value} (h : RC M w n q s a d) : (ag (rtc n q)).p M w (.agg #[.bool s, a, d]) := ⟨_, rfl, _, _, _, rfl, h⟩
def Fsub (τs σs : List PV) : Prop := ∀ M w vs, Fa τs M w vs → Fa σs M w vs
theorem fs0 : Fsub [] [] := fun _ _ _ h => h
theorem fs1 {τ σ : PV} {τs σs : List PV} (h : PSub τ σ) (k : Fsub τs σs) : Fsub (τ :: τs) (σ :: σs) := fun M w vs ⟨v, us, e, h1, h2⟩ => ⟨v, us, e, h _ _ _ h1, k _ _ _ h2⟩
theorem dP {P : Program} {f : FuncId} {τs σs : List PV} {ρ : PV} (h : CTy P f σs ρ) (hs : Fsub τs σs) : CTy P f τs ρ := ⟨h.bod, fun M w vs hM hT hv => h.run M w vs hM hT (hs _ _ _ hv)⟩
instance dfR : Df Rat := ⟨0⟩
instance dfP : Df P2 := ⟨(0, 0)⟩
abbrev ptq (n : Nat) (x : P2) : CT := st [rtq n x.1, rtq n x.2]
theorem cA {Ψ : PV} {n : Nat} {q : Rat} [h : QR Ψ n q] : PSub Ψ (ag (rtq n q)) := fun M w v k => by
 obtain ⟨s, a, d, rfl, g⟩ := h.h k
 exact ⟨_, rfl, s, a, d, rfl, g⟩
theorem ptq_of {M : Nat → Prop} {w : World} {n : Nat} {q : P2} {s : Bool} {a d : Value} {t : Bool} {b e : Value} (h : PQ M w n q s a d t b e) : (ptq n q).p M w [.bool s, a, d, .bool t, b, e] := ⟨[.bool s, a, d], [.bool t, b, e], rfl, ⟨s, a, d, rfl, h.x⟩, [.bool t, b, e], [], rfl, ⟨t, b, e, rfl, h.y⟩, rfl⟩
theorem lW {Ψ : PV} {n : Nat} {q : P2} [h : QP Ψ n q] : PSub Ψ (ag (ptq n q)) := fun M w v k => by
 obtain ⟨s, a, d, t, b, e, rfl, g⟩ := h.h k
 exact ⟨_, rfl, ptq_of g⟩
theorem fY {Ψ : PV} {n : Nat} {l : List P2} [h : VPt Ψ n l] : PSub Ψ (sv (sl 6 (l.map (ptq n)))) := fun M w v k => by
 refine dK (R := RP n) (fun _ => rfl) (fun a us _ ⟨s, x, d, t, b, e, e0, g⟩ => by rw [e0]; exact ptq_of g) (h.h k).row
theorem vq_q {Ψ : PV} {n : Nat} {l : List Rat} [h : VQ Ψ n l] : PSub Ψ (sv (sl 3 (l.map (rtq n)))) := fun M w v k => by
 refine dK (R := RQ n) (fun _ => rfl) (fun a us _ ⟨s, x, d, e0, g⟩ => ⟨s, x, d, e0, g⟩) (h.h k).row
abbrev ptc (n : Nat) (x : P2) : CT := st [rtc n x.1, rtc n x.2]
instance vpt_c {n : Nat} {l : List P2} : VPt (sv (sl 6 (l.map (ptc n)))) n l := ⟨fun k => ⟨iD (fun _ => rfl) (fun a us h => by
 obtain ⟨s, b, d, t, c, e, e0, g⟩ := CP.h (c := ptc n a) h
 exact ⟨s, b, d, t, c, e, e0, by rw [Nat.max_self] at g; exact g⟩) k⟩⟩
instance vpt_p {n : Nat} {l : List P2} : VPt (sv (sl 6 (l.map (ptq n)))) n l := ⟨fun k => ⟨iD (fun _ => rfl) (fun a us h => by
 obtain ⟨s, b, d, t, c, e, e0, g⟩ := CP.h (c := ptq n a) h
 exact ⟨s, b, d, t, c, e, e0, by rw [Nat.max_self] at g; exact g⟩) k⟩⟩
theorem ql_rats {M : Nat → Prop} {w : World} {v : Value} {n : Nat} {l : List Rat} (h : QL M w n l v) : ∃ l0 : List RRt, IsRats M w v l0 ∧ l0.map rq = l ∧ (∀ x ∈ l0, (∀ y ∈ x.2.1, y < 4294967296) ∧ ∀ y ∈ x.2.2, y < 4294967296) ∧ ∀ x ∈ l0, x.2.1.length ≤ n ∧ x.2.2.length ≤ n := by
 obtain ⟨cs, h1, h2⟩ := h.row
 have h3 : ∀ i, i < l.length → ∃ y : RRt, rq y = l.getD i 0 ∧ (∃ us : List Value, us.length = 3 ∧ (∀ (q : Nat) (u : Value), us[q]? = some u → cs[i * 3 + q]? = some u) ∧ RRc M w y us) ∧ ((∀ z ∈ y.2.1, z < 4294967296) ∧ ∀ z ∈ y.2.2, z < 4294967296) ∧ y.2.1.length ≤ n ∧ y.2.2.length ≤ n := fun i hi => by
  obtain ⟨us, k1, k2, s, a, d, e, g⟩ := h2 i _ (List.getElem?_eq_getElem hi)
  obtain ⟨xs, ds, g1, g2, g3, g4, g5⟩ := g.ex
  exact ⟨(s, xs, ds), by rw [List.getD_eq_getElem?_getD, List.getElem?_eq_getElem hi]; exact g5, ⟨us, k1, k2, a, d, e, g1, g2⟩, ⟨g1.lt, g2.lt⟩, g3, g4⟩
 haveI : Inhabited RRt := ⟨(false, [], [])⟩
 obtain ⟨Y, hY⟩ := Go.Deep.choose_lt h3
 refine ⟨(List.range l.length).map Y, ⟨cs, by simpa using h1, fun i p hp => ?_⟩, ?_, fun x hx => ?_, fun x hx => ?_⟩
 ·obtain ⟨hlt, rfl⟩ := List.getElem?_eq_some_iff.1 hp
  have hlt' : i < l.length := by simpa using hlt
  simpa using (hY i hlt').2.1
 ·apply List.ext_getElem
  ·simp
  ·intro i hi1 hi2
   have := (hY i hi2).1
   simp only [List.getElem_map, List.getElem_range]
   rw [this, List.getD_eq_getElem?_getD, List.getElem?_eq_getElem hi2]; rfl
 ·obtain ⟨i, hi, rfl⟩ := List.mem_map.1 hx
  exact (hY i (List.mem_range.1 hi)).2.2.1
 ·obtain ⟨i, hi, rfl⟩ := List.mem_map.1 hx
  exact (hY i (List.mem_range.1 hi)).2.2.2
theorem kradd {Ψ : PV} {n : Nat} {p q : Rat} [h : VQ Ψ n [p, q]] (hn : n ≤ 90000) : CTy prog 163 [Ψ] (ag (rtc (2 * n + 3) (p + q))) :=
 ⟨(bo func163), fun M w vs hM hT hv => by
  obtain ⟨v, rfl, h1⟩ := fa1 hv
  have hq := h.h h1
  obtain ⟨l0, g1, g2, g3, g4⟩ := ql_rats hq
  have hl : l0.length = 2 := by have := congrArg List.length g2; simpa using this
  obtain ⟨x, y, rfl⟩ : ∃ x y, l0 = [x, y] := by
   match l0, hl with
   | [x, y], _ => exact ⟨x, y, rfl⟩
  simp only [List.map_cons, List.map_nil, List.cons.injEq, and_true] at g2
  have e2 : cQ [x, y] = p + q := by simp [cQ, g2.1, g2.2, Rat.zero_add]
  have hx := dY (g3 x (by simp)).1 (g3 x (by simp)).2 (g4 x (by simp)).1 (g4 x (by simp)).2
  have hy := dY (g3 y (by simp)).1 (g3 y (by simp)).2 (g4 y (by simp)).1 (g4 y (by simp)).2
  rw [g2.1] at hx; rw [g2.2] at hy
  exact (radds_c hT g1 g3 g4 (by simp; omega) hM).mono fun r w' ⟨hB, a, d, e, k1, k2⟩ => ⟨hB, by rw [e2] at e k1 k2; exact e ▸ bC ⟨rfl, k1, k2, jC (qU hx hy) (by omega)⟩⟩⟩
theorem krmul {Ψ : PV} {n : Nat} {p q : Rat} [h : VQ Ψ n [p, q]] (hn : n ≤ 90000) : CTy prog 160 [Ψ] (ag (rtc (2 * n + 3) (p * q))) :=
 ⟨(bo func160), fun M w vs hM hT hv => by
  obtain ⟨v, rfl, h1⟩ := fa1 hv
  have hq := h.h h1
  obtain ⟨l0, g1, g2, g3, g4⟩ := ql_rats hq
  have hl : l0.length = 2 := by have := congrArg List.length g2; simpa using this
  obtain ⟨x, y, rfl⟩ : ∃ x y, l0 = [x, y] := by
   match l0, hl with
   | [x, y], _ => exact ⟨x, y, rfl⟩
  simp only [List.map_cons, List.map_nil, List.cons.injEq, and_true] at g2
  have e2 : aF [x, y] = p * q := by simp [aF, g2.1, g2.2, Rat.one_mul]
  have hx := dY (g3 x (by simp)).1 (g3 x (by simp)).2 (g4 x (by simp)).1 (g4 x (by simp)).2
  have hy := dY (g3 y (by simp)).1 (g3 y (by simp)).2 (g4 y (by simp)).1 (g4 y (by simp)).2
  rw [g2.1] at hx; rw [g2.2] at hy
  exact (rmuls_c hT g1 g3 g4 (by simp; omega) hM).mono fun r w' ⟨hB, a, d, e, k1, k2⟩ => ⟨hB, by rw [e2] at e k1 k2; exact e ▸ bC ⟨rfl, k1, k2, jC (bE hx hy) (by omega)⟩⟩⟩
section
variable {Ψ Φ : PV} {n m : Nat} {p q : Rat}
theorem krcmp [h : QR Ψ n p] [k : QR Φ m q] (hn : n ≤ 90000) (hm : m ≤ 90000) : CTy prog 78 [Ψ, Φ] (exP (.int .i64 (jY p q))) :=
 ⟨(bo func78), fun M w vs hM hT hv => by
  obtain ⟨v, u, rfl, h1, h2⟩ := fa2 hv
  obtain ⟨s, a, d, rfl, g1⟩ := h.h h1
  obtain ⟨t, b, e, rfl, g2⟩ := k.h h2
  exact eN hT g1 g2 hn hm hM⟩
theorem iZ [h : QR Ψ n p] [k : QR Φ m q] (hn : n ≤ 90000) (hm : m ≤ 90000) : CTy prog 98 [Ψ, Φ] (ag (rtc (n + m + 3) (p - q))) :=
 ⟨(bo func98), fun M w vs hM hT hv => by
  obtain ⟨v, u, rfl, h1, h2⟩ := fa2 hv
  obtain ⟨s, a, d, rfl, g1⟩ := h.h h1
  obtain ⟨t, b, e, rfl, g2⟩ := k.h h2
  exact (rsub_q hT g1 g2 hn hm hM).mono fun r w' ⟨hB, x, y, z, e, g⟩ => ⟨hB, e ▸ bC g⟩⟩
theorem krquo [h : QR Ψ n p] [k : QR Φ m q] (hn : n ≤ 90000) (hm : m ≤ 90000) : CTy prog 94 [Ψ, Φ] (tu [ag (rtc (n + m + 3) (p / q)), exP (.int .i64 (if q = 0 then 30 else 0))]) :=
 ⟨(bo func94), fun M w vs hM hT hv => by
  obtain ⟨v, u, rfl, h1, h2⟩ := fa2 hv
  obtain ⟨s, a, d, rfl, g1⟩ := h.h h1
  obtain ⟨t, b, e, rfl, g2⟩ := k.h h2
  exact (rquo_q hT g1 g2 hn hm hM).mono fun r w' ⟨hB, x, y, z, e, g⟩ => ⟨hB, _, e, _, _, rfl, bC g, _, _, rfl, rfl, rfl⟩⟩
theorem krof {k : Nat} (hk : k < 9223372036854775808) : CTy prog 77 [exP (.int .i64 ((k : Nat) : Int))] (ag (rtc 2 ((k : Nat) : Rat))) :=
 ⟨(bo func77), fun M w vs hM hT hv => by
  obtain ⟨v, rfl, h1⟩ := fa1 hv
  obtain rfl : v = _ := h1
  exact (rofn_q hk hM).mono fun r w' ⟨hB, x, y, z, e, g⟩ => ⟨hB, e ▸ bC g⟩⟩
theorem k7of {k : Nat} (hk : k < 9223372036854775808) : CTy prog 21 [exP (.int .i64 ((k : Nat) : Int))] (ag (rtc 2 ((k : Nat) : Rat))) :=
 ⟨(bo func21), fun M w vs hM hT hv => by
  obtain ⟨v, rfl, h1⟩ := fa1 hv
  obtain rfl : v = _ := h1
  exact (eO hk hM).mono fun r w' ⟨hB, x, y, z, e, g⟩ => ⟨hB, e ▸ bC g⟩⟩
end
theorem pc_ret {M : Nat → Prop} {w : World} {n : Nat} {q : P2} {s : Bool} {a d : Value} {t : Bool} {b e : Value} (h : PC M w n q s a d t b e) : (ag (st [rtc n q.1, rtc n q.2])).p M w (.agg #[.bool s, a, d, .bool t, b, e]) := ⟨_, rfl, [.bool s, a, d], [.bool t, b, e], rfl, ⟨s, a, d, rfl, h.x⟩, [.bool t, b, e], [], rfl, ⟨t, b, e, rfl, h.y⟩, rfl⟩
theorem lR {k l : Nat} (hk : k < 9223372036854775808) (hl : l < 9223372036854775808) : CTy prog 85 [exP (.int .i64 ((k : Nat) : Int)), exP (.int .i64 ((l : Nat) : Int))] (ag (st [rtc 2 ((k : Nat) : Rat), rtc 2 ((l : Nat) : Rat)])) :=
 ⟨(bo func85), fun M w vs hM hT hv => by
  obtain ⟨v, u, rfl, h1, h2⟩ := fa2 hv
  obtain rfl : v = _ := h1
  obtain rfl : u = _ := h2
  exact (r8of_c hk hl hM).mono fun r w' ⟨hB, _, _, _, _, _, _, e, g⟩ => ⟨hB, e ▸ pc_ret g⟩⟩
theorem omx {P : Program} {r : Option Nat} {N : Nat} {ops : Array Oper} {M : Nat → Prop} {S : List Ow} {p q1 q2 : Prop} {Γ : TE} {Ψ Φ : PV} {d : Nat} {x y : Operand} {ts : Array TypeId} {t' : TypeId} {pos : String} {af : Array Edge} {k : IntKind} {a b : Int}
  (hx : tv Γ x = some (q1, Ψ)) (hy : tv Γ y = some (q2, Φ)) [Im p q1] [Im p q2] [ha : VI Ψ k a] [hb : VI Φ k b] : Ob P r N ops M S p ⟨some d, .call ⟨.builtin .max, #[x, y], ts⟩, t', pos, af, none⟩ Γ (exP (.int k (max a b))) :=
 ob2 hx hy (by simp [Op.operands, Call.operands]) (by simp [Op.operands, Call.operands]) fun D E w u v hN _ e1 e2 h1 h2 => by rw [ha.h h1] at e1; rw [hb.h h2] at e2; exact kM hN e1 e2 (fin rfl)
theorem omn {P : Program} {r : Option Nat} {N : Nat} {ops : Array Oper} {M : Nat → Prop} {S : List Ow} {p q1 q2 : Prop} {Γ : TE} {Ψ Φ : PV} {d : Nat} {x y : Operand} {ts : Array TypeId} {t' : TypeId} {pos : String} {af : Array Edge} {k : IntKind} {a b : Int}
  (hx : tv Γ x = some (q1, Ψ)) (hy : tv Γ y = some (q2, Φ)) [Im p q1] [Im p q2] [ha : VI Ψ k a] [hb : VI Φ k b] : Ob P r N ops M S p ⟨some d, .call ⟨.builtin .min, #[x, y], ts⟩, t', pos, af, none⟩ Γ (exP (.int k (min a b))) :=
 ob2 hx hy (by simp [Op.operands, Call.operands]) (by simp [Op.operands, Call.operands]) fun D E w u v hN _ e1 e2 h1 h2 => by
  rw [ha.h h1] at e1; rw [hb.h h2] at e2
  refine xV hN (by intro c hc; cases hc) (fun ac ha => ?_) (fin rfl)
  have e : (Builtin.min_ ts t' #[.int k a, .int k b]).run P w = .ok (.int k (min a b)) w := by
   have : (if b < a then b else a) = min a b := by split <;> omega
   rw [← this]; rfl
  simp only [execOp, resolve, invoke, builtin, Sem.run_bind, Sem.run_pure, Result.andThen, List.map_toArray, List.map_cons, List.map_nil, ha.ev e1, ha.ev e2]
  rw [e]
instance dfL : Df (N2 × Rat) := ⟨((0, 0), 0)⟩
abbrev rlq (x : N2 × Rat) : CT := rtl x.1 x.2
theorem sumM_at {l : List (N2 × Rat)} {s : Nat} (h : s < l.length) : iA (l.map (·.1)) (s + 1) = iA (l.map (·.1)) s + min ((l.getD s Df.d).1.1 + (l.getD s Df.d).1.2) 1000 := by
 rw [iA]
 simp [List.getD_eq_getElem?_getD, List.getElem?_eq_getElem h]
theorem getD_in {α : Type} [Df α] {l : List α} {s : Nat} (h : s < l.length) : l.getD s Df.d ∈ l := by rw [List.getD_eq_getElem?_getD, List.getElem?_eq_getElem h]; exact List.getElem_mem h
def kQ (l : List (N4 × P2)) : List (N2 × Rat) := l.flatMap fun x => [((x.1.1, x.1.2.1), x.2.1), ((x.1.2.2.1, x.1.2.2.2), x.2.2)]
theorem halvesQ_len (l : List (N4 × P2)) : (kQ l).length = 2 * l.length := by
 induction l with
 | nil => rfl
 | cons x l ih => show (_ :: _ :: kQ l).length = _; simp only [List.length_cons, ih]; omega
theorem halvesQ_take {l : List (N4 × P2)} {s : Nat} (h : s < l.length) : kQ (l.take (s + 1)) = kQ (l.take s) ++ [(((l.getD s Df.d).1.1, (l.getD s Df.d).1.2.1), (l.getD s Df.d).2.1), (((l.getD s Df.d).1.2.2.1, (l.getD s Df.d).1.2.2.2), (l.getD s Df.d).2.2)] := by
 rw [(gP (Df.d : N4 × P2) h).1]; simp [kQ]
theorem halvesQ_fst (l : List (N4 × P2)) : (kQ l).map (·.1) = halves (l.map (·.1)) := by
 induction l with
 | nil => rfl
 | cons x l ih => show _ :: _ :: (kQ l).map (·.1) = _; rw [ih]; rfl
theorem halvesQ_mem {l : List (N4 × P2)} {n : Nat} (hb : ∀ x ∈ l.map (·.1), x.1 + x.2.1 + x.2.2.1 + x.2.2.2 ≤ n) : ∀ x ∈ (kQ l).map (·.1), x.1 + x.2 ≤ n := fun x hx => by
 rw [halvesQ_fst] at hx
 obtain ⟨y, hy, h⟩ := halves_mem hx
 have := hb y hy
 rcases h with rfl | rfl <;> simp only <;> omega
set_option maxHeartbeats 4000000 in
theorem w7great {l : List (N2 × Rat)} (hb : ∀ x ∈ l.map (·.1), x.1 + x.2 ≤ 1000000000000000000) : CTy prog 45 [sv (sl 3 (l.map rlq))] (exP (.bool (dN (l.map (·.1))))) := by
 refine ct (rs := [2]) func45 rfl rfl rfl rfl rfl dL fun X => (yI (yX rfl (iM (oas rfl) (iE (yI (yX rfl (iM (oas rfl) ?_)))))))
 refine iE (yI (yI (yX rfl (iM (oas rfl) (iE (gS ?_))))))
 refine cP (σ := Nat) (fun s => [(0, True, sv (sl 3 (l.map rlq))), (3, True, exP (.int .i64 ((iA (l.map (·.1)) s : Nat) : Int))), (4, True, exP (.int .i64 ((s : Nat) : Int)))]) (fun s => []) (fun s => s ≤ l.length ∧ s ≤ 61) (fun s => l.length - s) (0) (kL (tc rfl (gN _) (tc rfl (uJ rfl) (tc rfl (uJ rfl) tn))) rfl) ⟨by omega, by omega⟩ (fun s hJ => ?_)
 obtain ⟨h1, h2⟩ := hJ
 have hsm := sumM_le (l.map (·.1)) s
 refine yI (yI (yX rfl (iM (omv rfl) (iM (omv rfl) (iM (oln rfl) (iM (olt rfl rfl) (iM (omv rfl) ?_)))))))
 refine t1g rfl rfl (omv rfl) (t1g rfl rfl (ole rfl rfl) (iM (opk rfl rfl rfl) (iE ?_)))
 refine aM rfl (fun c0 => ?_) (fun c0 => ?_)
 ·have hc := dand c0
  have hbs := hb _ (List.mem_map_of_mem (getD_in (l := l) (s := s) (by omega)))
  refine gX (yI (gS (qP 18 mixed rfl rfl (d1 (omv rfl) (d1 (omv rfl) (d1 (omv rfl) (d1 (oix s rfl rfl rfl (fun _ => rfl) (fun _ => by omega)) ?_)))))))
  refine d1 (ofx rfl) (d1 (ofx rfl) (d1 (old rfl rfl) (d1 (oll rfl) (d1 (omv rfl) (d1 (omv rfl) (d1 (oix s rfl rfl rfl (fun _ => rfl) (fun _ => by omega)) (d1 (ofx rfl) ?_)))))))
  refine d1 (old rfl rfl) (d1 (oll rfl) (d1 (oad rfl rfl (by omega)) (d1 (omn rfl rfl) (d1 (oad rfl rfl (by omega)) (d1 (oas rfl) (d0 (iE ?_)))))))
  refine yX rfl (iM (omv rfl) (iM (oad rfl rfl (by omega)) (iM (oas rfl) (iE ?_))))
  exact ⟨s + 1, kL (tc rfl (gN _) (tc rfl (uJ (by rw [sumM_at (by omega)]; omega)) (tc rfl (uJ (by omega)) tn))) rfl, ⟨by omega, by omega⟩, by omega⟩
 ·have hc := dor c0
  refine bW (yI (yX rfl (iM (omv rfl) (iM (oln rfl) (iM (ogt rfl rfl) (iM (omv rfl) (t1g rfl rfl (omv rfl) ?_)))))))
  refine t1g rfl rfl (ogt rfl rfl) (iM (opk rfl rfl rfl) (iM (oas rfl) (iE (gQ ?_))))
  exact tr1 rfl (psb (by
   unfold dN
   rw [Bool.eq_iff_iff]
   simp only [Bool.or_eq_true, decide_eq_true_eq, List.length_map]
   rcases Nat.lt_or_ge 60 l.length with c | c
   ·exact ⟨fun _ => .inl c, fun _ => .inl (by omega)⟩
   ·rw [show s = l.length by omega]; omega))
theorem k7great {l : List (N2 × Rat)} {ls : List N2} {cs : List CT} (e : ls = l.map (·.1)) (ec : cs = l.map rlq) (hb : ∀ x ∈ ls, x.1 + x.2 ≤ 1000000000000000000) : CTy prog 45 [sv (sl 3 cs)] (exP (.bool (dN ls))) := by
 subst e; subst ec; exact w7great hb
set_option maxHeartbeats 4000000 in
theorem k23great {l : List (N4 × P2)} (hb : ∀ x ∈ l.map (·.1), x.1 + x.2.1 + x.2.2.1 + x.2.2.2 ≤ 1000000000000000000) : CTy prog 46 [sv (sl 6 (l.map ptl))] (exP (.bool (great23 (l.map (·.1))))) := by
 refine ct (rs := [2]) func46 rfl rfl rfl rfl rfl dL fun X => (yI (yX rfl (iM (oas rfl) (iE (yI (yX rfl (iM (oas rfl) ?_)))))))
 refine iE (yI (yI (yX rfl (iM (oas rfl) (iE (gS (eI (ts_nil 33 3) ?_)))))))
 refine cP (σ := Nat × Value) (fun z => [(0, True, sv (sl 6 (l.map ptl))), (3, True, exP z.2), (4, True, exP (.int .i64 ((z.1 : Nat) : Int)))]) (fun z => [.row z.2 33 3 ((kQ (l.take z.1)).map rlq)]) (fun z => z.1 ≤ l.length ∧ z.1 ≤ 21) (fun z => l.length - z.1) ((0, .slice none 0 0)) (kL (tc rfl (gN _) (tc rfl (gN _) (tc rfl (uJ rfl) tn))) rfl) ⟨by simp, by simp⟩ (fun z hJ => ?_)
 obtain ⟨s, v3⟩ := z
 dsimp only at hJ ⊢
 obtain ⟨h1, h2⟩ := hJ
 refine yI (yI (yX rfl (iM (omv rfl) (iM (omv rfl) (iM (oln rfl) (iM (olt rfl rfl) (iM (omv rfl) ?_)))))))
 refine t1g rfl rfl (omv rfl) (t1g rfl rfl (ole rfl rfl) (iM (opk rfl rfl rfl) (iE ?_)))
 refine aM rfl (fun c0 => ?_) (fun c0 => ?_)
 ·have hc := dand c0
  refine gX (yI (gS (t_drawB 0 13 0 [(12, 27, 0)] rfl rfl rfl mixed rfl rfl (cx1 (omv rfl) rfl (cx1 (omv rfl) rfl (cx1 (omv rfl) rfl (cx1 (oix s rfl rfl rfl (fun _ => rfl) (fun _ => by omega)) rfl ?_)))))))
  refine cx1 (ofx rfl) rfl (cx1 (old rfl rfl) rfl (cx1 (omv rfl) rfl (cx1 (omv rfl) rfl (cx1 (oix s rfl rfl rfl (fun _ => rfl) (fun _ => by omega)) rfl (cx1 (ofx rfl) rfl (cx1 (old rfl rfl) rfl (cx1 (obs rfl rfl rfl rfl rfl rfl) rfl ?_)))))))
  refine cB rfl rfl (cap0 rfl rfl (by simp [halvesQ_len]; omega) rfl) ?_
  refine cE (fun r27 => ?_)
  refine iM (oas rfl) (iE (yX rfl (iM (omv rfl) (iM (oad rfl rfl (by omega)) (iM (oas rfl) (iE ?_))))))
  exact ⟨(s + 1, r27), kL (tc rfl (gN _) (tc rfl (gN _) (tc rfl (uJ (by simp)) tn))) (by rw [halvesQ_take (by omega)]; simp), ⟨by dsimp only; omega, by dsimp only; omega⟩, by dsimp only; omega⟩
 ·have hc := dor c0
  refine eI (ts_frz 0 rfl (s := 3) rfl) (eI (ts_as (s := 3) rfl (ps_p (show sv (sl 3 ((kQ (l.take s)).map rlq)) = sv (sl 3 ((kQ (l.take 21)).map rlq)) from by rcases Nat.lt_or_ge 20 l.length with c | c; rw [show s = 21 by omega]; rw [List.take_of_length_le (show l.length ≤ s by omega), List.take_of_length_le (show l.length ≤ 21 by omega)]))) (bW (yI (yX rfl (iM (omv rfl) (iM (oln rfl) (iM (ogt rfl rfl) ?_)))))))
  refine iM (omv rfl) (t1g rfl rfl (omv rfl) (t1g rfl rfl (oca rfl rfl fun g => w7great (halvesQ_mem fun x hx => hb x (by obtain ⟨y, hy, e⟩ := List.mem_map.1 hx; exact e ▸ List.mem_map_of_mem (List.mem_of_mem_take hy)))) (iM (opk rfl rfl rfl) (iM (oas rfl) (iE (gQ ?_))))))
  exact tr1 rfl (psb (by
   have e : decide ((20 : Int) < (l.length : Int)) = decide (20 < l.length) := by rw [decide_eq_decide]; omega
   unfold great23
   rw [e, halvesQ_fst, List.length_map]
   rcases Nat.lt_or_ge 20 l.length with c | c
   ·rw [decide_eq_true c]; rfl
   ·rw [List.take_of_length_le (show l.length ≤ 21 by omega)]))
section
variable {M M' : Nat → Prop} {w w' : World} {n m k : Nat} {z : Int} {s : Bool} {a : Value}
theorem ZQ.cl (h : ZQ M w n z s a) (l : Cl M w M' w') : ZQ M' w' n z s a := by obtain ⟨xs, h1, h2⟩ := h.ex; exact ⟨xs, h1.cl l, h2⟩
theorem ZC.cl (h : ZC M w n z s a) (l : Cl M w M' w') : ZC M' w' n z s a := ⟨h.sgn, h.num.cl l, h.len⟩
theorem NQ.cl (h : NQ M w n k a) (l : Cl M w M' w') : NQ M' w' n k a := by obtain ⟨xs, h1, h2⟩ := h.ex; exact ⟨xs, h1.cl l, h2⟩
end
def ztq (n : Nat) (z : Int) : CT where
 sz := 2
 p M w cs := ∃ s a, cs = [.bool s, a] ∧ ZQ M w n z s a
 len h := by obtain ⟨_, _, rfl, _⟩ := h; rfl
 one h := by obtain ⟨_, _, rfl, h⟩ := h; exact bM rfl (bM h.one.1 jI)
 mono h k := by obtain ⟨s, a, rfl, h⟩ := h; exact ⟨s, a, rfl, h.cl k⟩
def ztc (n : Nat) (z : Int) : CT where
 sz := 2
 p M w cs := ∃ s a, cs = [.bool s, a] ∧ ZC M w n z s a
 len h := by obtain ⟨_, _, rfl, _⟩ := h; rfl
 one h := by obtain ⟨_, _, rfl, h⟩ := h; exact bM rfl (bM h.gen.one.1 jI)
 mono h k := by obtain ⟨s, a, rfl, h⟩ := h; exact ⟨s, a, rfl, h.cl k⟩
def ntq (n k : Nat) : CT where
 sz := 1
 p M w cs := ∃ a, cs = [a] ∧ NQ M w n k a
 len h := by obtain ⟨_, rfl, _⟩ := h; rfl
 one h := by obtain ⟨_, rfl, h⟩ := h; exact bM h.one.1 jI
 mono h k := by obtain ⟨a, rfl, h⟩ := h; exact ⟨a, rfl, h.cl k⟩
def ntc (n k : Nat) : CT where
 sz := 1
 p M w cs := ∃ a, cs = [a] ∧ NQ M w n k a ∧ IsNat M w a (limbs k)
 len h := by obtain ⟨_, rfl, _⟩ := h; rfl
 one h := by obtain ⟨_, rfl, h, _⟩ := h; exact bM h.one.1 jI
 mono h k := by obtain ⟨a, rfl, h, g⟩ := h; exact ⟨a, rfl, h.cl k, g.cl k⟩
theorem nq_of {M : Nat → Prop} {w : World} {n k : Nat} {a : Value} (h : IsNat M w a (limbs k)) (hl : (limbs k).length ≤ n) : NQ M w n k a := ⟨_, h, hl, zT k⟩
instance {n : Nat} {q : Rat} : FA (rtc n q) 0 (ztc n q.num) := ⟨fun ⟨s, a, d, e, h⟩ => ⟨s, a, by rw [e]; rfl, h.sgn, h.num, h.len.1⟩⟩
instance {n : Nat} {q : Rat} : FA (rtc n q) 2 (ntc n q.den) := ⟨fun ⟨s, a, d, e, h⟩ => ⟨d, by rw [e]; rfl, nq_of h.den h.len.2, h.den⟩⟩
instance {n : Nat} {z : Int} : FA (ztc n z) 0 (xc (.bool (decide (z < 0)))) := ⟨fun ⟨s, a, e, h⟩ => by rw [e, h.sgn]; exact ⟨rfl, rfl⟩⟩
instance {n : Nat} {z : Int} : FA (ztc n z) 1 (ntc n z.natAbs) := ⟨fun ⟨s, a, e, h⟩ => ⟨a, by rw [e]; rfl, nq_of h.num h.len, h.num⟩⟩
class CZ (c : CT) (n : outParam Nat) (z : outParam Int) : Prop where
 h : ∀ {M w us}, c.p M w us → ∃ s a, us = [.bool s, a] ∧ ZQ M w n z s a
instance {n : Nat} {z : Int} : CZ (ztq n z) n z := ⟨id⟩
instance {n : Nat} {z : Int} : CZ (ztc n z) n z := ⟨fun ⟨s, a, e, h⟩ => ⟨s, a, e, h.gen⟩⟩
class CN (c : CT) (n : outParam Nat) (k : outParam Nat) : Prop where
 h : ∀ {M w us}, c.p M w us → ∃ a, us = [a] ∧ NQ M w n k a
instance {n k : Nat} : CN (ntq n k) n k := ⟨id⟩
instance {n k : Nat} : CN (ntc n k) n k := ⟨fun ⟨a, e, h, _⟩ => ⟨a, e, h⟩⟩
instance {b : Bool} {c : CT} {n k : Nat} [h : CN c n k] : CZ (st [xc (.bool b), c]) n (if b then -((k : Nat) : Int) else ((k : Nat) : Int)) := ⟨fun ⟨x, y, e, k1, z, o, e2, k2, e3⟩ => by
 obtain ⟨a, rfl, g⟩ := h.h k2
 obtain rfl : x = [.bool b] := k1.1
 obtain rfl : o = [] := e3
 obtain ⟨xs, g1, g2, g3⟩ := g.ex
 exact ⟨b, a, by rw [e, e2]; rfl, xs, g1, g2, by unfold zv; rw [g3]⟩⟩
class VZ (Ψ : PV) (n : outParam Nat) (z : outParam Int) : Prop where
 h : ∀ {M w v}, Ψ.p M w v → ∃ s a, v = .agg #[.bool s, a] ∧ ZQ M w n z s a
instance {c : CT} {n : Nat} {z : Int} [h : CZ c n z] : VZ (ag c) n z := ⟨fun ⟨us, e, k⟩ => by obtain ⟨s, a, rfl, g⟩ := h.h k; exact ⟨s, a, e, g⟩⟩
class VN (Ψ : PV) (n : outParam Nat) (k : outParam Nat) : Prop where
 h : ∀ {M w v}, Ψ.p M w v → NQ M w n k v
instance {c : CT} {n k : Nat} [h : CN c n k] : VN (sv c) n k := ⟨fun k => by obtain ⟨a, e, g⟩ := h.h k; rw [List.singleton_inj.1 e]; exact g⟩
class VZL (Ψ : PV) (n : outParam Nat) (l : outParam (List Int)) : Prop where
 h : ∀ {M w v}, Ψ.p M w v → ZL M w n l v
instance {c d : CT} {n m : Nat} {y z : Int} [h1 : CZ c n y] [h2 : CZ d m z] : VZL (sv (sl 2 [c, d])) (max n m) [y, z] := ⟨fun k => ⟨by
 obtain ⟨v, us, e, k1, k2, k3⟩ := id k
 refine row_each (cs := [c, d]) rfl k3 (fun i a ha => ?_) k
 cases i with
 | zero => obtain rfl := Option.some.inj ha; exact ⟨c, rfl, fun us hu => let ⟨s, a, e, g⟩ := h1.h hu; ⟨s, a, e, g.up (by omega)⟩⟩
 | succ i => cases i with
  | zero => obtain rfl := Option.some.inj ha; exact ⟨d, rfl, fun us hu => let ⟨s, a, e, g⟩ := h2.h hu; ⟨s, a, e, g.up (by omega)⟩⟩
  | succ i => simp at ha⟩⟩
theorem zc_ret {M : Nat → Prop} {w : World} {n : Nat} {z : Int} {s : Bool} {a : Value} (h : ZC M w n z s a) : (ag (ztc n z)).p M w (.agg #[.bool s, a]) := ⟨_, rfl, _, _, rfl, h⟩
section
variable {Ψ Φ : PV} {n m k j : Nat} {y z : Int}
theorem lB {l : List Int} [h : VZL Ψ n l] (hn : n ≤ 100000) (hl : l.length ≤ 2) : CTy prog 89 [Ψ] (ag (ztc (2 * n + 2) (uU l))) :=
 ⟨(bo func89), fun M w vs hM hT hv => by
  obtain ⟨v, rfl, h1⟩ := fa1 hv
  exact (i5mul_c (h.h h1) hn hl hM).mono fun r w' ⟨hB, x, y, e, g⟩ => ⟨hB, e ▸ zc_ret g⟩⟩
theorem k5add {l : List Int} [h : VZL Ψ n l] (hn : n ≤ 390000) (hl : l.length ≤ 2) : CTy prog 150 [Ψ] (ag (ztc (n + 2) l.sum)) :=
 ⟨(bo func150), fun M w vs hM hT hv => by
  obtain ⟨v, rfl, h1⟩ := fa1 hv
  exact (i5add_c (h.h h1) hn hl hM).mono fun r w' ⟨hB, x, y, e, g⟩ => ⟨hB, e ▸ zc_ret g⟩⟩
theorem k5sub [h : VZ Ψ n z] [h' : VZ Φ m y] (hn : n ≤ 380000) (hm : m ≤ 380000) : CTy prog 88 [Ψ, Φ] (ag (ztc (max n m + 2) (z - y))) :=
 ⟨(bo func88), fun M w vs hM hT hv => by
  obtain ⟨v, u, rfl, h1, h2⟩ := fa2 hv
  obtain ⟨s, a, rfl, g1⟩ := h.h h1
  obtain ⟨t, b, rfl, g2⟩ := h'.h h2
  exact (i5sub_c g1 g2 hn hm hM).mono fun r w' ⟨hB, x, y, e, g⟩ => ⟨hB, e ▸ zc_ret g⟩⟩
theorem k5neg [h : VZ Ψ n z] (hn : n ≤ 1000000) : CTy prog 149 [Ψ] (ag (ztc n (-z))) :=
 ⟨(bo func149), fun M w vs hM hT hv => by
  obtain ⟨v, rfl, h1⟩ := fa1 hv
  obtain ⟨s, a, rfl, g1⟩ := h.h h1
  exact (i5neg_c g1 hn hM).mono fun r w' ⟨hB, x, y, e, g⟩ => ⟨hB, e ▸ zc_ret g⟩⟩
theorem k5sign [h : VZ Ψ n z] (hn : n ≤ 1000000) : CTy prog 87 [Ψ] (exP (.int .i64 z.sign)) :=
 ⟨(bo func87), fun M w vs hM hT hv => by
  obtain ⟨v, rfl, h1⟩ := fa1 hv
  obtain ⟨s, a, rfl, g1⟩ := h.h h1
  exact i5sign_c g1 hn hM⟩
theorem kover [h : VN Ψ n k] (hn : n ≤ 1000000) : CTy prog 90 [Ψ] (ag (ztq n ((k : Nat) : Int))) :=
 ⟨(bo func90), fun M w vs hM hT hv => by
  obtain ⟨v, rfl, h1⟩ := fa1 hv
  exact (over7_c (h.h h1) hn hM).mono fun r w' ⟨hB, x, y, e, g⟩ => ⟨hB, e ▸ ⟨_, rfl, _, _, rfl, g⟩⟩⟩
theorem k2mul [h : VN Ψ n k] [h' : VN Φ m j] (hn : n ≤ 1000000000) (hm : m ≤ 1000000000) : CTy prog 108 [Ψ, Φ] (sv (ntq (n + m) (k * j))) :=
 ⟨(bo func108), fun M w vs hM hT hv => by
  obtain ⟨v, u, rfl, h1, h2⟩ := fa2 hv
  obtain ⟨xs, g1, g2, g3⟩ := (h.h h1).ex
  obtain ⟨ys, g4, g5, g6⟩ := (h'.h h2).ex
  exact (rmul_c g1 g4 (by omega) (by omega) hM).mono fun r w' ⟨hB, g⟩ => ⟨hB, r, rfl, by rw [← g3, ← g6]; exact nq_of (g.nat hM) (Nat.le_trans (uA (gG _ g1.lt) (gG _ g4.lt)) (by omega))⟩⟩
theorem k7new [h : VZ Ψ n z] [h' : VN Φ m k] (hn : n ≤ 2000) (hm : m ≤ 2000) : CTy prog 107 [Ψ, Φ] (tu [ag (rtc (max n m + 2) (mkRat z k)), exP (.int .i64 (if k = 0 then 30 else 0))]) :=
 ⟨(bo func107), fun M w vs hM hT hv => by
  obtain ⟨v, u, rfl, h1, h2⟩ := fa2 hv
  obtain ⟨s, a, rfl, g1⟩ := h.h h1
  exact (r7new_c g1 (h'.h h2) hn hm hM).mono fun r w' ⟨hB, x, y, z, e, g⟩ => ⟨hB, _, e, _, _, rfl, bC g, _, _, rfl, rfl, rfl⟩⟩
theorem fI {p : Rat} [h : QR Ψ n p] (hn : n ≤ 1999) : CTy prog 82 [Ψ] (ag (rtc (n + 1) p)) :=
 ⟨(bo func82), fun M w vs hM hT hv => by
  obtain ⟨v, rfl, h1⟩ := fa1 hv
  obtain ⟨s, a, d, rfl, g1⟩ := h.h h1
  exact (r7norm_c g1 hn hM).mono fun r w' ⟨hB, x, y, z, e, g⟩ => ⟨hB, e ▸ bC (g.relen g1.rlen)⟩⟩
end
theorem eM {n m : Nat} {p q : Rat} (h : n ≤ m) (e : p = q) : PSub (ag (rtc n p)) (ag (rtc m q)) := fun _ _ _ ⟨us, e1, s, a, d, e2, g⟩ => ⟨us, e1, s, a, d, e2, by subst e; exact g.up h⟩
theorem iX {Ψ ρ : PV} (h : PSub Ψ ρ) : ∀ M w vs, Fa [Ψ] M w vs → ρ.p M w (xJ vs) := fun M w vs ⟨v, us, e, h1, h2⟩ => by
 subst e; rw [show us = [] from h2]; exact h _ _ _ h1
theorem eL {Ψ Φ ρ σ : PV} (h : PSub Ψ ρ) (k : PSub Φ σ) : ∀ M w vs, Fa [Ψ, Φ] M w vs → (tu [ρ, σ]).p M w (xJ vs) := fun M w vs ⟨v, us, e, h1, u, us2, e2, h2, e3⟩ => by
 subst e; subst e2; rw [show us2 = [] from e3]; exact ⟨[v, u], rfl, v, _, rfl, h _ _ _ h1, u, _, rfl, k _ _ _ h2, rfl⟩
theorem hC {X : Cx} {Γ : TE} {S : List Ow} {b s : Nat} {ty : TypeId} {c : CT} {q : Prop} (i : Nat) (hi : S[i]? = some (.blk b ty [c])) (hs : tf Γ s = some (q, exP (.pointer (some ⟨b, 0, none⟩)))) : Ts X Γ S ((s, q, pa c) :: Γ) (S.eraseIdx i) := fun E w h => by
 have hm : Ow.blk b ty [c] ∈ S := List.mem_of_getElem? hi
 obtain ⟨us, k3, a, o, k4, k5, k6⟩ := h.gd.own _ hm
 have h2 := h.sub (List.eraseIdx_sublist S i)
 have hn : ¬ Mk (S.eraseIdx i) X.M b := fun k => by
  rcases k with ⟨p, hp, e⟩ | k
  ·obtain ⟨j, hj, hp⟩ := mem_erase hp
   exact fL h.apt hi hp (fun k => hj k.symm) rfl e
  ·rcases h.new _ hm b rfl with h4 | h4
   ·have := h.ok0 b k; omega
   ·exact h.zm b h4 k
 obtain rfl : o = [] := k6
 rw [List.append_nil] at k4; subst k4
 refine ⟨h2.bel, h2.gd, h2.new, h2.apt, h2.ok0, h2.zm, fun t q' ht => ?_⟩
 unfold tf at ht
 cases hb : Nat.beq s t with
 | true =>
  rw [hb] at ht
  obtain rfl := Nat.eq_of_beq_eq_true hb
  obtain rfl := Option.some.inj ht
  have h3 := h.tm s _ hs
  exact ⟨fun k => let ⟨u, h4, h5⟩ := h3.1 k; ⟨u, h4, b, 0, us, h5, hn, ⟨us.toArray, ty, (0, 0), k3, fun j v hj => by simpa using hj⟩, c.mono k5 (Cl.less (dM (List.eraseIdx_sublist S i)))⟩, h3.2⟩
 | false => rw [hb] at ht; exact h2.tm t q' ht
theorem ps_num {n m N : Nat} {q : Rat} {z : Int} {k : Nat} (h1 : z = q.num) (h2 : k = q.den) (hn : n ≤ N) (hm : m ≤ N) : PSub (ag (st [ztc n z, ntc m k])) (ag (rtc N q)) := fun M w v ⟨us, e, x, y, e1, ⟨s, a, k1, g1⟩, d, o, e2, ⟨b, k2, g2, g3⟩, e3⟩ => by
 subst h1; subst h2; subst k1; subst k2; obtain rfl : o = [] := e3
 obtain ⟨xs, j1, j2, j3⟩ := g2.ex
 exact ⟨us, e, s, a, b, by rw [e1, e2]; rfl, g1.sgn, g1.num, g3, Nat.le_trans g1.len hn, Nat.le_trans (by rw [← j3]; exact yD _ j1.lt) (Nat.le_trans j2 hm)⟩
theorem ps_len {n m : Nat} {p q : Rat} (e : p = q) (h : jZ q m) : PSub (ag (rtc n p)) (ag (rtc m q)) := fun _ _ _ ⟨us, e1, s, a, d, e2, g⟩ => ⟨us, e1, s, a, d, e2, by subst e; exact g.relen h⟩
set_option maxHeartbeats 4000000 in
theorem w7neg {p : Rat} {n : Nat} (hn : n ≤ 1990) : CTy prog 80 [ag (rtq n p)] (ag (rtc (n + 1) (-p))) := by
 refine ctc func80 rfl rfl rfl rfl fun X => (yI (yX rfl ?_))
 refine tbx rfl fun b1 => ?_
 refine tal fun b2 => ?_
 refine iE (yI (yX rfl (iM (cG 1 rfl rfl rfl rfl) (iM (oca rfl rfl fun _ => fI (by omega)) (tst 1 rfl rfl rfl rfl rfl rfl (iE (eI (hC 1 rfl (s := 1) rfl) ?_)))))))
 refine yI (qP 6 mixed rfl rfl (d1 (ofx rfl) (d1 (old rfl rfl) (d1 (oca rfl rfl fun _ => k5neg (by omega)) (d1 (ofx rfl) (d1 (old rfl rfl) (d1 (obd rfl rfl rfl) ?_)))))))
 refine d0 (tst 0 rfl rfl rfl rfl rfl rfl (iE (gQ ?_)))
 exact ⟨[_], rsc 0 rfl rfl rfl rfl rs0, iX (ps_num (Rat.neg_num p).symm (Rat.neg_den p).symm (Nat.le_refl _) (Nat.le_refl _))⟩
theorem k7neg {Ψ : PV} {p : Rat} {n : Nat} [h : QR Ψ n p] (hn : n ≤ 1990) : CTy prog 80 [Ψ] (ag (rtc (n + 1) (-p))) := dP (w7neg hn) (fs1 cA fs0)
set_option maxHeartbeats 4000000 in
theorem w7two {p q : Rat} {n m : Nat} (h1 : jZ p n) (h2 : jZ q m) (hn : n ≤ 990) (hm : m ≤ 990) : CTy prog 81 [ag (rtc n p), ag (rtc m q)] (ag (rtc (n + m + 1) (p + q))) := by
 refine ctc func81 rfl rfl rfl rfl fun X => (yI (yX rfl (iM (obx rfl) (iM (obx rfl) ?_))))
 refine tal fun b4 => ?_
 refine iE (yI ?_)
 apply dW 1 27 26 [(25, 5, 0), (26, 1000026, 0)] rfl rfl mixed rfl rfl rfl
 refine cx1 (ofx rfl) rfl (cx1 (old rfl rfl) rfl (cx1 (ofx rfl) rfl (cx1 (old rfl rfl) rfl (cx1 (oca rfl rfl fun _ => kover (by omega)) rfl (cx1 (obs rfl rfl rfl rfl rfl rfl) rfl (cx1 (oca rfl rfl fun _ => lB (by omega) (by simp)) rfl (cx1 (ofx rfl) rfl ?_)))))))
 refine cx1 (old rfl rfl) rfl (cx1 (ofx rfl) rfl (cx1 (old rfl rfl) rfl (cx1 (oca rfl rfl fun _ => kover (by omega)) rfl (cx1 (obs rfl rfl rfl rfl rfl rfl) rfl (cx1 (oca rfl rfl fun _ => lB (by omega) (by simp)) rfl (cx1 (obs rfl rfl rfl rfl rfl rfl) rfl (cx1 (oca rfl rfl fun _ => k5add (by omega) (by simp)) rfl ?_)))))))
 refine cx1 (ofx rfl) rfl (cx1 (old rfl rfl) rfl (cx1 (ofx rfl) rfl (cx1 (old rfl rfl) rfl (cx1 (oca rfl rfl fun _ => k2mul (by omega) (by omega)) rfl (cx1 (oca rfl rfl fun _ => k7new (by omega) (by omega)) rfl (cx1 (omv rfl) rfl (cx1 (oex rfl rfl) rfl ?_)))))))
 refine cx1 (oex rfl rfl) rfl (cN rfl rfl (cal) (cS rfl rfl rfl (cst rfl rfl rfl) ?_))
 refine cE (fun b5 => ?_)
 refine iM (oas rfl) (iE (yI (yX rfl (iM (cG 0 rfl rfl rfl rfl) (tst 1 rfl rfl rfl rfl rfl rfl (iE (gQ ?_)))))))
 exact ⟨[_], rsc 1 rfl rfl rfl rfl rs0, iX (ps_len (add_eq p q) (qU h1 h2))⟩
set_option maxHeartbeats 4000000 in
theorem w7add {l : List Rat} {n : Nat} (hn : n ≤ 970) (hlen : l.length ≤ 2) (hr : ∀ x ∈ l, jZ x (n + 1)) : CTy prog 23 [sv (sl 3 (l.map (rtq n)))] (ag (rtc (2 * n + 8) (iS l))) := by
 refine ctc func23 rfl rfl rfl rfl fun X => (yI (yX rfl ?_))
 refine tal fun b2 => ?_
 refine iE (yI (yX rfl (iM (oca rfl rfl fun _ => k7of (k := 0) (by omega)) ?_)))
 refine tal fun b3 => ?_
 refine tst 0 rfl rfl rfl rfl rfl rfl (iE (yI (yI (yX rfl (iM (oas rfl) (iE (gS ?_)))))))
 refine cP (σ := Nat) (fun s => [(0, True, sv (sl 3 (l.map (rtq n)))), (2, True, exP (.pointer (some ⟨b2, 0, none⟩))), (3, True, exP (.pointer (some ⟨b3, 0, none⟩))), (4, True, exP (.int .i64 ((s : Nat) : Int)))]) (fun s => [.blk b3 33 [rtc (2 + s * (n + 2)) (iS (l.take s))], .blk b2 33 (zc (.agg #[.bool false, .slice none 0 0, .slice none 0 0]))]) (fun s => s ≤ l.length ∧ jZ (iS (l.take s)) (2 + s * (n + 2))) (fun s => l.length - s) (0) (kL (tc rfl (gN _) (tc rfl (gN _) (tc rfl (gN _) (tc rfl (uJ rfl) tn)))) (by rw [show 2 + 0 * (n + 2) = 2 by omega]; rfl)) ⟨Nat.zero_le _, jC rlen_zero' (by omega)⟩ (fun s hJ => ?_)
 obtain ⟨h1, h2⟩ := hJ
 refine yI (yI (yX rfl (iM (omv rfl) (iM (omv rfl) (iM (oln rfl) (iM (olt rfl rfl) (iE ?_)))))))
 refine aM rfl (fun c0 => ?_) (fun c0 => ?_)
 ·have hc := dt c0
  have hg := hr _ (getD_in (l := l) (s := s) (by omega))
  have hs2 : s * (n + 2) ≤ n + 2 := by have := Nat.mul_le_mul_right (n + 2) (show s ≤ 1 by omega); rw [Nat.one_mul] at this; exact this
  have he : (s + 1) * (n + 2) = s * (n + 2) + (n + 2) := Nat.succ_mul _ _
  refine gX (yI (gS (qP 7 mixed rfl rfl (d1 (cG 0 rfl rfl rfl rfl) (d1 (omv rfl) (d1 (omv rfl) (d1 (oix s rfl rfl rfl (fun _ => rfl) (fun _ => by omega)) ?_)))))))
  refine d1 (old rfl rfl) (d1 (oca rfl rfl fun _ => fI (by omega)) (d1 (oca rfl rfl fun _ => w7two h2 hg (by omega) (by omega)) (d0 (tst 0 rfl rfl rfl rfl rfl rfl (iE (yX rfl (iM (omv rfl) ?_)))))))
  refine iM (oad rfl rfl (by omega)) (iM (oas rfl) (iE ?_))
  exact ⟨s + 1, kL (tc rfl (gN _) (tc rfl (gN _) (tc rfl (gN _) (tc rfl (uJ (by simp)) tn)))) (by rw [sumR_take (by omega), he, show 2 + (s * (n + 2) + (n + 2)) = 2 + s * (n + 2) + (n + 1) + 1 by omega]; rfl), ⟨by omega, by rw [sumR_take (by omega), he]; exact jC (qU h2 hg) (by omega)⟩, by omega⟩
 ·have hc := df c0
  obtain rfl : s = l.length := by omega
  have hs2 : l.length * (n + 2) ≤ 2 * (n + 2) := Nat.mul_le_mul_right _ hlen
  refine bW (yI (yX rfl (iM (cG 0 rfl rfl rfl rfl) (tst 1 rfl rfl rfl rfl rfl rfl (iE (gQ ?_))))))
  exact ⟨[_], rsc 1 rfl rfl rfl rfl rs0, iX (eM (by omega) (by rw [List.take_length]))⟩
theorem k7addl {Ψ : PV} {n : Nat} {l : List Rat} [h : VQ Ψ n l] (hn : n ≤ 970) (hlen : l.length ≤ 2) : CTy prog 23 [Ψ] (ag (rtc (2 * n + 8) (iS l))) :=
 ⟨(bo func23), fun M w vs hM hT hv => by
  obtain ⟨v, e, h1⟩ := fa1 hv
  have hq := h.h h1
  exact (w7add hn hlen fun x hx => by
   obtain ⟨cs, h3, h2⟩ := hq.row
   obtain ⟨i, hi, rfl⟩ := List.mem_iff_getElem.1 hx
   obtain ⟨us, _, _, s, a, d, _, g⟩ := h2 i _ (List.getElem?_eq_getElem hi)
   exact g.rlen).run M w vs hM hT (fs1 vq_q fs0 _ _ _ hv)⟩
theorem sum2 (p q : Rat) : iS [p, q] = p + q := by simp [iS, Rat.zero_add]
theorem k7add {Ψ : PV} {n : Nat} {p q : Rat} [h : VQ Ψ n [p, q]] (hn : n ≤ 970) : CTy prog 23 [Ψ] (ag (rtc (2 * n + 8) (p + q))) := by rw [← sum2]; exact k7addl hn (by simp)
set_option maxHeartbeats 4000000 in
theorem w7sub {p q : Rat} {n m : Nat} (h1 : jZ p n) (h2 : jZ q m) (hn : n ≤ 960) (hm : m ≤ 960) : CTy prog 22 [ag (rtq n p), ag (rtq m q)] (ag (rtc (n + m + 1) (p - q))) := by
 refine ctc func22 rfl rfl rfl rfl fun X => (yI (yX rfl (iM (obx rfl) (iM (obx rfl) ?_))))
 refine tal fun b4 => ?_
 refine iE (yI (qP 5 mixed rfl rfl (d1 (old rfl rfl) (d1 (old rfl rfl) (d1 (oca rfl rfl fun _ => k7neg (by omega)) (d1 (obs rfl rfl rfl rfl rfl rfl) (d1 (oca rfl rfl fun _ => k7add (by omega)) ?_)))))))
 refine d0 (tst 0 rfl rfl rfl rfl rfl rfl (iE (gQ ?_)))
 exact ⟨[_], rsc 0 rfl rfl rfl rfl rs0, iX (ps_len (Rat.sub_eq_add_neg p q).symm (by rw [Rat.sub_eq_add_neg]; exact qU h1 (rlen_neg h2)))⟩
theorem quo_z (p q : Rat) : mkRat (uU [p.num, if decide (q.num < 0) then -((q.den : Nat) : Int) else ((q.den : Nat) : Int)]) (p.den * q.num.natAbs) = p / q := by
 rw [iO, ← quo_eq]; unfold zv; rw [zT]
theorem quo_c (p q : Rat) : (if p.den * q.num.natAbs = 0 then (30 : Int) else 0) = if q = 0 then 30 else 0 := by
 have h : p.den * q.num.natAbs = 0 ↔ q = 0 := by
  rw [Nat.mul_eq_zero, Int.natAbs_eq_zero, Rat.num_eq_zero]
  exact ⟨fun h => h.elim (fun c => absurd c p.den_nz) id, .inr⟩
 simp only [h]
set_option maxHeartbeats 4000000 in
theorem w7quo {p q : Rat} {n m : Nat} (h1 : jZ p n) (h2 : jZ q m) (hn : n ≤ 960) (hm : m ≤ 960) : CTy prog 133 [ag (rtq n p), ag (rtq m q)] (tu [ag (rtc (n + m + 1) (p / q)), exP (.int .i64 (if q = 0 then 30 else 0))]) := by
 refine ctc func133 rfl rfl rfl rfl fun X => (yI (yX rfl ?_))
 refine tbx rfl fun b2 => ?_
 refine tbx rfl fun b3 => ?_
 refine tal fun b4 => ?_
 refine iM (oas rfl) (iE (yI (qP 4 mixed rfl rfl (d1 (cG 2 rfl rfl rfl rfl) (d1 (oca rfl rfl fun _ => fI (by omega)) (d1 (cG 1 rfl rfl rfl rfl) (d1 (oca rfl rfl fun _ => fI (by omega)) ?_)))))))
 refine d0 (tst 2 rfl rfl rfl rfl rfl rfl (tst 1 rfl rfl rfl rfl rfl rfl (iE (eI (hC 2 rfl (s := 2) rfl) (eI (hC 1 rfl (s := 3) rfl) (yI (qP 19 mixed rfl rfl ?_)))))))
 refine d1 (ofx rfl) (d1 (old rfl rfl) (d1 (ofx rfl) (d1 (ofx rfl) (d1 (old rfl rfl) (d1 (ofx rfl) (d1 (old rfl rfl) (d1 (obd rfl rfl rfl) ?_)))))))
 refine d1 (obs rfl rfl rfl rfl rfl rfl) (d1 (oca rfl rfl fun _ => lB (by omega) (by simp)) (d1 (ofx rfl) (d1 (old rfl rfl) (d1 (ofx rfl) (d1 (ofx rfl) (d1 (old rfl rfl) (d1 (oca rfl rfl fun _ => k2mul (by omega) (by omega)) ?_)))))))
 refine d1 (oca rfl rfl fun _ => k7new (by omega) (by omega)) (d1 (oex rfl rfl) (d1 (oex rfl rfl) (d0 (tst 0 rfl rfl rfl rfl rfl rfl (iM (oas rfl) (iE (gQ ?_)))))))
 exact ⟨[_, _], rsc 0 rfl rfl rfl rfl (rst rfl rs0), eL (ps_len (quo_z p q) (rlen_quo h1 h2)) (uJ (quo_c p q))⟩
set_option maxHeartbeats 4000000 in
theorem w7cmp {p q : Rat} {n m : Nat} (hn : n ≤ 1990) (hm : m ≤ 1990) : CTy prog 33 [ag (rtq n p), ag (rtq m q)] (exP (.int .i64 (jY p q))) := by
 refine ct (rs := [4]) func33 rfl rfl rfl rfl rfl dL fun X => (yI (yX rfl ?_))
 refine tbx rfl fun b2 => ?_
 refine tbx rfl fun b3 => ?_
 refine iM (oas rfl) (iE (yI (qP 4 mixed rfl rfl (d1 (cG 1 rfl rfl rfl rfl) (d1 (oca rfl rfl fun _ => fI (by omega)) (d1 (cG 0 rfl rfl rfl rfl) (d1 (oca rfl rfl fun _ => fI (by omega)) ?_)))))))
 refine d0 (tst 1 rfl rfl rfl rfl rfl rfl (tst 0 rfl rfl rfl rfl rfl rfl (iE (eI (hC 1 rfl (s := 2) rfl) (eI (hC 0 rfl (s := 3) rfl) (yI (qP 17 mixed rfl rfl ?_)))))))
 refine d1 (ofx rfl) (d1 (old rfl rfl) (d1 (ofx rfl) (d1 (old rfl rfl) (d1 (oca rfl rfl fun _ => kover (by omega)) (d1 (obs rfl rfl rfl rfl rfl rfl) (d1 (oca rfl rfl fun _ => lB (by omega) (by simp)) (d1 (ofx rfl) ?_)))))))
 refine d1 (old rfl rfl) (d1 (ofx rfl) (d1 (old rfl rfl) (d1 (oca rfl rfl fun _ => kover (by omega)) (d1 (obs rfl rfl rfl rfl rfl rfl) (d1 (oca rfl rfl fun _ => lB (by omega) (by simp)) (d1 (oca rfl rfl fun _ => k5sub (by omega) (by omega)) (d1 (oca rfl rfl fun _ => k5sign (by omega)) ?_)))))))
 refine d1 (oas rfl) (d0 (iE (gQ ?_)))
 exact tr1 rfl (uJ (cmp_eq p q))
section
variable {Ψ Φ : PV} {n m : Nat} {p q : Rat}
theorem rlen2 [h : QR Ψ n p] [k : QR Φ m q] {M : Nat → Prop} {w : World} {vs : List Value} (hv : Fa [Ψ, Φ] M w vs) : jZ p (n + 1) ∧ jZ q (m + 1) := by
 obtain ⟨v, u, _, h1, h2⟩ := fa2 hv
 obtain ⟨_, _, _, _, g1⟩ := h.h h1
 obtain ⟨_, _, _, _, g2⟩ := k.h h2
 exact ⟨g1.rlen, g2.rlen⟩
theorem qr_up [h : QR Ψ n p] : PSub Ψ (ag (rtq (n + 1) p)) := fun _ _ _ x => by obtain ⟨s, a, d, e, g⟩ := h.h x; exact ⟨_, e, s, a, d, rfl, g.up (Nat.le_succ n)⟩
theorem cty_2 [h : QR Ψ n p] [k : QR Φ m q] {P : Program} {f : FuncId} {ρ : PV} (hb : Bod P f) (hr : jZ p (n + 1) → jZ q (m + 1) → CTy P f [ag (rtq (n + 1) p), ag (rtq (m + 1) q)] ρ) : CTy P f [Ψ, Φ] ρ :=
 ⟨hb, fun M w vs hM hT hv => by
  obtain ⟨g1, g2⟩ := rlen2 hv
  exact (hr g1 g2).run M w vs hM hT ((fs1 (qr_up (h := h)) (fs1 (qr_up (h := k)) fs0)) _ _ _ hv)⟩
theorem lA [h : QR Ψ n p] [k : QR Φ m q] (hn : n ≤ 950) (hm : m ≤ 950) : CTy prog 22 [Ψ, Φ] (ag (rtc (n + m + 3) (p - q))) := cty_2 (bo func22) fun g1 g2 => by
 rw [show n + m + 3 = n + 1 + (m + 1) + 1 by omega]; exact w7sub g1 g2 (by omega) (by omega)
theorem k7quo [h : QR Ψ n p] [k : QR Φ m q] (hn : n ≤ 950) (hm : m ≤ 950) : CTy prog 133 [Ψ, Φ] (tu [ag (rtc (n + m + 3) (p / q)), exP (.int .i64 (if q = 0 then 30 else 0))]) := cty_2 (bo func133) fun g1 g2 => by
 rw [show n + m + 3 = n + 1 + (m + 1) + 1 by omega]; exact w7quo g1 g2 (by omega) (by omega)
theorem iI [h : QR Ψ n p] [k : QR Φ m q] (hn : n ≤ 1990) (hm : m ≤ 1990) : CTy prog 33 [Ψ, Φ] (exP (.int .i64 (jY p q))) := dP (w7cmp hn hm) (fs1 cA (fs1 cA fs0))
end
set_option maxHeartbeats 4000000 in
theorem w7same {p q : Rat} {n m : Nat} (hn : n ≤ 1990) (hm : m ≤ 1990) : CTy prog 58 [ag (rtq n p), ag (rtq m q)] (exP (.bool (decide (jY p q = 0)))) := by
 refine ct (rs := [4]) func58 rfl rfl rfl rfl rfl dL fun X => (yI (yX rfl (iM (obx rfl) (iM (obx rfl) (iM (oas rfl) (iE (yI ?_)))))))
 refine yX rfl (iM (old rfl rfl) (iM (old rfl rfl) (iM (oca rfl rfl fun _ => iI (by omega) (by omega)) (iM (oeq rfl rfl) (iM (oas rfl) (iE (gQ ?_)))))))
 exact tr1 rfl (psb rfl)
theorem k7same {Ψ Φ : PV} {n m : Nat} {p q : Rat} [h : QR Ψ n p] [k : QR Φ m q] (hn : n ≤ 1990) (hm : m ≤ 1990) : CTy prog 58 [Ψ, Φ] (exP (.bool (decide (jY p q = 0)))) := dP (w7same hn hm) (fs1 cA (fs1 cA fs0))
def fc (f : FuncId) (l : List PV) : CT where
 sz := 1
 p M w cs := ∃ v, cs = [v] ∧ (fn f l).p M w v
 len h := by obtain ⟨_, rfl, _⟩ := h; rfl
 one h := by obtain ⟨_, rfl, _, rfl, _⟩ := h; exact bM rfl jI
 mono h k := by obtain ⟨v, rfl, h⟩ := h; exact ⟨v, rfl, (fn f l).mono h k⟩
instance {f : FuncId} {l : List PV} : CtOf (fn f l) (fc f l) := ⟨fun {M w v} h => ⟨[v], by obtain ⟨_, rfl, _⟩ := h; rfl, v, rfl, h⟩⟩
instance {f : FuncId} : CtOf (exP (.func (.func f) #[] #[])) (fc f []) := ⟨fun {M w v} h => ⟨[v], by rw [show v = _ from h]; rfl, v, rfl, [], h, rfl⟩⟩
instance {f : FuncId} {l : List PV} : LdA false (fc f l) (fn f l) := ⟨fun h u e => by obtain ⟨v, e2, k⟩ := h; rw [e] at e2; rw [List.singleton_inj.1 e2]; exact k⟩
theorem cty_r {f : FuncId} {τs : List PV} {n N : Nat} {q : Rat} (h : CTy prog f τs (ag (rtc n q))) (hr : jZ q N) : CTy prog f τs (ag (rtc N q)) := ⟨h.bod, fun M w vs hM hT hv => (h.run M w vs hM hT hv).mono fun r w' ⟨hB, k⟩ => ⟨hB, ps_len rfl hr _ _ _ k⟩⟩
set_option maxHeartbeats 4000000 in
theorem wtwo1 {f : FuncId} {n m N : Nat} {p q r : Rat} (hf : CTy prog f [sv (sl 3 [rtq n p, rtq m q])] (ag (rtc N r))) : CTy prog 270 [ag (rtq n p), ag (rtq m q), pa (fc f [])] (ag (rtc N r)) := by
 refine ctc func270 rfl rfl rfl rfl fun X => (yI (yX rfl (iM (obx rfl) (iM (obx rfl) ?_))))
 refine tal fun b5 => ?_
 refine iE (yI (yX rfl (iM (old rfl rfl) (iM (old rfl rfl) (iM (old rfl rfl) (iM (obs rfl rfl rfl rfl rfl rfl) (iM (oca rfl rfl fun _ => hf) ?_)))))))
 refine tst 0 rfl rfl rfl rfl rfl rfl (iE (gQ ?_))
 exact ⟨[_], rsc 0 rfl rfl rfl rfl rs0, iX (PSub.refl _)⟩
set_option maxHeartbeats 4000000 in
theorem wtwo {f : FuncId} : CTy prog 213 [fn f []] (fn 270 [pa (fc f [])]) := by
 refine ct (rs := [2]) func213 rfl rfl rfl rfl rfl dL fun X => (yI (yX rfl (iM (obx rfl) (iM (oas rfl) (iE (yI (yX rfl ?_)))))))
 refine iM (omf rfl) (iM (oas rfl) (iE (gQ ?_)))
 exact tr1 rfl (PSub.refl _)
set_option maxHeartbeats 4000000 in
theorem wparts1 {g : FuncId} {l : List PV} {n m N : Nat} {a b c d r s : Rat} (h1 : CTy prog g ([ag (rtq n a), ag (rtq m c)] ++ l) (ag (rtc N r))) (h2 : CTy prog g ([ag (rtq n b), ag (rtq m d)] ++ l) (ag (rtc N s))) : CTy prog 205 [ag (st [rtq n a, rtq n b]), ag (st [rtq m c, rtq m d]), pa (fc g l)] (ag (st [rtc N r, rtc N s])) := by
 refine ctc func205 rfl rfl rfl rfl fun X => (yI (yX rfl (iM (obx rfl) (iM (obx rfl) ?_))))
 refine tal fun b5 => ?_
 refine iE (yI (qP 13 mixed rfl rfl (d1 (old rfl rfl) (d1 (ofa rfl rfl) (d1 (old rfl rfl) (d1 (ofa rfl rfl) (d1 (old rfl rfl) ?_)))))))
 refine d1 (oca rfl rfl fun _ => h1) (d1 (old rfl rfl) (d1 (ofa rfl rfl) (d1 (old rfl rfl) (d1 (ofa rfl rfl) (d1 (old rfl rfl) (d1 (oca rfl rfl fun _ => h2) (d1 (obd rfl rfl rfl) ?_)))))))
 refine d0 (tst 0 rfl rfl rfl rfl rfl rfl (iE (gQ ?_)))
 exact ⟨[_], rsc 0 rfl rfl rfl rfl rs0, iX (PSub.refl _)⟩
set_option maxHeartbeats 4000000 in
theorem wparts {g : FuncId} {l : List PV} : CTy prog 157 [fn g l] (fn 205 [pa (fc g l)]) := by
 refine ct (rs := [2]) func157 rfl rfl rfl rfl rfl dL fun X => (yI (yX rfl (iM (obx rfl) (iM (oas rfl) (iE (yI (yX rfl ?_)))))))
 refine iM (omf rfl) (iM (oas rfl) (iE (gQ ?_)))
 exact tr1 rfl (PSub.refl _)
theorem ktwo {Ψ : PV} {f : FuncId} [h : VF Ψ f []] : CTy prog 213 [Ψ] (fn 270 [pa (fc f [])]) := dP wtwo (fs1 (fun _ _ _ k => h.h k) fs0)
theorem kparts {Ψ : PV} {f : FuncId} {l : List PV} [h : VF Ψ f l] : CTy prog 157 [Ψ] (fn 205 [pa (fc f l)]) := dP wparts (fs1 (fun _ _ _ k => h.h k) fs0)
set_option maxHeartbeats 4000000 in
theorem wvadd {p q : P2} {n m : Nat} (g1 : plen p (n + 1)) (g2 : plen q (m + 1)) (hn : n ≤ 30000) (hm : m ≤ 30000) : CTy prog 161 [ag (ptq n p), ag (ptq m q)] (ag (st [rtc (n + m + 3) (lX p q).1, rtc (n + m + 3) (lX p q).2])) := by
 refine ctc func161 rfl rfl rfl rfl fun X => (yI (yX rfl (iM (obx rfl) (iM (obx rfl) ?_))))
 refine tal fun b4 => ?_
 refine iE (yI (qP 5 mixed rfl rfl (d1 (oca rfl rfl fun _ => ktwo) (d1 (oca rfl rfl fun _ => kparts) (d1 (old rfl rfl) (d1 (old rfl rfl) (d1 (oca rfl rfl fun _ => wparts1 (N := n + m + 3) (wtwo1 (cty_r (kradd (by omega)) (jC (qU g1.x g2.x) (by omega)))) (wtwo1 (cty_r (kradd (by omega)) (jC (qU g1.y g2.y) (by omega))))) ?_)))))))
 refine d0 (tst 0 rfl rfl rfl rfl rfl rfl (iE (gQ ?_)))
 exact ⟨[_], rsc 0 rfl rfl rfl rfl rs0, iX (PSub.refl _)⟩
set_option maxHeartbeats 4000000 in
theorem wvsub {p q : P2} {n m : Nat} (g1 : plen p (n + 1)) (g2 : plen q (m + 1)) (hn : n ≤ 30000) (hm : m ≤ 30000) : CTy prog 93 [ag (ptq n p), ag (ptq m q)] (ag (st [rtc (n + m + 3) (lN p q).1, rtc (n + m + 3) (lN p q).2])) := by
 refine ctc func93 rfl rfl rfl rfl fun X => (yI (yX rfl (iM (obx rfl) (iM (obx rfl) ?_))))
 refine tal fun b4 => ?_
 refine iE (yI (qP 4 mixed rfl rfl (d1 (oca rfl rfl fun _ => kparts) (d1 (old rfl rfl) (d1 (old rfl rfl) (d1 (oca rfl rfl fun _ => wparts1 (iZ (by omega) (by omega)) (iZ (by omega) (by omega))) (d0 ?_)))))))
 refine tst 0 rfl rfl rfl rfl rfl rfl (iE (gQ ?_))
 exact ⟨[_], rsc 0 rfl rfl rfl rfl rs0, iX (PSub.refl _)⟩
set_option maxHeartbeats 4000000 in
theorem wvscale {p : P2} {q : Rat} {n m : Nat} (g1 : plen p (n + 1)) (g2 : jZ q (m + 1)) (hn : n ≤ 30000) (hm : m ≤ 30000) : CTy prog 162 [ag (ptq n p), ag (rtq m q)] (ag (st [rtc (n + m + 3) (fW p q).1, rtc (n + m + 3) (fW p q).2])) := by
 refine ctc func162 rfl rfl rfl rfl fun X => (yI (yX rfl (iM (obx rfl) (iM (obx rfl) ?_))))
 refine tal fun b4 => ?_
 refine iE (yI (qP 7 mixed rfl rfl (d1 (oca rfl rfl fun _ => ktwo) (d1 (oca rfl rfl fun _ => kparts) (d1 (old rfl rfl) (d1 (old rfl rfl) (d1 (old rfl rfl) ?_)))))))
 refine d1 (obd rfl rfl rfl) (d1 (oca rfl rfl fun _ => wparts1 (N := n + m + 3) (wtwo1 (cty_r (krmul (by omega)) (jC (bE g1.x g2) (by omega)))) (wtwo1 (cty_r (krmul (by omega)) (jC (bE g1.y g2) (by omega))))) (d0 (tst 0 rfl rfl rfl rfl rfl rfl (iE (gQ ?_)))))
 exact ⟨[_], rsc 0 rfl rfl rfl rfl rs0, iX (PSub.refl _)⟩
section
variable {Ψ Φ : PV} {n m : Nat} {p q : P2}
theorem cty_2p [h : QP Ψ n p] [k : QP Φ m q] {P : Program} {f : FuncId} {ρ : PV} (hb : Bod P f) (hr : plen p (n + 1) → plen q (m + 1) → CTy P f [ag (ptq n p), ag (ptq m q)] ρ) : CTy P f [Ψ, Φ] ρ :=
 ⟨hb, fun M w vs hM hT hv => by
  obtain ⟨v, u, _, h1, h2⟩ := fa2 hv
  obtain ⟨_, _, _, _, _, _, _, g1⟩ := h.h h1
  obtain ⟨_, _, _, _, _, _, _, g2⟩ := k.h h2
  exact (hr ⟨g1.x.rlen, g1.y.rlen⟩ ⟨g2.x.rlen, g2.y.rlen⟩).run M w vs hM hT ((fs1 lW (fs1 lW fs0)) _ _ _ hv)⟩
theorem kvadd [h : QP Ψ n p] [k : QP Φ m q] (hn : n ≤ 30000) (hm : m ≤ 30000) : CTy prog 161 [Ψ, Φ] (ag (st [rtc (n + m + 3) (lX p q).1, rtc (n + m + 3) (lX p q).2])) := cty_2p (bo func161) fun g1 g2 => wvadd g1 g2 hn hm
theorem kvsub [h : QP Ψ n p] [k : QP Φ m q] (hn : n ≤ 30000) (hm : m ≤ 30000) : CTy prog 93 [Ψ, Φ] (ag (st [rtc (n + m + 3) (lN p q).1, rtc (n + m + 3) (lN p q).2])) := cty_2p (bo func93) fun g1 g2 => wvsub g1 g2 hn hm
theorem kvscale {r : Rat} [h : QP Ψ n p] [k : QR Φ m r] (hn : n ≤ 30000) (hm : m ≤ 30000) : CTy prog 162 [Ψ, Φ] (ag (st [rtc (n + m + 3) (fW p r).1, rtc (n + m + 3) (fW p r).2])) :=
 ⟨(bo func162), fun M w vs hM hT hv => by
  obtain ⟨v, u, _, h1, h2⟩ := fa2 hv
  obtain ⟨_, _, _, _, _, _, _, g1⟩ := h.h h1
  obtain ⟨_, _, _, _, g2⟩ := k.h h2
  exact (wvscale ⟨g1.x.rlen, g1.y.rlen⟩ g2.rlen hn hm).run M w vs hM hT ((fs1 lW (fs1 cA fs0)) _ _ _ hv)⟩
end
theorem ps_pt {p q : P2} {n m : Nat} (e : p = q) (h : n ≤ m) : PSub (ag (st [rtc n p.1, rtc n p.2])) (ag (st [rtc m q.1, rtc m q.2])) := fun M w v ⟨us, e1, x, y, e2, ⟨s, a, d, k1, g1⟩, z, o, e3, ⟨t, b, f, k2, g2⟩, e4⟩ => by
 subst e; exact ⟨us, e1, x, y, e2, ⟨s, a, d, k1, g1.up h⟩, z, o, e3, ⟨t, b, f, k2, g2.up h⟩, e4⟩
set_option maxHeartbeats 4000000 in
theorem wvat {p q : P2} {u : Rat} {n m k : Nat} (hn : n ≤ 5000) (hm : m ≤ 5000) (hk : k ≤ 5000) : CTy prog 97 [ag (ptq n p), ag (ptq m q), ag (rtq k u)] (ag (st [rtc (2 * n + m + k + 9) (atP p q u).1, rtc (2 * n + m + k + 9) (atP p q u).2])) := by
 refine ctc func97 rfl rfl rfl rfl fun X => (yI (yX rfl (iM (obx rfl) (iM (obx rfl) (iM (obx rfl) ?_)))))
 refine tal fun b6 => ?_
 refine iE (yI (qP 7 mixed rfl rfl (d1 (old rfl rfl) (d1 (old rfl rfl) (d1 (old rfl rfl) (d1 (oca rfl rfl fun _ => kvsub (by omega) (by omega)) (d1 (old rfl rfl) ?_)))))))
 refine d1 (oca rfl rfl fun _ => kvscale (by omega) (by omega)) (d1 (oca rfl rfl fun _ => kvadd (by omega) (by omega)) (d0 (tst 0 rfl rfl rfl rfl rfl rfl (iE (gQ ?_)))))
 exact ⟨[_], rsc 0 rfl rfl rfl rfl rs0, iX (ps_pt rfl (by omega))⟩
theorem kvat {Ψ Φ Θ : PV} {p q : P2} {u : Rat} {n m k : Nat} [h0 : QP Ψ n p] [h1 : QP Φ m q] [h2 : QR Θ k u] (hn : n ≤ 5000) (hm : m ≤ 5000) (hk : k ≤ 5000) : CTy prog 97 [Ψ, Φ, Θ] (ag (st [rtc (2 * n + m + k + 9) (atP p q u).1, rtc (2 * n + m + k + 9) (atP p q u).2])) := dP (wvat hn hm hk) (fs1 lW (fs1 lW (fs1 cA fs0)))
theorem pq_ag {M : Nat → Prop} {w : World} {n : Nat} {q : P2} {s : Bool} {a d : Value} {t : Bool} {b e : Value} (h : PQ M w n q s a d t b e) : (ag (ptq n q)).p M w (.agg #[.bool s, a, d, .bool t, b, e]) := ⟨_, rfl, ptq_of h⟩
theorem hp_z {p q : P2} (h : Tr (decide ((if q.1 - p.1 = 0 then (30 : Int) else 0) ≠ 0) = true)) : q.1 - p.1 = 0 := by
 by_cases c : q.1 - p.1 = 0
 ·exact c
 ·have := of_decide_eq_true h.h; rw [if_neg c] at this; exact absurd rfl this
theorem hp_n {p q : P2} (h : Tr (decide ((if q.1 - p.1 = 0 then (30 : Int) else 0) ≠ 0) = false)) : q.1 - p.1 ≠ 0 := fun c => by
 have := of_decide_eq_false h.h; rw [if_pos c] at this; exact this (by decide)
set_option maxHeartbeats 4000000 in
theorem wmheight {p q : P2} {x : Rat} {n m k : Nat} (hn : n ≤ 400) (hm : m ≤ 400) (hk : k ≤ 400) : CTy prog 39 [ag (ptq n p), ag (ptq m q), ag (rtq k x)] (tu [ag (rtc (20 * (n + m + k) + 100) (bV p q x)), exP (.bool (decide (q.1 - p.1 ≠ 0)))]) := by
 refine ctc func39 rfl rfl rfl rfl fun X => (yI (yX rfl (iM (obx rfl) (iM (obx rfl) (iM (obx rfl) ?_)))))
 refine tal fun b6 => ?_
 refine iM (oas rfl) (iE (yI ?_))
 apply dW 1 15 14 [(13, 8, 0), (14, 1000014, 0)] rfl rfl mixed rfl rfl rfl
 refine cx1 (old rfl rfl) rfl (cx1 (ofa rfl rfl) rfl (cx1 (old rfl rfl) rfl (cx1 (oca rfl rfl fun _ => iZ (by omega) (by omega)) rfl (cx1 (ofa rfl rfl) rfl (cx1 (old rfl rfl) rfl (cx1 (ofa rfl rfl) rfl (cx1 (old rfl rfl) rfl ?_)))))))
 refine cx1 (oca rfl rfl fun _ => iZ (by omega) (by omega)) rfl (cx1 (oca rfl rfl fun _ => krquo (by omega) (by omega)) rfl (cx1 (omv rfl) rfl (cx1 (oex rfl rfl) rfl (cx1 (oex rfl rfl) rfl (cN rfl rfl (cal) (cS rfl rfl rfl (cst rfl rfl rfl) ?_))))))
 refine cE (fun b8 => ?_)
 refine iM (oas rfl) (iE (yI (yI (yX rfl (iM (omv rfl) (iM (oni rfl rfl) (iE ?_)))))))
 refine aM rfl (fun c0 => ?_) (fun c0 => ?_)
 ·refine yI ?_
  refine yX rfl (iM (oca rfl rfl fun _ => krof (k := 0) (by omega)) (tst 1 rfl rfl rfl rfl rfl rfl (iM (oas rfl) (iE (gQ ?_)))))
  have hq := hp_z c0
  exact ⟨[_, _], rsc 1 rfl rfl rfl rfl (rst rfl rs0), eL (eM (by omega) (by unfold bV; rw [if_pos hq]; rfl)) (psb (by rw [decide_eq_false (fun c => c hq)]))⟩
 ·refine gX ?_
  refine yI (yX rfl (iM (old rfl rfl) (iM (old rfl rfl) (iM (cG 0 rfl rfl rfl rfl) (iM (oca rfl rfl fun _ => kvat (by omega) (by omega) (by omega)) (iM (ofl rfl rfl rfl) (tst 1 rfl rfl rfl rfl rfl rfl ?_)))))))
  refine iM (oas rfl) (iE (gQ ?_))
  have hq := hp_n c0
  exact ⟨[_, _], rsc 1 rfl rfl rfl rfl (rst rfl rs0), eL (eM (by omega) (by unfold bV; rw [if_neg hq])) (psb (by rw [decide_eq_true hq]))⟩
theorem mheight_c {M : Nat → Prop} {w : World} {p : P2} {n0 : Nat} {xs0 xt0 : Bool} {xa0 xd0 xb0 xe0 : Value} {q : P2} {n1 : Nat} {xs1 xt1 : Bool} {xa1 xd1 xb1 xe1 : Value} {x : Rat} {n2 : Nat} {xs2 : Bool} {xa2 xd2 : Value} (hT : Tab M w) (h0 : PQ M w n0 p xs0 xa0 xd0 xt0 xb0 xe0) (h1 : PQ M w n1 q xs1 xa1 xd1 xt1 xb1 xe1) (h2 : QC M w n2 x xs2 xa2 xd2) (hl0 : n0 ≤ 400) (hl1 : n1 ≤ 400) (hl2 : n2 ≤ 400) (hM : OkM M w) :
  CallsV prog 39 [.agg #[.bool xs0, xa0, xd0, .bool xt0, xb0, xe0], .agg #[.bool xs1, xa1, xd1, .bool xt1, xb1, xe1], .agg #[.bool xs2, xa2, xd2]] w fun r w' => Bel w.heap.size w w' ∧ ∃ xsr xar xdr, r = .tuple #[.agg #[.bool xsr, xar, xdr], .bool (decide (q.1 - p.1 ≠ 0))] ∧ RC M w' (20 * (n0 + n1 + n2) + 100) (bV p q x) xsr xar xdr :=
 ((wmheight hl0 hl1 hl2).run M w _ hM hT ⟨_, _, rfl, pq_ag h0, _, _, rfl, pq_ag h1, _, _, rfl, ⟨_, rfl, _, _, _, rfl, h2⟩, rfl⟩).mono fun r w' ⟨hB, us, e, a, _, e1, ⟨_, ea, s, x, d, e3, g⟩, b, _, e2, hb, e4⟩ => by
  subst e; subst e1; subst e2; subst ea; subst e3
  rw [show b = _ from hb, show _ = ([] : List Value) from e4]
  exact ⟨hB, s, x, d, rfl, g⟩
section
variable {M : Nat → Prop} {w : World}
def RE (n : Nat) : kC (P2 × P2) := fun M w p us => ∃ xsa xaa xda xta xba xea xsb xab xdb xtb xbb xeb, us = [.bool xsa, xaa, xda, .bool xta, xba, xea, .bool xsb, xab, xdb, .bool xtb, xbb, xeb] ∧ PQ M w n p.1 xsa xaa xda xta xba xea ∧ PQ M w n p.2 xsb xab xdb xtb xbb xeb
structure EL (M : Nat → Prop) (w : World) (n : Nat) (q : List (P2 × P2)) (v : Value) : Prop where
  row : RowOf (RE n) 12 M w v q
section
variable {Fz M M' M0 : Nat → Prop} {w w' w0 : World} {n : Nat} {q : List (P2 × P2)} {v : Value}
theorem EL.mono (h : EL M w n q v) (l : Le Fz M w M' w') : EL M' w' n q v := ⟨h.row.mono l fun _ _ ⟨xsa, xaa, xda, xta, xba, xea, xsb, xab, xdb, xtb, xbb, xeb, e0, h0, h1⟩ => ⟨xsa, xaa, xda, xta, xba, xea, xsb, xab, xdb, xtb, xbb, xeb, e0, h0.mono l, h1.mono l⟩⟩
theorem EL.less (h : EL M w n q v) (hm : ∀ k, M' k → M k) : EL M' w n q v := h.mono (Fz := fun _ => False) (Le.less hm)
theorem EL.one (h : EL M w n q v) : v.oneCell' = true ∧ True := by obtain ⟨_, ⟨_, _, ad, cap, rfl, _⟩, _⟩ := h.row; exact ⟨rfl, trivial⟩
theorem EL.cells (h : EL M w n q v) : v.cells.toList = [v] := by obtain ⟨_, ⟨_, _, ad, cap, rfl, _⟩, _⟩ := h.row; rfl
theorem slc_start {sz m : Nat} {cs : List Value} (h : Slc M0 w0 sz v m cs) (hM : ∀ k, M k → M0 k ∨ w0.heap.size ≤ k) (k0 : Keep M0 w0 w) : Slc M w sz v m cs := by
  obtain ⟨h1, h2, ad, cap, h3, h4, h5⟩ := h
  refine ⟨h1, h2, ad, cap, h3, h4, ?_⟩
  rcases h5 with h5 | ⟨b, off, h5, h6, cur, t, fz, h7, h8⟩
  · exact .inl h5
  · have hb := (Array.getElem?_eq_some_iff.1 h7).1
    exact .inr ⟨b, off, h5, fun c => (hM b c).elim h6 (fun c => by omega), cur, t, fz, (k0.2 b hb h6).trans h7, h8⟩
theorem aG {p : Rat} {s : Bool} {a d : Value} (h : QC M0 w0 n p s a d) (hM : ∀ k, M k → M0 k ∨ w0.heap.size ≤ k) (k0 : Keep M0 w0 w) : QC M w n p s a d := by
  obtain ⟨xs, ds, h1, h2, h3⟩ := h.ex
  exact ⟨xs, ds, nat_start h1 hM k0, nat_start h2 hM k0, h3⟩
theorem pq_start {p : P2} {s t : Bool} {a d b e : Value} (h : PQ M0 w0 n p s a d t b e) (hM : ∀ k, M k → M0 k ∨ w0.heap.size ≤ k) (k0 : Keep M0 w0 w) : PQ M w n p s a d t b e := ⟨aG h.x hM k0, aG h.y hM k0⟩
theorem el_start (h : EL M0 w0 n q v) (hM : ∀ k, M k → M0 k ∨ w0.heap.size ≤ k) (k0 : Keep M0 w0 w) : EL M w n q v :=
  ⟨let ⟨cs, h1, h2⟩ := h.row; ⟨cs, slc_start h1 hM k0, fun i a ha => let ⟨us, h3, h4, xsa, xaa, xda, xta, xba, xea, xsb, xab, xdb, xtb, xbb, xeb, e0, h5, h6⟩ := h2 i a ha; ⟨us, h3, h4, xsa, xaa, xda, xta, xba, xea, xsb, xab, xdb, xtb, xbb, xeb, e0, pq_start h5 hM k0, pq_start h6 hM k0⟩⟩⟩
end
def RLv (M0 : Nat → Prop) (w0 : World) (n : Nat) : P2 → List Value → World → World → Prop := fun p vs wi w => ∃ s a d t b e, vs = [.agg #[.bool s, a, d, .bool t, b, e]] ∧ PC (fun k => M0 k ∨ (w0.heap.size ≤ k ∧ k < wi.heap.size)) w n p s a d t b e
theorem through1_c {M0 : Nat → Prop} {w0 : World} {b1 b2 b3 n0 n1 n2 : Nat} {v : Value} {xs2 : Bool} {xa2 : Value} {xd2 : Value} {xs3 : Bool} {xa3 : Value} {xd3 : Value} {lo hi : Rat} {es : List (P2 × P2)} (hT0 : Tab M0 w0) (B1 : Blk w0 b1 75 [v]) (B2 : Blk w0 b2 33 [.bool xs2, xa2, xd2]) (B3 : Blk w0 b3 33 [.bool xs3, xa3, xd3]) (m1 : ¬ M0 b1) (m2 : ¬ M0 b2) (m3 : ¬ M0 b3) (h1 : EL M0 w0 n0 es v) (h2 : QC M0 w0 n1 lo xs2 xa2 xd2) (h3 : QC M0 w0 n2 hi xs3 xa3 xd3) (hl0 : n0 ≤ 100) (hl1 : n1 ≤ 100) (hl2 : n2 ≤ 100) (hlen : es.length ≤ 1000) (hM00 : OkM M0 w0) :
    IterW True prog 172 [.pointer (some ⟨b1, 0, none⟩), .pointer (some ⟨b2, 0, none⟩), .pointer (some ⟨b3, 0, none⟩)] M0 NoT w0 (qD lo hi es es.length) (RLv M0 w0 (20 * (n0 + n0 + n1 + n2) + 100)) (fun _ => True) := by
 intro n l w J X hfin hn0 hn hdr hJ hkeep hJd hXd hy
 obtain ⟨M, hMe⟩ : ∃ M : Nat → Prop, M = fun k => M0 k ∨ (w0.heap.size ≤ k ∧ k < w.heap.size) := ⟨_, rfl⟩
 have hMi : ∀ k, M k → M0 k ∨ w0.heap.size ≤ k := fun k hk => by subst hMe; exact hk.imp id (fun h => h.1)
 have hk0 := hkeep _ _ hJ
 have B1' := B1
 have B2' := B2
 have B3' := B3
 have h1' := h1
 have h2' := h2
 have h3' := h3
 have hM : OkM M w := fun k hk => by subst hMe; exact hk.elim (fun c => Nat.lt_of_lt_of_le (hM00 k c) hk0.1) (fun c => c.2)
 replace B1 := hk0.blk B1 m1
 replace B2 := hk0.blk B2 m2
 replace B3 := hk0.blk B3 m3
 replace h1 := el_start h1 hMi hk0
 replace h2 := aG h2 hMi hk0
 replace h3 := aG h3 hMi hk0
 have hT : Tab M w := tab_start hT0 hMi hk0
 obtain ⟨oh1, _⟩ := h1.one; obtain ⟨oxa2, oxd2, _⟩ := h2.one; obtain ⟨oxa3, oxd3, _⟩ := h3.one
 obtain ⟨Fz, hFz⟩ : ∃ Fz : Nat → Prop, Fz = fun _ => False := ⟨_, rfl⟩
 have hFa : ∀ w, FOk Fz w := by subst hFz; exact fun _ _ h => h.elim
 have hF := hFa w
 have LL := Le.refl Fz M w
 have hM0 := hM
 refine jA func172 rfl ntmps172 rfl ?_
 refine zG (zB (zN rfl flat75 rfl B1 rfl (cD rfl underlying75 rfl h1.row (zA rfl rfl (zD (zZ ?_))))))
 refine xR (σ := Nat) [(0, _), (2, _), (3, _), (11, _), (12, _)] (fun s => [(13, .int .i64 ((s : Nat) : Int))]) (fun s w1 => J (qD lo hi es s) w1 ∧ n ≤ w1.heap.size ∧ s ≤ es.length) (fun s => es.length - s) (0) (zH rfl (zH rfl (zH rfl (zH rfl (zH rfl (zH rfl yE)))))) ?_ (fun s w1 hJ => ?_)
 · exact ⟨hJ, hn, by omega⟩
 ·clear B1 B2 B3 h1 h2 h3 hM hM0 hT hF LL hMi hk0 hMe M
  obtain ⟨hJ1, hn1, hs⟩ := hJ
  obtain ⟨M, hMe⟩ : ∃ M : Nat → Prop, M = fun k => M0 k ∨ (w0.heap.size ≤ k ∧ k < w1.heap.size) := ⟨_, rfl⟩
  have hMi : ∀ k, M k → M0 k ∨ w0.heap.size ≤ k := fun k hk => by subst hMe; exact hk.imp id (fun h => h.1)
  have hk := hkeep _ _ hJ1
  have hM : OkM M w1 := fun k hk' => by subst hMe; exact hk'.elim (fun c => Nat.lt_of_lt_of_le (hM00 k c) hk.1) (fun c => c.2)
  have B1 := hk.blk B1' m1
  have B2 := hk.blk B2' m2
  have B3 := hk.blk B3' m3
  have h1 := el_start h1' hMi hk
  have h2 := aG h2' hMi hk
  have h3 := aG h3' hMi hk
  have hT : Tab M w1 := tab_start hT0 hMi hk
  obtain ⟨Fz, hFz, hF, LL⟩ := fz0 M w1
  refine zG (zB (jE rfl rfl rfl (zD (zG ?_))))
  refine zU rfl (fun hc0 => ?_) (fun hc0 => ?_)
  ·refine yG (zG (zZ (zG (zB (bF (dflt := (((0, 0), (0, 0)) : P2 × P2)) s rfl underlying75 lP rfl rfl h1.row (by first | rfl | omega) (by omega) (fun b15 o15 us15 hul15 hu15 hc15 => ?_))))))
   obtain ⟨xs15, xa15, xd15, xt15, xb15, xe15, xs15b, xa15b, xd15b, xt15b, xb15b, xe15b, rfl, hn15, hnb15⟩ := hu15
   obtain ⟨oxa15, oxd15, oxb15, oxe15, _⟩ := hn15.one
   obtain ⟨oxa15b, oxd15b, oxb15b, oxe15b, _⟩ := hnb15.one
   refine gU rfl fold79 lP rfl hc15 rfl (yH rfl lP (fun w2 b6 N6 => ?_))
   obtain ⟨hBw2, nF6, nM6, Lw2, B6⟩ := nza hF hM N6
   obtain ⟨B1, ne1_6⟩ := bn B1 N6
   obtain ⟨B2, ne2_6⟩ := bn B2 N6
   obtain ⟨B3, ne3_6⟩ := bn B3 N6
   obtain ⟨LL, hM, hF, hT, h2, h3, hn15, hnb15⟩ := up8 Lw2 LL hM hF hT h2 h3 hn15 hnb15
   refine yC rfl rfl lP B6 rfl rfl (yK (yK (yK (yK (yK (yK (yK (yK (yK (yK (yK (yK jI)))))))))))) rfl (fun w3 Cw3 B6 => ?_)
   obtain ⟨LL, hM, hF, hT, h2, h3, hn15, hnb15⟩ := up8 (lc LL Cw3 zO nF6) LL hM hF hT h2 h3 hn15 hnb15
   replace B1 := B1.other Cw3 ne1_6
   replace B2 := B2.other Cw3 ne2_6
   replace B3 := B3.other Cw3 ne3_6
   refine zD (zG (zG (zB (zJ 0 rfl yu79 rfl rfl gT rfl rfl (zJ 0 rfl yu39 rfl rfl yL rfl rfl (zP rfl yQ yL rfl B6 rfl rfl (zP rfl yQ yL rfl B2 rfl rfl (zI rfl (bo func78) rfl rfl ?_))))))))
   refine (eN hT hn15.x h2 (by omega) (by omega) hM).mono ?_
   rintro v21 w4 ⟨hB21, rfl⟩
   obtain ⟨LL, hM, hF, hT, h2, h3, hn15, hnb15, B1, B2, B3, B6⟩ := lF hB21 LL hM hF hT h2 h3 hn15 hnb15 B1 B2 B3 B6
   refine kO rfl rfl rfl (zA rfl rfl (gV (d := 23) rfl (fun hg3_6 => ?_) (fun hg3_6 => ?_)))
   ·refine zY rfl rfl rfl rfl (zY rfl rfl rfl rfl (zY rfl rfl rfl rfl (zY rfl rfl rfl rfl (zY rfl rfl rfl rfl (zY rfl rfl rfl rfl (xY rfl rfl rfl (zA rfl rfl (zY rfl rfl rfl rfl (zY rfl rfl rfl rfl (zY rfl rfl rfl rfl (zY rfl rfl rfl rfl (zY rfl rfl rfl rfl (zY rfl rfl rfl rfl (zY rfl rfl rfl rfl ?_))))))))))))))
    refine zY rfl rfl rfl rfl (xY rfl rfl rfl (zD (aW rfl (xK (xM (zB (yW rfl rfl rfl (by omega) (zA rfl rfl (zD ?_)))))))))
    refine ⟨rfl, s + 1, (zS rfl (by rw [Int.natCast_add]; rfl) (zH rfl (zH rfl (zH rfl (zH rfl (zH rfl yE)))))), ?_, ?_⟩
    exact ⟨by rw [thru_skip (fun c => c.1 (eW.1 hg3_6))]; exact hJd _ _ _ hJ1 (LL.drift_all hFz hn1), Nat.le_trans hn1 LL.size, by omega⟩
    omega
   ·refine yA rfl rfl (zJ 6 rfl yu79 rfl rfl gT rfl rfl (yA rfl rfl (xA 0 rfl yu39 rfl rfl yL rfl rfl (yA rfl rfl (zP rfl yQ yL rfl B6 rfl rfl (yA rfl rfl (zP rfl yQ yL rfl B3 rfl rfl (yA rfl rfl (zI rfl (bo func78) rfl rfl ?_)))))))))
    refine (eN hT hnb15.x h3 (by omega) (by omega) hM).mono ?_
    rintro v28 w5 ⟨hB28, rfl⟩
    obtain ⟨LL, hM, hF, hT, h2, h3, hn15, hnb15, B1, B2, B3, B6⟩ := lF hB28 LL hM hF hT h2 h3 hn15 hnb15 B1 B2 B3 B6
    refine yA rfl rfl (jE rfl rfl rfl (xY rfl rfl rfl (zA rfl rfl (gV (d := 31) rfl (fun hg3_14 => ?_) (fun hg3_14 => ?_)))))
    ·refine zY rfl rfl rfl rfl (zY rfl rfl rfl rfl (zY rfl rfl rfl rfl (zY rfl rfl rfl rfl (zY rfl rfl rfl rfl (zY rfl rfl rfl rfl (zY rfl rfl rfl rfl (zY rfl rfl rfl rfl (xY rfl rfl rfl (zD (aW rfl (xK (xM (zB (yW rfl rfl rfl (by omega) ?_))))))))))))))
     refine zA rfl rfl (zD ?_)
     refine ⟨rfl, s + 1, (zS rfl (by rw [Int.natCast_add]; rfl) (zH rfl (zH rfl (zH rfl (zH rfl (zH rfl yE)))))), ?_, ?_⟩
     exact ⟨by rw [thru_skip (fun c => c.2.1 (eH.1 hg3_14))]; exact hJd _ _ _ hJ1 (LL.drift_all hFz hn1), Nat.le_trans hn1 LL.size, by omega⟩
     omega
    ·refine yA rfl rfl (zJ 0 rfl yu79 rfl rfl gT rfl rfl (yA rfl rfl (zJ 0 rfl yu39 rfl rfl yL rfl rfl (yA rfl rfl (zP rfl yQ yL rfl B6 rfl rfl (yA rfl rfl (zJ 6 rfl yu79 rfl rfl gT rfl rfl (yA rfl rfl (xA 0 rfl yu39 rfl rfl yL rfl rfl (yA rfl rfl (zP rfl yQ yL rfl B6 rfl rfl (yA rfl rfl (zI rfl (bo func78) rfl rfl ?_)))))))))))))
     refine (eN hT hn15.x hnb15.x (by omega) (by omega) hM).mono ?_
     rintro v38 w6 ⟨hB38, rfl⟩
     obtain ⟨LL, hM, hF, hT, h2, h3, hn15, hnb15, B1, B2, B3, B6⟩ := lF hB38 LL hM hF hT h2 h3 hn15 hnb15 B1 B2 B3 B6
     refine yA rfl rfl (kB rfl rfl rfl (xY rfl rfl rfl (zD ?_)))
     refine zU rfl (fun hc1 => ?_) (fun hc1 => ?_)
     ·refine xK (xM (zB (yW rfl rfl rfl (by omega) (zA rfl rfl (zD ?_)))))
      refine ⟨rfl, s + 1, (zS rfl (by rw [Int.natCast_add]; rfl) (zH rfl (zH rfl (zH rfl (zH rfl (zH rfl yE)))))), ?_, ?_⟩
      exact ⟨by rw [thru_skip (fun c => by have := c.2.2; have := aV.1 hc1; grind)]; exact hJd _ _ _ hJ1 (LL.drift_all hFz hn1), Nat.le_trans hn1 LL.size, by omega⟩
      omega
     ·refine yG (zG (zB (zJ 0 rfl yu79 rfl rfl gT rfl rfl (zP rfl qG gT rfl B6 rfl rfl (zJ 6 rfl yu79 rfl rfl gT rfl rfl (zP rfl qG gT rfl B6 rfl rfl (zP rfl yQ yL rfl B2 rfl rfl (zI rfl (bo func39) rfl rfl ?_))))))))
      refine (mheight_c hT hn15 hnb15 h2 (by omega) (by omega) (by omega) hM).mono ?_
      rintro v47 w7 ⟨hB47, xs47, xa47, xd47, rfl, hn47⟩
      obtain ⟨LL, hM, hF, hT, h3, hn15, hnb15, B1, B2, B3, B6⟩ := lL hB47 LL hM hF hT h3 hn15 hnb15 B1 B2 B3 B6
      obtain ⟨oxa47, oxd47, _⟩ := hn47.one
      refine zA rfl rfl (zX rfl rfl rfl (zX rfl rfl rfl (yH rfl yL (fun w8 b7 N7 => ?_))))
      obtain ⟨hBw8, nF7, nM7, Lw8, B7⟩ := nza hF hM N7
      obtain ⟨B1, ne1_7⟩ := bn B1 N7
      obtain ⟨B2, ne2_7⟩ := bn B2 N7
      obtain ⟨B3, ne3_7⟩ := bn B3 N7
      obtain ⟨B6, ne6_7⟩ := bn B6 N7
      obtain ⟨LL, hM, hF, hT, h3, hn15, hnb15, hn47⟩ := up8 Lw8 LL hM hF hT h3 hn15 hnb15 hn47
      refine yC rfl rfl yL B7 rfl rfl (yK (yK (yK jI))) rfl (fun w9 Cw9 B7 => ?_)
      obtain ⟨LL, hM, hF, hT, h3, hn15, hnb15, hn47⟩ := up8 (lc LL Cw9 zO nF7) LL hM hF hT h3 hn15 hnb15 hn47
      replace B1 := B1.other Cw9 ne1_7
      replace B2 := B2.other Cw9 ne2_7
      replace B3 := B3.other Cw9 ne3_7
      replace B6 := B6.other Cw9 ne6_7
      refine zC rfl rfl (zD (zG (zB (zJ 0 rfl yu79 rfl rfl gT rfl rfl (zP rfl qG gT rfl B6 rfl rfl (zJ 6 rfl yu79 rfl rfl gT rfl rfl (zP rfl qG gT rfl B6 rfl rfl (zP rfl yQ yL rfl B3 rfl rfl (zI rfl (bo func39) rfl rfl ?_)))))))))
      refine (mheight_c hT hn15 hnb15 h3 (by omega) (by omega) (by omega) hM).mono ?_
      rintro v56 w10 ⟨hB56, xs56, xa56, xd56, rfl, hn56⟩
      obtain ⟨LL, hM, hF, hn47, B1, B2, B3, B6, B7⟩ := ub9 hB56 LL hM hF hn47 B1 B2 B3 B6 B7
      obtain ⟨oxa56, oxd56, _⟩ := hn56.one
      refine zA rfl rfl (zX rfl rfl rfl (zX rfl rfl rfl (yH rfl yL (fun w11 b9 N9 => ?_))))
      obtain ⟨hBw11, nF9, nM9, Lw11, B9⟩ := nza hF hM N9
      have lt1_9 := B1.lt
      have ne1_9 := N9.ne lt1_9
      have lt2_9 := B2.lt
      have ne2_9 := N9.ne lt2_9
      have lt3_9 := B3.lt
      have ne3_9 := N9.ne lt3_9
      have lt6_9 := B6.lt
      have ne6_9 := N9.ne lt6_9
      obtain ⟨B7, ne7_9⟩ := bn B7 N9
      obtain ⟨LL, hn47, hn56⟩ := up3 Lw11 LL hn47 hn56
      refine yC rfl rfl yL B9 rfl rfl (yK (yK (yK jI))) rfl (fun w12 Cw12 B9 => ?_)
      obtain ⟨LL, hn47, hn56⟩ := up3 (lc LL Cw12 zO nF9) LL hn47 hn56
      replace B7 := B7.other Cw12 ne7_9
      refine zC rfl rfl (zD (zG (zB (zA rfl rfl (zP rfl yQ yL rfl B7 rfl rfl (zP rfl yQ yL rfl B9 rfl rfl (xO rfl plc83 rfl rfl (yB (rfl) (yB (rfl) xI)) rfl ?_)))))))
      have hth : fN lo hi (es.getD s ((0, 0), (0, 0))) := ⟨fun c => hg3_6 (eW.2 c), fun c => hg3_14 (eH.2 c), by have := aV (p := (es.getD s ((0, 0), (0, 0))).1.1) (q := (es.getD s ((0, 0), (0, 0))).2.1); grind⟩
      obtain ⟨post, hpost⟩ := thru_at (lo := lo) (hi := hi) (show s < es.length by omega) hth
      refine kF rfl rfl rfl ?_
      refine (hy _ _ _ _ _ _ hpost hJ1 hn1 (LL.drift_all hFz hn1) (hJd _ _ _ hJ1 (LL.drift_all hFz hn1)) ⟨_, _, _, _, _, _, rfl, hMe ▸ (((PC.mk2 hn47 hn56).less fun k c => .inr (.inr (.inr c))).up (by omega) : PC M _ (20 * (n0 + n0 + n1 + n2) + 100) (fH lo hi (es.getD s ((0, 0), (0, 0)))) _ _ _ _ _ _)⟩ (Nat.le_trans hn1 LL.size)).mono ?_
      rintro v63 w13 ⟨hn2, _, hyn⟩
      refine qZ rfl rfl (zD ?_)
      refine qC rfl (fun hc2 => ?_) (fun hc2 => ?_)
      ·refine zR ?_
       refine xC ⟨[], trivial, ?_⟩
       dsimp only [xJ]
       right
       rcases hyn with ⟨e, _⟩ | ⟨_, h⟩
       · subst e; simp at hc2
       · exact h
      ·refine yG (zB (yW rfl rfl rfl (by omega) (zA rfl rfl (zD ?_))))
       refine ⟨rfl, s + 1, (zS rfl (by rw [Int.natCast_add]; rfl) (zH rfl (zH rfl (zH rfl (zH rfl (zH rfl yE)))))), ?_, ?_⟩
       exact ⟨by
         rw [thru_take hth]
         rcases hyn with ⟨_, h⟩ | ⟨e, _⟩
         · exact h
         · subst e; simp at hc2, hn2, by omega⟩
       omega
  ·refine xK (xM ?_)
   refine xC ⟨[], trivial, ?_⟩
   dsimp only [xJ]
   left
   obtain rfl : s = es.length := by omega
   exact ⟨hJ1, trivial⟩
end
end Go.Proofs.YtfkejnlohkgbgaaGreatDoor
