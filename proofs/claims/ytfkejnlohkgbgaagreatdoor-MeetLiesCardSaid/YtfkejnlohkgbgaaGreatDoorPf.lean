/- Walks of the functions that the statement reaches, and the lemmas they stand on; no statement of the seat is proved here. -/
import Derived.Test.YtfkejnlohkgbgaaGreatDoorPe
set_option linter.unusedVariables false
set_option linter.unusedSimpArgs false
set_option maxRecDepth 100000
namespace Go.Proofs.YtfkejnlohkgbgaaGreatDoor
open Go.SL Go.RowKit Go.Proofs Tryz
variable {M : Nat → Prop} {w : World}
theorem absR_neg {q : Rat} (h : cJ q < 0) : hH q = 0 - q := by unfold hH; rw [if_pos (sgnR_lt.1 h)]; grind
theorem absR_pos {q : Rat} (h : ¬ cJ q < 0) : hH q = q := by unfold hH; rw [if_neg (fun c => h (sgnR_lt.2 c))]
theorem alike_f {p q : P2} (h : p.1 ≠ q.1) : decide (p = q) = false := decide_eq_false fun c => h (by rw [c])
theorem alike_t {p q : P2} (h : p.1 = q.1) : decide (p.2 = q.2) = decide (p = q) := by
  rw [decide_eq_decide]; exact ⟨fun c => Prod.ext h c, fun c => by rw [c]⟩
theorem r8of_c {k : Nat} {l : Nat} (hk : k < 9223372036854775808) (hl : l < 9223372036854775808) (hM : OkM M w) :
    CallsV prog 85 [.int .i64 ((k : Nat) : Int), .int .i64 ((l : Nat) : Int)] w fun r w' => Below w.heap.size w w' ∧ ∃ xsr xar xdr xtr xbr xer, r = .agg #[.bool xsr, xar, xdr, .bool xtr, xbr, xer] ∧ PC M w' (2) ((((k : Nat) : Rat), ((l : Nat) : Rat))) xsr xar xdr xtr xbr xer := by
 obtain ⟨Fz, hFz, hF, LL⟩ := fz0 M w
 have hM0 := hM
 refine zQ func85 rfl ntmps85 rfl ?_
 refine zF (zD (yJ rfl yQ (fun w1 b4 N4 => ?_)))
 obtain ⟨_, nF4, nM4, Lw1, B4⟩ := nza hF hM N4
 obtain ⟨LL, hM⟩ := up2 Lw1 LL hM
 refine zA (zF (zD (zC rfl rfl (zH rfl fN rfl rfl ?_))))
 refine (dW (k := k)  (by omega) hM).mono ?_
 rintro v6 w2 ⟨hB6, xs6, xa6, xd6, rfl, hn6⟩
 obtain ⟨LL, hM, B4⟩ := ub3 hB6 LL hM B4
 obtain ⟨oxa6, oxd6, _⟩ := hn6.one
 refine zC rfl rfl (zH rfl fN rfl rfl ?_)
 refine (dW (k := l)  (by omega) hM).mono ?_
 rintro v8 w3 ⟨hB8, xs8, xa8, xd8, rfl, hn8⟩
 obtain ⟨LL, hn6, B4⟩ := ub3 hB8 LL hn6 B4
 obtain ⟨oxa8, oxd8, _⟩ := hn8.one
 refine xR rfl dU rfl rfl (zW (rfl) (zW (rfl) xC)) rfl (zY rfl rfl yQ B4 rfl rfl (zV rfl (zV (by first | rfl | assumption) (zV (by first | rfl | assumption) (zV rfl (zV (by first | rfl | assumption) (zV (by first | rfl | assumption) jC)))))) rfl (fun w4 Cw4 B4 => ?_))
 have Lw4 := Le.of_chg (M := (Ins b4 M)) Cw4 zS nF4
 obtain ⟨LL, hn6, hn8⟩ := up3 Lw4 LL hn6 hn8
 refine zA (zZ ?_)
 refine zP ⟨[_], ⟨⟨_, rfl, yW yB yQ B4 rfl rfl⟩, trivial⟩, ?_⟩
 dsimp only [zX]
 subst hFz
 exact ⟨LL.below (Nat.le_refl _), _, _, _, _, _, _, rfl, ((PC.mk2 hn6 hn8).less (fun k c => zK c)).up (by omega)⟩
theorem r8add_c {p : P2} {n0 : Nat} {xs0 xt0 : Bool} {xa0 xd0 xb0 xe0 : Value} {q : P2} {n1 : Nat} {xs1 xt1 : Bool} {xa1 xd1 xb1 xe1 : Value} (h0 : PQ M w n0 p xs0 xa0 xd0 xt0 xb0 xe0) (h1 : PQ M w n1 q xs1 xa1 xd1 xt1 xb1 xe1) (hl0 : n0 ≤ 970) (hl1 : n1 ≤ 970) (hM : OkM M w) :
    CallsV prog 29 [.agg #[.bool xs0, xa0, xd0, .bool xt0, xb0, xe0], .agg #[.bool xs1, xa1, xd1, .bool xt1, xb1, xe1]] w fun r w' => Below w.heap.size w w' ∧ ∃ xsr xar xdr xtr xbr xer, r = .agg #[.bool xsr, xar, xdr, .bool xtr, xbr, xer] ∧ PC M w' (n0 + n1 + 3) (fQ p q) xsr xar xdr xtr xbr xer := by
 obtain ⟨Fz, hFz, hF, LL⟩ := fz0 M w
 obtain ⟨oxa0, oxd0, oxb0, oxe0, _⟩ := h0.one
 obtain ⟨oxa1, oxd1, oxb1, oxe1, _⟩ := h1.one
 have hM0 := hM
 refine zQ func29 rfl ntmps29 rfl ?_
 refine zF (zD (yE rfl rfl (fun w1 b2 N2 => ?_)))
 obtain ⟨_, nF2, nM2, Lw1, B2⟩ := nza hF hM N2
 obtain ⟨LL, hM, hF, h0, h1⟩ := up5 Lw1 LL hM hF h0 h1
 refine yE rfl rfl (fun w2 b3 N3 => ?_)
 obtain ⟨hBw2, nF3, nM3, Lw2, B3⟩ := nza hF hM N3
 obtain ⟨B2, ne2_3⟩ := bn B2 N3
 obtain ⟨LL, hM, hF, h0, h1⟩ := up5 Lw2 LL hM hF h0 h1
 refine yJ rfl yQ (fun w3 b4 N4 => ?_)
 obtain ⟨hBw3, nF4, nM4, Lw3, B4⟩ := nza hF hM N4
 obtain ⟨B2, ne2_4⟩ := bn B2 N4
 obtain ⟨B3, ne3_4⟩ := bn B3 N4
 obtain ⟨LL, hM, h0, h1⟩ := up4 Lw3 LL hM h0 h1
 refine zA (zF ?_)
 refine xK (R := Rb) (R' := Rb) (st := none) jF 11 [4, 10, 15] (by decide +kernel) xF xO (xN _) (fun _ _ _ h => by cases h) ?_
 refine zN (fun _ _ _ => zO rfl rfl (zB (zL 0 rfl yu39 rfl rfl yN rfl rfl (on0 rfl)))) ?_
 refine zN (fun _ hR _ => zJ rfl (zB (zI rfl yX yN rfl (B2.below hR) rfl rfl (on0 rfl)))) ?_
 refine zN (fun _ _ _ => zO rfl rfl (zB (zL 0 rfl yu39 rfl rfl yN rfl rfl (on0 rfl)))) ?_
 refine zN (fun _ hR _ => zJ rfl (zB (zI rfl yX yN rfl (B3.below hR) rfl rfl (on0 rfl)))) ?_
 refine zU (fun v w => ∃ bb xs9 xa9 xd9 xs9b xa9b xd9b, v = .slice (some ⟨bb, 0, none⟩) 2 2 ∧ KBlk (Ins b4 (Ins b3 (Ins b2 M))) w bb 33 [.bool xs9, xa9, xd9, .bool xs9b, xa9b, xd9b] ∧ QC (Ins b4 (Ins b3 (Ins b2 M))) w (n0) (p.1) xs9 xa9 xd9 ∧ QC (Ins b4 (Ins b3 (Ins b2 M))) w (n1) (q.1) xs9b xa9b xd9b) (fun _ _ _ ⟨bb, xs9, xa9, xd9, xs9b, xa9b, xd9b, e, hk, h0, h1⟩ r => ⟨bb, xs9, xa9, xd9, xs9b, xa9b, xd9b, e, hk.mono (Fz := fun _ => False) (Le.of_below r), h0.mono (Fz := fun _ => False) (Le.of_below r), h1.mono (Fz := fun _ => False) (Le.of_below r)⟩) (fun wq hR hst => ?_) ?_
 ·refine zJ rfl (zJ rfl (zB ?_))
  obtain ⟨hM, h0, h1⟩ := ub3 hR hM h0 h1
  refine yY rfl yu22 yN rfl rfl rfl rfl (zW rfl (zW rfl xC)) rfl rfl rfl (fun w4 b9 N9 => ?_)
  have hBw4 := N9.below
  have nM9 := hM.new N9
  have B9 := N9.blk
  obtain ⟨h0, h1⟩ := ub2 hBw4 h0 h1
  have hB9 := hBw4
  exact zA ⟨rfl, hB9, _, rfl, ⟨b9, _, _, _, _, _, _, rfl, KBlk.mk B9 nM9, h0.x, h1.x⟩⟩
 refine zU (vRC (Ins b4 (Ins b3 (Ins b2 M))) (n0 + n1 + 3) (p.1 + q.1)) uD (fun wq hR hst => ?_) ?_
 ·refine yA rfl (fun v9 hp9 => ?_)
  obtain ⟨bb9, xs9, xa9, xd9, xs9b, xa9b, xd9b, rfl, hk9, hn9, hnb9⟩ := hp9; obtain ⟨oxa9, oxd9, _⟩ := hn9.one
  refine zB ?_
  replace hM := ub1 hR hM
  refine zH rfl fY rfl rfl ?_
  refine (eP hk9 hn9 hnb9 (by omega) (by omega) hM).mono ?_
  rintro v10 w5 ⟨hB10, xs10, xa10, xd10, rfl, hn10⟩
  exact zA ⟨rfl, hB10, _, rfl, ⟨_, _, _, rfl, hn10⟩⟩
 refine zN (fun _ _ _ => zO rfl rfl (zB (zL 3 rfl yu39 rfl rfl yN rfl rfl (on0 rfl)))) ?_
 refine zN (fun _ hR _ => zJ rfl (zB (zI rfl yX yN rfl (B2.below hR) rfl rfl (on0 rfl)))) ?_
 refine zN (fun _ _ _ => zO rfl rfl (zB (zL 3 rfl yu39 rfl rfl yN rfl rfl (on0 rfl)))) ?_
 refine zN (fun _ hR _ => zJ rfl (zB (zI rfl yX yN rfl (B3.below hR) rfl rfl (on0 rfl)))) ?_
 refine zU (fun v w => ∃ bb xs15 xa15 xd15 xs15b xa15b xd15b, v = .slice (some ⟨bb, 0, none⟩) 2 2 ∧ KBlk (Ins b4 (Ins b3 (Ins b2 M))) w bb 33 [.bool xs15, xa15, xd15, .bool xs15b, xa15b, xd15b] ∧ QC (Ins b4 (Ins b3 (Ins b2 M))) w (n0) (p.2) xs15 xa15 xd15 ∧ QC (Ins b4 (Ins b3 (Ins b2 M))) w (n1) (q.2) xs15b xa15b xd15b) (fun _ _ _ ⟨bb, xs15, xa15, xd15, xs15b, xa15b, xd15b, e, hk, h0, h1⟩ r => ⟨bb, xs15, xa15, xd15, xs15b, xa15b, xd15b, e, hk.mono (Fz := fun _ => False) (Le.of_below r), h0.mono (Fz := fun _ => False) (Le.of_below r), h1.mono (Fz := fun _ => False) (Le.of_below r)⟩) (fun wq hR hst => ?_) ?_
 ·refine zJ rfl (zJ rfl (zB ?_))
  obtain ⟨hM, h0, h1⟩ := ub3 hR hM h0 h1
  refine yY rfl yu22 yN rfl rfl rfl rfl (zW rfl (zW rfl xC)) rfl rfl rfl (fun w6 b15 N15 => ?_)
  have hBw6 := N15.below
  have nM15 := hM.new N15
  have B15 := N15.blk
  obtain ⟨h0, h1⟩ := ub2 hBw6 h0 h1
  have hB15 := hBw6
  exact zA ⟨rfl, hB15, _, rfl, ⟨b15, _, _, _, _, _, _, rfl, KBlk.mk B15 nM15, h0.y, h1.y⟩⟩
 refine xL (fun wq1 hR1 hpost1 => ?_)
 refine zO rfl rfl (yA rfl (fun v10 hp10 => ?_))
 obtain ⟨xs10, xa10, xd10, rfl, hn10⟩ := hp10; obtain ⟨oxa10, oxd10, _⟩ := hn10.one
 refine yA rfl (fun v15 hp15 => ?_)
 obtain ⟨bb15, xs15, xa15, xd15, xs15b, xa15b, xd15b, rfl, hk15, hn15, hnb15⟩ := hp15; obtain ⟨oxa15, oxd15, _⟩ := hn15.one; obtain ⟨oxa15b, oxd15b, _⟩ := hnb15.one
 refine zB ?_
 simp only [List.drop_succ_cons, List.drop_zero, List.drop_nil, List.toList_toArray]
 obtain ⟨LL, hM, B4⟩ := ub3 hR1 LL hM B4
 refine zH rfl fY rfl rfl ?_
 refine (eP hk15 hn15 hnb15 (by omega) (by omega) hM).mono ?_
 rintro v16 w7 ⟨hB16, xs16, xa16, xd16, rfl, hn16⟩
 obtain ⟨LL, hn10, B4⟩ := ub3 hB16 LL hn10 B4
 obtain ⟨oxa16, oxd16, _⟩ := hn16.one
 refine xR rfl dU rfl rfl (zW (rfl) (zW (rfl) xC)) rfl (zY rfl rfl yQ B4 rfl rfl (zV rfl (zV (by first | rfl | assumption) (zV (by first | rfl | assumption) (zV rfl (zV (by first | rfl | assumption) (zV (by first | rfl | assumption) jC)))))) rfl (fun w8 Cw8 B4 => ?_))
 have Lw8 := Le.of_chg (M := (Ins b4 (Ins b3 (Ins b2 M)))) Cw8 zS nF4
 obtain ⟨LL, hn10, hn16⟩ := up3 Lw8 LL hn10 hn16
 refine zA (zZ ?_)
 refine zP ⟨[_], ⟨⟨_, rfl, yW yB yQ B4 rfl rfl⟩, trivial⟩, ?_⟩
 dsimp only [zX]
 subst hFz
 exact ⟨LL.below (Nat.le_refl _), _, _, _, _, _, _, rfl, ((PC.mk2 hn10 hn16).less (fun k c => zK (zK (zK c)))).up (by omega)⟩
theorem r8sub_c {p : P2} {n0 : Nat} {xs0 xt0 : Bool} {xa0 xd0 xb0 xe0 : Value} {q : P2} {n1 : Nat} {xs1 xt1 : Bool} {xa1 xd1 xb1 xe1 : Value} (h0 : PQ M w n0 p xs0 xa0 xd0 xt0 xb0 xe0) (h1 : PQ M w n1 q xs1 xa1 xd1 xt1 xb1 xe1) (hl0 : n0 ≤ 960) (hl1 : n1 ≤ 960) (hM : OkM M w) :
    CallsV prog 41 [.agg #[.bool xs0, xa0, xd0, .bool xt0, xb0, xe0], .agg #[.bool xs1, xa1, xd1, .bool xt1, xb1, xe1]] w fun r w' => Below w.heap.size w w' ∧ ∃ xsr xar xdr xtr xbr xer, r = .agg #[.bool xsr, xar, xdr, .bool xtr, xbr, xer] ∧ PC M w' (n0 + n1 + 5) (jG p q) xsr xar xdr xtr xbr xer := by
 obtain ⟨Fz, hFz, hF, LL⟩ := fz0 M w
 obtain ⟨oxa0, oxd0, oxb0, oxe0, _⟩ := h0.one
 obtain ⟨oxa1, oxd1, oxb1, oxe1, _⟩ := h1.one
 have hM0 := hM
 refine zQ func41 rfl ntmps41 rfl ?_
 refine zF (zD (yE rfl rfl (fun w1 b2 N2 => ?_)))
 obtain ⟨_, nF2, nM2, Lw1, B2⟩ := nza hF hM N2
 obtain ⟨LL, hM, hF, h0, h1⟩ := up5 Lw1 LL hM hF h0 h1
 refine yE rfl rfl (fun w2 b3 N3 => ?_)
 obtain ⟨hBw2, nF3, nM3, Lw2, B3⟩ := nza hF hM N3
 obtain ⟨B2, ne2_3⟩ := bn B2 N3
 obtain ⟨LL, hM, hF, h0, h1⟩ := up5 Lw2 LL hM hF h0 h1
 refine yJ rfl yQ (fun w3 b4 N4 => ?_)
 obtain ⟨hBw3, nF4, nM4, Lw3, B4⟩ := nza hF hM N4
 obtain ⟨B2, ne2_4⟩ := bn B2 N4
 obtain ⟨B3, ne3_4⟩ := bn B3 N4
 obtain ⟨LL, hM, h0, h1⟩ := up4 Lw3 LL hM h0 h1
 refine zA (zF ?_)
 refine xK (R := Rb) (R' := Rb) (st := none) jF 9 [4, 9, 11, 13] (by decide +kernel) xF xO (xN _) (fun _ _ _ h => by cases h) ?_
 refine zN (fun _ _ _ => zO rfl rfl (zB (zL 0 rfl yu39 rfl rfl yN rfl rfl (on0 rfl)))) ?_
 refine zN (fun _ hR _ => zJ rfl (zB (zI rfl yX yN rfl (B2.below hR) rfl rfl (on0 rfl)))) ?_
 refine zN (fun _ _ _ => zO rfl rfl (zB (zL 0 rfl yu39 rfl rfl yN rfl rfl (on0 rfl)))) ?_
 refine zN (fun _ hR _ => zJ rfl (zB (zI rfl yX yN rfl (B3.below hR) rfl rfl (on0 rfl)))) ?_
 refine zU (vRC (Ins b4 (Ins b3 (Ins b2 M))) (n0 + n1 + 5) (p.1 - q.1)) uD (fun wq hR hst => ?_) ?_
 ·refine zJ rfl (zJ rfl (zB ?_))
  obtain ⟨hM, h0, h1⟩ := ub3 hR hM h0 h1
  refine zH rfl bod22 rfl rfl ?_
  refine (r7sub_c h0.x h1.x (by omega) (by omega) hM).mono ?_
  rintro v9 w4 ⟨hB9, xs9, xa9, xd9, rfl, hn9⟩
  exact zA ⟨rfl, hB9, _, rfl, ⟨_, _, _, rfl, hn9⟩⟩
 refine zN (fun _ _ _ => zO rfl rfl (zB (zL 3 rfl yu39 rfl rfl yN rfl rfl (on0 rfl)))) ?_
 refine zN (fun _ hR _ => zJ rfl (zB (zI rfl yX yN rfl (B2.below hR) rfl rfl (on0 rfl)))) ?_
 refine zN (fun _ _ _ => zO rfl rfl (zB (zL 3 rfl yu39 rfl rfl yN rfl rfl (on0 rfl)))) ?_
 refine zN (fun _ hR _ => zJ rfl (zB (zI rfl yX yN rfl (B3.below hR) rfl rfl (on0 rfl)))) ?_
 refine xL (fun wq1 hR1 hpost1 => ?_)
 refine zO rfl rfl (yA rfl (fun v9 hp9 => ?_))
 obtain ⟨xs9, xa9, xd9, rfl, hn9⟩ := hp9; obtain ⟨oxa9, oxd9, _⟩ := hn9.one
 refine zJ rfl (zJ rfl (zB ?_))
 simp only [List.drop_succ_cons, List.drop_zero, List.drop_nil, List.toList_toArray]
 obtain ⟨LL, hM, h0, h1, B4⟩ := ub5 hR1 LL hM h0 h1 B4
 refine zH rfl bod22 rfl rfl ?_
 refine (r7sub_c h0.y h1.y (by omega) (by omega) hM).mono ?_
 rintro v14 w5 ⟨hB14, xs14, xa14, xd14, rfl, hn14⟩
 obtain ⟨LL, hn9, B4⟩ := ub3 hB14 LL hn9 B4
 obtain ⟨oxa14, oxd14, _⟩ := hn14.one
 refine xR rfl dU rfl rfl (zW (rfl) (zW (rfl) xC)) rfl (zY rfl rfl yQ B4 rfl rfl (zV rfl (zV (by first | rfl | assumption) (zV (by first | rfl | assumption) (zV rfl (zV (by first | rfl | assumption) (zV (by first | rfl | assumption) jC)))))) rfl (fun w6 Cw6 B4 => ?_))
 have Lw6 := Le.of_chg (M := (Ins b4 (Ins b3 (Ins b2 M)))) Cw6 zS nF4
 obtain ⟨LL, hn9, hn14⟩ := up3 Lw6 LL hn9 hn14
 refine zA (zZ ?_)
 refine zP ⟨[_], ⟨⟨_, rfl, yW yB yQ B4 rfl rfl⟩, trivial⟩, ?_⟩
 dsimp only [zX]
 subst hFz
 exact ⟨LL.below (Nat.le_refl _), _, _, _, _, _, _, rfl, ((PC.mk2 hn9 hn14).less (fun k c => zK (zK (zK c)))).up (by omega)⟩
theorem r8scale_c {p : P2} {n0 : Nat} {xs0 xt0 : Bool} {xa0 xd0 xb0 xe0 : Value} {q : Rat} {n1 : Nat} {xs1 : Bool} {xa1 xd1 : Value} (h0 : PQ M w n0 p xs0 xa0 xd0 xt0 xb0 xe0) (h1 : QC M w n1 q xs1 xa1 xd1) (hl0 : n0 ≤ 970) (hl1 : n1 ≤ 970) (hM : OkM M w) :
    CallsV prog 91 [.agg #[.bool xs0, xa0, xd0, .bool xt0, xb0, xe0], .agg #[.bool xs1, xa1, xd1]] w fun r w' => Below w.heap.size w w' ∧ ∃ xsr xar xdr xtr xbr xer, r = .agg #[.bool xsr, xar, xdr, .bool xtr, xbr, xer] ∧ PC M w' (n0 + n1 + 3) (bA p q) xsr xar xdr xtr xbr xer := by
 obtain ⟨Fz, hFz, hF, LL⟩ := fz0 M w
 obtain ⟨oxa0, oxd0, oxb0, oxe0, _⟩ := h0.one
 obtain ⟨oxa1, oxd1, _⟩ := h1.one
 have hM0 := hM
 refine zQ func91 rfl ntmps91 rfl ?_
 refine zF (zD (yE rfl rfl (fun w1 b2 N2 => ?_)))
 obtain ⟨_, nF2, nM2, Lw1, B2⟩ := nza hF hM N2
 obtain ⟨LL, hM, hF, h0, h1⟩ := up5 Lw1 LL hM hF h0 h1
 refine yE rfl rfl (fun w2 b3 N3 => ?_)
 obtain ⟨hBw2, nF3, nM3, Lw2, B3⟩ := nza hF hM N3
 obtain ⟨B2, ne2_3⟩ := bn B2 N3
 obtain ⟨LL, hM, hF, h0, h1⟩ := up5 Lw2 LL hM hF h0 h1
 refine yJ rfl yQ (fun w3 b4 N4 => ?_)
 obtain ⟨hBw3, nF4, nM4, Lw3, B4⟩ := nza hF hM N4
 obtain ⟨B2, ne2_4⟩ := bn B2 N4
 obtain ⟨B3, ne3_4⟩ := bn B3 N4
 obtain ⟨LL, hM, h0, h1⟩ := up4 Lw3 LL hM h0 h1
 refine zA (zF ?_)
 refine xK (R := Rb) (R' := Rb) (st := none) jF 9 [4, 9, 13] (by decide +kernel) xF xO (xN _) (fun _ _ _ h => by cases h) ?_
 refine zN (fun _ _ _ => zO rfl rfl (zB (zL 0 rfl yu39 rfl rfl yN rfl rfl (on0 rfl)))) ?_
 refine zN (fun _ hR _ => zJ rfl (zB (zI rfl yX yN rfl (B2.below hR) rfl rfl (on0 rfl)))) ?_
 refine zN (fun _ hR _ => zO rfl rfl (zB (zI rfl yX yN rfl (B3.below hR) rfl rfl (on0 rfl)))) ?_
 refine zU (fun v w => ∃ bb xs8 xa8 xd8 xs8b xa8b xd8b, v = .slice (some ⟨bb, 0, none⟩) 2 2 ∧ KBlk (Ins b4 (Ins b3 (Ins b2 M))) w bb 33 [.bool xs8, xa8, xd8, .bool xs8b, xa8b, xd8b] ∧ QC (Ins b4 (Ins b3 (Ins b2 M))) w (n0) (p.1) xs8 xa8 xd8 ∧ QC (Ins b4 (Ins b3 (Ins b2 M))) w (n1) (q) xs8b xa8b xd8b) (fun _ _ _ ⟨bb, xs8, xa8, xd8, xs8b, xa8b, xd8b, e, hk, h0, h1⟩ r => ⟨bb, xs8, xa8, xd8, xs8b, xa8b, xd8b, e, hk.mono (Fz := fun _ => False) (Le.of_below r), h0.mono (Fz := fun _ => False) (Le.of_below r), h1.mono (Fz := fun _ => False) (Le.of_below r)⟩) (fun wq hR hst => ?_) ?_
 ·refine zJ rfl (zJ rfl (zB ?_))
  obtain ⟨hM, h0, h1⟩ := ub3 hR hM h0 h1
  refine yY rfl yu22 yN rfl rfl rfl rfl (zW rfl (zW rfl xC)) rfl rfl rfl (fun w4 b8 N8 => ?_)
  have hBw4 := N8.below
  have nM8 := hM.new N8
  have B8 := N8.blk
  obtain ⟨h0, h1⟩ := ub2 hBw4 h0 h1
  have hB8 := hBw4
  exact zA ⟨rfl, hB8, _, rfl, ⟨b8, _, _, _, _, _, _, rfl, KBlk.mk B8 nM8, h0.x, h1⟩⟩
 refine zU (vRC (Ins b4 (Ins b3 (Ins b2 M))) (n0 + n1 + 3) (p.1 * q)) uD (fun wq hR hst => ?_) ?_
 ·refine yA rfl (fun v8 hp8 => ?_)
  obtain ⟨bb8, xs8, xa8, xd8, xs8b, xa8b, xd8b, rfl, hk8, hn8, hnb8⟩ := hp8; obtain ⟨oxa8, oxd8, _⟩ := hn8.one
  refine zB ?_
  replace hM := ub1 hR hM
  refine zH rfl bod52 rfl rfl ?_
  refine (r7mul2 hk8 hn8 hnb8 (by omega) (by omega) hM).mono ?_
  rintro v9 w5 ⟨hB9, xs9, xa9, xd9, rfl, hn9⟩
  exact zA ⟨rfl, hB9, _, rfl, ⟨_, _, _, rfl, hn9⟩⟩
 refine zN (fun _ _ _ => zO rfl rfl (zB (zL 3 rfl yu39 rfl rfl yN rfl rfl (on0 rfl)))) ?_
 refine zN (fun _ hR _ => zJ rfl (zB (zI rfl yX yN rfl (B2.below hR) rfl rfl (on0 rfl)))) ?_
 refine zN (fun _ hR _ => zO rfl rfl (zB (zI rfl yX yN rfl (B3.below hR) rfl rfl (on0 rfl)))) ?_
 refine zU (fun v w => ∃ bb xs13 xa13 xd13 xs13b xa13b xd13b, v = .slice (some ⟨bb, 0, none⟩) 2 2 ∧ KBlk (Ins b4 (Ins b3 (Ins b2 M))) w bb 33 [.bool xs13, xa13, xd13, .bool xs13b, xa13b, xd13b] ∧ QC (Ins b4 (Ins b3 (Ins b2 M))) w (n0) (p.2) xs13 xa13 xd13 ∧ QC (Ins b4 (Ins b3 (Ins b2 M))) w (n1) (q) xs13b xa13b xd13b) (fun _ _ _ ⟨bb, xs13, xa13, xd13, xs13b, xa13b, xd13b, e, hk, h0, h1⟩ r => ⟨bb, xs13, xa13, xd13, xs13b, xa13b, xd13b, e, hk.mono (Fz := fun _ => False) (Le.of_below r), h0.mono (Fz := fun _ => False) (Le.of_below r), h1.mono (Fz := fun _ => False) (Le.of_below r)⟩) (fun wq hR hst => ?_) ?_
 ·refine zJ rfl (zJ rfl (zB ?_))
  obtain ⟨hM, h0, h1⟩ := ub3 hR hM h0 h1
  refine yY rfl yu22 yN rfl rfl rfl rfl (zW rfl (zW rfl xC)) rfl rfl rfl (fun w6 b13 N13 => ?_)
  have hBw6 := N13.below
  have nM13 := hM.new N13
  have B13 := N13.blk
  obtain ⟨h0, h1⟩ := ub2 hBw6 h0 h1
  have hB13 := hBw6
  exact zA ⟨rfl, hB13, _, rfl, ⟨b13, _, _, _, _, _, _, rfl, KBlk.mk B13 nM13, h0.y, h1⟩⟩
 refine xL (fun wq1 hR1 hpost1 => ?_)
 refine zO rfl rfl (yA rfl (fun v9 hp9 => ?_))
 obtain ⟨xs9, xa9, xd9, rfl, hn9⟩ := hp9; obtain ⟨oxa9, oxd9, _⟩ := hn9.one
 refine yA rfl (fun v13 hp13 => ?_)
 obtain ⟨bb13, xs13, xa13, xd13, xs13b, xa13b, xd13b, rfl, hk13, hn13, hnb13⟩ := hp13; obtain ⟨oxa13, oxd13, _⟩ := hn13.one; obtain ⟨oxa13b, oxd13b, _⟩ := hnb13.one
 refine zB ?_
 simp only [List.drop_succ_cons, List.drop_zero, List.drop_nil, List.toList_toArray]
 obtain ⟨LL, hM, B4⟩ := ub3 hR1 LL hM B4
 refine zH rfl bod52 rfl rfl ?_
 refine (r7mul2 hk13 hn13 hnb13 (by omega) (by omega) hM).mono ?_
 rintro v14 w7 ⟨hB14, xs14, xa14, xd14, rfl, hn14⟩
 obtain ⟨LL, hn9, B4⟩ := ub3 hB14 LL hn9 B4
 obtain ⟨oxa14, oxd14, _⟩ := hn14.one
 refine xR rfl dU rfl rfl (zW (rfl) (zW (rfl) xC)) rfl (zY rfl rfl yQ B4 rfl rfl (zV rfl (zV (by first | rfl | assumption) (zV (by first | rfl | assumption) (zV rfl (zV (by first | rfl | assumption) (zV (by first | rfl | assumption) jC)))))) rfl (fun w8 Cw8 B4 => ?_))
 have Lw8 := Le.of_chg (M := (Ins b4 (Ins b3 (Ins b2 M)))) Cw8 zS nF4
 obtain ⟨LL, hn9, hn14⟩ := up3 Lw8 LL hn9 hn14
 refine zA (zZ ?_)
 refine zP ⟨[_], ⟨⟨_, rfl, yW yB yQ B4 rfl rfl⟩, trivial⟩, ?_⟩
 dsimp only [zX]
 subst hFz
 exact ⟨LL.below (Nat.le_refl _), _, _, _, _, _, _, rfl, ((PC.mk2 hn9 hn14).less (fun k c => zK (zK (zK c)))).up (by omega)⟩
theorem r8cross_c {p : P2} {n0 : Nat} {xs0 xt0 : Bool} {xa0 xd0 xb0 xe0 : Value} {q : P2} {n1 : Nat} {xs1 xt1 : Bool} {xa1 xd1 xb1 xe1 : Value} (h0 : PQ M w n0 p xs0 xa0 xd0 xt0 xb0 xe0) (h1 : PQ M w n1 q xs1 xa1 xd1 xt1 xb1 xe1) (hl0 : n0 ≤ 475) (hl1 : n1 ≤ 475) (hM : OkM M w) :
    CallsV prog 40 [.agg #[.bool xs0, xa0, xd0, .bool xt0, xb0, xe0], .agg #[.bool xs1, xa1, xd1, .bool xt1, xb1, xe1]] w fun r w' => Below w.heap.size w w' ∧ ∃ xsr xar xdr, r = .agg #[.bool xsr, xar, xdr] ∧ RC M w' (2 * n0 + 2 * n1 + 11) (jD p q) xsr xar xdr := by
 obtain ⟨Fz, hFz, hF, LL⟩ := fz0 M w
 obtain ⟨oxa0, oxd0, oxb0, oxe0, _⟩ := h0.one
 obtain ⟨oxa1, oxd1, oxb1, oxe1, _⟩ := h1.one
 have hM0 := hM
 refine zQ func40 rfl ntmps40 rfl ?_
 refine zF (zD (yE rfl rfl (fun w1 b2 N2 => ?_)))
 obtain ⟨_, nF2, nM2, Lw1, B2⟩ := nza hF hM N2
 obtain ⟨LL, hM, hF, h0, h1⟩ := up5 Lw1 LL hM hF h0 h1
 refine yE rfl rfl (fun w2 b3 N3 => ?_)
 obtain ⟨hBw2, nF3, nM3, Lw2, B3⟩ := nza hF hM N3
 obtain ⟨B2, ne2_3⟩ := bn B2 N3
 obtain ⟨LL, hM, hF, h0, h1⟩ := up5 Lw2 LL hM hF h0 h1
 refine yJ rfl yN (fun w3 b4 N4 => ?_)
 obtain ⟨hBw3, nF4, nM4, Lw3, B4⟩ := nza hF hM N4
 obtain ⟨B2, ne2_4⟩ := bn B2 N4
 obtain ⟨B3, ne3_4⟩ := bn B3 N4
 obtain ⟨LL, hM, h0, h1⟩ := up4 Lw3 LL hM h0 h1
 refine zA (zF ?_)
 refine xK (R := Rb) (R' := Rb) (st := none) jF 11 [4, 10, 15] (by decide +kernel) xF xO (xN _) (fun _ _ _ h => by cases h) ?_
 refine zN (fun _ _ _ => zO rfl rfl (zB (zL 0 rfl yu39 rfl rfl yN rfl rfl (on0 rfl)))) ?_
 refine zN (fun _ hR _ => zJ rfl (zB (zI rfl yX yN rfl (B2.below hR) rfl rfl (on0 rfl)))) ?_
 refine zN (fun _ _ _ => zO rfl rfl (zB (zL 3 rfl yu39 rfl rfl yN rfl rfl (on0 rfl)))) ?_
 refine zN (fun _ hR _ => zJ rfl (zB (zI rfl yX yN rfl (B3.below hR) rfl rfl (on0 rfl)))) ?_
 refine zU (fun v w => ∃ bb xs9 xa9 xd9 xs9b xa9b xd9b, v = .slice (some ⟨bb, 0, none⟩) 2 2 ∧ KBlk (Ins b4 (Ins b3 (Ins b2 M))) w bb 33 [.bool xs9, xa9, xd9, .bool xs9b, xa9b, xd9b] ∧ QC (Ins b4 (Ins b3 (Ins b2 M))) w (n0) (p.1) xs9 xa9 xd9 ∧ QC (Ins b4 (Ins b3 (Ins b2 M))) w (n1) (q.2) xs9b xa9b xd9b) (fun _ _ _ ⟨bb, xs9, xa9, xd9, xs9b, xa9b, xd9b, e, hk, h0, h1⟩ r => ⟨bb, xs9, xa9, xd9, xs9b, xa9b, xd9b, e, hk.mono (Fz := fun _ => False) (Le.of_below r), h0.mono (Fz := fun _ => False) (Le.of_below r), h1.mono (Fz := fun _ => False) (Le.of_below r)⟩) (fun wq hR hst => ?_) ?_
 ·refine zJ rfl (zJ rfl (zB ?_))
  obtain ⟨hM, h0, h1⟩ := ub3 hR hM h0 h1
  refine yY rfl yu22 yN rfl rfl rfl rfl (zW rfl (zW rfl xC)) rfl rfl rfl (fun w4 b9 N9 => ?_)
  have hBw4 := N9.below
  have nM9 := hM.new N9
  have B9 := N9.blk
  obtain ⟨h0, h1⟩ := ub2 hBw4 h0 h1
  have hB9 := hBw4
  exact zA ⟨rfl, hB9, _, rfl, ⟨b9, _, _, _, _, _, _, rfl, KBlk.mk B9 nM9, h0.x, h1.y⟩⟩
 refine zU (vRC (Ins b4 (Ins b3 (Ins b2 M))) (n0 + n1 + 3) (p.1 * q.2)) uD (fun wq hR hst => ?_) ?_
 ·refine yA rfl (fun v9 hp9 => ?_)
  obtain ⟨bb9, xs9, xa9, xd9, xs9b, xa9b, xd9b, rfl, hk9, hn9, hnb9⟩ := hp9; obtain ⟨oxa9, oxd9, _⟩ := hn9.one
  refine zB ?_
  replace hM := ub1 hR hM
  refine zH rfl bod52 rfl rfl ?_
  refine (r7mul2 hk9 hn9 hnb9 (by omega) (by omega) hM).mono ?_
  rintro v10 w5 ⟨hB10, xs10, xa10, xd10, rfl, hn10⟩
  exact zA ⟨rfl, hB10, _, rfl, ⟨_, _, _, rfl, hn10⟩⟩
 refine zN (fun _ _ _ => zO rfl rfl (zB (zL 3 rfl yu39 rfl rfl yN rfl rfl (on0 rfl)))) ?_
 refine zN (fun _ hR _ => zJ rfl (zB (zI rfl yX yN rfl (B2.below hR) rfl rfl (on0 rfl)))) ?_
 refine zN (fun _ _ _ => zO rfl rfl (zB (zL 0 rfl yu39 rfl rfl yN rfl rfl (on0 rfl)))) ?_
 refine zN (fun _ hR _ => zJ rfl (zB (zI rfl yX yN rfl (B3.below hR) rfl rfl (on0 rfl)))) ?_
 refine zU (fun v w => ∃ bb xs15 xa15 xd15 xs15b xa15b xd15b, v = .slice (some ⟨bb, 0, none⟩) 2 2 ∧ KBlk (Ins b4 (Ins b3 (Ins b2 M))) w bb 33 [.bool xs15, xa15, xd15, .bool xs15b, xa15b, xd15b] ∧ QC (Ins b4 (Ins b3 (Ins b2 M))) w (n0) (p.2) xs15 xa15 xd15 ∧ QC (Ins b4 (Ins b3 (Ins b2 M))) w (n1) (q.1) xs15b xa15b xd15b) (fun _ _ _ ⟨bb, xs15, xa15, xd15, xs15b, xa15b, xd15b, e, hk, h0, h1⟩ r => ⟨bb, xs15, xa15, xd15, xs15b, xa15b, xd15b, e, hk.mono (Fz := fun _ => False) (Le.of_below r), h0.mono (Fz := fun _ => False) (Le.of_below r), h1.mono (Fz := fun _ => False) (Le.of_below r)⟩) (fun wq hR hst => ?_) ?_
 ·refine zJ rfl (zJ rfl (zB ?_))
  obtain ⟨hM, h0, h1⟩ := ub3 hR hM h0 h1
  refine yY rfl yu22 yN rfl rfl rfl rfl (zW rfl (zW rfl xC)) rfl rfl rfl (fun w6 b15 N15 => ?_)
  have hBw6 := N15.below
  have nM15 := hM.new N15
  have B15 := N15.blk
  obtain ⟨h0, h1⟩ := ub2 hBw6 h0 h1
  have hB15 := hBw6
  exact zA ⟨rfl, hB15, _, rfl, ⟨b15, _, _, _, _, _, _, rfl, KBlk.mk B15 nM15, h0.y, h1.x⟩⟩
 refine xL (fun wq1 hR1 hpost1 => ?_)
 refine zO rfl rfl (yA rfl (fun v10 hp10 => ?_))
 obtain ⟨xs10, xa10, xd10, rfl, hn10⟩ := hp10; obtain ⟨oxa10, oxd10, _⟩ := hn10.one
 refine yA rfl (fun v15 hp15 => ?_)
 obtain ⟨bb15, xs15, xa15, xd15, xs15b, xa15b, xd15b, rfl, hk15, hn15, hnb15⟩ := hp15; obtain ⟨oxa15, oxd15, _⟩ := hn15.one; obtain ⟨oxa15b, oxd15b, _⟩ := hnb15.one
 refine zB ?_
 simp only [List.drop_succ_cons, List.drop_zero, List.drop_nil, List.toList_toArray]
 obtain ⟨LL, hM, B4⟩ := ub3 hR1 LL hM B4
 refine zH rfl bod52 rfl rfl ?_
 refine (r7mul2 hk15 hn15 hnb15 (by omega) (by omega) hM).mono ?_
 rintro v16 w7 ⟨hB16, xs16, xa16, xd16, rfl, hn16⟩
 obtain ⟨LL, hM, hn10, B4⟩ := ub4 hB16 LL hM hn10 B4
 obtain ⟨oxa16, oxd16, _⟩ := hn16.one
 refine zH rfl bod22 rfl rfl ?_
 refine (r7sub_c hn10.gen hn16.gen (by omega) (by omega) hM).mono ?_
 rintro v17 w8 ⟨hB17, xs17, xa17, xd17, rfl, hn17⟩
 obtain ⟨LL, B4⟩ := ub2 hB17 LL B4
 obtain ⟨oxa17, oxd17, _⟩ := hn17.one
 refine zY rfl rfl yN B4 rfl rfl (zV rfl (zV (by first | rfl | assumption) (zV (by first | rfl | assumption) jC))) rfl (fun w9 Cw9 B4 => ?_)
 have Lw9 := Le.of_chg (M := (Ins b4 (Ins b3 (Ins b2 M)))) Cw9 zS nF4
 obtain ⟨LL, hn17⟩ := up2 Lw9 LL hn17
 refine zA (zZ ?_)
 refine zP ⟨[_], ⟨⟨_, rfl, yW yX yN B4 rfl rfl⟩, trivial⟩, ?_⟩
 dsimp only [zX]
 subst hFz
 exact ⟨LL.below (Nat.le_refl _), _, _, _, rfl, (hn17.less (fun k c => zK (zK (zK c)))).up (by omega)⟩
theorem r8at_c {p : P2} {n0 : Nat} {xs0 xt0 : Bool} {xa0 xd0 xb0 xe0 : Value} {q : P2} {n1 : Nat} {xs1 xt1 : Bool} {xa1 xd1 xb1 xe1 : Value} {u : Rat} {n2 : Nat} {xs2 : Bool} {xa2 xd2 : Value} (h0 : PQ M w n0 p xs0 xa0 xd0 xt0 xb0 xe0) (h1 : PQ M w n1 q xs1 xa1 xd1 xt1 xb1 xe1) (h2 : QC M w n2 u xs2 xa2 xd2) (hl0 : n0 ≤ 300) (hl1 : n1 ≤ 300) (hl2 : n2 ≤ 300) (hM : OkM M w) :
    CallsV prog 34 [.agg #[.bool xs0, xa0, xd0, .bool xt0, xb0, xe0], .agg #[.bool xs1, xa1, xd1, .bool xt1, xb1, xe1], .agg #[.bool xs2, xa2, xd2]] w fun r w' => Below w.heap.size w w' ∧ ∃ xsr xar xdr xtr xbr xer, r = .agg #[.bool xsr, xar, xdr, .bool xtr, xbr, xer] ∧ PC M w' (2 * n0 + n1 + n2 + 11) (atP p q u) xsr xar xdr xtr xbr xer := by
 obtain ⟨Fz, hFz, hF, LL⟩ := fz0 M w
 obtain ⟨oxa0, oxd0, oxb0, oxe0, _⟩ := h0.one
 obtain ⟨oxa1, oxd1, oxb1, oxe1, _⟩ := h1.one
 obtain ⟨oxa2, oxd2, _⟩ := h2.one
 have hM0 := hM
 refine zQ func34 rfl ntmps34 rfl ?_
 refine zF (zD (yE rfl rfl (fun w1 b3 N3 => ?_)))
 obtain ⟨_, nF3, nM3, Lw1, B3⟩ := nza hF hM N3
 obtain ⟨LL, hM, hF, h0, h1, h2⟩ := up6 Lw1 LL hM hF h0 h1 h2
 refine yE rfl rfl (fun w2 b4 N4 => ?_)
 obtain ⟨hBw2, nF4, nM4, Lw2, B4⟩ := nza hF hM N4
 obtain ⟨B3, ne3_4⟩ := bn B3 N4
 obtain ⟨LL, hM, hF, h0, h1, h2⟩ := up6 Lw2 LL hM hF h0 h1 h2
 refine yE rfl rfl (fun w3 b5 N5 => ?_)
 obtain ⟨hBw3, nF5, nM5, Lw3, B5⟩ := nza hF hM N5
 obtain ⟨B3, ne3_5⟩ := bn B3 N5
 obtain ⟨B4, ne4_5⟩ := bn B4 N5
 obtain ⟨LL, hM, hF, h0, h1, h2⟩ := up6 Lw3 LL hM hF h0 h1 h2
 refine yJ rfl yQ (fun w4 b6 N6 => ?_)
 obtain ⟨hBw4, nF6, nM6, Lw4, B6⟩ := nza hF hM N6
 obtain ⟨B3, ne3_6⟩ := bn B3 N6
 obtain ⟨B4, ne4_6⟩ := bn B4 N6
 obtain ⟨B5, ne5_6⟩ := bn B5 N6
 obtain ⟨LL, hM, h0, h1, h2⟩ := up5 Lw4 LL hM h0 h1 h2
 refine zA (zF ?_)
 refine xK (R := Rb) (R' := Rb) (st := none) jF 6 [6, 7, 12] (by decide +kernel) xF xO (xN _) (fun _ _ _ h => by cases h) ?_
 refine zN (fun _ hR _ => zO rfl rfl (zB (zI rfl yB yQ rfl (B3.below hR) rfl rfl (on0 rfl)))) ?_
 refine zN (fun _ hR _ => zO rfl rfl (zB (zI rfl yB yQ rfl (B4.below hR) rfl rfl (on0 rfl)))) ?_
 refine zN (fun _ hR _ => zO rfl rfl (zB (zI rfl yB yQ rfl (B3.below hR) rfl rfl (on0 rfl)))) ?_
 refine zU (vPC (Ins b6 (Ins b5 (Ins b4 (Ins b3 M)))) (n1 + n0 + 5) (jG q p)) aQ (fun wq hR hst => ?_) ?_
 ·refine zJ rfl (zJ rfl (zB ?_))
  obtain ⟨hM, h0, h1⟩ := ub3 hR hM h0 h1
  refine zH rfl bod41 rfl rfl ?_
  refine (r8sub_c h1 h0 (by omega) (by omega) hM).mono ?_
  rintro v10 w5 ⟨hB10, xs10, xa10, xd10, xt10, xb10, xe10, rfl, hn10⟩
  exact zA ⟨rfl, hB10, _, rfl, ⟨_, _, _, _, _, _, rfl, hn10⟩⟩
 refine zN (fun _ hR _ => zO rfl rfl (zB (zI rfl yX yN rfl (B5.below hR) rfl rfl (on0 rfl)))) ?_
 refine zU (vPC (Ins b6 (Ins b5 (Ins b4 (Ins b3 M)))) ((n1 + n0 + 5) + n2 + 3) (bA (jG q p) u)) aQ (fun wq hR hst => ?_) ?_
 ·refine yA rfl (fun v10 hp10 => ?_)
  obtain ⟨xs10, xa10, xd10, xt10, xb10, xe10, rfl, hn10⟩ := hp10
  refine zJ rfl (zB ?_)
  obtain ⟨hM, h2⟩ := ub2 hR hM h2
  refine zH rfl bod91 rfl rfl ?_
  refine (r8scale_c hn10.gen h2 (by omega) (by omega) hM).mono ?_
  rintro v12 w6 ⟨hB12, xs12, xa12, xd12, xt12, xb12, xe12, rfl, hn12⟩
  exact zA ⟨rfl, hB12, _, rfl, ⟨_, _, _, _, _, _, rfl, hn12⟩⟩
 refine xL (fun wq1 hR1 hpost1 => ?_)
 refine zO rfl rfl (zJ rfl (yA rfl (fun v12 hp12 => ?_)))
 obtain ⟨xs12, xa12, xd12, xt12, xb12, xe12, rfl, hn12⟩ := hp12; obtain ⟨oxa12, oxd12, oxb12, oxe12, _⟩ := hn12.one
 refine zB ?_
 simp only [List.drop_succ_cons, List.drop_zero, List.drop_nil, List.toList_toArray]
 obtain ⟨LL, hM, h0, B6⟩ := ub4 hR1 LL hM h0 B6
 refine zH rfl bod29 rfl rfl ?_
 refine (r8add_c h0 hn12.gen (by omega) (by omega) hM).mono ?_
 rintro v13 w7 ⟨hB13, xs13, xa13, xd13, xt13, xb13, xe13, rfl, hn13⟩
 obtain ⟨LL, B6⟩ := ub2 hB13 LL B6
 obtain ⟨oxa13, oxd13, oxb13, oxe13, _⟩ := hn13.one
 refine zY rfl rfl yQ B6 rfl rfl (zV rfl (zV (by first | rfl | assumption) (zV (by first | rfl | assumption) (zV rfl (zV (by first | rfl | assumption) (zV (by first | rfl | assumption) jC)))))) rfl (fun w8 Cw8 B6 => ?_)
 have Lw8 := Le.of_chg (M := (Ins b6 (Ins b5 (Ins b4 (Ins b3 M))))) Cw8 zS nF6
 obtain ⟨LL, hn13⟩ := up2 Lw8 LL hn13
 refine zA (zZ ?_)
 refine zP ⟨[_], ⟨⟨_, rfl, yW yB yQ B6 rfl rfl⟩, trivial⟩, ?_⟩
 dsimp only [zX]
 subst hFz
 exact ⟨LL.below (Nat.le_refl _), _, _, _, _, _, _, rfl, (hn13.less (fun k c => zK (zK (zK (zK c))))).up (by omega)⟩
theorem r8abs_c {p : Rat} {n0 : Nat} {xs0 : Bool} {xa0 xd0 : Value} (h0 : QC M w n0 p xs0 xa0 xd0) (hl0 : n0 ≤ 950) (hM : OkM M w) :
    CallsV prog 156 [.agg #[.bool xs0, xa0, xd0]] w fun r w' => Below w.heap.size w w' ∧ ∃ xsr xar xdr, r = .agg #[.bool xsr, xar, xdr] ∧ RC M w' (n0 + 7) (hH p) xsr xar xdr := by
 obtain ⟨Fz, hFz, hF, LL⟩ := fz0 M w
 obtain ⟨oxa0, oxd0, _⟩ := h0.one
 have hM0 := hM
 refine zQ func156 rfl ntmps156 rfl ?_
 refine zF (zD (yE rfl rfl (fun w1 b1 N1 => ?_)))
 obtain ⟨_, nF1, nM1, Lw1, B1⟩ := nza hF hM N1
 obtain ⟨LL, hM, hF, h0⟩ := up4 Lw1 LL hM hF h0
 refine yJ rfl yN (fun w2 b2 N2 => ?_)
 obtain ⟨hBw2, nF2, nM2, Lw2, B2⟩ := nza hF hM N2
 obtain ⟨B1, ne1_2⟩ := bn B1 N2
 obtain ⟨LL, hM, h0⟩ := up3 Lw2 LL hM h0
 refine zA (zF (zF (zD (zI rfl yX yN rfl B1 rfl rfl (zH rfl bod32 rfl rfl ?_)))))
 refine (r7sign_c h0 (by omega) hM).mono ?_
 rintro v4 w3 ⟨hB4, rfl⟩
 obtain ⟨LL, hM, h0, B1, B2⟩ := ub5 hB4 LL hM h0 B1 B2
 refine jP rfl rfl rfl (zA ?_)
 refine yF rfl (fun hc0 => ?_) (fun hc0 => ?_)
 ·refine zF ?_
  refine xK (R := Rb) (R' := Rb) (st := none) jF 2 [1, 2, 6, 7] (by decide +kernel) xF xO (xN _) (fun _ _ _ h => by cases h) ?_
  refine zU (vRC (Ins b2 (Ins b1 M)) (2) (((0 : Nat) : Rat))) uD (fun wq hR hst => ?_) ?_
  ·refine zB ?_
   replace hM := ub1 hR hM
   refine zH rfl fN rfl rfl ?_
   refine (dW (k := 0)  (by omega) hM).mono ?_
   rintro v6 w4 ⟨hB6, xs6, xa6, xd6, rfl, hn6⟩
   exact zA ⟨rfl, hB6, _, rfl, ⟨_, _, _, rfl, hn6⟩⟩
  refine zN (fun _ hR _ => zO rfl rfl (zB (zI rfl yX yN rfl (B1.below hR) rfl rfl (on0 rfl)))) ?_
  refine xL (fun wq2 hR2 hpost2 => ?_)
  refine zO rfl rfl (zO rfl rfl (yA rfl (fun v6 hp6 => ?_)))
  obtain ⟨xs6, xa6, xd6, rfl, hn6⟩ := hp6; obtain ⟨oxa6, oxd6, _⟩ := hn6.one
  refine zJ rfl (zB ?_)
  simp only [List.drop_succ_cons, List.drop_zero, List.drop_nil, List.toList_toArray]
  obtain ⟨LL, hM, h0, B2⟩ := ub4 hR2 LL hM h0 B2
  refine zH rfl bod22 rfl rfl ?_
  refine (r7sub_c hn6.gen h0 (by omega) (by omega) hM).mono ?_
  rintro v8 w5 ⟨hB8, xs8, xa8, xd8, rfl, hn8⟩
  obtain ⟨LL, B2⟩ := ub2 hB8 LL B2
  obtain ⟨oxa8, oxd8, _⟩ := hn8.one
  refine zY rfl rfl yN B2 rfl rfl (zV rfl (zV (by first | rfl | assumption) (zV (by first | rfl | assumption) jC))) rfl (fun w6 Cw6 B2 => ?_)
  have Lw6 := Le.of_chg (M := (Ins b2 (Ins b1 M))) Cw6 zS nF2
  obtain ⟨LL, hn8⟩ := up2 Lw6 LL hn8
  refine zA (zZ ?_)
  refine zP ⟨[_], ⟨⟨_, rfl, yW yX yN B2 rfl rfl⟩, trivial⟩, ?_⟩
  dsimp only [zX]
  rw [absR_neg hc0]
  subst hFz
  exact ⟨LL.below (Nat.le_refl _), _, _, _, rfl, (hn8.less (fun k c => zK (zK c))).up (by omega)⟩
 ·refine yP (zF (zD (zI rfl yX yN rfl B1 rfl rfl (zH rfl fX rfl rfl ?_))))
  refine (cK h0 (by omega) hM).mono ?_
  rintro v10 w7 ⟨hB10, xs10, xa10, xd10, rfl, hn10⟩
  obtain ⟨LL, B2⟩ := ub2 hB10 LL B2
  obtain ⟨oxa10, oxd10, _⟩ := hn10.one
  refine zY rfl rfl yN B2 rfl rfl (zV rfl (zV (by first | rfl | assumption) (zV (by first | rfl | assumption) jC))) rfl (fun w8 Cw8 B2 => ?_)
  have Lw8 := Le.of_chg (M := (Ins b2 (Ins b1 M))) Cw8 zS nF2
  obtain ⟨LL, hn10⟩ := up2 Lw8 LL hn10
  refine zA (zZ ?_)
  refine zP ⟨[_], ⟨⟨_, rfl, yW yX yN B2 rfl rfl⟩, trivial⟩, ?_⟩
  dsimp only [zX]
  rw [absR_pos hc0]
  subst hFz
  exact ⟨LL.below (Nat.le_refl _), _, _, _, rfl, (hn10.less (fun k c => zK (zK c))).up (by omega)⟩
theorem dK {p : P2} {n0 : Nat} {xs0 xt0 : Bool} {xa0 xd0 xb0 xe0 : Value} {q : P2} {n1 : Nat} {xs1 xt1 : Bool} {xa1 xd1 xb1 xe1 : Value} (h0 : PQ M w n0 p xs0 xa0 xd0 xt0 xb0 xe0) (h1 : PQ M w n1 q xs1 xa1 xd1 xt1 xb1 xe1) (hl0 : n0 ≤ 470) (hl1 : n1 ≤ 470) (hM : OkM M w) :
    CallsV prog 92 [.agg #[.bool xs0, xa0, xd0, .bool xt0, xb0, xe0], .agg #[.bool xs1, xa1, xd1, .bool xt1, xb1, xe1]] w fun r w' => Below w.heap.size w w' ∧ ∃ xsr xar xdr, r = .agg #[.bool xsr, xar, xdr] ∧ RC M w' (2 * n0 + 2 * n1 + 27) (aB p q) xsr xar xdr := by
 obtain ⟨Fz, hFz, hF, LL⟩ := fz0 M w
 obtain ⟨oxa0, oxd0, oxb0, oxe0, _⟩ := h0.one
 obtain ⟨oxa1, oxd1, oxb1, oxe1, _⟩ := h1.one
 have hM0 := hM
 refine zQ func92 rfl ntmps92 rfl ?_
 refine zF (zD (yE rfl rfl (fun w1 b2 N2 => ?_)))
 obtain ⟨_, nF2, nM2, Lw1, B2⟩ := nza hF hM N2
 obtain ⟨LL, hM, hF, h0, h1⟩ := up5 Lw1 LL hM hF h0 h1
 refine yE rfl rfl (fun w2 b3 N3 => ?_)
 obtain ⟨hBw2, nF3, nM3, Lw2, B3⟩ := nza hF hM N3
 obtain ⟨B2, ne2_3⟩ := bn B2 N3
 obtain ⟨LL, hM, hF, h0, h1⟩ := up5 Lw2 LL hM hF h0 h1
 refine yJ rfl yN (fun w3 b4 N4 => ?_)
 obtain ⟨hBw3, nF4, nM4, Lw3, B4⟩ := nza hF hM N4
 obtain ⟨B2, ne2_4⟩ := bn B2 N4
 obtain ⟨B3, ne3_4⟩ := bn B3 N4
 obtain ⟨LL, hM, hF, h0, h1⟩ := up5 Lw3 LL hM hF h0 h1
 refine zA (zF (zD (zI rfl yB yQ rfl B2 rfl rfl (zI rfl yB yQ rfl B3 rfl rfl (zH rfl bod41 rfl rfl ?_)))))
 refine (r8sub_c h0 h1 (by omega) (by omega) hM).mono ?_
 rintro v8 w4 ⟨hB8, xs8, xa8, xd8, xt8, xb8, xe8, rfl, hn8⟩
 obtain ⟨LL, hM, hF, h0, B2, B3, B4⟩ := ub7 hB8 LL hM hF h0 B2 B3 B4
 obtain ⟨oxa8, oxd8, oxb8, oxe8, _⟩ := hn8.one
 refine yJ rfl yQ (fun w5 b5 N5 => ?_)
 obtain ⟨hBw5, nF5, nM5, Lw5, B5⟩ := nza hF hM N5
 have lt2_5 := B2.lt
 have ne2_5 := N5.ne lt2_5
 have lt3_5 := B3.lt
 have ne3_5 := N5.ne lt3_5
 obtain ⟨B4, ne4_5⟩ := bn B4 N5
 obtain ⟨LL, hM, h0, hn8⟩ := up4 Lw5 LL hM h0 hn8
 refine zY rfl rfl yQ B5 rfl rfl (zV rfl (zV (by first | rfl | assumption) (zV (by first | rfl | assumption) (zV rfl (zV (by first | rfl | assumption) (zV (by first | rfl | assumption) jC)))))) rfl (fun w6 Cw6 B5 => ?_)
 have Lw6 := Le.of_chg (M := (Ins b5 (Ins b4 (Ins b3 (Ins b2 M))))) Cw6 zS nF5
 obtain ⟨LL, hM, h0, hn8⟩ := up4 Lw6 LL hM h0 hn8
 replace B4 := B4.other Cw6 ne4_5
 refine zA (zF ?_)
 refine xK (R := Rb) (R' := Rb) (st := none) jF 5 [4, 11, 13] (by decide +kernel) xF xO (xN _) (fun _ _ _ h => by cases h) ?_
 refine zN (fun _ _ _ => zO rfl rfl (zB (zL 0 rfl yu39 rfl rfl yN rfl rfl (on0 rfl)))) ?_
 refine zN (fun _ hR _ => zJ rfl (zB (zI rfl yX yN rfl (B5.below hR) rfl rfl (on0 rfl)))) ?_
 refine zU (vRC (Ins b5 (Ins b4 (Ins b3 (Ins b2 M)))) ((n0 + n1 + 5) + 7) (hH ((jG p q).1))) uD (fun wq hR hst => ?_) ?_
 ·refine zJ rfl (zB ?_)
  obtain ⟨hM, hn8⟩ := ub2 hR hM hn8
  refine zH rfl bod156 rfl rfl ?_
  refine (r8abs_c hn8.x.gen (by omega) hM).mono ?_
  rintro v11 w7 ⟨hB11, xs11, xa11, xd11, rfl, hn11⟩
  exact zA ⟨rfl, hB11, _, rfl, ⟨_, _, _, rfl, hn11⟩⟩
 refine zN (fun _ _ _ => zO rfl rfl (zB (zL 3 rfl yu39 rfl rfl yN rfl rfl (on0 rfl)))) ?_
 refine zN (fun _ hR _ => zJ rfl (zB (zI rfl yX yN rfl (B5.below hR) rfl rfl (on0 rfl)))) ?_
 refine xL (fun wq2 hR2 hpost2 => ?_)
 refine zO rfl rfl (yA rfl (fun v11 hp11 => ?_))
 obtain ⟨xs11, xa11, xd11, rfl, hn11⟩ := hp11; obtain ⟨oxa11, oxd11, _⟩ := hn11.one
 refine zJ rfl (zB ?_)
 simp only [List.drop_succ_cons, List.drop_zero, List.drop_nil, List.toList_toArray]
 obtain ⟨LL, hM, hn8, B4⟩ := ub4 hR2 LL hM hn8 B4
 refine zH rfl bod156 rfl rfl ?_
 refine (r8abs_c hn8.y.gen (by omega) hM).mono ?_
 rintro v14 w8 ⟨hB14, xs14, xa14, xd14, rfl, hn14⟩
 obtain ⟨LL, hM, hn11, B4⟩ := ub4 hB14 LL hM hn11 B4
 obtain ⟨oxa14, oxd14, _⟩ := hn14.one
 refine yY rfl yu22 yN rfl rfl rfl rfl (zW rfl (zW rfl xC)) rfl rfl rfl (fun w9 b15 N15 => ?_)
 have hBw9 := N15.below
 have nM15 := hM.new N15
 have B15 := N15.blk
 obtain ⟨LL, hM, hn11, hn14, B4⟩ := ub5 hBw9 LL hM hn11 hn14 B4
 refine zH rfl fY rfl rfl ?_
 refine (eP (KBlk.mk B15 nM15) hn11.gen hn14.gen (by omega) (by omega) hM).mono ?_
 rintro v16 w10 ⟨hB16, xs16, xa16, xd16, rfl, hn16⟩
 obtain ⟨LL, B4⟩ := ub2 hB16 LL B4
 obtain ⟨oxa16, oxd16, _⟩ := hn16.one
 refine zY rfl rfl yN B4 rfl rfl (zV rfl (zV (by first | rfl | assumption) (zV (by first | rfl | assumption) jC))) rfl (fun w11 Cw11 B4 => ?_)
 have Lw11 := Le.of_chg (M := (Ins b5 (Ins b4 (Ins b3 (Ins b2 M))))) Cw11 (.inr zS) nF4
 obtain ⟨LL, hn16⟩ := up2 Lw11 LL hn16
 refine zA (zZ ?_)
 refine zP ⟨[_], ⟨⟨_, rfl, yW yX yN B4 rfl rfl⟩, trivial⟩, ?_⟩
 dsimp only [zX]
 subst hFz
 exact ⟨LL.below (Nat.le_refl _), _, _, _, rfl, (hn16.less (fun k c => zK (zK (zK (zK c))))).up (by omega)⟩
theorem r8cmp_c {p : P2} {n0 : Nat} {xs0 xt0 : Bool} {xa0 xd0 xb0 xe0 : Value} {q : P2} {n1 : Nat} {xs1 xt1 : Bool} {xa1 xd1 xb1 xe1 : Value} (h0 : PQ M w n0 p xs0 xa0 xd0 xt0 xb0 xe0) (h1 : PQ M w n1 q xs1 xa1 xd1 xt1 xb1 xe1) (hl0 : n0 ≤ 1990) (hl1 : n1 ≤ 1990) (hM : OkM M w) :
    CallsV prog 36 [.agg #[.bool xs0, xa0, xd0, .bool xt0, xb0, xe0], .agg #[.bool xs1, xa1, xd1, .bool xt1, xb1, xe1]] w fun r w' => Below w.heap.size w w' ∧ r = .int .i64 (aC p q) := by
 obtain ⟨Fz, hFz, hF, LL⟩ := fz0 M w
 have hM0 := hM
 refine zQ func36 rfl ntmps36 rfl ?_
 refine zF (zD (yE rfl rfl (fun w1 b2 N2 => ?_)))
 obtain ⟨_, nF2, nM2, Lw1, B2⟩ := nza hF hM N2
 obtain ⟨LL, hM, hF, h0, h1⟩ := up5 Lw1 LL hM hF h0 h1
 refine yE rfl rfl (fun w2 b3 N3 => ?_)
 obtain ⟨hBw2, nF3, nM3, Lw2, B3⟩ := nza hF hM N3
 obtain ⟨B2, ne2_3⟩ := bn B2 N3
 obtain ⟨LL, hM, h0, h1⟩ := up4 Lw2 LL hM h0 h1
 refine zE rfl rfl (zA (zF (zD (zL 0 rfl yu39 rfl rfl yN rfl rfl (zI rfl yX yN rfl B2 rfl rfl (zL 0 rfl yu39 rfl rfl yN rfl rfl (zI rfl yX yN rfl B3 rfl rfl (zH rfl bod33 rfl rfl ?_))))))))
 refine (r7cmp_c h0.x h1.x (by omega) (by omega) hM).mono ?_
 rintro v10 w3 ⟨hB10, rfl⟩
 obtain ⟨LL, hM, h0, h1, B2, B3⟩ := ub6 hB10 LL hM h0 h1 B2 B3
 refine zE rfl rfl (zA (zF (zF (zD (zC rfl rfl (bB rfl rfl rfl (zA ?_)))))))
 refine yF rfl (fun hc0 => ?_) (fun hc0 => ?_)
 ·have hcc : aC p q = aY p.1 q.1 := if_pos hc0
  refine zF (zD (zC rfl rfl (zE rfl rfl (zA (zZ ?_)))))
  refine zP ⟨[_], ⟨rfl, trivial⟩, ?_⟩
  dsimp only [zX]
  rw [hcc]
  subst hFz
  exact ⟨LL.below (Nat.le_refl _), rfl⟩
 ·have hcc : aC p q = aY p.2 q.2 := if_neg hc0
  refine yP (zF (zD (zL 3 rfl yu39 rfl rfl yN rfl rfl (zI rfl yX yN rfl B2 rfl rfl (zL 3 rfl yu39 rfl rfl yN rfl rfl (zI rfl yX yN rfl B3 rfl rfl (zH rfl bod33 rfl rfl ?_)))))))
  refine (r7cmp_c h0.y h1.y (by omega) (by omega) hM).mono ?_
  rintro v18 w4 ⟨hB18, rfl⟩
  replace LL := ub1 hB18 LL
  refine zE rfl rfl (zA (zZ ?_))
  refine zP ⟨[_], ⟨rfl, trivial⟩, ?_⟩
  dsimp only [zX]
  rw [hcc]
  subst hFz
  exact ⟨LL.below (Nat.le_refl _), rfl⟩
theorem r8same_c {p : P2} {n0 : Nat} {xs0 xt0 : Bool} {xa0 xd0 xb0 xe0 : Value} {q : P2} {n1 : Nat} {xs1 xt1 : Bool} {xa1 xd1 xb1 xe1 : Value} (h0 : PQ M w n0 p xs0 xa0 xd0 xt0 xb0 xe0) (h1 : PQ M w n1 q xs1 xa1 xd1 xt1 xb1 xe1) (hl0 : n0 ≤ 1990) (hl1 : n1 ≤ 1990) (hM : OkM M w) :
    CallsV prog 38 [.agg #[.bool xs0, xa0, xd0, .bool xt0, xb0, xe0], .agg #[.bool xs1, xa1, xd1, .bool xt1, xb1, xe1]] w fun r w' => Below w.heap.size w w' ∧ r = .bool (decide (aC p q = 0)) := by
 obtain ⟨Fz, hFz, hF, LL⟩ := fz0 M w
 have hM0 := hM
 refine zQ func38 rfl ntmps38 rfl ?_
 refine zF (zD (yE rfl rfl (fun w1 b2 N2 => ?_)))
 obtain ⟨_, nF2, nM2, Lw1, B2⟩ := nza hF hM N2
 obtain ⟨LL, hM, hF, h0, h1⟩ := up5 Lw1 LL hM hF h0 h1
 refine yE rfl rfl (fun w2 b3 N3 => ?_)
 obtain ⟨hBw2, nF3, nM3, Lw2, B3⟩ := nza hF hM N3
 obtain ⟨B2, ne2_3⟩ := bn B2 N3
 obtain ⟨LL, hM, h0, h1⟩ := up4 Lw2 LL hM h0 h1
 refine zE rfl rfl (zA (zF (zD (zI rfl yB yQ rfl B2 rfl rfl (zI rfl yB yQ rfl B3 rfl rfl (zH rfl bod36 rfl rfl ?_))))))
 refine (r8cmp_c h0 h1 (by omega) (by omega) hM).mono ?_
 rintro v7 w3 ⟨hB7, rfl⟩
 replace LL := ub1 hB7 LL
 refine gF rfl rfl rfl (zE rfl rfl (zA (zZ ?_)))
 refine zP ⟨[_], ⟨rfl, trivial⟩, ?_⟩
 dsimp only [zX]
 subst hFz
 exact ⟨LL.below (Nat.le_refl _), rfl⟩
theorem r8alike_c {p : P2} {n0 : Nat} {xs0 xt0 : Bool} {xa0 xd0 xb0 xe0 : Value} {q : P2} {n1 : Nat} {xs1 xt1 : Bool} {xa1 xd1 xb1 xe1 : Value} (h0 : PC M w n0 p xs0 xa0 xd0 xt0 xb0 xe0) (h1 : PC M w n1 q xs1 xa1 xd1 xt1 xb1 xe1) (hl0 : n0 ≤ 20000) (hl1 : n1 ≤ 20000) (hM : OkM M w) :
    CallsV prog 30 [.agg #[.bool xs0, xa0, xd0, .bool xt0, xb0, xe0], .agg #[.bool xs1, xa1, xd1, .bool xt1, xb1, xe1]] w fun r w' => Below w.heap.size w w' ∧ r = .bool (decide (p = q)) := by
 obtain ⟨Fz, hFz, hF, LL⟩ := fz0 M w
 have hM0 := hM
 refine zQ func30 rfl ntmps30 rfl ?_
 refine zF (zD (yE rfl rfl (fun w1 b2 N2 => ?_)))
 obtain ⟨_, nF2, nM2, Lw1, B2⟩ := nza hF hM N2
 obtain ⟨LL, hM, hF, h0, h1⟩ := up5 Lw1 LL hM hF h0 h1
 refine yE rfl rfl (fun w2 b3 N3 => ?_)
 obtain ⟨hBw2, nF3, nM3, Lw2, B3⟩ := nza hF hM N3
 obtain ⟨B2, ne2_3⟩ := bn B2 N3
 obtain ⟨LL, hM, h0, h1⟩ := up4 Lw2 LL hM h0 h1
 refine zE rfl rfl (zA (zF (zD (zL 0 rfl yu39 rfl rfl yN rfl rfl (zI rfl yX yN rfl B2 rfl rfl (zL 0 rfl yu39 rfl rfl yN rfl rfl (zI rfl yX yN rfl B3 rfl rfl (zH rfl bod74 rfl rfl ?_))))))))
 refine (r7told_c h0.x h1.x (by omega) (by omega) hM).mono ?_
 rintro v9 w3 ⟨hB9, rfl⟩
 obtain ⟨LL, hM, h0, h1, B2, B3⟩ := ub6 hB9 LL hM h0 h1 B2 B3
 refine zC rfl rfl (jY (d := 10) rfl (fun hg1_5 => ?_) (fun hg1_5 => ?_))
 ·refine zM rfl rfl (zL 3 rfl yu39 rfl rfl yN rfl rfl (zM rfl rfl (zI rfl yX yN rfl B2 rfl rfl (zM rfl rfl (zL 3 rfl yu39 rfl rfl yN rfl rfl (zM rfl rfl (zI rfl yX yN rfl B3 rfl rfl (zM rfl rfl (zH rfl bod74 rfl rfl ?_)))))))))
  refine (r7told_c h0.y h1.y (by omega) (by omega) hM).mono ?_
  rintro v15 w4 ⟨hB15, rfl⟩
  replace LL := ub1 hB15 LL
  refine yS rfl rfl rfl (zE rfl rfl (zA (zZ ?_)))
  refine zP ⟨[_], ⟨rfl, trivial⟩, ?_⟩
  dsimp only [zX]
  rw [← alike_t hg1_5]
  subst hFz
  exact ⟨LL.below (Nat.le_refl _), rfl⟩
 ·refine zR rfl rfl rfl rfl (zR rfl rfl rfl rfl (zR rfl rfl rfl rfl (zR rfl rfl rfl rfl (zR rfl rfl rfl rfl (yS rfl rfl rfl (zE rfl rfl (zA (zZ ?_))))))))
  refine zP ⟨[_], ⟨rfl, trivial⟩, ?_⟩
  dsimp only [zX]
  rw [alike_f hg1_5]
  subst hFz
  exact ⟨LL.below (Nat.le_refl _), rfl⟩
theorem r10alike_c {k : Int} {p : P2} {n0 : Nat} {xs0 xt0 : Bool} {xa0 xd0 xb0 xe0 : Value} {q : P2} {n0b : Nat} {xs0b xt0b : Bool} {xa0b xd0b xb0b xe0b : Value} {l : Int} {u : P2} {n1 : Nat} {xs1 xt1 : Bool} {xa1 xd1 xb1 xe1 : Value} {z : P2} {n1b : Nat} {xs1b xt1b : Bool} {xa1b xd1b xb1b xe1b : Value} (h0 : PC M w n0 p xs0 xa0 xd0 xt0 xb0 xe0) (h0b : PC M w n0b q xs0b xa0b xd0b xt0b xb0b xe0b) (h1 : PC M w n1 u xs1 xa1 xd1 xt1 xb1 xe1) (h1b : PC M w n1b z xs1b xa1b xd1b xt1b xb1b xe1b) (hl0 : n0 ≤ 20000) (hl0b : n0b ≤ 20000) (hl1 : n1 ≤ 20000) (hl1b : n1b ≤ 20000) (hM : OkM M w) :
    CallsV prog 27 [.agg #[.int .i8 k, .bool xs0, xa0, xd0, .bool xt0, xb0, xe0, .bool xs0b, xa0b, xd0b, .bool xt0b, xb0b, xe0b], .agg #[.int .i8 l, .bool xs1, xa1, xd1, .bool xt1, xb1, xe1, .bool xs1b, xa1b, xd1b, .bool xt1b, xb1b, xe1b]] w fun r w' => Below w.heap.size w w' ∧ r = .bool (decide ((k, p, q) = (l, u, z))) := by
 obtain ⟨Fz, hFz, hF, LL⟩ := fz0 M w
 have hM0 := hM
 refine zQ func27 rfl ntmps27 rfl ?_
 refine zF (zD (yE rfl rfl (fun w1 b2 N2 => ?_)))
 obtain ⟨_, nF2, nM2, Lw1, B2⟩ := nza hF hM N2
 obtain ⟨LL, hM, hF, h0, h0b, h1, h1b⟩ := up7 Lw1 LL hM hF h0 h0b h1 h1b
 refine yE rfl rfl (fun w2 b3 N3 => ?_)
 obtain ⟨hBw2, nF3, nM3, Lw2, B3⟩ := nza hF hM N3
 obtain ⟨B2, ne2_3⟩ := bn B2 N3
 obtain ⟨LL, hM, h0, h0b, h1, h1b⟩ := up6 Lw2 LL hM h0 h0b h1 h1b
 refine zE rfl rfl (zA (zF (zD (zL 0 rfl yu43 rfl rfl iJ rfl rfl (zT rfl dX rfl B2 rfl (zL 0 rfl yu43 rfl rfl iJ rfl rfl (zT rfl dX rfl B3 rfl (gF rfl rfl rfl (zC rfl rfl (jY (d := 10) rfl (fun hg1_5 => ?_) (fun hg1_5 => ?_)))))))))))
 ·refine zM rfl rfl (zL 1 rfl yu43 rfl rfl yQ rfl rfl (zM rfl rfl (zI rfl yB yQ rfl B2 rfl rfl (zM rfl rfl (zL 1 rfl yu43 rfl rfl yQ rfl rfl (zM rfl rfl (zI rfl yB yQ rfl B3 rfl rfl (zM rfl rfl (zH rfl bod30 rfl rfl ?_)))))))))
  refine (r8alike_c h0 h1 (by omega) (by omega) hM).mono ?_
  rintro v15 w3 ⟨hB15, rfl⟩
  obtain ⟨LL, hM, h0b, h1b, B2, B3⟩ := ub6 hB15 LL hM h0b h1b B2 B3
  refine yS rfl rfl rfl (zC rfl rfl (jY (d := 17) rfl (fun hg1_12 => ?_) (fun hg1_12 => ?_)))
  ·refine zM rfl rfl (zL 7 rfl yu43 rfl rfl yQ rfl rfl (zM rfl rfl (zI rfl yB yQ rfl B2 rfl rfl (zM rfl rfl (zL 7 rfl yu43 rfl rfl yQ rfl rfl (zM rfl rfl (zI rfl yB yQ rfl B3 rfl rfl (zM rfl rfl (zH rfl bod30 rfl rfl ?_)))))))))
   refine (r8alike_c h0b h1b (by omega) (by omega) hM).mono ?_
   rintro v22 w4 ⟨hB22, rfl⟩
   replace LL := ub1 hB22 LL
   refine yS rfl rfl rfl (zE rfl rfl (zA (zZ ?_)))
   refine zP ⟨[_], ⟨rfl, trivial⟩, ?_⟩
   dsimp only [zX]
   rw [show decide ((k, p, q) = (l, u, z)) = decide (q = z) by simp [hg1_5, hg1_12]]
   subst hFz
   exact ⟨LL.below (Nat.le_refl _), rfl⟩
  ·refine zR rfl rfl rfl rfl (zR rfl rfl rfl rfl (zR rfl rfl rfl rfl (zR rfl rfl rfl rfl (zR rfl rfl rfl rfl (yS rfl rfl rfl (zE rfl rfl (zA (zZ ?_))))))))
   refine zP ⟨[_], ⟨rfl, trivial⟩, ?_⟩
   dsimp only [zX]
   rw [show decide ((k, p, q) = (l, u, z)) = false by simp [hg1_12]]
   subst hFz
   exact ⟨LL.below (Nat.le_refl _), rfl⟩
 ·refine zR rfl rfl rfl rfl (zR rfl rfl rfl rfl (zR rfl rfl rfl rfl (zR rfl rfl rfl rfl (zR rfl rfl rfl rfl (yS rfl rfl rfl (zC rfl rfl (zR rfl rfl rfl rfl (zR rfl rfl rfl rfl (zR rfl rfl rfl rfl (zR rfl rfl rfl rfl (zR rfl rfl rfl rfl (yS rfl rfl rfl (zE rfl rfl (zA ?_))))))))))))))
  refine zZ ?_
  refine zP ⟨[_], ⟨rfl, trivial⟩, ?_⟩
  dsimp only [zX]
  rw [show decide ((k, p, q) = (l, u, z)) = false by simp [hg1_5]]
  subst hFz
  exact ⟨LL.below (Nat.le_refl _), rfl⟩
end Go.Proofs.YtfkejnlohkgbgaaGreatDoor
set_option maxRecDepth 100000
namespace Go.Proofs.YtfkejnlohkgbgaaGreatDoor
open Go.SL Go.RowKit Go.Proofs Tryz
variable {M : Nat → Prop} {w : World}
abbrev N4 := Nat × Nat × Nat × Nat
def m4 (k : N4) : Nat := max (max (max k.1 k.2.1) k.2.2.1) k.2.2.2
structure Q4 (M : Nat → Prop) (w : World) (n : Nat) (q : N4) (s : Bool) (a d : Value) (t : Bool) (b e : Value) : Prop where
  a : ∃ p c, a = .slice p q.1 c
  d : ∃ p c, d = .slice p q.2.1 c
  b : ∃ p c, b = .slice p q.2.2.1 c
  e : ∃ p c, e = .slice p q.2.2.2 c
theorem Q4.mono {M M' : Nat → Prop} {w w' : World} {n : Nat} {q : N4} {s : Bool} {a d : Value} {t : Bool} {b e : Value} {Fz : Nat → Prop} (h : Q4 M w n q s a d t b e) (l : Le Fz M w M' w') : Q4 M' w' n q s a d t b e := ⟨h.a, h.d, h.b, h.e⟩
theorem Q4.one {n : Nat} {q : N4} {s : Bool} {a d : Value} {t : Bool} {b e : Value} (h : Q4 M w n q s a d t b e) : a.oneCell' = true ∧ d.oneCell' = true ∧ b.oneCell' = true ∧ e.oneCell' = true ∧ True := by
  obtain ⟨⟨_, _, rfl⟩, ⟨_, _, rfl⟩, ⟨_, _, rfl⟩, ⟨_, _, rfl⟩⟩ := h; exact ⟨rfl, rfl, rfl, rfl, trivial⟩
def RQ4 (n : Nat) : cX N4 := fun M w q us => ∃ s a d t b e, us = [.bool s, a, d, .bool t, b, e] ∧ Q4 M w n q s a d t b e
structure Q4L (M : Nat → Prop) (w : World) (n : Nat) (q : List N4) (v : Value) : Prop where
  row : RowOf (RQ4 n) 6 M w v q
theorem Q4L.mono {M M' : Nat → Prop} {w w' : World} {n : Nat} {q : List N4} {v : Value} {Fz : Nat → Prop} (h : Q4L M w n q v) (l : Le Fz M w M' w') : Q4L M' w' n q v := ⟨h.row.mono l (fun _ _ ⟨a, b, c, d, e, f, e0, h0⟩ => ⟨a, b, c, d, e, f, e0, h0.mono l⟩)⟩
theorem Q4L.one {n : Nat} {q : List N4} {v : Value} (h : Q4L M w n q v) : v.oneCell' = true ∧ True := by obtain ⟨_, ⟨_, _, ad, cap, rfl, _⟩, _⟩ := h.row; exact ⟨rfl, trivial⟩
theorem getD_mem {α : Type} {l : List α} {s : Nat} (d : α) (h : s < l.length) : l.getD s d ∈ l := by rw [List.getD_eq_getElem?_getD, List.getElem?_eq_getElem h]; exact List.getElem_mem h
def fU (l : List N4) : Bool := decide (∃ x ∈ l, 2 < m4 x)
theorem longB_take {l : List N4} {s : Nat} (h : s < l.length) (hs : ∀ x ∈ l.take s, ¬ 2 < m4 x) (hx : ¬ 2 < m4 (l.getD s (0, 0, 0, 0))) : ∀ x ∈ l.take (s + 1), ¬ 2 < m4 x := by
  rw [(qR (0, 0, 0, 0) h).1]
  intro x hx2
  rcases List.mem_append.1 hx2 with c | c
  · exact hs x c
  · rw [List.mem_singleton.1 c]; exact hx
section
variable {P : Program} {r : Option Nat} {N : Nat} {all : Array Oper} {K : Pd} {D : List Deferred} {E : Env} {w : World} {rest : List Oper}
theorem ops_max4 {d : Nat} {x y z u : Operand} {ts : Array TypeId} {t' : TypeId} {pos : String} {af : Array Edge} {k : IntKind} {a b c e : Nat} (hd : Nat.blt d N = true)
    (hx : ev E x = some (.int k (a : Int))) (hy : ev E y = some (.int k (b : Int))) (hz : ev E z = some (.int k (c : Int))) (hu : ev E u = some (.int k (e : Int)))
    (h : Ops P r N all K rest D ((d, .int k ((m4 (a, b, c, e) : Nat) : Int)) :: E) w) : Ops P r N all K (⟨some d, .call ⟨.builtin .max, #[x, y, z, u], ts⟩, t', pos, af, none⟩ :: rest) D E w :=
  jJ hd (by intro c hc; cases hc) (fun ac ha => by
    have e1 : (Builtin.max_ ts t' #[.int k (a : Int), .int k (b : Int), .int k (c : Int), .int k (e : Int)]).run P w = .ok (.int k ((m4 (a, b, c, e) : Nat) : Int)) w := by
      have : (let m1 := if (b : Int) > (a : Int) then (b : Int) else a; let m2 := if (c : Int) > m1 then (c : Int) else m1; if (e : Int) > m2 then (e : Int) else m2) = ((m4 (a, b, c, e) : Nat) : Int) := by
        unfold m4; simp only; split <;> split <;> split <;> omega
      rw [← this]; rfl
    simp only [execOp, resolve, invoke, builtin, Sem.run_bind, Sem.run_pure, Result.andThen, List.map_toArray, List.map_cons, List.map_nil, ha.ev hx, ha.ev hy, ha.ev hz, ha.ev hu]
    rw [e1]) h
end
theorem long_c {l : List N4} {n0 : Nat} {xa0 : Value} (h0 : Q4L M w n0 l xa0) (hl0 : n0 ≤ 20000) (hlen : l.length ≤ 1000) (hM : OkM M w) :
    CallsV prog 24 [xa0] w fun r w' => Below w.heap.size w w' ∧ r = .bool (fU l) := by
 obtain ⟨Fz, hFz, hF, LL⟩ := fz0 M w
 obtain ⟨oxa0, _⟩ := h0.one
 have hM0 := hM
 refine zQ func24 rfl ntmps24 rfl ?_
 refine zF (zD (zE rfl rfl (zA (zF (zF (zD (zE rfl rfl (zA (yM ?_)))))))))
 refine jB (σ := Nat) [(0, _)] (fun s => [(3, .int .i64 ((s : Nat) : Int))]) (fun s w1 => Le Fz M w M w1 ∧ s ≤ l.length ∧ ∀ x ∈ l.take s, ¬ 2 < m4 x) (fun s => l.length - s) (0) (zG rfl (zG rfl yO)) ?_ (fun s w1 hJ => ?_)
 · exact ⟨Le.refl _ _ _, by omega, by simp⟩
 ·obtain ⟨LR, hk, hs⟩ := hJ
  replace LL := LL.trans LR
  replace hM := hM.mono LR
  replace hF := hF.mono LR
  replace h0 := h0.mono LR
  refine zF (zF (zD (zC rfl rfl (zC rfl rfl (aX rfl yu63 rfl h0.row (jP rfl rfl rfl (zA ?_)))))))
  refine yF rfl (fun hc0 => ?_) (fun hc0 => ?_)
  ·refine yP (zF (yM (zF ?_)))
   refine xK (R := Rb) (R' := Rb) (st := none) jF 30 [0, 3, 4, 5, 6, 7, 10, 11, 12, 13, 14, 15, 16, 17, 18, 19, 20, 21, 22, 23, 24, 25, 26, 27, 28, 29, 30, 31, 32, 33, 34, 35, 36, 37, 38, 39] (qC (by decide +kernel)) xF xO (xN _) (fun _ _ _ h => by cases h) ?_
   refine zU (fun v w => ∃ xa10, v = xa10 ∧ Q4L M w (n0) (l) xa10) (fun _ _ _ ⟨xa10, e, h0⟩ r => ⟨xa10, e, h0.mono (Fz := fun _ => False) (Le.of_below r)⟩) (fun wq hR hst => ?_) ?_
   ·refine zO rfl rfl (zB ?_)
    have Lq := Le.of_below (Fz := Fz) (M := M) hR
    replace h0 := h0.mono Lq
    refine zC rfl rfl ?_
    exact zA ⟨rfl, yR _, _, rfl, ⟨_, rfl, h0⟩⟩
   refine zN (fun _ _ _ => zO rfl rfl (zB (zC rfl rfl (zA ⟨rfl, yR _, _, rfl, rfl⟩)))) ?_
   refine zU (fun v w => ∃ b o xs12 xa12 xd12 xt12 xb12 xe12, v = .pointer (some ⟨b, o, none⟩) ∧ (∀ (q : Nat) (u : Value), [.bool xs12, xa12, xd12, .bool xt12, xb12, xe12][q]? = some u → w.cell? ⟨b, o + q, none⟩ = some u) ∧ Q4 M w (n0) (l.getD s (0, 0, 0, 0)) xs12 xa12 xd12 xt12 xb12 xe12) (fun _ _ _ ⟨b, o, xs12, xa12, xd12, xt12, xb12, xe12, e, hc, h⟩ r => ⟨b, o, xs12, xa12, xd12, xt12, xb12, xe12, e, fun q u hq => jL r (hc q u hq), h.mono (Fz := fun _ => False) (Le.of_below r)⟩) (fun wq hR hst => ?_) ?_
   ·refine yA rfl (fun v10 hp10 => ?_)
    obtain ⟨xa10, rfl, hn10⟩ := hp10
    refine zJ rfl (zB ?_)
    refine qG (dflt := ((0, 0, 0, 0) : N4)) (s) rfl yu63 yQ rfl rfl hn10.row (by first | rfl | omega) (by first | omega | (simp; omega) | simp) (fun b12 o12 us12 hul12 hu12 hc12 => ?_)
    obtain ⟨xs12, xa12, xd12, xt12, xb12, xe12, rfl, hn12⟩ := hu12
    exact zA ⟨rfl, yR _, _, rfl, ⟨b12, o12, _, _, _, _, _, _, rfl, hc12, hn12⟩⟩
   refine zU (fun v w => ∃ b o xs13 xa13 xd13 xt13 xb13 xe13, v = .pointer (some ⟨b, o, none⟩) ∧ (∀ (q : Nat) (u : Value), [.bool xs13, xa13, xd13, .bool xt13, xb13, xe13][q]? = some u → w.cell? ⟨b, o + q, none⟩ = some u) ∧ Q4 M w (n0) (l.getD s (0, 0, 0, 0)) xs13 xa13 xd13 xt13 xb13 xe13) (fun _ _ _ ⟨b, o, xs13, xa13, xd13, xt13, xb13, xe13, e, hc, h⟩ r => ⟨b, o, xs13, xa13, xd13, xt13, xb13, xe13, e, fun q u hq => jL r (hc q u hq), h.mono (Fz := fun _ => False) (Le.of_below r)⟩) (fun wq hR hst => ?_) ?_
   ·refine yA rfl (fun v12 hp12 => ?_)
    obtain ⟨b12, o12, xs12, xa12, xd12, xt12, xb12, xe12, rfl, hc12, hn12⟩ := hp12
    refine zB ?_
    refine xD 0 rfl yu39 rfl rfl yN rfl rfl ?_
    exact zA ⟨rfl, yR _, _, rfl, ⟨_, _, _, _, _, _, _, _, rfl, hc12, hn12⟩⟩
   refine zU (fun v w => ∃ b o xs14 xa14 xd14 xt14 xb14 xe14, v = .pointer (some ⟨b, o, none⟩) ∧ (∀ (q : Nat) (u : Value), [.bool xs14, xa14, xd14, .bool xt14, xb14, xe14][q]? = some u → w.cell? ⟨b, o + q, none⟩ = some u) ∧ Q4 M w (n0) (l.getD s (0, 0, 0, 0)) xs14 xa14 xd14 xt14 xb14 xe14) (fun _ _ _ ⟨b, o, xs14, xa14, xd14, xt14, xb14, xe14, e, hc, h⟩ r => ⟨b, o, xs14, xa14, xd14, xt14, xb14, xe14, e, fun q u hq => jL r (hc q u hq), h.mono (Fz := fun _ => False) (Le.of_below r)⟩) (fun wq hR hst => ?_) ?_
   ·refine yA rfl (fun v13 hp13 => ?_)
    obtain ⟨b13, o13, xs13, xa13, xd13, xt13, xb13, xe13, rfl, hc13, hn13⟩ := hp13
    refine zB ?_
    refine xD 0 rfl yu33 rfl rfl xE rfl rfl ?_
    exact zA ⟨rfl, yR _, _, rfl, ⟨_, _, _, _, _, _, _, _, rfl, hc13, hn13⟩⟩
   refine zU (fun v w => ∃ b o xs15 xa15 xd15 xt15 xb15 xe15, v = .pointer (some ⟨b, o + 1, none⟩) ∧ (∀ (q : Nat) (u : Value), [.bool xs15, xa15, xd15, .bool xt15, xb15, xe15][q]? = some u → w.cell? ⟨b, o + q, none⟩ = some u) ∧ Q4 M w (n0) (l.getD s (0, 0, 0, 0)) xs15 xa15 xd15 xt15 xb15 xe15) (fun _ _ _ ⟨b, o, xs15, xa15, xd15, xt15, xb15, xe15, e, hc, h⟩ r => ⟨b, o, xs15, xa15, xd15, xt15, xb15, xe15, e, fun q u hq => jL r (hc q u hq), h.mono (Fz := fun _ => False) (Le.of_below r)⟩) (fun wq hR hst => ?_) ?_
   ·refine yA rfl (fun v14 hp14 => ?_)
    obtain ⟨b14, o14, xs14, xa14, xd14, xt14, xb14, xe14, rfl, hc14, hn14⟩ := hp14
    refine zB ?_
    refine xD 1 rfl yu31 rfl rfl xW rfl rfl ?_
    exact zA ⟨rfl, yR _, _, rfl, ⟨_, _, _, _, _, _, _, _, rfl, hc14, hn14⟩⟩
   refine zU (fun v w => ∃ p c, v = .slice p (l.getD s (0, 0, 0, 0)).1 c) (fun _ _ _ h _ => h) (fun wq hR hst => ?_) ?_
   ·refine yA rfl (fun v15 hp15 => ?_)
    obtain ⟨b15, o15, xs15, xa15, xd15, xt15, xb15, xe15, rfl, hc15, hn15⟩ := hp15
    refine zB ?_
    refine xT rfl xA rfl (hc15 1 _ rfl) ?_
    exact zA ⟨rfl, yR _, _, rfl, hn15.a⟩
   refine zU (Ex (.int .i64 (((l.getD s (0, 0, 0, 0)).1 : Nat) : Int))) xM (fun wq hR hst => ?_) ?_
   ·refine yA rfl (fun v16 hp16 => ?_)
    obtain ⟨p16, c16, rfl⟩ := hp16
    refine zB ?_
    have Lq := Le.of_below (Fz := Fz) (M := M) hR
    replace LL := LL.trans Lq
    replace LR := LR.trans Lq
    replace hM := hM.mono Lq
    replace hF := hF.mono Lq
    replace h0 := h0.mono Lq
    first | refine xB rfl yu29 rfl ?_ | refine yT rfl yu29 rfl (IsNat.slc (by assumption)) ?_ | refine qO rfl yu29 rfl (by assumption) ?_ | refine qN rfl yu29 rfl (by assumption) ?_
    exact zA ⟨rfl, yR _, _, rfl, rfl⟩
   refine zU (fun v w => ∃ xa18, v = xa18 ∧ Q4L M w (n0) (l) xa18) (fun _ _ _ ⟨xa18, e, h0⟩ r => ⟨xa18, e, h0.mono (Fz := fun _ => False) (Le.of_below r)⟩) (fun wq hR hst => ?_) ?_
   ·refine zO rfl rfl (zB ?_)
    have Lq := Le.of_below (Fz := Fz) (M := M) hR
    replace h0 := h0.mono Lq
    refine zC rfl rfl ?_
    exact zA ⟨rfl, yR _, _, rfl, ⟨_, rfl, h0⟩⟩
   refine zN (fun _ _ _ => zO rfl rfl (zB (zC rfl rfl (zA ⟨rfl, yR _, _, rfl, rfl⟩)))) ?_
   refine zU (fun v w => ∃ b o xs20 xa20 xd20 xt20 xb20 xe20, v = .pointer (some ⟨b, o, none⟩) ∧ (∀ (q : Nat) (u : Value), [.bool xs20, xa20, xd20, .bool xt20, xb20, xe20][q]? = some u → w.cell? ⟨b, o + q, none⟩ = some u) ∧ Q4 M w (n0) (l.getD s (0, 0, 0, 0)) xs20 xa20 xd20 xt20 xb20 xe20) (fun _ _ _ ⟨b, o, xs20, xa20, xd20, xt20, xb20, xe20, e, hc, h⟩ r => ⟨b, o, xs20, xa20, xd20, xt20, xb20, xe20, e, fun q u hq => jL r (hc q u hq), h.mono (Fz := fun _ => False) (Le.of_below r)⟩) (fun wq hR hst => ?_) ?_
   ·refine yA rfl (fun v18 hp18 => ?_)
    obtain ⟨xa18, rfl, hn18⟩ := hp18
    refine zJ rfl (zB ?_)
    refine qG (dflt := ((0, 0, 0, 0) : N4)) (s) rfl yu63 yQ rfl rfl hn18.row (by first | rfl | omega) (by first | omega | (simp; omega) | simp) (fun b20 o20 us20 hul20 hu20 hc20 => ?_)
    obtain ⟨xs20, xa20, xd20, xt20, xb20, xe20, rfl, hn20⟩ := hu20
    exact zA ⟨rfl, yR _, _, rfl, ⟨b20, o20, _, _, _, _, _, _, rfl, hc20, hn20⟩⟩
   refine zU (fun v w => ∃ b o xs21 xa21 xd21 xt21 xb21 xe21, v = .pointer (some ⟨b, o, none⟩) ∧ (∀ (q : Nat) (u : Value), [.bool xs21, xa21, xd21, .bool xt21, xb21, xe21][q]? = some u → w.cell? ⟨b, o + q, none⟩ = some u) ∧ Q4 M w (n0) (l.getD s (0, 0, 0, 0)) xs21 xa21 xd21 xt21 xb21 xe21) (fun _ _ _ ⟨b, o, xs21, xa21, xd21, xt21, xb21, xe21, e, hc, h⟩ r => ⟨b, o, xs21, xa21, xd21, xt21, xb21, xe21, e, fun q u hq => jL r (hc q u hq), h.mono (Fz := fun _ => False) (Le.of_below r)⟩) (fun wq hR hst => ?_) ?_
   ·refine yA rfl (fun v20 hp20 => ?_)
    obtain ⟨b20, o20, xs20, xa20, xd20, xt20, xb20, xe20, rfl, hc20, hn20⟩ := hp20
    refine zB ?_
    refine xD 0 rfl yu39 rfl rfl yN rfl rfl ?_
    exact zA ⟨rfl, yR _, _, rfl, ⟨_, _, _, _, _, _, _, _, rfl, hc20, hn20⟩⟩
   refine zU (fun v w => ∃ b o xs22 xa22 xd22 xt22 xb22 xe22, v = .pointer (some ⟨b, o + 2, none⟩) ∧ (∀ (q : Nat) (u : Value), [.bool xs22, xa22, xd22, .bool xt22, xb22, xe22][q]? = some u → w.cell? ⟨b, o + q, none⟩ = some u) ∧ Q4 M w (n0) (l.getD s (0, 0, 0, 0)) xs22 xa22 xd22 xt22 xb22 xe22) (fun _ _ _ ⟨b, o, xs22, xa22, xd22, xt22, xb22, xe22, e, hc, h⟩ r => ⟨b, o, xs22, xa22, xd22, xt22, xb22, xe22, e, fun q u hq => jL r (hc q u hq), h.mono (Fz := fun _ => False) (Le.of_below r)⟩) (fun wq hR hst => ?_) ?_
   ·refine yA rfl (fun v21 hp21 => ?_)
    obtain ⟨b21, o21, xs21, xa21, xd21, xt21, xb21, xe21, rfl, hc21, hn21⟩ := hp21
    refine zB ?_
    refine xD 2 rfl yu33 rfl rfl xW rfl rfl ?_
    exact zA ⟨rfl, yR _, _, rfl, ⟨_, _, _, _, _, _, _, _, rfl, hc21, hn21⟩⟩
   refine zU (fun v w => ∃ p c, v = .slice p (l.getD s (0, 0, 0, 0)).2.1 c) (fun _ _ _ h _ => h) (fun wq hR hst => ?_) ?_
   ·refine yA rfl (fun v22 hp22 => ?_)
    obtain ⟨b22, o22, xs22, xa22, xd22, xt22, xb22, xe22, rfl, hc22, hn22⟩ := hp22
    refine zB ?_
    refine xT rfl xA rfl (hc22 2 _ rfl) ?_
    exact zA ⟨rfl, yR _, _, rfl, hn22.d⟩
   refine zU (Ex (.int .i64 (((l.getD s (0, 0, 0, 0)).2.1 : Nat) : Int))) xM (fun wq hR hst => ?_) ?_
   ·refine yA rfl (fun v23 hp23 => ?_)
    obtain ⟨p23, c23, rfl⟩ := hp23
    refine zB ?_
    have Lq := Le.of_below (Fz := Fz) (M := M) hR
    replace LL := LL.trans Lq
    replace LR := LR.trans Lq
    replace hM := hM.mono Lq
    replace hF := hF.mono Lq
    replace h0 := h0.mono Lq
    first | refine xB rfl yu29 rfl ?_ | refine yT rfl yu29 rfl (IsNat.slc (by assumption)) ?_ | refine qO rfl yu29 rfl (by assumption) ?_ | refine qN rfl yu29 rfl (by assumption) ?_
    exact zA ⟨rfl, yR _, _, rfl, rfl⟩
   refine zU (fun v w => ∃ xa25, v = xa25 ∧ Q4L M w (n0) (l) xa25) (fun _ _ _ ⟨xa25, e, h0⟩ r => ⟨xa25, e, h0.mono (Fz := fun _ => False) (Le.of_below r)⟩) (fun wq hR hst => ?_) ?_
   ·refine zO rfl rfl (zB ?_)
    have Lq := Le.of_below (Fz := Fz) (M := M) hR
    replace h0 := h0.mono Lq
    refine zC rfl rfl ?_
    exact zA ⟨rfl, yR _, _, rfl, ⟨_, rfl, h0⟩⟩
   refine zN (fun _ _ _ => zO rfl rfl (zB (zC rfl rfl (zA ⟨rfl, yR _, _, rfl, rfl⟩)))) ?_
   refine zU (fun v w => ∃ b o xs27 xa27 xd27 xt27 xb27 xe27, v = .pointer (some ⟨b, o, none⟩) ∧ (∀ (q : Nat) (u : Value), [.bool xs27, xa27, xd27, .bool xt27, xb27, xe27][q]? = some u → w.cell? ⟨b, o + q, none⟩ = some u) ∧ Q4 M w (n0) (l.getD s (0, 0, 0, 0)) xs27 xa27 xd27 xt27 xb27 xe27) (fun _ _ _ ⟨b, o, xs27, xa27, xd27, xt27, xb27, xe27, e, hc, h⟩ r => ⟨b, o, xs27, xa27, xd27, xt27, xb27, xe27, e, fun q u hq => jL r (hc q u hq), h.mono (Fz := fun _ => False) (Le.of_below r)⟩) (fun wq hR hst => ?_) ?_
   ·refine yA rfl (fun v25 hp25 => ?_)
    obtain ⟨xa25, rfl, hn25⟩ := hp25
    refine zJ rfl (zB ?_)
    refine qG (dflt := ((0, 0, 0, 0) : N4)) (s) rfl yu63 yQ rfl rfl hn25.row (by first | rfl | omega) (by first | omega | (simp; omega) | simp) (fun b27 o27 us27 hul27 hu27 hc27 => ?_)
    obtain ⟨xs27, xa27, xd27, xt27, xb27, xe27, rfl, hn27⟩ := hu27
    exact zA ⟨rfl, yR _, _, rfl, ⟨b27, o27, _, _, _, _, _, _, rfl, hc27, hn27⟩⟩
   refine zU (fun v w => ∃ b o xs28 xa28 xd28 xt28 xb28 xe28, v = .pointer (some ⟨b, o + 3, none⟩) ∧ (∀ (q : Nat) (u : Value), [.bool xs28, xa28, xd28, .bool xt28, xb28, xe28][q]? = some u → w.cell? ⟨b, o + q, none⟩ = some u) ∧ Q4 M w (n0) (l.getD s (0, 0, 0, 0)) xs28 xa28 xd28 xt28 xb28 xe28) (fun _ _ _ ⟨b, o, xs28, xa28, xd28, xt28, xb28, xe28, e, hc, h⟩ r => ⟨b, o, xs28, xa28, xd28, xt28, xb28, xe28, e, fun q u hq => jL r (hc q u hq), h.mono (Fz := fun _ => False) (Le.of_below r)⟩) (fun wq hR hst => ?_) ?_
   ·refine yA rfl (fun v27 hp27 => ?_)
    obtain ⟨b27, o27, xs27, xa27, xd27, xt27, xb27, xe27, rfl, hc27, hn27⟩ := hp27
    refine zB ?_
    refine xD 3 rfl yu39 rfl rfl yN rfl rfl ?_
    exact zA ⟨rfl, yR _, _, rfl, ⟨_, _, _, _, _, _, _, _, rfl, hc27, hn27⟩⟩
   refine zU (fun v w => ∃ b o xs29 xa29 xd29 xt29 xb29 xe29, v = .pointer (some ⟨b, o + 3, none⟩) ∧ (∀ (q : Nat) (u : Value), [.bool xs29, xa29, xd29, .bool xt29, xb29, xe29][q]? = some u → w.cell? ⟨b, o + q, none⟩ = some u) ∧ Q4 M w (n0) (l.getD s (0, 0, 0, 0)) xs29 xa29 xd29 xt29 xb29 xe29) (fun _ _ _ ⟨b, o, xs29, xa29, xd29, xt29, xb29, xe29, e, hc, h⟩ r => ⟨b, o, xs29, xa29, xd29, xt29, xb29, xe29, e, fun q u hq => jL r (hc q u hq), h.mono (Fz := fun _ => False) (Le.of_below r)⟩) (fun wq hR hst => ?_) ?_
   ·refine yA rfl (fun v28 hp28 => ?_)
    obtain ⟨b28, o28, xs28, xa28, xd28, xt28, xb28, xe28, rfl, hc28, hn28⟩ := hp28
    refine zB ?_
    refine xD 0 rfl yu33 rfl rfl xE rfl rfl ?_
    exact zA ⟨rfl, yR _, _, rfl, ⟨_, _, _, _, _, _, _, _, rfl, hc28, hn28⟩⟩
   refine zU (fun v w => ∃ b o xs30 xa30 xd30 xt30 xb30 xe30, v = .pointer (some ⟨b, o + 4, none⟩) ∧ (∀ (q : Nat) (u : Value), [.bool xs30, xa30, xd30, .bool xt30, xb30, xe30][q]? = some u → w.cell? ⟨b, o + q, none⟩ = some u) ∧ Q4 M w (n0) (l.getD s (0, 0, 0, 0)) xs30 xa30 xd30 xt30 xb30 xe30) (fun _ _ _ ⟨b, o, xs30, xa30, xd30, xt30, xb30, xe30, e, hc, h⟩ r => ⟨b, o, xs30, xa30, xd30, xt30, xb30, xe30, e, fun q u hq => jL r (hc q u hq), h.mono (Fz := fun _ => False) (Le.of_below r)⟩) (fun wq hR hst => ?_) ?_
   ·refine yA rfl (fun v29 hp29 => ?_)
    obtain ⟨b29, o29, xs29, xa29, xd29, xt29, xb29, xe29, rfl, hc29, hn29⟩ := hp29
    refine zB ?_
    refine xD 1 rfl yu31 rfl rfl xW rfl rfl ?_
    exact zA ⟨rfl, yR _, _, rfl, ⟨_, _, _, _, _, _, _, _, rfl, hc29, hn29⟩⟩
   refine zU (fun v w => ∃ p c, v = .slice p (l.getD s (0, 0, 0, 0)).2.2.1 c) (fun _ _ _ h _ => h) (fun wq hR hst => ?_) ?_
   ·refine yA rfl (fun v30 hp30 => ?_)
    obtain ⟨b30, o30, xs30, xa30, xd30, xt30, xb30, xe30, rfl, hc30, hn30⟩ := hp30
    refine zB ?_
    refine xT rfl xA rfl (hc30 4 _ rfl) ?_
    exact zA ⟨rfl, yR _, _, rfl, hn30.b⟩
   refine zU (Ex (.int .i64 (((l.getD s (0, 0, 0, 0)).2.2.1 : Nat) : Int))) xM (fun wq hR hst => ?_) ?_
   ·refine yA rfl (fun v31 hp31 => ?_)
    obtain ⟨p31, c31, rfl⟩ := hp31
    refine zB ?_
    have Lq := Le.of_below (Fz := Fz) (M := M) hR
    replace LL := LL.trans Lq
    replace LR := LR.trans Lq
    replace hM := hM.mono Lq
    replace hF := hF.mono Lq
    replace h0 := h0.mono Lq
    first | refine xB rfl yu29 rfl ?_ | refine yT rfl yu29 rfl (IsNat.slc (by assumption)) ?_ | refine qO rfl yu29 rfl (by assumption) ?_ | refine qN rfl yu29 rfl (by assumption) ?_
    exact zA ⟨rfl, yR _, _, rfl, rfl⟩
   refine zU (fun v w => ∃ xa33, v = xa33 ∧ Q4L M w (n0) (l) xa33) (fun _ _ _ ⟨xa33, e, h0⟩ r => ⟨xa33, e, h0.mono (Fz := fun _ => False) (Le.of_below r)⟩) (fun wq hR hst => ?_) ?_
   ·refine zO rfl rfl (zB ?_)
    have Lq := Le.of_below (Fz := Fz) (M := M) hR
    replace h0 := h0.mono Lq
    refine zC rfl rfl ?_
    exact zA ⟨rfl, yR _, _, rfl, ⟨_, rfl, h0⟩⟩
   refine zN (fun _ _ _ => zO rfl rfl (zB (zC rfl rfl (zA ⟨rfl, yR _, _, rfl, rfl⟩)))) ?_
   refine zU (fun v w => ∃ b o xs35 xa35 xd35 xt35 xb35 xe35, v = .pointer (some ⟨b, o, none⟩) ∧ (∀ (q : Nat) (u : Value), [.bool xs35, xa35, xd35, .bool xt35, xb35, xe35][q]? = some u → w.cell? ⟨b, o + q, none⟩ = some u) ∧ Q4 M w (n0) (l.getD s (0, 0, 0, 0)) xs35 xa35 xd35 xt35 xb35 xe35) (fun _ _ _ ⟨b, o, xs35, xa35, xd35, xt35, xb35, xe35, e, hc, h⟩ r => ⟨b, o, xs35, xa35, xd35, xt35, xb35, xe35, e, fun q u hq => jL r (hc q u hq), h.mono (Fz := fun _ => False) (Le.of_below r)⟩) (fun wq hR hst => ?_) ?_
   ·refine yA rfl (fun v33 hp33 => ?_)
    obtain ⟨xa33, rfl, hn33⟩ := hp33
    refine zJ rfl (zB ?_)
    refine qG (dflt := ((0, 0, 0, 0) : N4)) (s) rfl yu63 yQ rfl rfl hn33.row (by first | rfl | omega) (by first | omega | (simp; omega) | simp) (fun b35 o35 us35 hul35 hu35 hc35 => ?_)
    obtain ⟨xs35, xa35, xd35, xt35, xb35, xe35, rfl, hn35⟩ := hu35
    exact zA ⟨rfl, yR _, _, rfl, ⟨b35, o35, _, _, _, _, _, _, rfl, hc35, hn35⟩⟩
   refine zU (fun v w => ∃ b o xs36 xa36 xd36 xt36 xb36 xe36, v = .pointer (some ⟨b, o + 3, none⟩) ∧ (∀ (q : Nat) (u : Value), [.bool xs36, xa36, xd36, .bool xt36, xb36, xe36][q]? = some u → w.cell? ⟨b, o + q, none⟩ = some u) ∧ Q4 M w (n0) (l.getD s (0, 0, 0, 0)) xs36 xa36 xd36 xt36 xb36 xe36) (fun _ _ _ ⟨b, o, xs36, xa36, xd36, xt36, xb36, xe36, e, hc, h⟩ r => ⟨b, o, xs36, xa36, xd36, xt36, xb36, xe36, e, fun q u hq => jL r (hc q u hq), h.mono (Fz := fun _ => False) (Le.of_below r)⟩) (fun wq hR hst => ?_) ?_
   ·refine yA rfl (fun v35 hp35 => ?_)
    obtain ⟨b35, o35, xs35, xa35, xd35, xt35, xb35, xe35, rfl, hc35, hn35⟩ := hp35
    refine zB ?_
    refine xD 3 rfl yu39 rfl rfl yN rfl rfl ?_
    exact zA ⟨rfl, yR _, _, rfl, ⟨_, _, _, _, _, _, _, _, rfl, hc35, hn35⟩⟩
   refine zU (fun v w => ∃ b o xs37 xa37 xd37 xt37 xb37 xe37, v = .pointer (some ⟨b, o + 5, none⟩) ∧ (∀ (q : Nat) (u : Value), [.bool xs37, xa37, xd37, .bool xt37, xb37, xe37][q]? = some u → w.cell? ⟨b, o + q, none⟩ = some u) ∧ Q4 M w (n0) (l.getD s (0, 0, 0, 0)) xs37 xa37 xd37 xt37 xb37 xe37) (fun _ _ _ ⟨b, o, xs37, xa37, xd37, xt37, xb37, xe37, e, hc, h⟩ r => ⟨b, o, xs37, xa37, xd37, xt37, xb37, xe37, e, fun q u hq => jL r (hc q u hq), h.mono (Fz := fun _ => False) (Le.of_below r)⟩) (fun wq hR hst => ?_) ?_
   ·refine yA rfl (fun v36 hp36 => ?_)
    obtain ⟨b36, o36, xs36, xa36, xd36, xt36, xb36, xe36, rfl, hc36, hn36⟩ := hp36
    refine zB ?_
    refine xD 2 rfl yu33 rfl rfl xW rfl rfl ?_
    exact zA ⟨rfl, yR _, _, rfl, ⟨_, _, _, _, _, _, _, _, rfl, hc36, hn36⟩⟩
   refine zU (fun v w => ∃ p c, v = .slice p (l.getD s (0, 0, 0, 0)).2.2.2 c) (fun _ _ _ h _ => h) (fun wq hR hst => ?_) ?_
   ·refine yA rfl (fun v37 hp37 => ?_)
    obtain ⟨b37, o37, xs37, xa37, xd37, xt37, xb37, xe37, rfl, hc37, hn37⟩ := hp37
    refine zB ?_
    refine xT rfl xA rfl (hc37 5 _ rfl) ?_
    exact zA ⟨rfl, yR _, _, rfl, hn37.e⟩
   refine zU (Ex (.int .i64 (((l.getD s (0, 0, 0, 0)).2.2.2 : Nat) : Int))) xM (fun wq hR hst => ?_) ?_
   ·refine yA rfl (fun v38 hp38 => ?_)
    obtain ⟨p38, c38, rfl⟩ := hp38
    refine zB ?_
    have Lq := Le.of_below (Fz := Fz) (M := M) hR
    replace LL := LL.trans Lq
    replace LR := LR.trans Lq
    replace hM := hM.mono Lq
    replace hF := hF.mono Lq
    replace h0 := h0.mono Lq
    first | refine xB rfl yu29 rfl ?_ | refine yT rfl yu29 rfl (IsNat.slc (by assumption)) ?_ | refine qO rfl yu29 rfl (by assumption) ?_ | refine qN rfl yu29 rfl (by assumption) ?_
    exact zA ⟨rfl, yR _, _, rfl, rfl⟩
   refine xL (fun wq4 hR4 hpost4 => ?_)
   refine zO rfl rfl (zO rfl rfl (zO rfl rfl (zO rfl rfl (zO rfl rfl (zO rfl rfl (yA rfl (fun v10 hp10 => ?_)))))))
   obtain ⟨xa10, rfl, hn10⟩ := hp10
   refine zJ rfl (yA rfl (fun v12 hp12 => ?_))
   obtain ⟨b12, o12, xs12, xa12, xd12, xt12, xb12, xe12, rfl, hc12, hn12⟩ := hp12
   refine yA rfl (fun v13 hp13 => ?_)
   obtain ⟨b13, o13, xs13, xa13, xd13, xt13, xb13, xe13, rfl, hc13, hn13⟩ := hp13
   refine yA rfl (fun v14 hp14 => ?_)
   obtain ⟨b14, o14, xs14, xa14, xd14, xt14, xb14, xe14, rfl, hc14, hn14⟩ := hp14
   refine yA rfl (fun v15 hp15 => ?_)
   obtain ⟨b15, o15, xs15, xa15, xd15, xt15, xb15, xe15, rfl, hc15, hn15⟩ := hp15
   refine yA rfl (fun v16 hp16 => ?_)
   obtain ⟨p16, c16, rfl⟩ := hp16
   refine zJ rfl (yA rfl (fun v18 hp18 => ?_))
   obtain ⟨xa18, rfl, hn18⟩ := hp18
   refine zJ rfl (yA rfl (fun v20 hp20 => ?_))
   obtain ⟨b20, o20, xs20, xa20, xd20, xt20, xb20, xe20, rfl, hc20, hn20⟩ := hp20
   refine yA rfl (fun v21 hp21 => ?_)
   obtain ⟨b21, o21, xs21, xa21, xd21, xt21, xb21, xe21, rfl, hc21, hn21⟩ := hp21
   refine yA rfl (fun v22 hp22 => ?_)
   obtain ⟨b22, o22, xs22, xa22, xd22, xt22, xb22, xe22, rfl, hc22, hn22⟩ := hp22
   refine yA rfl (fun v23 hp23 => ?_)
   obtain ⟨p23, c23, rfl⟩ := hp23
   refine zJ rfl (yA rfl (fun v25 hp25 => ?_))
   obtain ⟨xa25, rfl, hn25⟩ := hp25
   refine zJ rfl (yA rfl (fun v27 hp27 => ?_))
   obtain ⟨b27, o27, xs27, xa27, xd27, xt27, xb27, xe27, rfl, hc27, hn27⟩ := hp27
   refine yA rfl (fun v28 hp28 => ?_)
   obtain ⟨b28, o28, xs28, xa28, xd28, xt28, xb28, xe28, rfl, hc28, hn28⟩ := hp28
   refine yA rfl (fun v29 hp29 => ?_)
   obtain ⟨b29, o29, xs29, xa29, xd29, xt29, xb29, xe29, rfl, hc29, hn29⟩ := hp29
   refine yA rfl (fun v30 hp30 => ?_)
   obtain ⟨b30, o30, xs30, xa30, xd30, xt30, xb30, xe30, rfl, hc30, hn30⟩ := hp30
   refine yA rfl (fun v31 hp31 => ?_)
   obtain ⟨p31, c31, rfl⟩ := hp31
   refine zJ rfl (yA rfl (fun v33 hp33 => ?_))
   obtain ⟨xa33, rfl, hn33⟩ := hp33
   refine zJ rfl (yA rfl (fun v35 hp35 => ?_))
   obtain ⟨b35, o35, xs35, xa35, xd35, xt35, xb35, xe35, rfl, hc35, hn35⟩ := hp35
   refine yA rfl (fun v36 hp36 => ?_)
   obtain ⟨b36, o36, xs36, xa36, xd36, xt36, xb36, xe36, rfl, hc36, hn36⟩ := hp36
   refine yA rfl (fun v37 hp37 => ?_)
   obtain ⟨b37, o37, xs37, xa37, xd37, xt37, xb37, xe37, rfl, hc37, hn37⟩ := hp37
   refine yA rfl (fun v38 hp38 => ?_)
   obtain ⟨p38, c38, rfl⟩ := hp38
   refine zJ rfl (zB ?_)
   simp only [List.drop_succ_cons, List.drop_zero, List.drop_nil, List.toList_toArray]
   have Lwq4 := Le.of_below (Fz := Fz) (M := M) hR4
   replace LL := LL.trans Lwq4
   replace LR := LR.trans Lwq4
   refine ops_max4 rfl rfl rfl rfl rfl (qL rfl rfl rfl (zA ?_))
   refine yF rfl (fun hc1 => ?_) (fun hc1 => ?_)
   ·refine zF (zD (zE rfl rfl (zA (zZ ?_))))
    refine zP ⟨[_], ⟨rfl, trivial⟩, ?_⟩
    dsimp only [zX]
    have hsl : s < l.length := by omega
    have hc2 : 2 < m4 (l.getD s (0, 0, 0, 0)) := by change (2 : Int) < ((m4 (l.getD s (0, 0, 0, 0)) : Nat) : Int) at hc1; omega
    rw [show fU l = true from decide_eq_true ⟨l.getD s (0, 0, 0, 0), getD_mem _ hsl, hc2⟩]
    subst hFz
    exact ⟨LL.below (Nat.le_refl _), rfl⟩
   ·refine yP (zD (zC rfl rfl (xP rfl rfl rfl (by omega) (zE rfl rfl (zA ?_)))))
    refine ⟨rfl, s + 1, (yC rfl (by rw [Int.natCast_add]; rfl) (zG rfl yO)), ?_, ?_⟩
    exact ⟨LR, by omega, longB_take (by omega) hs (by change ¬ (2 : Int) < ((m4 (l.getD s (0, 0, 0, 0)) : Nat) : Int) at hc1; omega)⟩
    omega
  ·refine xZ (jA (zF (zD (zE rfl rfl (zA (zZ ?_))))))
   refine zP ⟨[_], ⟨rfl, trivial⟩, ?_⟩
   dsimp only [zX]
   obtain rfl : s = l.length := by omega
   rw [List.take_length] at hs
   rw [show fU l = false from decide_eq_false fun ⟨x, hx, h2⟩ => hs x hx h2]
   subst hFz
   exact ⟨LL.below (Nat.le_refl _), rfl⟩
theorem gH {k : Nat} {l : Nat} (hk : k < 9223372036854775808) (hl : l < 9223372036854775808) (hM : OkM M w) :
    CallsV prog 31 [.int .i64 ((k : Nat) : Int), .int .i64 ((l : Nat) : Int)] w fun r w' => Below w.heap.size w w' ∧ ∃ xsr xar xdr xtr xbr xer, r = .agg #[.bool xsr, xar, xdr, .bool xtr, xbr, xer] ∧ PC M w' (2) ((((k : Nat) : Rat), ((l : Nat) : Rat))) xsr xar xdr xtr xbr xer := by
 obtain ⟨Fz, hFz, hF, LL⟩ := fz0 M w
 have hM0 := hM
 refine zQ func31 rfl ntmps31 rfl ?_
 refine zF (zD (yJ rfl yQ (fun w1 b4 N4 => ?_)))
 obtain ⟨_, nF4, nM4, Lw1, B4⟩ := nza hF hM N4
 obtain ⟨LL, hM⟩ := up2 Lw1 LL hM
 refine zA (zF (zD (zC rfl rfl (zC rfl rfl (zH rfl bod85 rfl rfl ?_)))))
 refine (r8of_c (k := k) (l := l)  (by omega) (by omega) hM).mono ?_
 rintro v7 w2 ⟨hB7, xs7, xa7, xd7, xt7, xb7, xe7, rfl, hn7⟩
 obtain ⟨LL, B4⟩ := ub2 hB7 LL B4
 obtain ⟨oxa7, oxd7, oxb7, oxe7, _⟩ := hn7.one
 refine zY rfl rfl yQ B4 rfl rfl (zV rfl (zV (by first | rfl | assumption) (zV (by first | rfl | assumption) (zV rfl (zV (by first | rfl | assumption) (zV (by first | rfl | assumption) jC)))))) rfl (fun w3 Cw3 B4 => ?_)
 have Lw3 := Le.of_chg (M := (Ins b4 M)) Cw3 zS nF4
 obtain ⟨LL, hn7⟩ := up2 Lw3 LL hn7
 refine zA (zZ ?_)
 refine zP ⟨[_], ⟨⟨_, rfl, yW yB yQ B4 rfl rfl⟩, trivial⟩, ?_⟩
 dsimp only [zX]
 subst hFz
 exact ⟨LL.below (Nat.le_refl _), _, _, _, _, _, _, rfl, (hn7.less (fun k c => zK c)).up (by omega)⟩
theorem aP {p : P2} {n0 : Nat} {xs0 xt0 : Bool} {xa0 xd0 xb0 xe0 : Value} {q : P2} {n1 : Nat} {xs1 xt1 : Bool} {xa1 xd1 xb1 xe1 : Value} {u : P2} {n2 : Nat} {xs2 xt2 : Bool} {xa2 xd2 xb2 xe2 : Value} (h0 : PQ M w n0 p xs0 xa0 xd0 xt0 xb0 xe0) (h1 : PQ M w n1 q xs1 xa1 xd1 xt1 xb1 xe1) (h2 : PQ M w n2 u xs2 xa2 xd2 xt2 xb2 xe2) (hl0 : n0 ≤ 200) (hl1 : n1 ≤ 200) (hl2 : n2 ≤ 200) (hM : OkM M w) :
    CallsV prog 35 [.agg #[.bool xs0, xa0, xd0, .bool xt0, xb0, xe0], .agg #[.bool xs1, xa1, xd1, .bool xt1, xb1, xe1], .agg #[.bool xs2, xa2, xd2, .bool xt2, xb2, xe2]] w fun r w' => Below w.heap.size w w' ∧ r = .bool (decide (onP p q u)) := by
 obtain ⟨Fz, hFz, hF, LL⟩ := fz0 M w
 have hM0 := hM
 refine zQ func35 rfl ntmps35 rfl ?_
 refine zF (zD (yE rfl rfl (fun w1 b3 N3 => ?_)))
 obtain ⟨_, nF3, nM3, Lw1, B3⟩ := nza hF hM N3
 obtain ⟨LL, hM, hF, h0, h1, h2⟩ := up6 Lw1 LL hM hF h0 h1 h2
 refine yE rfl rfl (fun w2 b4 N4 => ?_)
 obtain ⟨hBw2, nF4, nM4, Lw2, B4⟩ := nza hF hM N4
 obtain ⟨B3, ne3_4⟩ := bn B3 N4
 obtain ⟨LL, hM, hF, h0, h1, h2⟩ := up6 Lw2 LL hM hF h0 h1 h2
 refine yE rfl rfl (fun w3 b5 N5 => ?_)
 obtain ⟨hBw3, nF5, nM5, Lw3, B5⟩ := nza hF hM N5
 obtain ⟨B3, ne3_5⟩ := bn B3 N5
 obtain ⟨B4, ne4_5⟩ := bn B4 N5
 obtain ⟨LL, hM, h0, h1, h2⟩ := up5 Lw3 LL hM h0 h1 h2
 refine zE rfl rfl (zA (zF ?_))
 by_cases hg1_12 : aY (aB p q) (aB p u + aB u q) = 0
 ·skip
  refine xK (R := Rb) (R' := Rb) (st := none) jF 18 [6, 19, 22, 23, 24] (by decide +kernel) xF xO (xN _) (fun _ _ _ h => by cases h) ?_
  refine zN (fun _ hR _ => zO rfl rfl (zB (zI rfl yB yQ rfl (B3.below hR) rfl rfl (on0 rfl)))) ?_
  refine zN (fun _ hR _ => zO rfl rfl (zB (zI rfl yB yQ rfl (B4.below hR) rfl rfl (on0 rfl)))) ?_
  refine zU (vRC (Ins b5 (Ins b4 (Ins b3 M))) (2 * n0 + 2 * n1 + 27) (aB p q)) uD (fun wq hR hst => ?_) ?_
  ·refine zJ rfl (zJ rfl (zB ?_))
   obtain ⟨hM, h0, h1⟩ := ub3 hR hM h0 h1
   refine zH rfl fW rfl rfl ?_
   refine (dK h0 h1 (by omega) (by omega) hM).mono ?_
   rintro v9 w4 ⟨hB9, xs9, xa9, xd9, rfl, hn9⟩
   exact zA ⟨rfl, hB9, _, rfl, ⟨_, _, _, rfl, hn9⟩⟩
  refine zN (fun _ hR _ => zO rfl rfl (zB (zI rfl yB yQ rfl (B3.below hR) rfl rfl (on0 rfl)))) ?_
  refine zN (fun _ hR _ => zO rfl rfl (zB (zI rfl yB yQ rfl (B5.below hR) rfl rfl (on0 rfl)))) ?_
  refine zU (vRC (Ins b5 (Ins b4 (Ins b3 M))) (2 * n0 + 2 * n2 + 27) (aB p u)) uD (fun wq hR hst => ?_) ?_
  ·refine zJ rfl (zJ rfl (zB ?_))
   obtain ⟨hM, h0, h2⟩ := ub3 hR hM h0 h2
   refine zH rfl fW rfl rfl ?_
   refine (dK h0 h2 (by omega) (by omega) hM).mono ?_
   rintro v12 w5 ⟨hB12, xs12, xa12, xd12, rfl, hn12⟩
   exact zA ⟨rfl, hB12, _, rfl, ⟨_, _, _, rfl, hn12⟩⟩
  refine zN (fun _ hR _ => zO rfl rfl (zB (zI rfl yB yQ rfl (B5.below hR) rfl rfl (on0 rfl)))) ?_
  refine zN (fun _ hR _ => zO rfl rfl (zB (zI rfl yB yQ rfl (B4.below hR) rfl rfl (on0 rfl)))) ?_
  refine zU (vRC (Ins b5 (Ins b4 (Ins b3 M))) (2 * n2 + 2 * n1 + 27) (aB u q)) uD (fun wq hR hst => ?_) ?_
  ·refine zJ rfl (zJ rfl (zB ?_))
   obtain ⟨hM, h1, h2⟩ := ub3 hR hM h1 h2
   refine zH rfl fW rfl rfl ?_
   refine (dK h2 h1 (by omega) (by omega) hM).mono ?_
   rintro v15 w6 ⟨hB15, xs15, xa15, xd15, rfl, hn15⟩
   exact zA ⟨rfl, hB15, _, rfl, ⟨_, _, _, rfl, hn15⟩⟩
  refine zU (fun v w => ∃ bb xs16 xa16 xd16 xs16b xa16b xd16b, v = .slice (some ⟨bb, 0, none⟩) 2 2 ∧ KBlk (Ins b5 (Ins b4 (Ins b3 M))) w bb 33 [.bool xs16, xa16, xd16, .bool xs16b, xa16b, xd16b] ∧ RC (Ins b5 (Ins b4 (Ins b3 M))) w (2 * n0 + 2 * n2 + 27) (aB p u) xs16 xa16 xd16 ∧ RC (Ins b5 (Ins b4 (Ins b3 M))) w (2 * n2 + 2 * n1 + 27) (aB u q) xs16b xa16b xd16b) (fun _ _ _ ⟨bb, xs16, xa16, xd16, xs16b, xa16b, xd16b, e, hk, h0, h1⟩ r => ⟨bb, xs16, xa16, xd16, xs16b, xa16b, xd16b, e, hk.mono (Fz := fun _ => False) (Le.of_below r), h0.mono (Fz := fun _ => False) (Le.of_below r), h1.mono (Fz := fun _ => False) (Le.of_below r)⟩) (fun wq hR hst => ?_) ?_
  ·refine yA rfl (fun v12 hp12 => ?_)
   obtain ⟨xs12, xa12, xd12, rfl, hn12⟩ := hp12
   refine yA rfl (fun v15 hp15 => ?_)
   obtain ⟨xs15, xa15, xd15, rfl, hn15⟩ := hp15
   refine zB ?_
   replace hM := ub1 hR hM
   refine yY rfl yu22 yN rfl rfl rfl rfl (zW rfl (zW rfl xC)) rfl rfl rfl (fun w7 b16 N16 => ?_)
   have hBw7 := N16.below
   have nM16 := hM.new N16
   have B16 := N16.blk
   obtain ⟨hn12, hn15⟩ := ub2 hBw7 hn12 hn15
   have hB16 := hBw7
   exact zA ⟨rfl, hB16, _, rfl, ⟨b16, _, _, _, _, _, _, rfl, KBlk.mk B16 nM16, hn12, hn15⟩⟩
  refine zU (vRC (Ins b5 (Ins b4 (Ins b3 M))) ((2 * n0 + 2 * n2 + 27) + (2 * n2 + 2 * n1 + 27) + 3) ((aB p u) + (aB u q))) uD (fun wq hR hst => ?_) ?_
  ·refine yA rfl (fun v16 hp16 => ?_)
   obtain ⟨bb16, xs16, xa16, xd16, xs16b, xa16b, xd16b, rfl, hk16, hn16, hnb16⟩ := hp16; obtain ⟨oxa16, oxd16, _⟩ := hn16.one
   refine zB ?_
   replace hM := ub1 hR hM
   refine zH rfl fY rfl rfl ?_
   refine (eP hk16 hn16.gen hnb16.gen (by omega) (by omega) hM).mono ?_
   rintro v17 w8 ⟨hB17, xs17, xa17, xd17, rfl, hn17⟩
   exact zA ⟨rfl, hB17, _, rfl, ⟨_, _, _, rfl, hn17⟩⟩
  refine zU (Ex (.bool (decide (aY (aB p q) ((aB p u) + (aB u q)) = 0)))) xM (fun wq hR hst => ?_) ?_
  ·refine yA rfl (fun v9 hp9 => ?_)
   obtain ⟨xs9, xa9, xd9, rfl, hn9⟩ := hp9
   refine yA rfl (fun v17 hp17 => ?_)
   obtain ⟨xs17, xa17, xd17, rfl, hn17⟩ := hp17
   refine zB ?_
   replace hM := ub1 hR hM
   refine zH rfl bod58 rfl rfl ?_
   refine (r7same_c hn9.gen hn17.gen (by omega) (by omega) hM).mono ?_
   rintro v18 w9 ⟨hB18, rfl⟩
   exact zA ⟨rfl, hB18, _, rfl, rfl⟩
  refine zU (Ex (.bool true)) xM (fun wq hR hst => ?_) ?_
  ·refine zJ rfl (zB ?_)
   exact zC rfl rfl (zA ⟨rfl, yR _, _, rfl, congrArg Value.bool (decide_eq_true hg1_12)⟩)
  refine zN (fun _ hR _ => zO rfl rfl (zJ rfl (zB (zM rfl rfl (zI rfl yB yQ rfl (B4.below hR) rfl rfl (on0 rfl)))))) ?_
  refine zN (fun _ hR _ => zO rfl rfl (zJ rfl (zB (zM rfl rfl (zI rfl yB yQ rfl (B3.below hR) rfl rfl (on0 rfl)))))) ?_
  refine zU (vPC (Ins b5 (Ins b4 (Ins b3 M))) (n1 + n0 + 5) (jG q p)) aQ (fun wq hR hst => ?_) ?_
  ·refine zJ rfl (zJ rfl (zJ rfl (zB ?_)))
   obtain ⟨hM, h0, h1⟩ := ub3 hR hM h0 h1
   refine zM rfl rfl (zH rfl bod41 rfl rfl ?_)
   refine (r8sub_c h1 h0 (by omega) (by omega) hM).mono ?_
   rintro v22 w10 ⟨hB22, xs22, xa22, xd22, xt22, xb22, xe22, rfl, hn22⟩
   exact zA ⟨rfl, hB22, _, rfl, ⟨_, _, _, _, _, _, rfl, hn22⟩⟩
  refine zN (fun _ hR _ => zO rfl rfl (zJ rfl (zB (zM rfl rfl (zI rfl yB yQ rfl (B5.below hR) rfl rfl (on0 rfl)))))) ?_
  refine zN (fun _ hR _ => zO rfl rfl (zJ rfl (zB (zM rfl rfl (zI rfl yB yQ rfl (B3.below hR) rfl rfl (on0 rfl)))))) ?_
  refine xL (fun wq1 hR1 hpost1 => ?_)
  refine zO rfl rfl (zJ rfl (yA rfl (fun v22 hp22 => ?_)))
  obtain ⟨xs22, xa22, xd22, xt22, xb22, xe22, rfl, hn22⟩ := hp22
  refine zJ rfl (zJ rfl (zB ?_))
  simp only [List.drop_succ_cons, List.drop_zero, List.drop_nil, List.toList_toArray]
  obtain ⟨LL, hM, h0, h2⟩ := ub4 hR1 LL hM h0 h2
  refine zM rfl rfl (zH rfl bod41 rfl rfl ?_)
  refine (r8sub_c h2 h0 (by omega) (by omega) hM).mono ?_
  rintro v25 w11 ⟨hB25, xs25, xa25, xd25, xt25, xb25, xe25, rfl, hn25⟩
  obtain ⟨LL, hM, hn22⟩ := ub3 hB25 LL hM hn22
  refine zM rfl rfl (zH rfl bod40 rfl rfl ?_)
  refine (r8cross_c hn22.gen hn25.gen (by omega) (by omega) hM).mono ?_
  rintro v26 w12 ⟨hB26, xs26, xa26, xd26, rfl, hn26⟩
  obtain ⟨LL, hM⟩ := ub2 hB26 LL hM
  refine zM rfl rfl (zH rfl bod32 rfl rfl ?_)
  refine (r7sign_c hn26.gen (by omega) hM).mono ?_
  rintro v27 w13 ⟨hB27, rfl⟩
  replace LL := ub1 hB27 LL
  refine zM rfl rfl (gF rfl rfl rfl (yS rfl rfl rfl (zE rfl rfl (zA (zZ ?_)))))
  refine zP ⟨[_], ⟨rfl, trivial⟩, ?_⟩
  dsimp only [zX]
  rw [show decide (onP p q u) = decide (cJ (jD (jG q p) (jG u p)) = 0) from decide_eq_decide.2 ⟨fun c => sgnR_zero.2 c.2, fun c => ⟨aK.1 hg1_12, sgnR_zero.1 c⟩⟩]
  subst hFz
  exact ⟨LL.below (Nat.le_refl _), rfl⟩
 ·skip
  refine xK (R := Rb) (R' := Rb) (st := none) jF 18 [6, 19, 22, 23, 24] (by decide +kernel) xF xO (xN _) (fun _ _ _ h => by cases h) ?_
  refine zN (fun _ hR _ => zO rfl rfl (zB (zI rfl yB yQ rfl (B3.below hR) rfl rfl (on0 rfl)))) ?_
  refine zN (fun _ hR _ => zO rfl rfl (zB (zI rfl yB yQ rfl (B4.below hR) rfl rfl (on0 rfl)))) ?_
  refine zU (vRC (Ins b5 (Ins b4 (Ins b3 M))) (2 * n0 + 2 * n1 + 27) (aB p q)) uD (fun wq hR hst => ?_) ?_
  ·refine zJ rfl (zJ rfl (zB ?_))
   obtain ⟨hM, h0, h1⟩ := ub3 hR hM h0 h1
   refine zH rfl fW rfl rfl ?_
   refine (dK h0 h1 (by omega) (by omega) hM).mono ?_
   rintro v9 w14 ⟨hB9, xs9, xa9, xd9, rfl, hn9⟩
   exact zA ⟨rfl, hB9, _, rfl, ⟨_, _, _, rfl, hn9⟩⟩
  refine zN (fun _ hR _ => zO rfl rfl (zB (zI rfl yB yQ rfl (B3.below hR) rfl rfl (on0 rfl)))) ?_
  refine zN (fun _ hR _ => zO rfl rfl (zB (zI rfl yB yQ rfl (B5.below hR) rfl rfl (on0 rfl)))) ?_
  refine zU (vRC (Ins b5 (Ins b4 (Ins b3 M))) (2 * n0 + 2 * n2 + 27) (aB p u)) uD (fun wq hR hst => ?_) ?_
  ·refine zJ rfl (zJ rfl (zB ?_))
   obtain ⟨hM, h0, h2⟩ := ub3 hR hM h0 h2
   refine zH rfl fW rfl rfl ?_
   refine (dK h0 h2 (by omega) (by omega) hM).mono ?_
   rintro v12 w15 ⟨hB12, xs12, xa12, xd12, rfl, hn12⟩
   exact zA ⟨rfl, hB12, _, rfl, ⟨_, _, _, rfl, hn12⟩⟩
  refine zN (fun _ hR _ => zO rfl rfl (zB (zI rfl yB yQ rfl (B5.below hR) rfl rfl (on0 rfl)))) ?_
  refine zN (fun _ hR _ => zO rfl rfl (zB (zI rfl yB yQ rfl (B4.below hR) rfl rfl (on0 rfl)))) ?_
  refine zU (vRC (Ins b5 (Ins b4 (Ins b3 M))) (2 * n2 + 2 * n1 + 27) (aB u q)) uD (fun wq hR hst => ?_) ?_
  ·refine zJ rfl (zJ rfl (zB ?_))
   obtain ⟨hM, h1, h2⟩ := ub3 hR hM h1 h2
   refine zH rfl fW rfl rfl ?_
   refine (dK h2 h1 (by omega) (by omega) hM).mono ?_
   rintro v15 w16 ⟨hB15, xs15, xa15, xd15, rfl, hn15⟩
   exact zA ⟨rfl, hB15, _, rfl, ⟨_, _, _, rfl, hn15⟩⟩
  refine zU (fun v w => ∃ bb xs16 xa16 xd16 xs16b xa16b xd16b, v = .slice (some ⟨bb, 0, none⟩) 2 2 ∧ KBlk (Ins b5 (Ins b4 (Ins b3 M))) w bb 33 [.bool xs16, xa16, xd16, .bool xs16b, xa16b, xd16b] ∧ RC (Ins b5 (Ins b4 (Ins b3 M))) w (2 * n0 + 2 * n2 + 27) (aB p u) xs16 xa16 xd16 ∧ RC (Ins b5 (Ins b4 (Ins b3 M))) w (2 * n2 + 2 * n1 + 27) (aB u q) xs16b xa16b xd16b) (fun _ _ _ ⟨bb, xs16, xa16, xd16, xs16b, xa16b, xd16b, e, hk, h0, h1⟩ r => ⟨bb, xs16, xa16, xd16, xs16b, xa16b, xd16b, e, hk.mono (Fz := fun _ => False) (Le.of_below r), h0.mono (Fz := fun _ => False) (Le.of_below r), h1.mono (Fz := fun _ => False) (Le.of_below r)⟩) (fun wq hR hst => ?_) ?_
  ·refine yA rfl (fun v12 hp12 => ?_)
   obtain ⟨xs12, xa12, xd12, rfl, hn12⟩ := hp12
   refine yA rfl (fun v15 hp15 => ?_)
   obtain ⟨xs15, xa15, xd15, rfl, hn15⟩ := hp15
   refine zB ?_
   replace hM := ub1 hR hM
   refine yY rfl yu22 yN rfl rfl rfl rfl (zW rfl (zW rfl xC)) rfl rfl rfl (fun w17 b16 N16 => ?_)
   have hBw17 := N16.below
   have nM16 := hM.new N16
   have B16 := N16.blk
   obtain ⟨hn12, hn15⟩ := ub2 hBw17 hn12 hn15
   have hB16 := hBw17
   exact zA ⟨rfl, hB16, _, rfl, ⟨b16, _, _, _, _, _, _, rfl, KBlk.mk B16 nM16, hn12, hn15⟩⟩
  refine zU (vRC (Ins b5 (Ins b4 (Ins b3 M))) ((2 * n0 + 2 * n2 + 27) + (2 * n2 + 2 * n1 + 27) + 3) ((aB p u) + (aB u q))) uD (fun wq hR hst => ?_) ?_
  ·refine yA rfl (fun v16 hp16 => ?_)
   obtain ⟨bb16, xs16, xa16, xd16, xs16b, xa16b, xd16b, rfl, hk16, hn16, hnb16⟩ := hp16; obtain ⟨oxa16, oxd16, _⟩ := hn16.one
   refine zB ?_
   replace hM := ub1 hR hM
   refine zH rfl fY rfl rfl ?_
   refine (eP hk16 hn16.gen hnb16.gen (by omega) (by omega) hM).mono ?_
   rintro v17 w18 ⟨hB17, xs17, xa17, xd17, rfl, hn17⟩
   exact zA ⟨rfl, hB17, _, rfl, ⟨_, _, _, rfl, hn17⟩⟩
  refine zU (Ex (.bool (decide (aY (aB p q) ((aB p u) + (aB u q)) = 0)))) xM (fun wq hR hst => ?_) ?_
  ·refine yA rfl (fun v9 hp9 => ?_)
   obtain ⟨xs9, xa9, xd9, rfl, hn9⟩ := hp9
   refine yA rfl (fun v17 hp17 => ?_)
   obtain ⟨xs17, xa17, xd17, rfl, hn17⟩ := hp17
   refine zB ?_
   replace hM := ub1 hR hM
   refine zH rfl bod58 rfl rfl ?_
   refine (r7same_c hn9.gen hn17.gen (by omega) (by omega) hM).mono ?_
   rintro v18 w19 ⟨hB18, rfl⟩
   exact zA ⟨rfl, hB18, _, rfl, rfl⟩
  refine zU (Ex (.bool false)) xM (fun wq hR hst => ?_) ?_
  ·refine zJ rfl (zB ?_)
   exact zC rfl rfl (zA ⟨rfl, yR _, _, rfl, congrArg Value.bool (decide_eq_false hg1_12)⟩)
  refine zN (fun _ _ _ => zO rfl rfl (zJ rfl (zB (zR rfl rfl rfl rfl (on0 rfl))))) ?_
  refine zN (fun _ _ _ => zO rfl rfl (zJ rfl (zB (zR rfl rfl rfl rfl (on0 rfl))))) ?_
  refine zN (fun _ _ _ => zJ rfl (zJ rfl (zJ rfl (zB (zR rfl rfl rfl rfl (on0 rfl)))))) ?_
  refine zN (fun _ _ _ => zO rfl rfl (zJ rfl (zB (zR rfl rfl rfl rfl (on0 rfl))))) ?_
  refine zN (fun _ _ _ => zO rfl rfl (zJ rfl (zB (zR rfl rfl rfl rfl (on0 rfl))))) ?_
  refine xL (fun wq1 hR1 hpost1 => ?_)
  refine zO rfl rfl (zJ rfl (zJ rfl (zJ rfl (zJ rfl (zB ?_)))))
  simp only [List.drop_succ_cons, List.drop_zero, List.drop_nil, List.toList_toArray]
  replace LL := ub1 hR1 LL
  refine zR rfl rfl rfl rfl (zR rfl rfl rfl rfl (zR rfl rfl rfl rfl (zR rfl rfl rfl rfl (yS rfl rfl rfl (zE rfl rfl (zA (zZ ?_)))))))
  refine zP ⟨[_], ⟨rfl, trivial⟩, ?_⟩
  dsimp only [zX]
  rw [show decide (onP p q u) = false from decide_eq_false fun c => hg1_12 (aK.2 c.1)]
  subst hFz
  exact ⟨LL.below (Nat.le_refl _), rfl⟩
end Go.Proofs.YtfkejnlohkgbgaaGreatDoor
namespace Go.Proofs.YtfkejnlohkgbgaaGreatDoor
open Go Go.SL Go.RowKit Tryz
variable {Fz M M' : Nat → Prop} {w w' : World}
instance {n : Nat} {q : N4} {s t : Bool} {a d b e : Value} : Up Fz M M' w w' (Q4 M w n q s a d t b e) (Q4 M' w' n q s a d t b e) := ⟨fun l h => h.mono l⟩
instance {n : Nat} {q : N4} {s t : Bool} {a d b e : Value} : UpB w w' (Q4 M w n q s a d t b e) (Q4 M w' n q s a d t b e) := ⟨fun l h => h.mono (Fz := fun _ => False) (Le.of_below l)⟩
instance {n : Nat} {q : List N4} {v : Value} : Up Fz M M' w w' (Q4L M w n q v) (Q4L M' w' n q v) := ⟨fun l h => h.mono l⟩
instance {n : Nat} {q : List N4} {v : Value} : UpB w w' (Q4L M w n q v) (Q4L M w' n q v) := ⟨fun l h => h.mono (Fz := fun _ => False) (Le.of_below l)⟩
end Go.Proofs.YtfkejnlohkgbgaaGreatDoor
set_option maxRecDepth 100000
namespace Go.Proofs.YtfkejnlohkgbgaaGreatDoor
open Go.SL Go.RowKit Go.Proofs Tryz
variable {M : Nat → Prop} {w : World}
theorem bY (hT : Tab M w) (hM : OkM M w) :
    CallsV prog 25 [] w fun r w' => Below w.heap.size w w' ∧ r = .bool true := by
 obtain ⟨Fz, hFz, hF, LL⟩ := fz0 M w
 have hM0 := hM
 refine zQ func25 rfl ntmps25 rfl ?_
 refine zF (zD (zE rfl rfl (zA (zF (zD (zH rfl kD rfl rfl ?_))))))
 refine (gH (k := 0) (l := 0)  (by omega) (by omega) hM).mono ?_
 rintro v4 w1 ⟨hB4, xs4, xa4, xd4, xt4, xb4, xe4, rfl, hn4⟩
 obtain ⟨LL, hM, hF, hT⟩ := ub4 hB4 LL hM hF hT
 obtain ⟨oxa4, oxd4, oxb4, oxe4, _⟩ := hn4.one
 refine zH rfl kD rfl rfl ?_
 refine (gH (k := 2) (l := 2)  (by omega) (by omega) hM).mono ?_
 rintro v5 w2 ⟨hB5, xs5, xa5, xd5, xt5, xb5, xe5, rfl, hn5⟩
 obtain ⟨LL, hM, hF, hT, hn4⟩ := ub5 hB5 LL hM hF hT hn4
 obtain ⟨oxa5, oxd5, oxb5, oxe5, _⟩ := hn5.one
 refine zH rfl kD rfl rfl ?_
 refine (gH (k := 0) (l := 2)  (by omega) (by omega) hM).mono ?_
 rintro v6 w3 ⟨hB6, xs6, xa6, xd6, xt6, xb6, xe6, rfl, hn6⟩
 obtain ⟨LL, hM, hF, hT, hn4, hn5⟩ := ub6 hB6 LL hM hF hT hn4 hn5
 obtain ⟨oxa6, oxd6, oxb6, oxe6, _⟩ := hn6.one
 refine zH rfl kD rfl rfl ?_
 refine (gH (k := 2) (l := 0)  (by omega) (by omega) hM).mono ?_
 rintro v7 w4 ⟨hB7, xs7, xa7, xd7, xt7, xb7, xe7, rfl, hn7⟩
 obtain ⟨LL, hM, hF, hT, hn4, hn5, hn6⟩ := ub7 hB7 LL hM hF hT hn4 hn5 hn6
 obtain ⟨oxa7, oxd7, oxb7, oxe7, _⟩ := hn7.one
 refine zH rfl iF rfl rfl ?_
 refine (eA hT hn4.gen hn5.gen hn6.gen hn7.gen (by omega) (by omega) (by omega) (by omega) hM).mono ?_
 rintro v8 w5 ⟨hB8, xs8, xa8, xd8, xt8, xb8, xe8, xs8b, xa8b, xd8b, xt8b, xb8b, xe8b, rfl, hn8, hnb8⟩
 obtain ⟨LL, hM, hF, hT⟩ := ub4 hB8 LL hM hF hT
 obtain ⟨oxa8, oxd8, oxb8, oxe8, _⟩ := hn8.one; obtain ⟨oxa8b, oxd8b, oxb8b, oxe8b, _⟩ := hnb8.one
 refine yJ rfl uO (fun w6 b1 N1 => ?_)
 obtain ⟨_, nF1, nM1, Lw6, B1⟩ := nza hF hM N1
 obtain ⟨LL, hM, hF, hT, hn8, hnb8⟩ := up6 Lw6 LL hM hF hT hn8 hnb8
 refine zY rfl rfl uO B1 rfl rfl (zV rfl (zV rfl (zV (by first | rfl | assumption) (zV (by first | rfl | assumption) (zV rfl (zV (by first | rfl | assumption) (zV (by first | rfl | assumption) (zV rfl (zV (by first | rfl | assumption) (zV (by first | rfl | assumption) (zV rfl (zV (by first | rfl | assumption) (zV (by first | rfl | assumption) jC))))))))))))) rfl (fun w7 Cw7 B1 => ?_)
 have Lw7 := Le.of_chg (M := (Ins b1 M)) Cw7 zS nF1
 obtain ⟨LL, hM, hF, hT, hn8, hnb8⟩ := up6 Lw7 LL hM hF hT hn8 hnb8
 refine zA (zF (zD (zH rfl kD rfl rfl ?_)))
 refine (gH (k := 0) (l := 0)  (by omega) (by omega) hM).mono ?_
 rintro v9 w8 ⟨hB9, xs9, xa9, xd9, xt9, xb9, xe9, rfl, hn9⟩
 obtain ⟨LL, hM, hF, hT, hn8, hnb8, B1⟩ := ub7 hB9 LL hM hF hT hn8 hnb8 B1
 obtain ⟨oxa9, oxd9, oxb9, oxe9, _⟩ := hn9.one
 refine zH rfl kD rfl rfl ?_
 refine (gH (k := 3) (l := 0)  (by omega) (by omega) hM).mono ?_
 rintro v10 w9 ⟨hB10, xs10, xa10, xd10, xt10, xb10, xe10, rfl, hn10⟩
 obtain ⟨LL, hM, hF, hT, hn8, hnb8, hn9, B1⟩ := ub8 hB10 LL hM hF hT hn8 hnb8 hn9 B1
 obtain ⟨oxa10, oxd10, oxb10, oxe10, _⟩ := hn10.one
 refine zH rfl kD rfl rfl ?_
 refine (gH (k := 1) (l := 0)  (by omega) (by omega) hM).mono ?_
 rintro v11 w10 ⟨hB11, xs11, xa11, xd11, xt11, xb11, xe11, rfl, hn11⟩
 obtain ⟨LL, hM, hF, hT, hn8, hnb8, hn9, hn10, B1⟩ := ub9 hB11 LL hM hF hT hn8 hnb8 hn9 hn10 B1
 obtain ⟨oxa11, oxd11, oxb11, oxe11, _⟩ := hn11.one
 refine zH rfl kD rfl rfl ?_
 refine (gH (k := 5) (l := 0)  (by omega) (by omega) hM).mono ?_
 rintro v12 w11 ⟨hB12, xs12, xa12, xd12, xt12, xb12, xe12, rfl, hn12⟩
 obtain ⟨LL, hM, hF, hT, hn8, hnb8, hn9, hn10, hn11, B1⟩ := fE hB12 LL hM hF hT hn8 hnb8 hn9 hn10 hn11 B1
 obtain ⟨oxa12, oxd12, oxb12, oxe12, _⟩ := hn12.one
 refine zH rfl iF rfl rfl ?_
 refine (eA hT hn9.gen hn10.gen hn11.gen hn12.gen (by omega) (by omega) (by omega) (by omega) hM).mono ?_
 rintro v13 w12 ⟨hB13, xs13, xa13, xd13, xt13, xb13, xe13, xs13b, xa13b, xd13b, xt13b, xb13b, xe13b, rfl, hn13, hnb13⟩
 obtain ⟨LL, hM, hF, hT, hn8, hnb8, B1⟩ := ub7 hB13 LL hM hF hT hn8 hnb8 B1
 obtain ⟨oxa13, oxd13, oxb13, oxe13, _⟩ := hn13.one; obtain ⟨oxa13b, oxd13b, oxb13b, oxe13b, _⟩ := hnb13.one
 refine yJ rfl uO (fun w13 b2 N2 => ?_)
 obtain ⟨hBw13, nF2, nM2, Lw13, B2⟩ := nza hF hM N2
 obtain ⟨B1, ne1_2⟩ := bn B1 N2
 obtain ⟨LL, hM, hF, hT, hn8, hnb8, hn13, hnb13⟩ := up8 Lw13 LL hM hF hT hn8 hnb8 hn13 hnb13
 refine zY rfl rfl uO B2 rfl rfl (zV rfl (zV rfl (zV (by first | rfl | assumption) (zV (by first | rfl | assumption) (zV rfl (zV (by first | rfl | assumption) (zV (by first | rfl | assumption) (zV rfl (zV (by first | rfl | assumption) (zV (by first | rfl | assumption) (zV rfl (zV (by first | rfl | assumption) (zV (by first | rfl | assumption) jC))))))))))))) rfl (fun w14 Cw14 B2 => ?_)
 have Lw14 := Le.of_chg (M := (Ins b2 (Ins b1 M))) Cw14 zS nF2
 obtain ⟨LL, hM, hF, hT, hn8, hnb8, hn13, hnb13⟩ := up8 Lw14 LL hM hF hT hn8 hnb8 hn13 hnb13
 replace B1 := B1.other Cw14 ne1_2
 refine zA (zF (zD (zH rfl kD rfl rfl ?_)))
 refine (gH (k := 0) (l := 0)  (by omega) (by omega) hM).mono ?_
 rintro v14 w15 ⟨hB14, xs14, xa14, xd14, xt14, xb14, xe14, rfl, hn14⟩
 obtain ⟨LL, hM, hF, hT, hn8, hnb8, hn13, hnb13, B1, B2⟩ := fE hB14 LL hM hF hT hn8 hnb8 hn13 hnb13 B1 B2
 obtain ⟨oxa14, oxd14, oxb14, oxe14, _⟩ := hn14.one
 refine zH rfl kD rfl rfl ?_
 refine (gH (k := 1) (l := 0)  (by omega) (by omega) hM).mono ?_
 rintro v15 w16 ⟨hB15, xs15, xa15, xd15, xt15, xb15, xe15, rfl, hn15⟩
 obtain ⟨LL, hM, hF, hT, hn8, hnb8, hn13, hnb13, hn14, B1, B2⟩ := hC hB15 LL hM hF hT hn8 hnb8 hn13 hnb13 hn14 B1 B2
 obtain ⟨oxa15, oxd15, oxb15, oxe15, _⟩ := hn15.one
 refine zH rfl kD rfl rfl ?_
 refine (gH (k := 2) (l := 0)  (by omega) (by omega) hM).mono ?_
 rintro v16 w17 ⟨hB16, xs16, xa16, xd16, xt16, xb16, xe16, rfl, hn16⟩
 obtain ⟨LL, hM, hF, hT, hn8, hnb8, hn13, hnb13, hn14, hn15, B1, B2⟩ := fZ hB16 LL hM hF hT hn8 hnb8 hn13 hnb13 hn14 hn15 B1 B2
 obtain ⟨oxa16, oxd16, oxb16, oxe16, _⟩ := hn16.one
 refine zH rfl kD rfl rfl ?_
 refine (gH (k := 3) (l := 0)  (by omega) (by omega) hM).mono ?_
 rintro v17 w18 ⟨hB17, xs17, xa17, xd17, xt17, xb17, xe17, rfl, hn17⟩
 obtain ⟨LL, hM, hF, hT, hn8, hnb8, hn13, hnb13, hn14, hn15, hn16, B1, B2⟩ := iL hB17 LL hM hF hT hn8 hnb8 hn13 hnb13 hn14 hn15 hn16 B1 B2
 obtain ⟨oxa17, oxd17, oxb17, oxe17, _⟩ := hn17.one
 refine zH rfl iF rfl rfl ?_
 refine (eA hT hn14.gen hn15.gen hn16.gen hn17.gen (by omega) (by omega) (by omega) (by omega) hM).mono ?_
 rintro v18 w19 ⟨hB18, xs18, xa18, xd18, xt18, xb18, xe18, xs18b, xa18b, xd18b, xt18b, xb18b, xe18b, rfl, hn18, hnb18⟩
 obtain ⟨LL, hM, hF, hT, hn8, hnb8, hn13, hnb13, B1, B2⟩ := fE hB18 LL hM hF hT hn8 hnb8 hn13 hnb13 B1 B2
 obtain ⟨oxa18, oxd18, oxb18, oxe18, _⟩ := hn18.one; obtain ⟨oxa18b, oxd18b, oxb18b, oxe18b, _⟩ := hnb18.one
 refine yJ rfl uO (fun w20 b3 N3 => ?_)
 obtain ⟨hBw20, nF3, nM3, Lw20, B3⟩ := nza hF hM N3
 obtain ⟨B1, ne1_3⟩ := bn B1 N3
 obtain ⟨B2, ne2_3⟩ := bn B2 N3
 obtain ⟨LL, hM, hT, hn8, hnb8, hn13, hnb13, hn18, hnb18⟩ := up9 Lw20 LL hM hT hn8 hnb8 hn13 hnb13 hn18 hnb18
 refine zY rfl rfl uO B3 rfl rfl (zV rfl (zV rfl (zV (by first | rfl | assumption) (zV (by first | rfl | assumption) (zV rfl (zV (by first | rfl | assumption) (zV (by first | rfl | assumption) (zV rfl (zV (by first | rfl | assumption) (zV (by first | rfl | assumption) (zV rfl (zV (by first | rfl | assumption) (zV (by first | rfl | assumption) jC))))))))))))) rfl (fun w21 Cw21 B3 => ?_)
 have Lw21 := Le.of_chg (M := (Ins b3 (Ins b2 (Ins b1 M)))) Cw21 zS nF3
 obtain ⟨LL, hM, hT, hn8, hnb8, hn13, hnb13, hn18, hnb18⟩ := up9 Lw21 LL hM hT hn8 hnb8 hn13 hnb13 hn18 hnb18
 replace B1 := B1.other Cw21 ne1_3
 replace B2 := B2.other Cw21 ne2_3
 refine zA (zF ?_)
 refine xK (R := Rb) (R' := Rb) (st := none) jF 17 [0, 31, 32, 35] (qC (by decide +kernel)) xF xO (xN _) (fun _ _ _ h => by cases h) ?_
 refine zN (fun _ hR _ => zO rfl rfl (zB (zI rfl bE uO rfl (B1.below hR) rfl rfl (on0 rfl)))) ?_
 refine zU (vPC (Ins b3 (Ins b2 (Ins b1 M))) (2) ((((1 : Nat) : Rat), ((1 : Nat) : Rat)))) aQ (fun wq hR hst => ?_) ?_
 ·refine zB ?_
  replace hM := ub1 hR hM
  refine zH rfl kD rfl rfl ?_
  refine (gH (k := 1) (l := 1)  (by omega) (by omega) hM).mono ?_
  rintro v20 w22 ⟨hB20, xs20, xa20, xd20, xt20, xb20, xe20, rfl, hn20⟩
  exact zA ⟨rfl, hB20, _, rfl, ⟨_, _, _, _, _, _, rfl, hn20⟩⟩
 refine zU (vPC (Ins b3 (Ins b2 (Ins b1 M))) (2) ((((1 : Nat) : Rat), ((1 : Nat) : Rat)))) aQ (fun wq hR hst => ?_) ?_
 ·refine zB ?_
  replace hM := ub1 hR hM
  refine zH rfl kD rfl rfl ?_
  refine (gH (k := 1) (l := 1)  (by omega) (by omega) hM).mono ?_
  rintro v21 w23 ⟨hB21, xs21, xa21, xd21, xt21, xb21, xe21, rfl, hn21⟩
  exact zA ⟨rfl, hB21, _, rfl, ⟨_, _, _, _, _, _, rfl, hn21⟩⟩
 refine zU (fun v w => ∃ xs22 xa22 xd22 xt22 xb22 xe22 xs22b xa22b xd22b xt22b xb22b xe22b, v = .agg #[.int .i8 1, .bool xs22, xa22, xd22, .bool xt22, xb22, xe22, .bool xs22b, xa22b, xd22b, .bool xt22b, xb22b, xe22b] ∧ PC (Ins b3 (Ins b2 (Ins b1 M))) w (2) ((((1 : Nat) : Rat), ((1 : Nat) : Rat))) xs22 xa22 xd22 xt22 xb22 xe22 ∧ PC (Ins b3 (Ins b2 (Ins b1 M))) w (2) ((((1 : Nat) : Rat), ((1 : Nat) : Rat))) xs22b xa22b xd22b xt22b xb22b xe22b) (fun _ _ _ ⟨xs22, xa22, xd22, xt22, xb22, xe22, xs22b, xa22b, xd22b, xt22b, xb22b, xe22b, e, h0, h1⟩ r => ⟨xs22, xa22, xd22, xt22, xb22, xe22, xs22b, xa22b, xd22b, xt22b, xb22b, xe22b, e, h0.mono (Fz := fun _ => False) (Le.of_below r), h1.mono (Fz := fun _ => False) (Le.of_below r)⟩) (fun wq hR hst => ?_) ?_
 ·refine yA rfl (fun v20 hp20 => ?_)
  obtain ⟨xs20, xa20, xd20, xt20, xb20, xe20, rfl, hn20⟩ := hp20
  refine yA rfl (fun v21 hp21 => ?_)
  obtain ⟨xs21, xa21, xd21, xt21, xb21, xe21, rfl, hn21⟩ := hp21
  refine zB ?_
  exact xR rfl fJ rfl rfl (zW (gO rfl) (zW (rfl) (zW (rfl) xC))) rfl (zA ⟨rfl, yR _, _, rfl, ⟨_, _, _, _, _, _, _, _, _, _, _, _, rfl, hn20, hn21⟩⟩)
 refine zU (Ex (.bool (decide ((((uE ((((0 : Nat) : Rat), ((0 : Nat) : Rat))) ((((2 : Nat) : Rat), ((2 : Nat) : Rat))) ((((0 : Nat) : Rat), ((2 : Nat) : Rat))) ((((2 : Nat) : Rat), ((0 : Nat) : Rat)))).1), ((uE ((((0 : Nat) : Rat), ((0 : Nat) : Rat))) ((((2 : Nat) : Rat), ((2 : Nat) : Rat))) ((((0 : Nat) : Rat), ((2 : Nat) : Rat))) ((((2 : Nat) : Rat), ((0 : Nat) : Rat)))).2.1), ((uE ((((0 : Nat) : Rat), ((0 : Nat) : Rat))) ((((2 : Nat) : Rat), ((2 : Nat) : Rat))) ((((0 : Nat) : Rat), ((2 : Nat) : Rat))) ((((2 : Nat) : Rat), ((0 : Nat) : Rat)))).2.2)) = (1, ((((1 : Nat) : Rat), ((1 : Nat) : Rat))), ((((1 : Nat) : Rat), ((1 : Nat) : Rat)))))))) xM (fun wq hR hst => ?_) ?_
 ·refine zJ rfl (yA rfl (fun v22 hp22 => ?_))
  obtain ⟨xs22, xa22, xd22, xt22, xb22, xe22, xs22b, xa22b, xd22b, xt22b, xb22b, xe22b, rfl, hn22, hnb22⟩ := hp22; obtain ⟨oxa22, oxd22, oxb22, oxe22, _⟩ := hn22.one
  refine zB ?_
  obtain ⟨hM, hn8, hnb8⟩ := ub3 hR hM hn8 hnb8
  refine zH rfl bod27 rfl rfl ?_
  refine (r10alike_c hn8 hnb8 hn22 hnb22 (by omega) (by omega) (by omega) (by omega) hM).mono ?_
  rintro v23 w24 ⟨hB23, rfl⟩
  exact zA ⟨rfl, hB23, _, rfl, rfl⟩
 refine zU (Ex (.bool true)) xM (fun wq hR hst => ?_) ?_
 ·refine zJ rfl (zB ?_)
  exact zC rfl rfl (zA ⟨rfl, yR _, _, rfl, congrArg Value.bool (by decide +kernel)⟩)
 refine zN (fun _ hR _ => zO rfl rfl (zJ rfl (zB (zM rfl rfl (zI rfl bE uO rfl (B2.below hR) rfl rfl (on0 rfl)))))) ?_
 refine zU (vPC (Ins b3 (Ins b2 (Ins b1 M))) (2) ((((1 : Nat) : Rat), ((0 : Nat) : Rat)))) aQ (fun wq hR hst => ?_) ?_
 ·refine zJ rfl (zB ?_)
  replace hM := ub1 hR hM
  refine zM rfl rfl (zH rfl kD rfl rfl ?_)
  refine (gH (k := 1) (l := 0)  (by omega) (by omega) hM).mono ?_
  rintro v26 w25 ⟨hB26, xs26, xa26, xd26, xt26, xb26, xe26, rfl, hn26⟩
  exact zA ⟨rfl, hB26, _, rfl, ⟨_, _, _, _, _, _, rfl, hn26⟩⟩
 refine zU (vPC (Ins b3 (Ins b2 (Ins b1 M))) (2) ((((3 : Nat) : Rat), ((0 : Nat) : Rat)))) aQ (fun wq hR hst => ?_) ?_
 ·refine zJ rfl (zB ?_)
  replace hM := ub1 hR hM
  refine zM rfl rfl (zH rfl kD rfl rfl ?_)
  refine (gH (k := 3) (l := 0)  (by omega) (by omega) hM).mono ?_
  rintro v27 w26 ⟨hB27, xs27, xa27, xd27, xt27, xb27, xe27, rfl, hn27⟩
  exact zA ⟨rfl, hB27, _, rfl, ⟨_, _, _, _, _, _, rfl, hn27⟩⟩
 refine zU (fun v w => ∃ xs28 xa28 xd28 xt28 xb28 xe28 xs28b xa28b xd28b xt28b xb28b xe28b, v = .agg #[.int .i8 2, .bool xs28, xa28, xd28, .bool xt28, xb28, xe28, .bool xs28b, xa28b, xd28b, .bool xt28b, xb28b, xe28b] ∧ PC (Ins b3 (Ins b2 (Ins b1 M))) w (2) ((((1 : Nat) : Rat), ((0 : Nat) : Rat))) xs28 xa28 xd28 xt28 xb28 xe28 ∧ PC (Ins b3 (Ins b2 (Ins b1 M))) w (2) ((((3 : Nat) : Rat), ((0 : Nat) : Rat))) xs28b xa28b xd28b xt28b xb28b xe28b) (fun _ _ _ ⟨xs28, xa28, xd28, xt28, xb28, xe28, xs28b, xa28b, xd28b, xt28b, xb28b, xe28b, e, h0, h1⟩ r => ⟨xs28, xa28, xd28, xt28, xb28, xe28, xs28b, xa28b, xd28b, xt28b, xb28b, xe28b, e, h0.mono (Fz := fun _ => False) (Le.of_below r), h1.mono (Fz := fun _ => False) (Le.of_below r)⟩) (fun wq hR hst => ?_) ?_
 ·refine yA rfl (fun v26 hp26 => ?_)
  obtain ⟨xs26, xa26, xd26, xt26, xb26, xe26, rfl, hn26⟩ := hp26
  refine yA rfl (fun v27 hp27 => ?_)
  obtain ⟨xs27, xa27, xd27, xt27, xb27, xe27, rfl, hn27⟩ := hp27
  refine zJ rfl (zB ?_)
  exact zM rfl rfl (xR rfl fJ rfl rfl (zW (gO rfl) (zW (rfl) (zW (rfl) xC))) rfl (zA ⟨rfl, yR _, _, rfl, ⟨_, _, _, _, _, _, _, _, _, _, _, _, rfl, hn26, hn27⟩⟩))
 refine zU (Ex (.bool (decide ((((uE ((((0 : Nat) : Rat), ((0 : Nat) : Rat))) ((((3 : Nat) : Rat), ((0 : Nat) : Rat))) ((((1 : Nat) : Rat), ((0 : Nat) : Rat))) ((((5 : Nat) : Rat), ((0 : Nat) : Rat)))).1), ((uE ((((0 : Nat) : Rat), ((0 : Nat) : Rat))) ((((3 : Nat) : Rat), ((0 : Nat) : Rat))) ((((1 : Nat) : Rat), ((0 : Nat) : Rat))) ((((5 : Nat) : Rat), ((0 : Nat) : Rat)))).2.1), ((uE ((((0 : Nat) : Rat), ((0 : Nat) : Rat))) ((((3 : Nat) : Rat), ((0 : Nat) : Rat))) ((((1 : Nat) : Rat), ((0 : Nat) : Rat))) ((((5 : Nat) : Rat), ((0 : Nat) : Rat)))).2.2)) = (2, ((((1 : Nat) : Rat), ((0 : Nat) : Rat))), ((((3 : Nat) : Rat), ((0 : Nat) : Rat)))))))) xM (fun wq hR hst => ?_) ?_
 ·refine zJ rfl (yA rfl (fun v28 hp28 => ?_))
  obtain ⟨xs28, xa28, xd28, xt28, xb28, xe28, xs28b, xa28b, xd28b, xt28b, xb28b, xe28b, rfl, hn28, hnb28⟩ := hp28; obtain ⟨oxa28, oxd28, oxb28, oxe28, _⟩ := hn28.one
  refine zJ rfl (zB ?_)
  obtain ⟨hM, hn13, hnb13⟩ := ub3 hR hM hn13 hnb13
  refine zM rfl rfl (zH rfl bod27 rfl rfl ?_)
  refine (r10alike_c hn13 hnb13 hn28 hnb28 (by omega) (by omega) (by omega) (by omega) hM).mono ?_
  rintro v29 w27 ⟨hB29, rfl⟩
  exact zA ⟨rfl, hB29, _, rfl, rfl⟩
 refine zU (Ex (.bool (decide ((((uE ((((0 : Nat) : Rat), ((0 : Nat) : Rat))) ((((3 : Nat) : Rat), ((0 : Nat) : Rat))) ((((1 : Nat) : Rat), ((0 : Nat) : Rat))) ((((5 : Nat) : Rat), ((0 : Nat) : Rat)))).1), ((uE ((((0 : Nat) : Rat), ((0 : Nat) : Rat))) ((((3 : Nat) : Rat), ((0 : Nat) : Rat))) ((((1 : Nat) : Rat), ((0 : Nat) : Rat))) ((((5 : Nat) : Rat), ((0 : Nat) : Rat)))).2.1), ((uE ((((0 : Nat) : Rat), ((0 : Nat) : Rat))) ((((3 : Nat) : Rat), ((0 : Nat) : Rat))) ((((1 : Nat) : Rat), ((0 : Nat) : Rat))) ((((5 : Nat) : Rat), ((0 : Nat) : Rat)))).2.2)) = (2, ((((1 : Nat) : Rat), ((0 : Nat) : Rat))), ((((3 : Nat) : Rat), ((0 : Nat) : Rat)))))))) xM (fun wq hR hst => ?_) ?_
 ·refine zJ rfl (zJ rfl (zB ?_))
  exact yS rfl rfl rfl (on0 rfl)
 refine zU (Ex (.bool true)) xM (fun wq hR hst => ?_) ?_
 ·refine zJ rfl (zB ?_)
  exact zC rfl rfl (zA ⟨rfl, yR _, _, rfl, congrArg Value.bool (by decide +kernel)⟩)
 refine zN (fun _ hR _ => zO rfl rfl (zJ rfl (zB (zM rfl rfl (zI rfl bE uO rfl (B3.below hR) rfl rfl (on0 rfl)))))) ?_
 refine zU (vPC (Ins b3 (Ins b2 (Ins b1 M))) (2) ((((0 : Nat) : Rat), ((0 : Nat) : Rat)))) aQ (fun wq hR hst => ?_) ?_
 ·refine zJ rfl (zB ?_)
  replace hM := ub1 hR hM
  refine zM rfl rfl (zH rfl kD rfl rfl ?_)
  refine (gH (k := 0) (l := 0)  (by omega) (by omega) hM).mono ?_
  rintro v33 w28 ⟨hB33, xs33, xa33, xd33, xt33, xb33, xe33, rfl, hn33⟩
  exact zA ⟨rfl, hB33, _, rfl, ⟨_, _, _, _, _, _, rfl, hn33⟩⟩
 refine zU (vPC (Ins b3 (Ins b2 (Ins b1 M))) (2) ((((0 : Nat) : Rat), ((0 : Nat) : Rat)))) aQ (fun wq hR hst => ?_) ?_
 ·refine zJ rfl (zB ?_)
  replace hM := ub1 hR hM
  refine zM rfl rfl (zH rfl kD rfl rfl ?_)
  refine (gH (k := 0) (l := 0)  (by omega) (by omega) hM).mono ?_
  rintro v34 w29 ⟨hB34, xs34, xa34, xd34, xt34, xb34, xe34, rfl, hn34⟩
  exact zA ⟨rfl, hB34, _, rfl, ⟨_, _, _, _, _, _, rfl, hn34⟩⟩
 refine zU (fun v w => ∃ xs35 xa35 xd35 xt35 xb35 xe35 xs35b xa35b xd35b xt35b xb35b xe35b, v = .agg #[.int .i8 0, .bool xs35, xa35, xd35, .bool xt35, xb35, xe35, .bool xs35b, xa35b, xd35b, .bool xt35b, xb35b, xe35b] ∧ PC (Ins b3 (Ins b2 (Ins b1 M))) w (2) ((((0 : Nat) : Rat), ((0 : Nat) : Rat))) xs35 xa35 xd35 xt35 xb35 xe35 ∧ PC (Ins b3 (Ins b2 (Ins b1 M))) w (2) ((((0 : Nat) : Rat), ((0 : Nat) : Rat))) xs35b xa35b xd35b xt35b xb35b xe35b) (fun _ _ _ ⟨xs35, xa35, xd35, xt35, xb35, xe35, xs35b, xa35b, xd35b, xt35b, xb35b, xe35b, e, h0, h1⟩ r => ⟨xs35, xa35, xd35, xt35, xb35, xe35, xs35b, xa35b, xd35b, xt35b, xb35b, xe35b, e, h0.mono (Fz := fun _ => False) (Le.of_below r), h1.mono (Fz := fun _ => False) (Le.of_below r)⟩) (fun wq hR hst => ?_) ?_
 ·refine yA rfl (fun v33 hp33 => ?_)
  obtain ⟨xs33, xa33, xd33, xt33, xb33, xe33, rfl, hn33⟩ := hp33
  refine yA rfl (fun v34 hp34 => ?_)
  obtain ⟨xs34, xa34, xd34, xt34, xb34, xe34, rfl, hn34⟩ := hp34
  refine zJ rfl (zB ?_)
  exact zM rfl rfl (kM rfl fJ uO rfl (zW (rfl) (zW (rfl) xC)) rfl rfl (zA ⟨rfl, yR _, _, rfl, ⟨_, _, _, _, _, _, _, _, _, _, _, _, rfl, hn33, hn34⟩⟩))
 refine xL (fun wq4 hR4 hpost4 => ?_)
 refine zO rfl rfl (zJ rfl (zJ rfl (yA rfl (fun v35 hp35 => ?_))))
 obtain ⟨xs35, xa35, xd35, xt35, xb35, xe35, xs35b, xa35b, xd35b, xt35b, xb35b, xe35b, rfl, hn35, hnb35⟩ := hp35; obtain ⟨oxa35, oxd35, oxb35, oxe35, _⟩ := hn35.one
 refine zB ?_
 simp only [List.drop_succ_cons, List.drop_zero, List.drop_nil, List.toList_toArray]
 obtain ⟨LL, hM, hT, hn18, hnb18⟩ := ub5 hR4 LL hM hT hn18 hnb18
 refine zM rfl rfl (zH rfl bod27 rfl rfl ?_)
 refine (r10alike_c hn18 hnb18 hn35 hnb35 (by omega) (by omega) (by omega) (by omega) hM).mono ?_
 rintro v36 w30 ⟨hB36, rfl⟩
 obtain ⟨LL, hM, hT⟩ := ub3 hB36 LL hM hT
 refine yS rfl rfl rfl (zC rfl rfl (eQ (d := 38) rfl (by decide +kernel) (zM rfl rfl (zH rfl kD rfl rfl ?_))))
 refine (gH (k := 0) (l := 0)  (by omega) (by omega) hM).mono ?_
 rintro v39 w31 ⟨hB39, xs39, xa39, xd39, xt39, xb39, xe39, rfl, hn39⟩
 obtain ⟨LL, hM, hT⟩ := ub3 hB39 LL hM hT
 refine zM rfl rfl (zH rfl kD rfl rfl ?_)
 refine (gH (k := 0) (l := 0)  (by omega) (by omega) hM).mono ?_
 rintro v40 w32 ⟨hB40, xs40, xa40, xd40, xt40, xb40, xe40, rfl, hn40⟩
 obtain ⟨LL, hM, hT, hn39⟩ := ub4 hB40 LL hM hT hn39
 refine zM rfl rfl (zH rfl kD rfl rfl ?_)
 refine (gH (k := 0) (l := 0)  (by omega) (by omega) hM).mono ?_
 rintro v41 w33 ⟨hB41, xs41, xa41, xd41, xt41, xb41, xe41, rfl, hn41⟩
 obtain ⟨LL, hM, hT, hn39, hn40⟩ := ub5 hB41 LL hM hT hn39 hn40
 refine zM rfl rfl (zH rfl kD rfl rfl ?_)
 refine (gH (k := 1) (l := 1)  (by omega) (by omega) hM).mono ?_
 rintro v42 w34 ⟨hB42, xs42, xa42, xd42, xt42, xb42, xe42, rfl, hn42⟩
 obtain ⟨LL, hM, hT, hn39, hn40, hn41⟩ := ub6 hB42 LL hM hT hn39 hn40 hn41
 refine zM rfl rfl (zH rfl bod28 rfl rfl ?_)
 refine (mmeets2_c hT hn39.gen hn40.gen hn41.gen hn42.gen (by omega) (by omega) (by omega) (by omega) hM).mono ?_
 rintro v43 w35 ⟨hB43, rfl⟩
 replace LL := ub1 hB43 LL
 refine eQ (d := 43) rfl (by decide +kernel) (yS rfl rfl rfl (zE rfl rfl (zA (zZ ?_))))
 refine zP ⟨[_], ⟨rfl, trivial⟩, ?_⟩
 dsimp only [zX]
 subst hFz
 exact ⟨LL.below (Nat.le_refl _), rfl⟩
end Go.Proofs.YtfkejnlohkgbgaaGreatDoor
set_option maxRecDepth 100000
namespace Go.Proofs.YtfkejnlohkgbgaaGreatDoor
open Go.SL Go.RowKit Go.Proofs Tryz
variable {M : Nat → Prop} {w : World}
theorem q4l3 {bb : Nat} {ty : TypeId} {q0 q1 q2 : N4} {s0 t0 : Bool} {a0 d0 b0 e0 : Value} {s1 t1 : Bool} {a1 d1 b1 e1 : Value} {s2 t2 : Bool} {a2 d2 b2 e2 : Value} (hk : KBlk M w bb ty [.bool s0, a0, d0, .bool t0, b0, e0, .bool s1, a1, d1, .bool t1, b1, e1, .bool s2, a2, d2, .bool t2, b2, e2]) (z0 : Q4 M w 0 q0 s0 a0 d0 t0 b0 e0) (z1 : Q4 M w 0 q1 s1 a1 d1 t1 b1 e1) (z2 : Q4 M w 0 q2 s2 a2 d2 t2 b2 e2) : Q4L M w 0 [q0, q1, q2] (.slice (some ⟨bb, 0, none⟩) 3 3) :=
  ⟨row_blk (l := [q0, q1, q2]) hk (by simp) (by simp) (((Elems.nil.snoc (us := [.bool s0, a0, d0, .bool t0, b0, e0]) rfl ⟨_, _, _, _, _, _, rfl, z0⟩).snoc (us := [.bool s1, a1, d1, .bool t1, b1, e1]) rfl ⟨_, _, _, _, _, _, rfl, z1⟩).snoc (us := [.bool s2, a2, d2, .bool t2, b2, e2]) rfl ⟨_, _, _, _, _, _, rfl, z2⟩)⟩
theorem longB_not {l : List N4} {x : N4} {n : Nat} (h : fU l = false) (hx : x ∈ l) (hn : n ≤ m4 x) : n ≤ 2 := by
  unfold fU at h
  rw [decide_eq_false_iff_not] at h
  have : ¬ 2 < m4 x := fun c => h ⟨x, hx, c⟩
  omega
end Go.Proofs.YtfkejnlohkgbgaaGreatDoor
namespace Go.Proofs.YtfkejnlohkgbgaaGreatDoor
open Go Go.SL Go.RowKit Tryz
structure plen (p : P2) (n : Nat) : Prop where
 x : qU p.1 n
 y : qU p.2 n
theorem rlen_sub {p q : Rat} {A B : Nat} (h1 : qU p A) (h2 : qU q B) : qU (p - q) (A + B + 1) := by
 rw [Rat.sub_eq_add_neg]; exact aT h1 (rlen_neg h2)
theorem plen.up {p : P2} {n m : Nat} (h : plen p n) (hm : n ≤ m) : plen p m := ⟨gM h.x hm, gM h.y hm⟩
theorem plen.sub {p q : P2} {A B : Nat} (h1 : plen p A) (h2 : plen q B) : plen (jG p q) (A + B + 1) := ⟨rlen_sub h1.x h2.x, rlen_sub h1.y h2.y⟩
theorem plen.add {p q : P2} {A B : Nat} (h1 : plen p A) (h2 : plen q B) : plen (fQ p q) (A + B + 1) := ⟨aT h1.x h2.x, aT h1.y h2.y⟩
theorem plen.scale {p : P2} {q : Rat} {A B : Nat} (h1 : plen p A) (h2 : qU q B) : plen (bA p q) (A + B) := ⟨aS h1.x h2, aS h1.y h2⟩
theorem plen.cross {p q : P2} {A B : Nat} (h1 : plen p A) (h2 : plen q B) : qU (jD p q) ((A + B) + (A + B) + 1) := rlen_sub (aS h1.x h2.y) (aS h1.y h2.x)
theorem plen.at_ {p q : P2} {t : Rat} {A B C : Nat} (h1 : plen p A) (h2 : plen q B) (h3 : qU t C) : plen (atP p q t) (A + ((B + A + 1) + C) + 1) := h1.add ((h2.sub h1).scale h3)
theorem rlen_zero' : qU 0 1 := by unfold qU; rw [show (0 : Rat).num.natAbs = 0 from rfl, show (0 : Rat).den = 1 from rfl, xQ, qE]; exact ⟨Nat.zero_le _, Nat.le_refl _⟩
theorem plen_zero : plen (0, 0) 1 := ⟨rlen_zero', rlen_zero'⟩
theorem plen_lines {a b c d : P2} {A B : Nat} (ha : plen a A) (hb : plen b A) (hc : plen c B) (hd : plen d B) : plen (gV a b c d) (9 * A + 10 * B + 13) := by
 unfold gV
 split
 ·unfold linesT
  have h1 := (hc.sub ha).cross (hd.sub hc)
  have h2 := (hb.sub ha).cross (hd.sub hc)
  exact (ha.at_ hb (rlen_quo h1 h2)).up (by omega)
 ·exact plen_zero.up (by omega)
theorem plen_from {a b : P2} {A : Nat} (ha : plen a A) (hb : plen b A) : plen (qQ a b).1 A ∧ plen (qQ a b).2 A := by
 unfold qQ; split
 ·exact ⟨hb, ha⟩
 ·exact ⟨ha, hb⟩
theorem plen_segs {a b c d : P2} {A B : Nat} (ha : plen a A) (hb : plen b A) (hc : plen c B) (hd : plen d B) : plen (uE a b c d).2.1 (9 * A + 10 * B + 13) ∧ plen (uE a b c d).2.2 (9 * A + 10 * B + 13) := by
 have h1 := plen_from ha hb; have h2 := plen_from hc hd
 have hl := plen_lines h1.1 h1.2 h2.1 h2.2
 have h0 : ∀ n, 1 ≤ n → plen (0, 0) n := fun n hn => plen_zero.up hn
 have lo : plen (loP (qQ a b) (qQ c d)) (9 * A + 10 * B + 13) := by
  unfold loP; split
  ·exact h2.1.up (by omega)
  ·exact h1.1.up (by omega)
 have hi : plen (hiP (qQ a b) (qQ c d)) (9 * A + 10 * B + 13) := by
  unfold hiP; split
  ·exact h2.2.up (by omega)
  ·exact h1.2.up (by omega)
 unfold uE gU
 split
 ·exact ⟨h0 _ (by omega), h0 _ (by omega)⟩
 ·split
  ·exact ⟨lo, hi⟩
  ·split
   ·exact ⟨hl, hl⟩
   ·exact ⟨h0 _ (by omega), h0 _ (by omega)⟩
section
variable {M : Nat → Prop} {w : World} {n m : Nat} {s t : Bool} {a d b e : Value}
theorem PC.relen {p : P2} (h : PC M w n p s a d t b e) (hl : plen p m) : PC M w m p s a d t b e := ⟨h.x.relen hl.x, h.y.relen hl.y⟩
theorem PQ.plen {p : P2} (h : PQ M w n p s a d t b e) (hn : n + 1 ≤ m) : plen p m := ⟨gM h.x.rlen hn, gM h.y.rlen hn⟩
end
end Go.Proofs.YtfkejnlohkgbgaaGreatDoor
set_option maxRecDepth 100000
namespace Go.Proofs.YtfkejnlohkgbgaaGreatDoor
open Go.SL Go.RowKit Go.Proofs Tryz
variable {M : Nat → Prop} {w : World}
theorem law_MeetLies {p : P2} {n0 : Nat} {xs0 xt0 : Bool} {xa0 xd0 xb0 xe0 : Value} {q : P2} {n1 : Nat} {xs1 xt1 : Bool} {xa1 xd1 xb1 xe1 : Value} {u : P2} {n2 : Nat} {xs2 xt2 : Bool} {xa2 xd2 xb2 xe2 : Value} {t : Rat} {n3 : Nat} {xs3 : Bool} {xa3 xd3 : Value} (hT : Tab M w) (h0 : PQ M w n0 p xs0 xa0 xd0 xt0 xb0 xe0) (h1 : PQ M w n1 q xs1 xa1 xd1 xt1 xb1 xe1) (h2 : PQ M w n2 u xs2 xa2 xd2 xt2 xb2 xe2) (h3 : QC M w n3 t xs3 xa3 xd3) {q0 : N4} (z0 : Q4 M w 0 q0 xs0 xa0 xd0 xt0 xb0 xe0) (hn0 : n0 ≤ m4 q0) {q1 : N4} (z1 : Q4 M w 0 q1 xs1 xa1 xd1 xt1 xb1 xe1) (hn1 : n1 ≤ m4 q1) {q2 : N4} (z2 : Q4 M w 0 q2 xs2 xa2 xd2 xt2 xb2 xe2) (hn2 : n2 ≤ m4 q2) {k3 l3 : Nat} (za : ∃ p c, xa3 = .slice p k3 c) (zd : ∃ p c, xd3 = .slice p l3 c) (hn3 : n3 ≤ max k3 l3) (hM : OkM M w) :
    CallsV prog 5 [.agg #[.bool xs0, xa0, xd0, .bool xt0, xb0, xe0], .agg #[.bool xs1, xa1, xd1, .bool xt1, xb1, xe1], .agg #[.bool xs2, xa2, xd2, .bool xt2, xb2, xe2], .agg #[.bool xs3, xa3, xd3]] w fun r w' => Below w.heap.size w w' ∧ r = .bool true := by
 obtain ⟨Fz, hFz, hF, LL⟩ := fz0 M w
 obtain ⟨oxa0, oxd0, oxb0, oxe0, _⟩ := h0.one
 obtain ⟨oxa1, oxd1, oxb1, oxe1, _⟩ := h1.one
 obtain ⟨oxa2, oxd2, oxb2, oxe2, _⟩ := h2.one
 obtain ⟨oxa3, oxd3, _⟩ := h3.one
 obtain ⟨pa, ca, rfl⟩ := za
 obtain ⟨pd, cd, rfl⟩ := zd
 have hM0 := hM
 refine zQ func5 rfl ntmps5 rfl ?_
 refine zF (zD (yE rfl rfl (fun w1 b4 N4 => ?_)))
 obtain ⟨_, nF4, nM4, Lw1, B4⟩ := nza hF hM N4
 obtain ⟨LL, hM, hF, hT, h0, h1, h2, h3, z0, z1, z2⟩ := up11 Lw1 LL hM hF hT h0 h1 h2 h3 z0 z1 z2
 refine yE rfl rfl (fun w2 b5 N5 => ?_)
 obtain ⟨hBw2, nF5, nM5, Lw2, B5⟩ := nza hF hM N5
 obtain ⟨B4, ne4_5⟩ := bn B4 N5
 obtain ⟨LL, hM, hF, hT, h0, h1, h2, h3, z0, z1, z2⟩ := up11 Lw2 LL hM hF hT h0 h1 h2 h3 z0 z1 z2
 refine yE rfl rfl (fun w3 b6 N6 => ?_)
 obtain ⟨hBw3, nF6, nM6, Lw3, B6⟩ := nza hF hM N6
 obtain ⟨B4, ne4_6⟩ := bn B4 N6
 obtain ⟨B5, ne5_6⟩ := bn B5 N6
 obtain ⟨LL, hM, hF, hT, h0, h1, h2, h3, z0, z1, z2⟩ := up11 Lw3 LL hM hF hT h0 h1 h2 h3 z0 z1 z2
 refine yE rfl rfl (fun w4 b7 N7 => ?_)
 obtain ⟨hBw4, nF7, nM7, Lw4, B7⟩ := nza hF hM N7
 obtain ⟨B4, ne4_7⟩ := bn B4 N7
 obtain ⟨B5, ne5_7⟩ := bn B5 N7
 obtain ⟨B6, ne6_7⟩ := bn B6 N7
 obtain ⟨LL, hM, hF, hT, h0, h1, h2, h3, z0, z1, z2⟩ := up11 Lw4 LL hM hF hT h0 h1 h2 h3 z0 z1 z2
 refine zE rfl rfl (zA (zF (zF ?_)))
 by_cases hg1_5 : fU [q0, q1, q2] = true
 ·skip
  refine xK (R := Rb) (R' := Rb) (st := none) jF 24 [4, 5, 6, 7, 8, 35, 36, 37] (qC (by decide +kernel)) xF xO (xN _) (fun _ _ _ h => by cases h) ?_
  refine zU (Ex (.agg #[.bool xs0, xa0, xd0, .bool xt0, xb0, xe0])) xM (fun wq hR hst => ?_) ?_
  ·refine zO rfl rfl (zB ?_)
   replace B4 := B4.below hR
   exact zI rfl yB yQ rfl B4 rfl rfl (on0 rfl)
  refine zU (Ex (.agg #[.bool xs1, xa1, xd1, .bool xt1, xb1, xe1])) xM (fun wq hR hst => ?_) ?_
  ·refine zO rfl rfl (zB ?_)
   replace B5 := B5.below hR
   exact zI rfl yB yQ rfl B5 rfl rfl (on0 rfl)
  refine zU (Ex (.agg #[.bool xs2, xa2, xd2, .bool xt2, xb2, xe2])) xM (fun wq hR hst => ?_) ?_
  ·refine zO rfl rfl (zB ?_)
   replace B6 := B6.below hR
   exact zI rfl yB yQ rfl B6 rfl rfl (on0 rfl)
  refine zU (fun v w => ∃ bb, v = .slice (some ⟨bb, 0, none⟩) 3 3 ∧ KBlk (Ins b7 (Ins b6 (Ins b5 (Ins b4 M)))) w bb 39 [.bool xs0, xa0, xd0, .bool xt0, xb0, xe0, .bool xs1, xa1, xd1, .bool xt1, xb1, xe1, .bool xs2, xa2, xd2, .bool xt2, xb2, xe2]) (fun _ _ _ ⟨b, e, h⟩ r => ⟨b, e, h.mono (Fz := fun _ => False) (Le.of_below r)⟩) (fun wq hR hst => ?_) ?_
  ·refine zJ rfl (zJ rfl (zJ rfl (zB ?_)))
   replace hM := ub1 hR hM
   refine yY rfl yu63 yQ rfl rfl rfl rfl (zW rfl (zW rfl (zW rfl xC))) rfl rfl rfl (fun w5 b17 N17 => ?_)
   have hBw5 := N17.below
   have nM17 := hM.new N17
   have B17 := N17.blk
   have hB17 := hBw5
   exact zA ⟨rfl, hB17, _, rfl, ⟨b17, rfl, KBlk.mk B17 nM17⟩⟩
  apply zN
  ·intro wq hR hst
   refine yA rfl (fun v17 hp17 => ?_)
   obtain ⟨bb17, rfl, hk17⟩ := hp17
   refine zB ?_
   obtain ⟨hM, z0, z1, z2⟩ := ub4 hR hM z0 z1 z2
   refine zH rfl bod24 rfl rfl ?_
   refine (long_c (q4l3 hk17 z0 z1 z2) (by simp) (by simp) hM).mono ?_
   rintro v18 w6 ⟨hB18, rfl⟩
   exact zA ⟨rfl, hB18, _, rfl, rfl⟩
  refine zU (Ex (.bool true)) xM (fun wq hR hst => ?_) ?_
  ·refine zJ rfl (zB ?_)
   exact zC rfl rfl (zA ⟨rfl, yR _, _, rfl, congrArg Value.bool (hg1_5)⟩)
  refine zN (fun _ _ _ => zO rfl rfl (zJ rfl (zB (zR rfl rfl rfl rfl (on0 rfl))))) ?_
  refine zN (fun _ _ _ => zJ rfl (zJ rfl (zB (zR rfl rfl rfl rfl (on0 rfl))))) ?_
  refine zN (fun _ _ _ => zJ rfl (zJ rfl (zB (zR rfl rfl rfl rfl (on0 rfl))))) ?_
  refine zN (fun _ _ _ => zJ rfl (zJ rfl (zB (zR rfl rfl rfl rfl (on0 rfl))))) ?_
  refine zN (fun _ _ _ => zO rfl rfl (zJ rfl (zB (zR rfl rfl rfl rfl (on0 rfl))))) ?_
  refine zN (fun _ _ _ => zJ rfl (zJ rfl (zB (zR rfl rfl rfl rfl (on0 rfl))))) ?_
  refine zN (fun _ _ _ => zJ rfl (zJ rfl (zB (zR rfl rfl rfl rfl (on0 rfl))))) ?_
  refine zN (fun _ _ _ => zJ rfl (zJ rfl (zJ rfl (zB (zR rfl rfl rfl rfl (on0 rfl)))))) ?_
  refine zN (fun _ _ _ => zJ rfl (zJ rfl (zB (zR rfl rfl rfl rfl (on0 rfl))))) ?_
  refine zU (Ex (.bool true)) xM (fun wq hR hst => ?_) ?_
  ·refine zJ rfl (zJ rfl (zB ?_))
   exact yS rfl rfl rfl (on0 rfl)
  refine zU (Ex (.bool true)) xM (fun wq hR hst => ?_) ?_
  ·refine zJ rfl (zB ?_)
   exact zC rfl rfl (on0 rfl)
  refine zN (fun _ _ _ => zO rfl rfl (zJ rfl (zB (zR rfl rfl rfl rfl (on0 rfl))))) ?_
  refine zN (fun _ _ _ => zJ rfl (zJ rfl (zB (zR rfl rfl rfl rfl (on0 rfl))))) ?_
  refine zN (fun _ _ _ => zJ rfl (zJ rfl (zB (zR rfl rfl rfl rfl (on0 rfl))))) ?_
  refine zU (Ex (.bool true)) xM (fun wq hR hst => ?_) ?_
  ·refine zJ rfl (zJ rfl (zB ?_))
   exact yS rfl rfl rfl (on0 rfl)
  refine zU (Ex (.bool true)) xM (fun wq hR hst => ?_) ?_
  ·refine zJ rfl (zB ?_)
   exact zC rfl rfl (on0 rfl)
  refine zN (fun _ _ _ => zO rfl rfl (zJ rfl (zB (zR rfl rfl rfl rfl (on0 rfl))))) ?_
  refine zN (fun _ _ _ => zJ rfl (zB (zR rfl rfl rfl rfl (on0 rfl)))) ?_
  refine xL (fun wq1 hR1 hpost1 => ?_)
  refine zO rfl rfl (zO rfl rfl (zO rfl rfl (zO rfl rfl (zO rfl rfl (zJ rfl (zJ rfl (zJ rfl (zB ?_))))))))
  simp only [List.drop_succ_cons, List.drop_zero, List.drop_nil, List.toList_toArray]
  obtain ⟨LL, hM, hT⟩ := ub3 hR1 LL hM hT
  refine zR rfl rfl rfl rfl (zR rfl rfl rfl rfl (yS rfl rfl rfl (zA (uN rfl (zF (zD (zH rfl fC rfl rfl ?_)))))))
  refine (bY hT   hM).mono ?_
  rintro v41 w7 ⟨hB41, rfl⟩
  replace LL := ub1 hB41 LL
  refine zE rfl rfl (zA (zZ ?_))
  refine zP ⟨[_], ⟨rfl, trivial⟩, ?_⟩
  dsimp only [zX]
  subst hFz
  exact ⟨LL.below (Nat.le_refl _), rfl⟩
 ·skip
  by_cases hg1_16 : (2 : Int) < max ((k3 : Nat) : Int) ((l3 : Nat) : Int)
  ·skip
   refine xK (R := Rb) (R' := Rb) (st := none) jF 24 [4, 5, 6, 7, 8, 35, 36, 37] (qC (by decide +kernel)) xF xO (xN _) (fun _ _ _ h => by cases h) ?_
   refine zU (Ex (.agg #[.bool xs0, xa0, xd0, .bool xt0, xb0, xe0])) xM (fun wq hR hst => ?_) ?_
   ·refine zO rfl rfl (zB ?_)
    replace B4 := B4.below hR
    exact zI rfl yB yQ rfl B4 rfl rfl (on0 rfl)
   refine zU (Ex (.agg #[.bool xs1, xa1, xd1, .bool xt1, xb1, xe1])) xM (fun wq hR hst => ?_) ?_
   ·refine zO rfl rfl (zB ?_)
    replace B5 := B5.below hR
    exact zI rfl yB yQ rfl B5 rfl rfl (on0 rfl)
   refine zU (Ex (.agg #[.bool xs2, xa2, xd2, .bool xt2, xb2, xe2])) xM (fun wq hR hst => ?_) ?_
   ·refine zO rfl rfl (zB ?_)
    replace B6 := B6.below hR
    exact zI rfl yB yQ rfl B6 rfl rfl (on0 rfl)
   refine zU (fun v w => ∃ bb, v = .slice (some ⟨bb, 0, none⟩) 3 3 ∧ KBlk (Ins b7 (Ins b6 (Ins b5 (Ins b4 M)))) w bb 39 [.bool xs0, xa0, xd0, .bool xt0, xb0, xe0, .bool xs1, xa1, xd1, .bool xt1, xb1, xe1, .bool xs2, xa2, xd2, .bool xt2, xb2, xe2]) (fun _ _ _ ⟨b, e, h⟩ r => ⟨b, e, h.mono (Fz := fun _ => False) (Le.of_below r)⟩) (fun wq hR hst => ?_) ?_
   ·refine zJ rfl (zJ rfl (zJ rfl (zB ?_)))
    replace hM := ub1 hR hM
    refine yY rfl yu63 yQ rfl rfl rfl rfl (zW rfl (zW rfl (zW rfl xC))) rfl rfl rfl (fun w8 b17 N17 => ?_)
    have hBw8 := N17.below
    have nM17 := hM.new N17
    have B17 := N17.blk
    have hB17 := hBw8
    exact zA ⟨rfl, hB17, _, rfl, ⟨b17, rfl, KBlk.mk B17 nM17⟩⟩
   apply zN
   ·intro wq hR hst
    refine yA rfl (fun v17 hp17 => ?_)
    obtain ⟨bb17, rfl, hk17⟩ := hp17
    refine zB ?_
    obtain ⟨hM, z0, z1, z2⟩ := ub4 hR hM z0 z1 z2
    refine zH rfl bod24 rfl rfl ?_
    refine (long_c (q4l3 hk17 z0 z1 z2) (by simp) (by simp) hM).mono ?_
    rintro v18 w9 ⟨hB18, rfl⟩
    exact zA ⟨rfl, hB18, _, rfl, rfl⟩
   refine zU (Ex (.bool false)) xM (fun wq hR hst => ?_) ?_
   ·refine zJ rfl (zB ?_)
    exact zC rfl rfl (zA ⟨rfl, yR _, _, rfl, congrArg Value.bool (by simpa using hg1_5)⟩)
   refine zN (fun _ _ _ => zO rfl rfl (zJ rfl (zB (zM rfl rfl (zL 0 rfl yu33 rfl rfl xE rfl rfl (on0 rfl)))))) ?_
   refine zN (fun _ _ _ => zJ rfl (zJ rfl (zB (zM rfl rfl (zL 1 rfl yu31 rfl rfl xW rfl rfl (on0 rfl)))))) ?_
   refine zU (Ex (.slice pa k3 ca)) xM (fun wq hR hst => ?_) ?_
   ·refine zJ rfl (zJ rfl (zB ?_))
    replace B7 := B7.below hR
    exact zM rfl rfl (zT rfl xA rfl B7 rfl (on0 rfl))
   refine zU (Ex (.int .i64 ((k3 : Nat) : Int))) xM (fun wq hR hst => ?_) ?_
   ·refine zJ rfl (zJ rfl (zB ?_))
    refine zM rfl rfl ?_
    first | refine yT rfl yu29 rfl (IsNat.slc (by assumption)) ?_ | refine xB rfl yu29 rfl ?_
    exact on0 rfl
   refine zN (fun _ _ _ => zO rfl rfl (zJ rfl (zB (zM rfl rfl (zL 2 rfl yu33 rfl rfl xW rfl rfl (on0 rfl)))))) ?_
   refine zU (Ex (.slice pd l3 cd)) xM (fun wq hR hst => ?_) ?_
   ·refine zJ rfl (zJ rfl (zB ?_))
    replace B7 := B7.below hR
    exact zM rfl rfl (zT rfl xA rfl B7 rfl (on0 rfl))
   refine zU (Ex (.int .i64 ((l3 : Nat) : Int))) xM (fun wq hR hst => ?_) ?_
   ·refine zJ rfl (zJ rfl (zB ?_))
    refine zM rfl rfl ?_
    first | refine yT rfl yu29 rfl (IsNat.slc (by assumption)) ?_ | refine xB rfl yu29 rfl ?_
    exact on0 rfl
   refine zU (Ex (.int .i64 (max ((k3 : Nat) : Int) ((l3 : Nat) : Int)))) xM (fun wq hR hst => ?_) ?_
   ·refine zJ rfl (zJ rfl (zJ rfl (zB ?_)))
    exact zM rfl rfl (uU rfl rfl rfl (on0 rfl))
   refine zU (Ex (.bool (decide ((2 : Int) < max ((k3 : Nat) : Int) ((l3 : Nat) : Int))))) xM (fun wq hR hst => ?_) ?_
   ·refine zJ rfl (zJ rfl (zB ?_))
    exact zM rfl rfl (qL rfl rfl rfl (on0 rfl))
   refine zN (fun _ _ _ => zJ rfl (zJ rfl (zB (yS rfl rfl rfl (on0 rfl))))) ?_
   refine zU (Ex (.bool true)) xM (fun wq hR hst => ?_) ?_
   ·refine zJ rfl (zB ?_)
    exact zC rfl rfl (zA ⟨rfl, yR _, _, rfl, congrArg Value.bool (decide_eq_true hg1_16)⟩)
   refine zN (fun _ _ _ => zO rfl rfl (zJ rfl (zB (zR rfl rfl rfl rfl (on0 rfl))))) ?_
   refine zN (fun _ _ _ => zJ rfl (zJ rfl (zB (zR rfl rfl rfl rfl (on0 rfl))))) ?_
   refine zN (fun _ _ _ => zJ rfl (zJ rfl (zB (zR rfl rfl rfl rfl (on0 rfl))))) ?_
   refine zU (Ex (.bool true)) xM (fun wq hR hst => ?_) ?_
   ·refine zJ rfl (zJ rfl (zB ?_))
    exact yS rfl rfl rfl (on0 rfl)
   refine zU (Ex (.bool true)) xM (fun wq hR hst => ?_) ?_
   ·refine zJ rfl (zB ?_)
    exact zC rfl rfl (on0 rfl)
   refine zN (fun _ _ _ => zO rfl rfl (zJ rfl (zB (zR rfl rfl rfl rfl (on0 rfl))))) ?_
   refine zN (fun _ _ _ => zJ rfl (zB (zR rfl rfl rfl rfl (on0 rfl)))) ?_
   refine xL (fun wq1 hR1 hpost1 => ?_)
   refine zO rfl rfl (zO rfl rfl (zO rfl rfl (zO rfl rfl (zO rfl rfl (zJ rfl (zJ rfl (zJ rfl (zB ?_))))))))
   simp only [List.drop_succ_cons, List.drop_zero, List.drop_nil, List.toList_toArray]
   obtain ⟨LL, hM, hT⟩ := ub3 hR1 LL hM hT
   refine zR rfl rfl rfl rfl (zR rfl rfl rfl rfl (yS rfl rfl rfl (zA (uN rfl (zF (zD (zH rfl fC rfl rfl ?_)))))))
   refine (bY hT   hM).mono ?_
   rintro v41 w10 ⟨hB41, rfl⟩
   replace LL := ub1 hB41 LL
   refine zE rfl rfl (zA (zZ ?_))
   refine zP ⟨[_], ⟨rfl, trivial⟩, ?_⟩
   dsimp only [zX]
   subst hFz
   exact ⟨LL.below (Nat.le_refl _), rfl⟩
  ·skip
   by_cases hg1_21 : cJ t < 0
   ·skip
    refine xK (R := Rb) (R' := Rb) (st := none) jF 24 [4, 5, 6, 7, 8, 35, 36, 37] (qC (by decide +kernel)) xF xO (xN _) (fun _ _ _ h => by cases h) ?_
    refine zU (Ex (.agg #[.bool xs0, xa0, xd0, .bool xt0, xb0, xe0])) xM (fun wq hR hst => ?_) ?_
    ·refine zO rfl rfl (zB ?_)
     replace B4 := B4.below hR
     exact zI rfl yB yQ rfl B4 rfl rfl (on0 rfl)
    refine zU (Ex (.agg #[.bool xs1, xa1, xd1, .bool xt1, xb1, xe1])) xM (fun wq hR hst => ?_) ?_
    ·refine zO rfl rfl (zB ?_)
     replace B5 := B5.below hR
     exact zI rfl yB yQ rfl B5 rfl rfl (on0 rfl)
    refine zU (Ex (.agg #[.bool xs2, xa2, xd2, .bool xt2, xb2, xe2])) xM (fun wq hR hst => ?_) ?_
    ·refine zO rfl rfl (zB ?_)
     replace B6 := B6.below hR
     exact zI rfl yB yQ rfl B6 rfl rfl (on0 rfl)
    refine zU (fun v w => ∃ bb, v = .slice (some ⟨bb, 0, none⟩) 3 3 ∧ KBlk (Ins b7 (Ins b6 (Ins b5 (Ins b4 M)))) w bb 39 [.bool xs0, xa0, xd0, .bool xt0, xb0, xe0, .bool xs1, xa1, xd1, .bool xt1, xb1, xe1, .bool xs2, xa2, xd2, .bool xt2, xb2, xe2]) (fun _ _ _ ⟨b, e, h⟩ r => ⟨b, e, h.mono (Fz := fun _ => False) (Le.of_below r)⟩) (fun wq hR hst => ?_) ?_
    ·refine zJ rfl (zJ rfl (zJ rfl (zB ?_)))
     replace hM := ub1 hR hM
     refine yY rfl yu63 yQ rfl rfl rfl rfl (zW rfl (zW rfl (zW rfl xC))) rfl rfl rfl (fun w11 b17 N17 => ?_)
     have hBw11 := N17.below
     have nM17 := hM.new N17
     have B17 := N17.blk
     have hB17 := hBw11
     exact zA ⟨rfl, hB17, _, rfl, ⟨b17, rfl, KBlk.mk B17 nM17⟩⟩
    apply zN
    ·intro wq hR hst
     refine yA rfl (fun v17 hp17 => ?_)
     obtain ⟨bb17, rfl, hk17⟩ := hp17
     refine zB ?_
     obtain ⟨hM, z0, z1, z2⟩ := ub4 hR hM z0 z1 z2
     refine zH rfl bod24 rfl rfl ?_
     refine (long_c (q4l3 hk17 z0 z1 z2) (by simp) (by simp) hM).mono ?_
     rintro v18 w12 ⟨hB18, rfl⟩
     exact zA ⟨rfl, hB18, _, rfl, rfl⟩
    refine zU (Ex (.bool false)) xM (fun wq hR hst => ?_) ?_
    ·refine zJ rfl (zB ?_)
     exact zC rfl rfl (zA ⟨rfl, yR _, _, rfl, congrArg Value.bool (by simpa using hg1_5)⟩)
    refine zN (fun _ _ _ => zO rfl rfl (zJ rfl (zB (zM rfl rfl (zL 0 rfl yu33 rfl rfl xE rfl rfl (on0 rfl)))))) ?_
    refine zN (fun _ _ _ => zJ rfl (zJ rfl (zB (zM rfl rfl (zL 1 rfl yu31 rfl rfl xW rfl rfl (on0 rfl)))))) ?_
    refine zU (Ex (.slice pa k3 ca)) xM (fun wq hR hst => ?_) ?_
    ·refine zJ rfl (zJ rfl (zB ?_))
     replace B7 := B7.below hR
     exact zM rfl rfl (zT rfl xA rfl B7 rfl (on0 rfl))
    refine zU (Ex (.int .i64 ((k3 : Nat) : Int))) xM (fun wq hR hst => ?_) ?_
    ·refine zJ rfl (zJ rfl (zB ?_))
     refine zM rfl rfl ?_
     first | refine yT rfl yu29 rfl (IsNat.slc (by assumption)) ?_ | refine xB rfl yu29 rfl ?_
     exact on0 rfl
    refine zN (fun _ _ _ => zO rfl rfl (zJ rfl (zB (zM rfl rfl (zL 2 rfl yu33 rfl rfl xW rfl rfl (on0 rfl)))))) ?_
    refine zU (Ex (.slice pd l3 cd)) xM (fun wq hR hst => ?_) ?_
    ·refine zJ rfl (zJ rfl (zB ?_))
     replace B7 := B7.below hR
     exact zM rfl rfl (zT rfl xA rfl B7 rfl (on0 rfl))
    refine zU (Ex (.int .i64 ((l3 : Nat) : Int))) xM (fun wq hR hst => ?_) ?_
    ·refine zJ rfl (zJ rfl (zB ?_))
     refine zM rfl rfl ?_
     first | refine yT rfl yu29 rfl (IsNat.slc (by assumption)) ?_ | refine xB rfl yu29 rfl ?_
     exact on0 rfl
    refine zU (Ex (.int .i64 (max ((k3 : Nat) : Int) ((l3 : Nat) : Int)))) xM (fun wq hR hst => ?_) ?_
    ·refine zJ rfl (zJ rfl (zJ rfl (zB ?_)))
     exact zM rfl rfl (uU rfl rfl rfl (on0 rfl))
    refine zU (Ex (.bool (decide ((2 : Int) < max ((k3 : Nat) : Int) ((l3 : Nat) : Int))))) xM (fun wq hR hst => ?_) ?_
    ·refine zJ rfl (zJ rfl (zB ?_))
     exact zM rfl rfl (qL rfl rfl rfl (on0 rfl))
    refine zN (fun _ _ _ => zJ rfl (zJ rfl (zB (yS rfl rfl rfl (on0 rfl))))) ?_
    refine zU (Ex (.bool false)) xM (fun wq hR hst => ?_) ?_
    ·refine zJ rfl (zB ?_)
     exact zC rfl rfl (zA ⟨rfl, yR _, _, rfl, congrArg Value.bool (decide_eq_false hg1_16)⟩)
    refine zN (fun _ hR _ => zO rfl rfl (zJ rfl (zB (zM rfl rfl (zI rfl yX yN rfl (B7.below hR) rfl rfl (on0 rfl)))))) ?_
    refine zU (Ex (.int .i64 (cJ t))) xM (fun wq hR hst => ?_) ?_
    ·refine zJ rfl (zJ rfl (zB ?_))
     obtain ⟨hM, h3⟩ := ub2 hR hM h3
     refine zM rfl rfl (zH rfl bod32 rfl rfl ?_)
     refine (r7sign_c h3 (by omega) hM).mono ?_
     rintro v32 w13 ⟨hB32, rfl⟩
     exact zA ⟨rfl, hB32, _, rfl, rfl⟩
    refine zU (Ex (.bool (decide (((cJ t)) < 0)))) xM (fun wq hR hst => ?_) ?_
    ·refine zJ rfl (zJ rfl (zB ?_))
     exact zM rfl rfl (jP rfl rfl rfl (on0 rfl))
    refine zU (Ex (.bool (decide (((cJ t)) < 0)))) xM (fun wq hR hst => ?_) ?_
    ·refine zJ rfl (zJ rfl (zB ?_))
     exact yS rfl rfl rfl (on0 rfl)
    refine zU (Ex (.bool true)) xM (fun wq hR hst => ?_) ?_
    ·refine zJ rfl (zB ?_)
     exact zC rfl rfl (zA ⟨rfl, yR _, _, rfl, congrArg Value.bool (decide_eq_true hg1_21)⟩)
    refine zN (fun _ _ _ => zO rfl rfl (zJ rfl (zB (zR rfl rfl rfl rfl (on0 rfl))))) ?_
    refine zN (fun _ _ _ => zJ rfl (zB (zR rfl rfl rfl rfl (on0 rfl)))) ?_
    refine xL (fun wq1 hR1 hpost1 => ?_)
    refine zO rfl rfl (zO rfl rfl (zO rfl rfl (zO rfl rfl (zO rfl rfl (zJ rfl (zJ rfl (zJ rfl (zB ?_))))))))
    simp only [List.drop_succ_cons, List.drop_zero, List.drop_nil, List.toList_toArray]
    obtain ⟨LL, hM, hT⟩ := ub3 hR1 LL hM hT
    refine zR rfl rfl rfl rfl (zR rfl rfl rfl rfl (yS rfl rfl rfl (zA (uN rfl (zF (zD (zH rfl fC rfl rfl ?_)))))))
    refine (bY hT   hM).mono ?_
    rintro v41 w14 ⟨hB41, rfl⟩
    replace LL := ub1 hB41 LL
    refine zE rfl rfl (zA (zZ ?_))
    refine zP ⟨[_], ⟨rfl, trivial⟩, ?_⟩
    dsimp only [zX]
    subst hFz
    exact ⟨LL.below (Nat.le_refl _), rfl⟩
   ·skip
    refine xK (R := Rb) (R' := Rb) (st := none) jF 24 [4, 5, 6, 7, 8, 35, 36, 37] (qC (by decide +kernel)) xF xO (xN _) (fun _ _ _ h => by cases h) ?_
    refine zU (Ex (.agg #[.bool xs0, xa0, xd0, .bool xt0, xb0, xe0])) xM (fun wq hR hst => ?_) ?_
    ·refine zO rfl rfl (zB ?_)
     replace B4 := B4.below hR
     exact zI rfl yB yQ rfl B4 rfl rfl (on0 rfl)
    refine zU (Ex (.agg #[.bool xs1, xa1, xd1, .bool xt1, xb1, xe1])) xM (fun wq hR hst => ?_) ?_
    ·refine zO rfl rfl (zB ?_)
     replace B5 := B5.below hR
     exact zI rfl yB yQ rfl B5 rfl rfl (on0 rfl)
    refine zU (Ex (.agg #[.bool xs2, xa2, xd2, .bool xt2, xb2, xe2])) xM (fun wq hR hst => ?_) ?_
    ·refine zO rfl rfl (zB ?_)
     replace B6 := B6.below hR
     exact zI rfl yB yQ rfl B6 rfl rfl (on0 rfl)
    refine zU (fun v w => ∃ bb, v = .slice (some ⟨bb, 0, none⟩) 3 3 ∧ KBlk (Ins b7 (Ins b6 (Ins b5 (Ins b4 M)))) w bb 39 [.bool xs0, xa0, xd0, .bool xt0, xb0, xe0, .bool xs1, xa1, xd1, .bool xt1, xb1, xe1, .bool xs2, xa2, xd2, .bool xt2, xb2, xe2]) (fun _ _ _ ⟨b, e, h⟩ r => ⟨b, e, h.mono (Fz := fun _ => False) (Le.of_below r)⟩) (fun wq hR hst => ?_) ?_
    ·refine zJ rfl (zJ rfl (zJ rfl (zB ?_)))
     replace hM := ub1 hR hM
     refine yY rfl yu63 yQ rfl rfl rfl rfl (zW rfl (zW rfl (zW rfl xC))) rfl rfl rfl (fun w15 b17 N17 => ?_)
     have hBw15 := N17.below
     have nM17 := hM.new N17
     have B17 := N17.blk
     have hB17 := hBw15
     exact zA ⟨rfl, hB17, _, rfl, ⟨b17, rfl, KBlk.mk B17 nM17⟩⟩
    apply zN
    ·intro wq hR hst
     refine yA rfl (fun v17 hp17 => ?_)
     obtain ⟨bb17, rfl, hk17⟩ := hp17
     refine zB ?_
     obtain ⟨hM, z0, z1, z2⟩ := ub4 hR hM z0 z1 z2
     refine zH rfl bod24 rfl rfl ?_
     refine (long_c (q4l3 hk17 z0 z1 z2) (by simp) (by simp) hM).mono ?_
     rintro v18 w16 ⟨hB18, rfl⟩
     exact zA ⟨rfl, hB18, _, rfl, rfl⟩
    refine zU (Ex (.bool false)) xM (fun wq hR hst => ?_) ?_
    ·refine zJ rfl (zB ?_)
     exact zC rfl rfl (zA ⟨rfl, yR _, _, rfl, congrArg Value.bool (by simpa using hg1_5)⟩)
    refine zN (fun _ _ _ => zO rfl rfl (zJ rfl (zB (zM rfl rfl (zL 0 rfl yu33 rfl rfl xE rfl rfl (on0 rfl)))))) ?_
    refine zN (fun _ _ _ => zJ rfl (zJ rfl (zB (zM rfl rfl (zL 1 rfl yu31 rfl rfl xW rfl rfl (on0 rfl)))))) ?_
    refine zU (Ex (.slice pa k3 ca)) xM (fun wq hR hst => ?_) ?_
    ·refine zJ rfl (zJ rfl (zB ?_))
     replace B7 := B7.below hR
     exact zM rfl rfl (zT rfl xA rfl B7 rfl (on0 rfl))
    refine zU (Ex (.int .i64 ((k3 : Nat) : Int))) xM (fun wq hR hst => ?_) ?_
    ·refine zJ rfl (zJ rfl (zB ?_))
     refine zM rfl rfl ?_
     first | refine yT rfl yu29 rfl (IsNat.slc (by assumption)) ?_ | refine xB rfl yu29 rfl ?_
     exact on0 rfl
    refine zN (fun _ _ _ => zO rfl rfl (zJ rfl (zB (zM rfl rfl (zL 2 rfl yu33 rfl rfl xW rfl rfl (on0 rfl)))))) ?_
    refine zU (Ex (.slice pd l3 cd)) xM (fun wq hR hst => ?_) ?_
    ·refine zJ rfl (zJ rfl (zB ?_))
     replace B7 := B7.below hR
     exact zM rfl rfl (zT rfl xA rfl B7 rfl (on0 rfl))
    refine zU (Ex (.int .i64 ((l3 : Nat) : Int))) xM (fun wq hR hst => ?_) ?_
    ·refine zJ rfl (zJ rfl (zB ?_))
     refine zM rfl rfl ?_
     first | refine yT rfl yu29 rfl (IsNat.slc (by assumption)) ?_ | refine xB rfl yu29 rfl ?_
     exact on0 rfl
    refine zU (Ex (.int .i64 (max ((k3 : Nat) : Int) ((l3 : Nat) : Int)))) xM (fun wq hR hst => ?_) ?_
    ·refine zJ rfl (zJ rfl (zJ rfl (zB ?_)))
     exact zM rfl rfl (uU rfl rfl rfl (on0 rfl))
    refine zU (Ex (.bool (decide ((2 : Int) < max ((k3 : Nat) : Int) ((l3 : Nat) : Int))))) xM (fun wq hR hst => ?_) ?_
    ·refine zJ rfl (zJ rfl (zB ?_))
     exact zM rfl rfl (qL rfl rfl rfl (on0 rfl))
    refine zN (fun _ _ _ => zJ rfl (zJ rfl (zB (yS rfl rfl rfl (on0 rfl))))) ?_
    refine zU (Ex (.bool false)) xM (fun wq hR hst => ?_) ?_
    ·refine zJ rfl (zB ?_)
     exact zC rfl rfl (zA ⟨rfl, yR _, _, rfl, congrArg Value.bool (decide_eq_false hg1_16)⟩)
    refine zN (fun _ hR _ => zO rfl rfl (zJ rfl (zB (zM rfl rfl (zI rfl yX yN rfl (B7.below hR) rfl rfl (on0 rfl)))))) ?_
    refine zU (Ex (.int .i64 (cJ t))) xM (fun wq hR hst => ?_) ?_
    ·refine zJ rfl (zJ rfl (zB ?_))
     obtain ⟨hM, h3⟩ := ub2 hR hM h3
     refine zM rfl rfl (zH rfl bod32 rfl rfl ?_)
     refine (r7sign_c h3 (by omega) hM).mono ?_
     rintro v32 w17 ⟨hB32, rfl⟩
     exact zA ⟨rfl, hB32, _, rfl, rfl⟩
    refine zU (Ex (.bool (decide (((cJ t)) < 0)))) xM (fun wq hR hst => ?_) ?_
    ·refine zJ rfl (zJ rfl (zB ?_))
     exact zM rfl rfl (jP rfl rfl rfl (on0 rfl))
    refine zU (Ex (.bool (decide (((cJ t)) < 0)))) xM (fun wq hR hst => ?_) ?_
    ·refine zJ rfl (zJ rfl (zB ?_))
     exact yS rfl rfl rfl (on0 rfl)
    refine zU (Ex (.bool false)) xM (fun wq hR hst => ?_) ?_
    ·refine zJ rfl (zB ?_)
     exact zC rfl rfl (zA ⟨rfl, yR _, _, rfl, congrArg Value.bool (decide_eq_false hg1_21)⟩)
    refine zN (fun _ hR _ => zO rfl rfl (zJ rfl (zB (zM rfl rfl (zI rfl yX yN rfl (B7.below hR) rfl rfl (on0 rfl)))))) ?_
    refine zU (vRC (Ins b7 (Ins b6 (Ins b5 (Ins b4 M)))) (2) (((1 : Nat) : Rat))) uD (fun wq hR hst => ?_) ?_
    ·refine zJ rfl (zB ?_)
     replace hM := ub1 hR hM
     refine zM rfl rfl (zH rfl fN rfl rfl ?_)
     refine (dW (k := 1)  (by omega) hM).mono ?_
     rintro v37 w18 ⟨hB37, xs37, xa37, xd37, rfl, hn37⟩
     exact zA ⟨rfl, hB37, _, rfl, ⟨_, _, _, rfl, hn37⟩⟩
    refine xL (fun wq1 hR1 hpost1 => ?_)
    refine zO rfl rfl (zO rfl rfl (zO rfl rfl (zO rfl rfl (zO rfl rfl (zJ rfl (zJ rfl (yA rfl (fun v37 hp37 => ?_))))))))
    obtain ⟨xs37, xa37, xd37, rfl, hn37⟩ := hp37; obtain ⟨oxa37, oxd37, _⟩ := hn37.one
    refine zB ?_
    simp only [List.drop_succ_cons, List.drop_zero, List.drop_nil, List.toList_toArray]
    obtain ⟨LL, hM, hF, hT, h0, h1, h2, h3, B4, B5, B6, B7⟩ := fZ hR1 LL hM hF hT h0 h1 h2 h3 B4 B5 B6 B7
    refine zM rfl rfl (zH rfl bod33 rfl rfl ?_)
    refine (r7cmp_c h3 hn37.gen (by omega) (by omega) hM).mono ?_
    rintro v38 w19 ⟨hB38, rfl⟩
    obtain ⟨LL, hM, hF, hT, h0, h1, h2, h3, B4, B5, B6, B7⟩ := fZ hB38 LL hM hF hT h0 h1 h2 h3 B4 B5 B6 B7
    refine zM rfl rfl (qL rfl rfl rfl (yS rfl rfl rfl (zA ?_)))
    refine yF rfl (fun hc0 => ?_) (fun hc0 => ?_)
    ·refine zF (zD (zH rfl fC rfl rfl ?_))
     refine (bY hT   hM).mono ?_
     rintro v41 w20 ⟨hB41, rfl⟩
     replace LL := ub1 hB41 LL
     refine zE rfl rfl (zA (zZ ?_))
     refine zP ⟨[_], ⟨rfl, trivial⟩, ?_⟩
     dsimp only [zX]
     subst hFz
     exact ⟨LL.below (Nat.le_refl _), rfl⟩
    ·have hz0 : n0 ≤ 2 := longB_not (by simpa using hg1_5) (x := q0) (by simp) hn0
     have hz1 : n1 ≤ 2 := longB_not (by simpa using hg1_5) (x := q1) (by simp) hn1
     have hz2 : n2 ≤ 2 := longB_not (by simpa using hg1_5) (x := q2) (by simp) hn2
     have hz3 : n3 ≤ 2 := by omega
     have ht0 : 0 ≤ t := by have := (not_congr sgnR_lt).1 hg1_21; grind
     have ht1 : t ≤ 1 := by have := (not_congr cmpR_gt).1 hc0; have e1 : (((1 : Nat) : Rat)) = 1 := rfl; rw [e1] at this; grind
     obtain ⟨hk0, ho1, ho2, ho3, ho4, ho5, hle, hk1, hli⟩ := lies p q u ht0 ht1
     have hkne : (uE p q u (atP p q t)).1 ≠ 0 := by omega
     refine yP (zF (zD (zI rfl yB yQ rfl B4 rfl rfl (zI rfl yB yQ rfl B5 rfl rfl (zI rfl yX yN rfl B7 rfl rfl (zH rfl bod34 rfl rfl ?_))))))
     refine (r8at_c h0 h1 h3 (by omega) (by omega) (by omega) hM).mono ?_
     rintro v45 w21 ⟨hB45, xs45, xa45, xd45, xt45, xb45, xe45, rfl, hn45⟩
     obtain ⟨LL, hM, hF, hT, h0, h1, h2, h3, B4, B5, B6, B7⟩ := fZ hB45 LL hM hF hT h0 h1 h2 h3 B4 B5 B6 B7
     obtain ⟨oxa45, oxd45, oxb45, oxe45, _⟩ := hn45.one
     have ha0 : plen p 3 := h0.plen (by omega)
     have ha1 : plen q 3 := h1.plen (by omega)
     have ha2 : plen u 3 := h2.plen (by omega)
     have hat := (ha0.at_ ha1 (gM h3.rlen (show n3 + 1 ≤ 3 by omega)))
     refine yJ rfl yQ (fun w22 b9 N9 => ?_)
     obtain ⟨hBw22, nF9, nM9, Lw22, B9⟩ := nza hF hM N9
     obtain ⟨B4, ne4_9⟩ := bn B4 N9
     obtain ⟨B5, ne5_9⟩ := bn B5 N9
     obtain ⟨B6, ne6_9⟩ := bn B6 N9
     obtain ⟨B7, ne7_9⟩ := bn B7 N9
     obtain ⟨LL, hM, hF, hT, h0, h1, h2, hn45⟩ := up8 Lw22 LL hM hF hT h0 h1 h2 hn45
     refine zY rfl rfl yQ B9 rfl rfl (zV rfl (zV (by first | rfl | assumption) (zV (by first | rfl | assumption) (zV rfl (zV (by first | rfl | assumption) (zV (by first | rfl | assumption) jC)))))) rfl (fun w23 Cw23 B9 => ?_)
     have Lw23 := Le.of_chg (M := (Ins b9 (Ins b7 (Ins b6 (Ins b5 (Ins b4 M)))))) Cw23 zS nF9
     obtain ⟨LL, hM, hF, hT, h0, h1, h2, hn45⟩ := up8 Lw23 LL hM hF hT h0 h1 h2 hn45
     replace B4 := B4.other Cw23 ne4_9
     replace B5 := B5.other Cw23 ne5_9
     replace B6 := B6.other Cw23 ne6_9
     replace B7 := B7.other Cw23 ne7_9
     refine zA (zF (zD (zI rfl yB yQ rfl B4 rfl rfl (zI rfl yB yQ rfl B5 rfl rfl (zI rfl yB yQ rfl B6 rfl rfl (zI rfl yB yQ rfl B9 rfl rfl (zH rfl iF rfl rfl ?_)))))))
     refine (eA hT h0 h1 h2 (((hn45.relen hat)).gen) (by omega) (by omega) (by omega) (by omega) hM).mono ?_
     rintro v50 w24 ⟨hB50, xs50, xa50, xd50, xt50, xb50, xe50, xs50b, xa50b, xd50b, xt50b, xb50b, xe50b, rfl, hn50, hnb50⟩
     obtain ⟨LL, hM, hF, hT, h0, h1, h2, hn45, B4, B5, B6, B7, B9⟩ := iL hB50 LL hM hF hT h0 h1 h2 hn45 B4 B5 B6 B7 B9
     obtain ⟨oxa50, oxd50, oxb50, oxe50, _⟩ := hn50.one; obtain ⟨oxa50b, oxd50b, oxb50b, oxe50b, _⟩ := hnb50.one
     have hsg := plen_segs (B := 14) ha0 ha1 (ha2.up (by omega)) hat
     refine yJ rfl uO (fun w25 b10 N10 => ?_)
     obtain ⟨hBw25, nF10, nM10, Lw25, B10⟩ := nza hF hM N10
     obtain ⟨B4, ne4_10⟩ := bn B4 N10
     obtain ⟨B5, ne5_10⟩ := bn B5 N10
     obtain ⟨B6, ne6_10⟩ := bn B6 N10
     obtain ⟨B7, ne7_10⟩ := bn B7 N10
     obtain ⟨B9, ne9_10⟩ := bn B9 N10
     obtain ⟨LL, hM, hF, hT, h0, h1, h2, hn45, hn50, hnb50⟩ := iP Lw25 LL hM hF hT h0 h1 h2 hn45 hn50 hnb50
     refine zY rfl rfl uO B10 rfl rfl (zV rfl (zV rfl (zV (by first | rfl | assumption) (zV (by first | rfl | assumption) (zV rfl (zV (by first | rfl | assumption) (zV (by first | rfl | assumption) (zV rfl (zV (by first | rfl | assumption) (zV (by first | rfl | assumption) (zV rfl (zV (by first | rfl | assumption) (zV (by first | rfl | assumption) jC))))))))))))) rfl (fun w26 Cw26 B10 => ?_)
     have Lw26 := Le.of_chg (M := (Ins b10 (Ins b9 (Ins b7 (Ins b6 (Ins b5 (Ins b4 M))))))) Cw26 zS nF10
     obtain ⟨LL, hM, hF, hT, h0, h1, h2, hn45, hn50, hnb50⟩ := iP Lw26 LL hM hF hT h0 h1 h2 hn45 hn50 hnb50
     replace B4 := B4.other Cw26 ne4_10
     replace B5 := B5.other Cw26 ne5_10
     replace B6 := B6.other Cw26 ne6_10
     replace B7 := B7.other Cw26 ne7_10
     replace B9 := B9.other Cw26 ne9_10
     refine zA (zF (zF (zD (zL 0 rfl yu43 rfl rfl iJ rfl rfl (zT rfl dX rfl B10 rfl (bB rfl rfl rfl (zC rfl rfl (jY (d := 54) rfl (fun hg5_3 => ?_) (fun hg5_3 => ?_)))))))))
     ·refine zM rfl rfl (zL 0 rfl yu43 rfl rfl iJ rfl rfl (zM rfl rfl (zT rfl dX rfl B10 rfl (zM rfl rfl (bB rfl rfl rfl (yS rfl rfl rfl (zC rfl rfl (kE (d := 59) rfl (by first | rfl | exact decide_eq_false (by omega)) (zM rfl rfl (zI rfl yB yQ rfl B4 rfl rfl (zM rfl rfl (zI rfl yB yQ rfl B5 rfl rfl (zM rfl rfl (zL 1 rfl yu43 rfl rfl yQ rfl rfl ?_))))))))))))))
      refine zM rfl rfl (zI rfl yB yQ rfl B10 rfl rfl (zM rfl rfl (zH rfl dV rfl rfl ?_)))
      refine (aP h0 h1 (((hn50.relen hsg.1)).gen) (by omega) (by omega) (by omega) hM).mono ?_
      rintro v64 w27 ⟨hB64, rfl⟩
      obtain ⟨LL, hM, hF, hT, h0, h1, h2, hn45, hn50, hnb50, B4, B5, B6, B7, B9, B10⟩ := eN hB64 LL hM hF hT h0 h1 h2 hn45 hn50 hnb50 B4 B5 B6 B7 B9 B10
      refine zM rfl rfl (gJ rfl rfl (yS rfl rfl rfl (zC rfl rfl (kE (d := 67) rfl (by first | rfl | (rw [decide_eq_true ho1]; rfl) | simp [ho1]) (zM rfl rfl (zI rfl yB yQ rfl B4 rfl rfl (zM rfl rfl (zI rfl yB yQ rfl B5 rfl rfl (zM rfl rfl (zL 7 rfl yu43 rfl rfl yQ rfl rfl (zM rfl rfl (zI rfl yB yQ rfl B10 rfl rfl (zM rfl rfl (zH rfl dV rfl rfl ?_))))))))))))))
      refine (aP h0 h1 (((hnb50.relen hsg.2)).gen) (by omega) (by omega) (by omega) hM).mono ?_
      rintro v72 w28 ⟨hB72, rfl⟩
      obtain ⟨LL, hM, hF, hT, h0, h1, h2, hn45, hn50, hnb50, B4, B5, B6, B7, B9, B10⟩ := eN hB72 LL hM hF hT h0 h1 h2 hn45 hn50 hnb50 B4 B5 B6 B7 B9 B10
      refine zM rfl rfl (gJ rfl rfl (yS rfl rfl rfl (zC rfl rfl (kE (d := 75) rfl (by first | rfl | (rw [decide_eq_true ho2]; rfl) | simp [ho2]) (zM rfl rfl (zI rfl yB yQ rfl B6 rfl rfl (zM rfl rfl (zI rfl yB yQ rfl B9 rfl rfl (zM rfl rfl (zL 1 rfl yu43 rfl rfl yQ rfl rfl (zM rfl rfl (zI rfl yB yQ rfl B10 rfl rfl (zM rfl rfl (zH rfl dV rfl rfl ?_))))))))))))))
      refine (aP h2 (((hn45.relen hat)).gen) (((hn50.relen hsg.1)).gen) (by omega) (by omega) (by omega) hM).mono ?_
      rintro v80 w29 ⟨hB80, rfl⟩
      obtain ⟨LL, hM, hF, hT, h0, h1, h2, hn45, hn50, hnb50, B4, B5, B6, B7, B9, B10⟩ := eN hB80 LL hM hF hT h0 h1 h2 hn45 hn50 hnb50 B4 B5 B6 B7 B9 B10
      refine zM rfl rfl (gJ rfl rfl (yS rfl rfl rfl (zC rfl rfl (kE (d := 83) rfl (by first | rfl | (rw [decide_eq_true ho3]; rfl) | simp [ho3]) (zM rfl rfl (zI rfl yB yQ rfl B6 rfl rfl (zM rfl rfl (zI rfl yB yQ rfl B9 rfl rfl (zM rfl rfl (zL 7 rfl yu43 rfl rfl yQ rfl rfl (zM rfl rfl (zI rfl yB yQ rfl B10 rfl rfl (zM rfl rfl (zH rfl dV rfl rfl ?_))))))))))))))
      refine (aP h2 (((hn45.relen hat)).gen) (((hnb50.relen hsg.2)).gen) (by omega) (by omega) (by omega) hM).mono ?_
      rintro v88 w30 ⟨hB88, rfl⟩
      obtain ⟨LL, hM, hF, hT, h0, h1, h2, hn45, hn50, hnb50, B4, B5, B6, B7, B9, B10⟩ := eN hB88 LL hM hF hT h0 h1 h2 hn45 hn50 hnb50 B4 B5 B6 B7 B9 B10
      refine zM rfl rfl (gJ rfl rfl (yS rfl rfl rfl (zC rfl rfl (kE (d := 91) rfl (by first | rfl | (rw [decide_eq_true ho4]; rfl) | simp [ho4]) (zM rfl rfl (zL 1 rfl yu43 rfl rfl yQ rfl rfl (zM rfl rfl (zI rfl yB yQ rfl B10 rfl rfl (zM rfl rfl (zL 7 rfl yu43 rfl rfl yQ rfl rfl (zM rfl rfl (zI rfl yB yQ rfl B10 rfl rfl (zM rfl rfl (zI rfl yB yQ rfl B9 rfl rfl ?_))))))))))))))
      refine zM rfl rfl (zH rfl dV rfl rfl ?_)
      refine (aP (((hn50.relen hsg.1)).gen) (((hnb50.relen hsg.2)).gen) (((hn45.relen hat)).gen) (by omega) (by omega) (by omega) hM).mono ?_
      rintro v97 w31 ⟨hB97, rfl⟩
      obtain ⟨LL, hM, hF, hT, h0, h1, h2, hn45, hn50, hnb50, B4, B5, B6, B7, B9, B10⟩ := eN hB97 LL hM hF hT h0 h1 h2 hn45 hn50 hnb50 B4 B5 B6 B7 B9 B10
      refine zM rfl rfl (gJ rfl rfl (yS rfl rfl rfl (kE (d := 99) rfl (by first | rfl | (rw [decide_eq_true ho5]; rfl) | simp [ho5]) (zA (qT rfl (yP (zF (zD (zL 1 rfl yu43 rfl rfl yQ rfl rfl (zI rfl yB yQ rfl B10 rfl rfl (zL 7 rfl yu43 rfl rfl yQ rfl rfl (zI rfl yB yQ rfl B10 rfl rfl (zH rfl bod36 rfl rfl ?_)))))))))))))
      refine (r8cmp_c (((hn50.relen hsg.1)).gen) (((hnb50.relen hsg.2)).gen) (by omega) (by omega) hM).mono ?_
      rintro v104 w32 ⟨hB104, rfl⟩
      obtain ⟨LL, hM, hF, hT, h0, h1, h2, hn45, B4, B5, B6, B7, B9, B10⟩ := iQ hB104 LL hM hF hT h0 h1 h2 hn45 B4 B5 B6 B7 B9 B10
      refine zE rfl rfl (zA (zF (zF (zD (zC rfl rfl (gF rfl rfl rfl (zL 0 rfl yu43 rfl rfl iJ rfl rfl (zT rfl dX rfl B10 rfl (gF rfl rfl rfl (ops_bne rfl rfl rfl yu4 (zC rfl rfl (kE (d := 111) rfl (by rw [show decide (aC (uE p q u (atP p q t)).2.1 (uE p q u (atP p q t)).2.2 = 0) = decide ((uE p q u (atP p q t)).1 = 1) from decide_eq_decide.2 ⟨fun c => hk1.2 (kB.1 c), fun c => kB.2 (hk1.1 c)⟩]; simp) (zM rfl rfl (zC rfl rfl ?_))))))))))))))
      refine zM rfl rfl (qL rfl rfl rfl (yS rfl rfl rfl (kE (d := 114) rfl (decide_eq_false fun c => cW.1 c hle) (zA (qT rfl (yP (zF (zD (zI rfl yB yQ rfl B4 rfl rfl (zI rfl yB yQ rfl B5 rfl rfl (zI rfl yB yQ rfl B6 rfl rfl (zI rfl yB yQ rfl B9 rfl rfl (zH rfl bod37 rfl rfl ?_)))))))))))))
      refine (mlines_c hT h0 h1 h2 (((hn45.relen hat)).gen) (by omega) (by omega) (by omega) (by omega) hM).mono ?_
      rintro v120 w33 ⟨hB120, xs120, xa120, xd120, xt120, xb120, xe120, rfl, hn120⟩
      obtain ⟨LL, hM, hF, hT, hn45, B4, B5, B6, B7, B9, B10⟩ := hC hB120 LL hM hF hT hn45 B4 B5 B6 B7 B9 B10
      obtain ⟨oxa120, oxd120, oxb120, oxe120, _⟩ := hn120.one
      refine zC rfl rfl (yH rfl rfl rfl (yH rfl rfl rfl (yJ rfl yQ (fun w34 b12 N12 => ?_))))
      obtain ⟨hBw34, nF12, nM12, Lw34, B12⟩ := nza hF hM N12
      have lt4_12 := B4.lt
      have ne4_12 := N12.ne lt4_12
      have lt5_12 := B5.lt
      have ne5_12 := N12.ne lt5_12
      have lt6_12 := B6.lt
      have ne6_12 := N12.ne lt6_12
      have lt7_12 := B7.lt
      have ne7_12 := N12.ne lt7_12
      have lt9_12 := B9.lt
      replace B9 := B9.below hBw34
      have ne9_12 := N12.ne lt9_12
      have lt10_12 := B10.lt
      have ne10_12 := N12.ne lt10_12
      obtain ⟨LL, hM, hT, hn45, hn120⟩ := up5 Lw34 LL hM hT hn45 hn120
      refine zY rfl rfl yQ B12 rfl rfl (zV rfl (zV (by first | rfl | assumption) (zV (by first | rfl | assumption) (zV rfl (zV (by first | rfl | assumption) (zV (by first | rfl | assumption) jC)))))) rfl (fun w35 Cw35 B12 => ?_)
      have Lw35 := Le.of_chg (M := (Ins b12 (Ins b10 (Ins b9 (Ins b7 (Ins b6 (Ins b5 (Ins b4 M)))))))) Cw35 zS nF12
      obtain ⟨LL, hM, hT, hn45, hn120⟩ := up5 Lw35 LL hM hT hn45 hn120
      replace B9 := B9.other Cw35 ne9_12
      refine zE rfl rfl (zA (zF (zD (zC rfl rfl (gJ rfl rfl (zC rfl rfl (aI (d := 125) rfl (fun hg11_2 => ?_) (fun hg11_2 => ?_))))))))
      ·refine zR rfl rfl rfl rfl (zR rfl rfl rfl rfl (zR rfl rfl rfl rfl (yS rfl rfl rfl (zC rfl rfl (eQ (d := 130) rfl (by first | rfl | exact decide_eq_true (kB.2 (hli (by simpa using hg11_2)))) (zM rfl rfl (zH rfl fC rfl rfl ?_)))))))
       refine (bY hT   hM).mono ?_
       rintro v131 w36 ⟨hB131, rfl⟩
       replace LL := ub1 hB131 LL
       refine yS rfl rfl rfl (zE rfl rfl (zA (zZ ?_)))
       refine zP ⟨[_], ⟨rfl, trivial⟩, ?_⟩
       dsimp only [zX]
       subst hFz
       exact ⟨LL.below (Nat.le_refl _), rfl⟩
      ·refine zM rfl rfl (zI rfl yB yQ rfl B12 rfl rfl (zM rfl rfl (zI rfl yB yQ rfl B9 rfl rfl (zM rfl rfl (zH rfl bod38 rfl rfl ?_)))))
       refine (r8same_c hn120.gen (((hn45.relen hat)).gen) (by omega) (by omega) hM).mono ?_
       rintro v128 w37 ⟨hB128, rfl⟩
       obtain ⟨LL, hM, hT⟩ := ub3 hB128 LL hM hT
       refine yS rfl rfl rfl (zC rfl rfl (eQ (d := 130) rfl (by first | rfl | exact decide_eq_true (kB.2 (hli (by simpa using hg11_2)))) (zM rfl rfl (zH rfl fC rfl rfl ?_))))
       refine (bY hT   hM).mono ?_
       rintro v131 w38 ⟨hB131, rfl⟩
       replace LL := ub1 hB131 LL
       refine yS rfl rfl rfl (zE rfl rfl (zA (zZ ?_)))
       refine zP ⟨[_], ⟨rfl, trivial⟩, ?_⟩
       dsimp only [zX]
       subst hFz
       exact ⟨LL.below (Nat.le_refl _), rfl⟩
     ·refine zR rfl rfl rfl rfl (zR rfl rfl rfl rfl (zR rfl rfl rfl rfl (yS rfl rfl rfl (zC rfl rfl (kE (d := 59) rfl (by first | rfl | exact decide_eq_false (by omega)) (zM rfl rfl (zI rfl yB yQ rfl B4 rfl rfl (zM rfl rfl (zI rfl yB yQ rfl B5 rfl rfl (zM rfl rfl (zL 1 rfl yu43 rfl rfl yQ rfl rfl (zM rfl rfl (zI rfl yB yQ rfl B10 rfl rfl (zM rfl rfl ?_))))))))))))))
      refine zH rfl dV rfl rfl ?_
      refine (aP h0 h1 (((hn50.relen hsg.1)).gen) (by omega) (by omega) (by omega) hM).mono ?_
      rintro v64 w39 ⟨hB64, rfl⟩
      obtain ⟨LL, hM, hF, hT, h0, h1, h2, hn45, hn50, hnb50, B4, B5, B6, B7, B9, B10⟩ := eN hB64 LL hM hF hT h0 h1 h2 hn45 hn50 hnb50 B4 B5 B6 B7 B9 B10
      refine zM rfl rfl (gJ rfl rfl (yS rfl rfl rfl (zC rfl rfl (kE (d := 67) rfl (by first | rfl | (rw [decide_eq_true ho1]; rfl) | simp [ho1]) (zM rfl rfl (zI rfl yB yQ rfl B4 rfl rfl (zM rfl rfl (zI rfl yB yQ rfl B5 rfl rfl (zM rfl rfl (zL 7 rfl yu43 rfl rfl yQ rfl rfl (zM rfl rfl (zI rfl yB yQ rfl B10 rfl rfl (zM rfl rfl (zH rfl dV rfl rfl ?_))))))))))))))
      refine (aP h0 h1 (((hnb50.relen hsg.2)).gen) (by omega) (by omega) (by omega) hM).mono ?_
      rintro v72 w40 ⟨hB72, rfl⟩
      obtain ⟨LL, hM, hF, hT, h0, h1, h2, hn45, hn50, hnb50, B4, B5, B6, B7, B9, B10⟩ := eN hB72 LL hM hF hT h0 h1 h2 hn45 hn50 hnb50 B4 B5 B6 B7 B9 B10
      refine zM rfl rfl (gJ rfl rfl (yS rfl rfl rfl (zC rfl rfl (kE (d := 75) rfl (by first | rfl | (rw [decide_eq_true ho2]; rfl) | simp [ho2]) (zM rfl rfl (zI rfl yB yQ rfl B6 rfl rfl (zM rfl rfl (zI rfl yB yQ rfl B9 rfl rfl (zM rfl rfl (zL 1 rfl yu43 rfl rfl yQ rfl rfl (zM rfl rfl (zI rfl yB yQ rfl B10 rfl rfl (zM rfl rfl (zH rfl dV rfl rfl ?_))))))))))))))
      refine (aP h2 (((hn45.relen hat)).gen) (((hn50.relen hsg.1)).gen) (by omega) (by omega) (by omega) hM).mono ?_
      rintro v80 w41 ⟨hB80, rfl⟩
      obtain ⟨LL, hM, hF, hT, h0, h1, h2, hn45, hn50, hnb50, B4, B5, B6, B7, B9, B10⟩ := eN hB80 LL hM hF hT h0 h1 h2 hn45 hn50 hnb50 B4 B5 B6 B7 B9 B10
      refine zM rfl rfl (gJ rfl rfl (yS rfl rfl rfl (zC rfl rfl (kE (d := 83) rfl (by first | rfl | (rw [decide_eq_true ho3]; rfl) | simp [ho3]) (zM rfl rfl (zI rfl yB yQ rfl B6 rfl rfl (zM rfl rfl (zI rfl yB yQ rfl B9 rfl rfl (zM rfl rfl (zL 7 rfl yu43 rfl rfl yQ rfl rfl (zM rfl rfl (zI rfl yB yQ rfl B10 rfl rfl (zM rfl rfl (zH rfl dV rfl rfl ?_))))))))))))))
      refine (aP h2 (((hn45.relen hat)).gen) (((hnb50.relen hsg.2)).gen) (by omega) (by omega) (by omega) hM).mono ?_
      rintro v88 w42 ⟨hB88, rfl⟩
      obtain ⟨LL, hM, hF, hT, h0, h1, h2, hn45, hn50, hnb50, B4, B5, B6, B7, B9, B10⟩ := eN hB88 LL hM hF hT h0 h1 h2 hn45 hn50 hnb50 B4 B5 B6 B7 B9 B10
      refine zM rfl rfl (gJ rfl rfl (yS rfl rfl rfl (zC rfl rfl (kE (d := 91) rfl (by first | rfl | (rw [decide_eq_true ho4]; rfl) | simp [ho4]) (zM rfl rfl (zL 1 rfl yu43 rfl rfl yQ rfl rfl (zM rfl rfl (zI rfl yB yQ rfl B10 rfl rfl (zM rfl rfl (zL 7 rfl yu43 rfl rfl yQ rfl rfl (zM rfl rfl (zI rfl yB yQ rfl B10 rfl rfl (zM rfl rfl (zI rfl yB yQ rfl B9 rfl rfl ?_))))))))))))))
      refine zM rfl rfl (zH rfl dV rfl rfl ?_)
      refine (aP (((hn50.relen hsg.1)).gen) (((hnb50.relen hsg.2)).gen) (((hn45.relen hat)).gen) (by omega) (by omega) (by omega) hM).mono ?_
      rintro v97 w43 ⟨hB97, rfl⟩
      obtain ⟨LL, hM, hF, hT, h0, h1, h2, hn45, hn50, hnb50, B4, B5, B6, B7, B9, B10⟩ := eN hB97 LL hM hF hT h0 h1 h2 hn45 hn50 hnb50 B4 B5 B6 B7 B9 B10
      refine zM rfl rfl (gJ rfl rfl (yS rfl rfl rfl (kE (d := 99) rfl (by first | rfl | (rw [decide_eq_true ho5]; rfl) | simp [ho5]) (zA (qT rfl (yP (zF (zD (zL 1 rfl yu43 rfl rfl yQ rfl rfl (zI rfl yB yQ rfl B10 rfl rfl (zL 7 rfl yu43 rfl rfl yQ rfl rfl (zI rfl yB yQ rfl B10 rfl rfl (zH rfl bod36 rfl rfl ?_)))))))))))))
      refine (r8cmp_c (((hn50.relen hsg.1)).gen) (((hnb50.relen hsg.2)).gen) (by omega) (by omega) hM).mono ?_
      rintro v104 w44 ⟨hB104, rfl⟩
      obtain ⟨LL, hM, hF, hT, h0, h1, h2, hn45, B4, B5, B6, B7, B9, B10⟩ := iQ hB104 LL hM hF hT h0 h1 h2 hn45 B4 B5 B6 B7 B9 B10
      refine zE rfl rfl (zA (zF (zF (zD (zC rfl rfl (gF rfl rfl rfl (zL 0 rfl yu43 rfl rfl iJ rfl rfl (zT rfl dX rfl B10 rfl (gF rfl rfl rfl (ops_bne rfl rfl rfl yu4 (zC rfl rfl (kE (d := 111) rfl (by rw [show decide (aC (uE p q u (atP p q t)).2.1 (uE p q u (atP p q t)).2.2 = 0) = decide ((uE p q u (atP p q t)).1 = 1) from decide_eq_decide.2 ⟨fun c => hk1.2 (kB.1 c), fun c => kB.2 (hk1.1 c)⟩]; simp) (zM rfl rfl (zC rfl rfl ?_))))))))))))))
      refine zM rfl rfl (qL rfl rfl rfl (yS rfl rfl rfl (kE (d := 114) rfl (decide_eq_false fun c => cW.1 c hle) (zA (qT rfl (yP (zF (zD (zI rfl yB yQ rfl B4 rfl rfl (zI rfl yB yQ rfl B5 rfl rfl (zI rfl yB yQ rfl B6 rfl rfl (zI rfl yB yQ rfl B9 rfl rfl (zH rfl bod37 rfl rfl ?_)))))))))))))
      refine (mlines_c hT h0 h1 h2 (((hn45.relen hat)).gen) (by omega) (by omega) (by omega) (by omega) hM).mono ?_
      rintro v120 w45 ⟨hB120, xs120, xa120, xd120, xt120, xb120, xe120, rfl, hn120⟩
      obtain ⟨LL, hM, hF, hT, hn45, B4, B5, B6, B7, B9, B10⟩ := hC hB120 LL hM hF hT hn45 B4 B5 B6 B7 B9 B10
      obtain ⟨oxa120, oxd120, oxb120, oxe120, _⟩ := hn120.one
      refine zC rfl rfl (yH rfl rfl rfl (yH rfl rfl rfl (yJ rfl yQ (fun w46 b12 N12 => ?_))))
      obtain ⟨hBw46, nF12, nM12, Lw46, B12⟩ := nza hF hM N12
      have lt4_12 := B4.lt
      have ne4_12 := N12.ne lt4_12
      have lt5_12 := B5.lt
      have ne5_12 := N12.ne lt5_12
      have lt6_12 := B6.lt
      have ne6_12 := N12.ne lt6_12
      have lt7_12 := B7.lt
      have ne7_12 := N12.ne lt7_12
      have lt9_12 := B9.lt
      replace B9 := B9.below hBw46
      have ne9_12 := N12.ne lt9_12
      have lt10_12 := B10.lt
      have ne10_12 := N12.ne lt10_12
      obtain ⟨LL, hM, hT, hn45, hn120⟩ := up5 Lw46 LL hM hT hn45 hn120
      refine zY rfl rfl yQ B12 rfl rfl (zV rfl (zV (by first | rfl | assumption) (zV (by first | rfl | assumption) (zV rfl (zV (by first | rfl | assumption) (zV (by first | rfl | assumption) jC)))))) rfl (fun w47 Cw47 B12 => ?_)
      have Lw47 := Le.of_chg (M := (Ins b12 (Ins b10 (Ins b9 (Ins b7 (Ins b6 (Ins b5 (Ins b4 M)))))))) Cw47 zS nF12
      obtain ⟨LL, hM, hT, hn45, hn120⟩ := up5 Lw47 LL hM hT hn45 hn120
      replace B9 := B9.other Cw47 ne9_12
      refine zE rfl rfl (zA (zF (zD (zC rfl rfl (gJ rfl rfl (zC rfl rfl (aI (d := 125) rfl (fun hg11_2 => ?_) (fun hg11_2 => ?_))))))))
      ·refine zR rfl rfl rfl rfl (zR rfl rfl rfl rfl (zR rfl rfl rfl rfl (yS rfl rfl rfl (zC rfl rfl (eQ (d := 130) rfl (by first | rfl | exact decide_eq_true (kB.2 (hli (by simpa using hg11_2)))) (zM rfl rfl (zH rfl fC rfl rfl ?_)))))))
       refine (bY hT   hM).mono ?_
       rintro v131 w48 ⟨hB131, rfl⟩
       replace LL := ub1 hB131 LL
       refine yS rfl rfl rfl (zE rfl rfl (zA (zZ ?_)))
       refine zP ⟨[_], ⟨rfl, trivial⟩, ?_⟩
       dsimp only [zX]
       subst hFz
       exact ⟨LL.below (Nat.le_refl _), rfl⟩
      ·refine zM rfl rfl (zI rfl yB yQ rfl B12 rfl rfl (zM rfl rfl (zI rfl yB yQ rfl B9 rfl rfl (zM rfl rfl (zH rfl bod38 rfl rfl ?_)))))
       refine (r8same_c hn120.gen (((hn45.relen hat)).gen) (by omega) (by omega) hM).mono ?_
       rintro v128 w49 ⟨hB128, rfl⟩
       obtain ⟨LL, hM, hT⟩ := ub3 hB128 LL hM hT
       refine yS rfl rfl rfl (zC rfl rfl (eQ (d := 130) rfl (by first | rfl | exact decide_eq_true (kB.2 (hli (by simpa using hg11_2)))) (zM rfl rfl (zH rfl fC rfl rfl ?_))))
       refine (bY hT   hM).mono ?_
       rintro v131 w50 ⟨hB131, rfl⟩
       replace LL := ub1 hB131 LL
       refine yS rfl rfl rfl (zE rfl rfl (zA (zZ ?_)))
       refine zP ⟨[_], ⟨rfl, trivial⟩, ?_⟩
       dsimp only [zX]
       subst hFz
       exact ⟨LL.below (Nat.le_refl _), rfl⟩
end Go.Proofs.YtfkejnlohkgbgaaGreatDoor
