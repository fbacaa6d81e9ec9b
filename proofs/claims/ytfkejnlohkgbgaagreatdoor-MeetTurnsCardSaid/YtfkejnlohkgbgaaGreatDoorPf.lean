/- Walks of the functions that the statement reaches, and the lemmas they stand on; no statement of the seat is proved here. -/
import Derived.Test.YtfkejnlohkgbgaaGreatDoorPe
set_option linter.unusedVariables false
set_option linter.unusedSimpArgs false
set_option maxRecDepth 100000
namespace Go.Proofs.YtfkejnlohkgbgaaGreatDoor
open Go.SL Go.RowKit Go.Proofs Tryz
variable {M : Nat → Prop} {w : World}
theorem q4l5 {bb : Nat} {ty : TypeId} {q0 q1 q2 q3 q4 : N4} {s0 t0 : Bool} {a0 d0 b0 e0 : Value} {s1 t1 : Bool} {a1 d1 b1 e1 : Value} {s2 t2 : Bool} {a2 d2 b2 e2 : Value} {s3 t3 : Bool} {a3 d3 b3 e3 : Value} {s4 t4 : Bool} {a4 d4 b4 e4 : Value} (hk : KBlk M w bb ty [.bool s0, a0, d0, .bool t0, b0, e0, .bool s1, a1, d1, .bool t1, b1, e1, .bool s2, a2, d2, .bool t2, b2, e2, .bool s3, a3, d3, .bool t3, b3, e3, .bool s4, a4, d4, .bool t4, b4, e4]) (z0 : Q4 M w 0 q0 s0 a0 d0 t0 b0 e0) (z1 : Q4 M w 0 q1 s1 a1 d1 t1 b1 e1) (z2 : Q4 M w 0 q2 s2 a2 d2 t2 b2 e2) (z3 : Q4 M w 0 q3 s3 a3 d3 t3 b3 e3) (z4 : Q4 M w 0 q4 s4 a4 d4 t4 b4 e4) : Q4L M w 0 [q0, q1, q2, q3, q4] (.slice (some ⟨bb, 0, none⟩) 5 5) :=
  ⟨row_blk (l := [q0, q1, q2, q3, q4]) hk (by simp) (by simp) (((((Elems.nil.snoc (us := [.bool s0, a0, d0, .bool t0, b0, e0]) rfl ⟨_, _, _, _, _, _, rfl, z0⟩).snoc (us := [.bool s1, a1, d1, .bool t1, b1, e1]) rfl ⟨_, _, _, _, _, _, rfl, z1⟩).snoc (us := [.bool s2, a2, d2, .bool t2, b2, e2]) rfl ⟨_, _, _, _, _, _, rfl, z2⟩).snoc (us := [.bool s3, a3, d3, .bool t3, b3, e3]) rfl ⟨_, _, _, _, _, _, rfl, z3⟩).snoc (us := [.bool s4, a4, d4, .bool t4, b4, e4]) rfl ⟨_, _, _, _, _, _, rfl, z4⟩)⟩
theorem bY {l : List N4} {x : N4} {n : Nat} (h : fO l = false) (hx : x ∈ l) (hn : n ≤ m4 x) : n ≤ 2 := by
  unfold fO at h
  rw [decide_eq_false_iff_not] at h
  have : ¬ 2 < m4 x := fun c => h ⟨x, hx, c⟩
  omega
theorem movM_fst (m : Mt) (r : P2) : (fJ m r).1 = m.1 := by unfold fJ; split <;> rename_i h; exact h.symm; rfl
theorem meets_none {s t : P2 × P2} (h : (qG s t).1 = 0) : qG s t = dH := by
  unfold qG at *
  split
  · rfl
  · rename_i h1
    rw [if_neg h1] at h
    split
    · rename_i h2; rw [if_pos h2] at h; split at h <;> simp at h
    · rename_i h2
      rw [if_neg h2] at h
      split
      · rename_i h3; rw [if_pos h3] at h; simp at h
      · rfl
theorem segs_none {a b c d : P2} (h : (xI a b c d).1 = 0) : (xI a b c d).2.1 = (((0 : Nat) : Rat), ((0 : Nat) : Rat)) ∧ (xI a b c d).2.2 = (((0 : Nat) : Rat), ((0 : Nat) : Rat)) := by
  have := meets_none h
  unfold xI; rw [this]; exact ⟨rfl, rfl⟩
theorem segs_moved {a b c d r : P2} (h : ¬ (xI a b c d).1 = 0) : (xI (jC a r) (jC b r) (jC c r) (jC d r)).2.1 = jC (xI a b c d).2.1 r ∧ (xI (jC a r) (jC b r) (jC c r) (jC d r)).2.2 = jC (xI a b c d).2.2 r := by
  rw [segs_add]; unfold fJ; rw [if_neg h]; exact ⟨rfl, rfl⟩
theorem segs_rev (a b c d : P2) : xI d c b a = xI a b c d := by rw [segs_comm, segs_swap1, segs_swap2]
theorem law_MeetTurns {p : P2} {n0 : Nat} {xs0 xt0 : Bool} {xa0 xd0 xb0 xe0 : Value} {q : P2} {n1 : Nat} {xs1 xt1 : Bool} {xa1 xd1 xb1 xe1 : Value} {u : P2} {n2 : Nat} {xs2 xt2 : Bool} {xa2 xd2 xb2 xe2 : Value} {z : P2} {n3 : Nat} {xs3 xt3 : Bool} {xa3 xd3 xb3 xe3 : Value} {r : P2} {n4 : Nat} {xs4 xt4 : Bool} {xa4 xd4 xb4 xe4 : Value} (hT : Tab M w) (h0 : PQ M w n0 p xs0 xa0 xd0 xt0 xb0 xe0) (h1 : PQ M w n1 q xs1 xa1 xd1 xt1 xb1 xe1) (h2 : PQ M w n2 u xs2 xa2 xd2 xt2 xb2 xe2) (h3 : PQ M w n3 z xs3 xa3 xd3 xt3 xb3 xe3) (h4 : PQ M w n4 r xs4 xa4 xd4 xt4 xb4 xe4) {q0 : N4} (z0 : Q4 M w 0 q0 xs0 xa0 xd0 xt0 xb0 xe0) (hn0 : n0 ≤ m4 q0) {q1 : N4} (z1 : Q4 M w 0 q1 xs1 xa1 xd1 xt1 xb1 xe1) (hn1 : n1 ≤ m4 q1) {q2 : N4} (z2 : Q4 M w 0 q2 xs2 xa2 xd2 xt2 xb2 xe2) (hn2 : n2 ≤ m4 q2) {q3 : N4} (z3 : Q4 M w 0 q3 xs3 xa3 xd3 xt3 xb3 xe3) (hn3 : n3 ≤ m4 q3) {q4 : N4} (z4 : Q4 M w 0 q4 xs4 xa4 xd4 xt4 xb4 xe4) (hn4 : n4 ≤ m4 q4) (hM : OkM M w) :
    CallsV prog 4 [.agg #[.bool xs0, xa0, xd0, .bool xt0, xb0, xe0], .agg #[.bool xs1, xa1, xd1, .bool xt1, xb1, xe1], .agg #[.bool xs2, xa2, xd2, .bool xt2, xb2, xe2], .agg #[.bool xs3, xa3, xd3, .bool xt3, xb3, xe3], .agg #[.bool xs4, xa4, xd4, .bool xt4, xb4, xe4]] w fun r w' => Below w.heap.size w w' ∧ r = .bool true := by
 obtain ⟨Fz, hFz, hF, LL⟩ := fz0 M w
 obtain ⟨oxa0, oxd0, oxb0, oxe0, _⟩ := h0.one
 obtain ⟨oxa1, oxd1, oxb1, oxe1, _⟩ := h1.one
 obtain ⟨oxa2, oxd2, oxb2, oxe2, _⟩ := h2.one
 obtain ⟨oxa3, oxd3, oxb3, oxe3, _⟩ := h3.one
 obtain ⟨oxa4, oxd4, oxb4, oxe4, _⟩ := h4.one
 have hM0 := hM
 refine zQ func4 rfl ntmps4 rfl ?_
 refine zG (zC (yN rfl rfl (fun w1 b5 N5 => ?_)))
 obtain ⟨_, nF5, nM5, Lw1, B5⟩ := nza hF hM N5
 obtain ⟨LL, hM, hF, hT, h0, h1, h2, h3, h4, z0, z1, z2, z3, z4⟩ := hC Lw1 LL hM hF hT h0 h1 h2 h3 h4 z0 z1 z2 z3 z4
 refine yN rfl rfl (fun w2 b6 N6 => ?_)
 obtain ⟨hBw2, nF6, nM6, Lw2, B6⟩ := nza hF hM N6
 obtain ⟨B5, ne5_6⟩ := bn B5 N6
 obtain ⟨LL, hM, hF, hT, h0, h1, h2, h3, h4, z0, z1, z2, z3, z4⟩ := hC Lw2 LL hM hF hT h0 h1 h2 h3 h4 z0 z1 z2 z3 z4
 refine yN rfl rfl (fun w3 b7 N7 => ?_)
 obtain ⟨hBw3, nF7, nM7, Lw3, B7⟩ := nza hF hM N7
 obtain ⟨B5, ne5_7⟩ := bn B5 N7
 obtain ⟨B6, ne6_7⟩ := bn B6 N7
 obtain ⟨LL, hM, hF, hT, h0, h1, h2, h3, h4, z0, z1, z2, z3, z4⟩ := hC Lw3 LL hM hF hT h0 h1 h2 h3 h4 z0 z1 z2 z3 z4
 refine yN rfl rfl (fun w4 b8 N8 => ?_)
 obtain ⟨hBw4, nF8, nM8, Lw4, B8⟩ := nza hF hM N8
 obtain ⟨B5, ne5_8⟩ := bn B5 N8
 obtain ⟨B6, ne6_8⟩ := bn B6 N8
 obtain ⟨B7, ne7_8⟩ := bn B7 N8
 obtain ⟨LL, hM, hF, hT, h0, h1, h2, h3, h4, z0, z1, z2, z3, z4⟩ := hC Lw4 LL hM hF hT h0 h1 h2 h3 h4 z0 z1 z2 z3 z4
 refine yN rfl rfl (fun w5 b9 N9 => ?_)
 obtain ⟨hBw5, nF9, nM9, Lw5, B9⟩ := nza hF hM N9
 obtain ⟨B5, ne5_9⟩ := bn B5 N9
 obtain ⟨B6, ne6_9⟩ := bn B6 N9
 obtain ⟨B7, ne7_9⟩ := bn B7 N9
 obtain ⟨B8, ne8_9⟩ := bn B8 N9
 obtain ⟨LL, hM, hF, hT, h0, h1, h2, h3, h4, z0, z1, z2, z3, z4⟩ := hC Lw5 LL hM hF hT h0 h1 h2 h3 h4 z0 z1 z2 z3 z4
 refine zE rfl rfl (zA (zG (zG (zC (zL rfl yQ yY rfl B5 rfl rfl (zL rfl yQ yY rfl B6 rfl rfl (zL rfl yQ yY rfl B7 rfl rfl (zL rfl yQ yY rfl B8 rfl rfl (zL rfl yQ yY rfl B9 rfl rfl (xL rfl yu63 yY rfl rfl rfl rfl (zY rfl (zY rfl (zY rfl (zY rfl (zY rfl xG))))) rfl rfl rfl (fun w6 b18 N18 => ?_)))))))))))
 have hBw6 := N18.below
 have nM18 := hM.new N18
 have B18 := N18.blk
 obtain ⟨LL, hM, hF, hT, h0, h1, h2, h3, h4, z0, z1, z2, z3, z4, B5, B6, B7, B8, B9⟩ := ub19 hBw6 LL hM hF hT h0 h1 h2 h3 h4 z0 z1 z2 z3 z4 B5 B6 B7 B8 B9
 refine zH rfl bod24 rfl rfl ?_
 refine (long_c (q4l5 (KBlk.mk B18 nM18) z0 z1 z2 z3 z4) (by simp) (by simp) hM).mono ?_
 rintro v19 w7 ⟨hB19, rfl⟩
 obtain ⟨LL, hM, hF, hT, h0, h1, h2, h3, h4, B5, B6, B7, B8, B9⟩ := hH hB19 LL hM hF hT h0 h1 h2 h3 h4 B5 B6 B7 B8 B9
 refine zA ?_
 refine qR rfl (fun hc0 => ?_) (fun hc0 => ?_)
 ·refine zG (zC (zH rfl bod25 rfl rfl ?_))
  refine (wakes_c hT   hM).mono ?_
  rintro v20 w8 ⟨hB20, rfl⟩
  replace LL := ub1 hB20 LL
  refine zE rfl rfl (zA (zX ?_))
  refine zO ⟨[_], ⟨rfl, trivial⟩, ?_⟩
  dsimp only [zW]
  subst hFz
  exact ⟨LL.below (Nat.le_refl _), rfl⟩
 ·have hz0 : n0 ≤ 2 := bY hc0 (x := q0) (by simp) hn0
  have hz1 : n1 ≤ 2 := bY hc0 (x := q1) (by simp) hn1
  have hz2 : n2 ≤ 2 := bY hc0 (x := q2) (by simp) hn2
  have hz3 : n3 ≤ 2 := bY hc0 (x := q3) (by simp) hn3
  have hz4 : n4 ≤ 2 := bY hc0 (x := q4) (by simp) hn4
  refine yL (zG (zC (zL rfl yQ yY rfl B5 rfl rfl (zL rfl yQ yY rfl B6 rfl rfl (zL rfl yQ yY rfl B7 rfl rfl (zL rfl yQ yY rfl B8 rfl rfl (zH rfl dS rfl rfl ?_)))))))
  refine (aS hT h0 h1 h2 h3 (by omega) (by omega) (by omega) (by omega) hM).mono ?_
  rintro v25 w9 ⟨hB25, xs25, xa25, xd25, xt25, xb25, xe25, xs25b, xa25b, xd25b, xt25b, xb25b, xe25b, rfl, hn25, hnb25⟩
  obtain ⟨LL, hM, hF, hT, h0, h1, h2, h3, h4, B5, B6, B7, B8, B9⟩ := hH hB25 LL hM hF hT h0 h1 h2 h3 h4 B5 B6 B7 B8 B9
  obtain ⟨oxa25, oxd25, oxb25, oxe25, _⟩ := hn25.one; obtain ⟨oxa25b, oxd25b, oxb25b, oxe25b, _⟩ := hnb25.one
  refine yM rfl qU (fun w10 b11 N11 => ?_)
  obtain ⟨hBw10, nF11, nM11, Lw10, B11⟩ := nza hF hM N11
  obtain ⟨B5, ne5_11⟩ := bn B5 N11
  obtain ⟨B6, ne6_11⟩ := bn B6 N11
  obtain ⟨B7, ne7_11⟩ := bn B7 N11
  obtain ⟨B8, ne8_11⟩ := bn B8 N11
  obtain ⟨B9, ne9_11⟩ := bn B9 N11
  obtain ⟨LL, hM, hF, hT, h0, h1, h2, h3, h4, hn25, hnb25⟩ := up11 Lw10 LL hM hF hT h0 h1 h2 h3 h4 hn25 hnb25
  refine zZ rfl rfl qU B11 rfl rfl (zU rfl (zU rfl (zU (by first | rfl | assumption) (zU (by first | rfl | assumption) (zU rfl (zU (by first | rfl | assumption) (zU (by first | rfl | assumption) (zU rfl (zU (by first | rfl | assumption) (zU (by first | rfl | assumption) (zU rfl (zU (by first | rfl | assumption) (zU (by first | rfl | assumption) jK))))))))))))) rfl (fun w11 Cw11 B11 => ?_)
  have Lw11 := Le.of_chg (M := (Ins b11 (Ins b9 (Ins b8 (Ins b7 (Ins b6 (Ins b5 M))))))) Cw11 zS nF11
  obtain ⟨LL, hM, hF, hT, h0, h1, h2, h3, h4, hn25, hnb25⟩ := up11 Lw11 LL hM hF hT h0 h1 h2 h3 h4 hn25 hnb25
  replace B5 := B5.other Cw11 ne5_11
  replace B6 := B6.other Cw11 ne6_11
  replace B7 := B7.other Cw11 ne7_11
  replace B8 := B8.other Cw11 ne8_11
  replace B9 := B9.other Cw11 ne9_11
  refine zA (zG (zG ?_))
  refine xN (R := Rb) (R' := Rb) (st := none) jM 37 [5, 6, 7, 8, 9, 10, 11, 54, 59, 62] (qQ (by decide +kernel)) xK xW (xU _) (fun _ _ _ h => by cases h) ?_
  refine zM (fun _ hR _ => zP rfl rfl (zD (zL rfl kH qU rfl (B11.below hR) rfl rfl (on0 rfl)))) ?_
  refine zM (fun _ hR _ => zP rfl rfl (zD (zL rfl yQ yY rfl (B6.below hR) rfl rfl (on0 rfl)))) ?_
  refine zM (fun _ hR _ => zP rfl rfl (zD (zL rfl yQ yY rfl (B5.below hR) rfl rfl (on0 rfl)))) ?_
  refine zM (fun _ hR _ => zP rfl rfl (zD (zL rfl yQ yY rfl (B7.below hR) rfl rfl (on0 rfl)))) ?_
  refine zM (fun _ hR _ => zP rfl rfl (zD (zL rfl yQ yY rfl (B8.below hR) rfl rfl (on0 rfl)))) ?_
  refine zV (fun v w => ∃ xs31 xa31 xd31 xt31 xb31 xe31 xs31b xa31b xd31b xt31b xb31b xe31b, v = .agg #[.int .i8 (xI q p u z).1, .bool xs31, xa31, xd31, .bool xt31, xb31, xe31, .bool xs31b, xa31b, xd31b, .bool xt31b, xb31b, xe31b] ∧ PC (Ins b11 (Ins b9 (Ins b8 (Ins b7 (Ins b6 (Ins b5 M)))))) w (16 * (n1 + n0 + n2 + n3) + 80) ((xI q p u z).2.1) xs31 xa31 xd31 xt31 xb31 xe31 ∧ PC (Ins b11 (Ins b9 (Ins b8 (Ins b7 (Ins b6 (Ins b5 M)))))) w (16 * (n1 + n0 + n2 + n3) + 80) ((xI q p u z).2.2) xs31b xa31b xd31b xt31b xb31b xe31b) (fun _ _ _ ⟨xs31, xa31, xd31, xt31, xb31, xe31, xs31b, xa31b, xd31b, xt31b, xb31b, xe31b, e, h0, h1⟩ r => ⟨xs31, xa31, xd31, xt31, xb31, xe31, xs31b, xa31b, xd31b, xt31b, xb31b, xe31b, e, h0.mono (Fz := fun _ => False) (Le.of_below r), h1.mono (Fz := fun _ => False) (Le.of_below r)⟩) (fun wq hR hst => ?_) ?_
  ·refine zJ rfl (zJ rfl (zJ rfl (zJ rfl (zD ?_))))
   obtain ⟨hM, hT, h0, h1, h2, h3⟩ := ub6 hR hM hT h0 h1 h2 h3
   refine zH rfl dS rfl rfl ?_
   refine (aS hT h1 h0 h2 h3 (by omega) (by omega) (by omega) (by omega) hM).mono ?_
   rintro v31 w12 ⟨hB31, xs31, xa31, xd31, xt31, xb31, xe31, xs31b, xa31b, xd31b, xt31b, xb31b, xe31b, rfl, hn31, hnb31⟩
   obtain ⟨oxa31, oxd31, oxb31, oxe31, _⟩ := hn31.one
   exact zA ⟨rfl, hB31, _, rfl, ⟨_, _, _, _, _, _, _, _, _, _, _, _, rfl, hn31, hnb31⟩⟩
  refine zV (Ex (.bool (decide ((((xI p q u z).1), ((xI p q u z).2.1), ((xI p q u z).2.2)) = (((xI q p u z).1), ((xI q p u z).2.1), ((xI q p u z).2.2)))))) gA (fun wq hR hst => ?_) ?_
  ·refine zJ rfl (yG rfl (fun v31 hp31 => ?_))
   obtain ⟨xs31, xa31, xd31, xt31, xb31, xe31, xs31b, xa31b, xd31b, xt31b, xb31b, xe31b, rfl, hn31, hnb31⟩ := hp31; obtain ⟨oxa31, oxd31, oxb31, oxe31, _⟩ := hn31.one
   refine zD ?_
   obtain ⟨hM, hn25, hnb25⟩ := ub3 hR hM hn25 hnb25
   refine zH rfl fH rfl rfl ?_
   refine (kY hn25 hnb25 hn31 hnb31 (by omega) (by omega) (by omega) (by omega) hM).mono ?_
   rintro v32 w13 ⟨hB32, rfl⟩
   exact zA ⟨rfl, hB32, _, rfl, rfl⟩
  refine zV (Ex (.bool (!(decide ((((xI p q u z).1), ((xI p q u z).2.1), ((xI p q u z).2.2)) = (((xI q p u z).1), ((xI q p u z).2.1), ((xI q p u z).2.2))))))) gA (fun wq hR hst => ?_) ?_
  ·refine zJ rfl (zD ?_)
   exact qM rfl rfl (on0 rfl)
  refine zV (Ex (.bool false)) gA (fun wq hR hst => ?_) ?_
  ·refine zJ rfl (zD ?_)
   exact zB rfl rfl (zA ⟨rfl, yP _, _, rfl, congrArg Value.bool (by rw [segs_swap1 p q u z]; simp)⟩)
  refine zM (fun _ hR _ => zP rfl rfl (zJ rfl (zD (zN rfl rfl (zL rfl kH qU rfl (B11.below hR) rfl rfl (on0 rfl)))))) ?_
  refine zM (fun _ hR _ => zP rfl rfl (zJ rfl (zD (zN rfl rfl (zL rfl yQ yY rfl (B5.below hR) rfl rfl (on0 rfl)))))) ?_
  refine zM (fun _ hR _ => zP rfl rfl (zJ rfl (zD (zN rfl rfl (zL rfl yQ yY rfl (B6.below hR) rfl rfl (on0 rfl)))))) ?_
  refine zM (fun _ hR _ => zP rfl rfl (zJ rfl (zD (zN rfl rfl (zL rfl yQ yY rfl (B8.below hR) rfl rfl (on0 rfl)))))) ?_
  refine zM (fun _ hR _ => zP rfl rfl (zJ rfl (zD (zN rfl rfl (zL rfl yQ yY rfl (B7.below hR) rfl rfl (on0 rfl)))))) ?_
  refine zV (fun v w => ∃ xs40 xa40 xd40 xt40 xb40 xe40 xs40b xa40b xd40b xt40b xb40b xe40b, v = .agg #[.int .i8 (xI p q z u).1, .bool xs40, xa40, xd40, .bool xt40, xb40, xe40, .bool xs40b, xa40b, xd40b, .bool xt40b, xb40b, xe40b] ∧ PC (Ins b11 (Ins b9 (Ins b8 (Ins b7 (Ins b6 (Ins b5 M)))))) w (16 * (n0 + n1 + n3 + n2) + 80) ((xI p q z u).2.1) xs40 xa40 xd40 xt40 xb40 xe40 ∧ PC (Ins b11 (Ins b9 (Ins b8 (Ins b7 (Ins b6 (Ins b5 M)))))) w (16 * (n0 + n1 + n3 + n2) + 80) ((xI p q z u).2.2) xs40b xa40b xd40b xt40b xb40b xe40b) (fun _ _ _ ⟨xs40, xa40, xd40, xt40, xb40, xe40, xs40b, xa40b, xd40b, xt40b, xb40b, xe40b, e, h0, h1⟩ r => ⟨xs40, xa40, xd40, xt40, xb40, xe40, xs40b, xa40b, xd40b, xt40b, xb40b, xe40b, e, h0.mono (Fz := fun _ => False) (Le.of_below r), h1.mono (Fz := fun _ => False) (Le.of_below r)⟩) (fun wq hR hst => ?_) ?_
  ·refine zJ rfl (zJ rfl (zJ rfl (zJ rfl (zJ rfl (zD ?_)))))
   obtain ⟨hM, hT, h0, h1, h2, h3⟩ := ub6 hR hM hT h0 h1 h2 h3
   refine zN rfl rfl (zH rfl dS rfl rfl ?_)
   refine (aS hT h0 h1 h3 h2 (by omega) (by omega) (by omega) (by omega) hM).mono ?_
   rintro v40 w14 ⟨hB40, xs40, xa40, xd40, xt40, xb40, xe40, xs40b, xa40b, xd40b, xt40b, xb40b, xe40b, rfl, hn40, hnb40⟩
   obtain ⟨oxa40, oxd40, oxb40, oxe40, _⟩ := hn40.one
   exact zA ⟨rfl, hB40, _, rfl, ⟨_, _, _, _, _, _, _, _, _, _, _, _, rfl, hn40, hnb40⟩⟩
  refine zV (Ex (.bool (decide ((((xI p q u z).1), ((xI p q u z).2.1), ((xI p q u z).2.2)) = (((xI p q z u).1), ((xI p q z u).2.1), ((xI p q z u).2.2)))))) gA (fun wq hR hst => ?_) ?_
  ·refine zJ rfl (yG rfl (fun v40 hp40 => ?_))
   obtain ⟨xs40, xa40, xd40, xt40, xb40, xe40, xs40b, xa40b, xd40b, xt40b, xb40b, xe40b, rfl, hn40, hnb40⟩ := hp40; obtain ⟨oxa40, oxd40, oxb40, oxe40, _⟩ := hn40.one
   refine zJ rfl (zD ?_)
   obtain ⟨hM, hn25, hnb25⟩ := ub3 hR hM hn25 hnb25
   refine zN rfl rfl (zH rfl fH rfl rfl ?_)
   refine (kY hn25 hnb25 hn40 hnb40 (by omega) (by omega) (by omega) (by omega) hM).mono ?_
   rintro v41 w15 ⟨hB41, rfl⟩
   exact zA ⟨rfl, hB41, _, rfl, rfl⟩
  refine zV (Ex (.bool (!(decide ((((xI p q u z).1), ((xI p q u z).2.1), ((xI p q u z).2.2)) = (((xI p q z u).1), ((xI p q z u).2.1), ((xI p q z u).2.2))))))) gA (fun wq hR hst => ?_) ?_
  ·refine zJ rfl (zJ rfl (zD ?_))
   exact zN rfl rfl (qM rfl rfl (on0 rfl))
  refine zV (Ex (.bool (!(decide ((((xI p q u z).1), ((xI p q u z).2.1), ((xI p q u z).2.2)) = (((xI p q z u).1), ((xI p q z u).2.1), ((xI p q z u).2.2))))))) gA (fun wq hR hst => ?_) ?_
  ·refine zJ rfl (zJ rfl (zD ?_))
   exact xB rfl rfl rfl (on0 rfl)
  refine zV (Ex (.bool false)) gA (fun wq hR hst => ?_) ?_
  ·refine zJ rfl (zD ?_)
   exact zB rfl rfl (zA ⟨rfl, yP _, _, rfl, congrArg Value.bool (by rw [segs_swap2 p q u z]; simp)⟩)
  refine zM (fun _ hR _ => zP rfl rfl (zJ rfl (zD (zN rfl rfl (zL rfl kH qU rfl (B11.below hR) rfl rfl (on0 rfl)))))) ?_
  refine zM (fun _ hR _ => zP rfl rfl (zJ rfl (zD (zN rfl rfl (zL rfl yQ yY rfl (B7.below hR) rfl rfl (on0 rfl)))))) ?_
  refine zM (fun _ hR _ => zP rfl rfl (zJ rfl (zD (zN rfl rfl (zL rfl yQ yY rfl (B8.below hR) rfl rfl (on0 rfl)))))) ?_
  refine zM (fun _ hR _ => zP rfl rfl (zJ rfl (zD (zN rfl rfl (zL rfl yQ yY rfl (B5.below hR) rfl rfl (on0 rfl)))))) ?_
  refine zM (fun _ hR _ => zP rfl rfl (zJ rfl (zD (zN rfl rfl (zL rfl yQ yY rfl (B6.below hR) rfl rfl (on0 rfl)))))) ?_
  refine zV (fun v w => ∃ xs50 xa50 xd50 xt50 xb50 xe50 xs50b xa50b xd50b xt50b xb50b xe50b, v = .agg #[.int .i8 (xI u z p q).1, .bool xs50, xa50, xd50, .bool xt50, xb50, xe50, .bool xs50b, xa50b, xd50b, .bool xt50b, xb50b, xe50b] ∧ PC (Ins b11 (Ins b9 (Ins b8 (Ins b7 (Ins b6 (Ins b5 M)))))) w (16 * (n2 + n3 + n0 + n1) + 80) ((xI u z p q).2.1) xs50 xa50 xd50 xt50 xb50 xe50 ∧ PC (Ins b11 (Ins b9 (Ins b8 (Ins b7 (Ins b6 (Ins b5 M)))))) w (16 * (n2 + n3 + n0 + n1) + 80) ((xI u z p q).2.2) xs50b xa50b xd50b xt50b xb50b xe50b) (fun _ _ _ ⟨xs50, xa50, xd50, xt50, xb50, xe50, xs50b, xa50b, xd50b, xt50b, xb50b, xe50b, e, h0, h1⟩ r => ⟨xs50, xa50, xd50, xt50, xb50, xe50, xs50b, xa50b, xd50b, xt50b, xb50b, xe50b, e, h0.mono (Fz := fun _ => False) (Le.of_below r), h1.mono (Fz := fun _ => False) (Le.of_below r)⟩) (fun wq hR hst => ?_) ?_
  ·refine zJ rfl (zJ rfl (zJ rfl (zJ rfl (zJ rfl (zD ?_)))))
   obtain ⟨hM, hT, h0, h1, h2, h3⟩ := ub6 hR hM hT h0 h1 h2 h3
   refine zN rfl rfl (zH rfl dS rfl rfl ?_)
   refine (aS hT h2 h3 h0 h1 (by omega) (by omega) (by omega) (by omega) hM).mono ?_
   rintro v50 w16 ⟨hB50, xs50, xa50, xd50, xt50, xb50, xe50, xs50b, xa50b, xd50b, xt50b, xb50b, xe50b, rfl, hn50, hnb50⟩
   obtain ⟨oxa50, oxd50, oxb50, oxe50, _⟩ := hn50.one
   exact zA ⟨rfl, hB50, _, rfl, ⟨_, _, _, _, _, _, _, _, _, _, _, _, rfl, hn50, hnb50⟩⟩
  refine zV (Ex (.bool (decide ((((xI p q u z).1), ((xI p q u z).2.1), ((xI p q u z).2.2)) = (((xI u z p q).1), ((xI u z p q).2.1), ((xI u z p q).2.2)))))) gA (fun wq hR hst => ?_) ?_
  ·refine zJ rfl (yG rfl (fun v50 hp50 => ?_))
   obtain ⟨xs50, xa50, xd50, xt50, xb50, xe50, xs50b, xa50b, xd50b, xt50b, xb50b, xe50b, rfl, hn50, hnb50⟩ := hp50; obtain ⟨oxa50, oxd50, oxb50, oxe50, _⟩ := hn50.one
   refine zJ rfl (zD ?_)
   obtain ⟨hM, hn25, hnb25⟩ := ub3 hR hM hn25 hnb25
   refine zN rfl rfl (zH rfl fH rfl rfl ?_)
   refine (kY hn25 hnb25 hn50 hnb50 (by omega) (by omega) (by omega) (by omega) hM).mono ?_
   rintro v51 w17 ⟨hB51, rfl⟩
   exact zA ⟨rfl, hB51, _, rfl, rfl⟩
  refine zV (Ex (.bool (!(decide ((((xI p q u z).1), ((xI p q u z).2.1), ((xI p q u z).2.2)) = (((xI u z p q).1), ((xI u z p q).2.1), ((xI u z p q).2.2))))))) gA (fun wq hR hst => ?_) ?_
  ·refine zJ rfl (zJ rfl (zD ?_))
   exact zN rfl rfl (qM rfl rfl (on0 rfl))
  refine zV (Ex (.bool (!(decide ((((xI p q u z).1), ((xI p q u z).2.1), ((xI p q u z).2.2)) = (((xI u z p q).1), ((xI u z p q).2.1), ((xI u z p q).2.2))))))) gA (fun wq hR hst => ?_) ?_
  ·refine zJ rfl (zJ rfl (zD ?_))
   exact xB rfl rfl rfl (on0 rfl)
  refine zV (Ex (.bool false)) gA (fun wq hR hst => ?_) ?_
  ·refine zJ rfl (zD ?_)
   exact zB rfl rfl (zA ⟨rfl, yP _, _, rfl, congrArg Value.bool (by rw [segs_comm p q u z]; simp)⟩)
  refine zM (fun _ hR _ => zP rfl rfl (zJ rfl (zD (zN rfl rfl (zL rfl yQ yY rfl (B8.below hR) rfl rfl (on0 rfl)))))) ?_
  refine zM (fun _ hR _ => zP rfl rfl (zJ rfl (zD (zN rfl rfl (zL rfl yQ yY rfl (B7.below hR) rfl rfl (on0 rfl)))))) ?_
  refine zM (fun _ hR _ => zP rfl rfl (zJ rfl (zD (zN rfl rfl (zL rfl yQ yY rfl (B6.below hR) rfl rfl (on0 rfl)))))) ?_
  refine zM (fun _ hR _ => zP rfl rfl (zJ rfl (zD (zN rfl rfl (zL rfl yQ yY rfl (B5.below hR) rfl rfl (on0 rfl)))))) ?_
  refine zV (Ex (.bool (decide ((xI z u q p).1 ≠ 0)))) gA (fun wq hR hst => ?_) ?_
  ·refine zJ rfl (zJ rfl (zJ rfl (zJ rfl (zJ rfl (zD ?_)))))
   obtain ⟨hM, hT, h0, h1, h2, h3⟩ := ub6 hR hM hT h0 h1 h2 h3
   refine zN rfl rfl (zH rfl bod28 rfl rfl ?_)
   refine (mmeets2_c hT h3 h2 h1 h0 (by omega) (by omega) (by omega) (by omega) hM).mono ?_
   rintro v59 w18 ⟨hB59, rfl⟩
   exact zA ⟨rfl, hB59, _, rfl, rfl⟩
  refine zM (fun _ _ _ => zP rfl rfl (zJ rfl (zD (zN rfl rfl (zK 0 rfl yu43 rfl rfl fU rfl rfl (on0 rfl)))))) ?_
  refine zM (fun _ hR _ => zJ rfl (zJ rfl (zD (zN rfl rfl (zR rfl dI rfl (B11.below hR) rfl (on0 rfl)))))) ?_
  refine zV (Ex (.bool (decide (((xI p q u z).1) ≠ 0)))) gA (fun wq hR hst => ?_) ?_
  ·refine zJ rfl (zJ rfl (zD ?_))
   exact zN rfl rfl (bC rfl rfl rfl (on0 rfl))
  refine xO (fun wq4 hR4 hpost4 => ?_)
  refine zP rfl rfl (zP rfl rfl (zP rfl rfl (zP rfl rfl (zP rfl rfl (zP rfl rfl (zP rfl rfl (zJ rfl (zJ rfl (zJ rfl (zD ?_))))))))))
  simp only [List.drop_succ_cons, List.drop_zero, List.drop_nil, List.toList_toArray]
  obtain ⟨LL, hM, hF, hT, h0, h1, h2, h3, h4, hn25, hnb25, B5, B6, B7, B8, B9, B11⟩ := ub17 hR4 LL hM hF hT h0 h1 h2 h3 h4 hn25 hnb25 B5 B6 B7 B8 B9 B11
  refine zN rfl rfl (ops_bne rfl rfl rfl yu4 (ops_bf (d := 63) rfl (by rw [segs_rev p q u z]; simp) (xB rfl rfl rfl (zA (uI rfl (yL (zG ?_)))))))
  refine SL.wp_drawS (R := Rg 13) (R' := Rh [(13, (.agg #[(.int .i8 0), (.bool false), (.slice none 0 0), (.slice none 0 0), (.bool false), (.slice none 0 0), (.slice none 0 0), (.bool false), (.slice none 0 0), (.slice none 0 0), (.bool false), (.slice none 0 0), (.slice none 0 0)]), 43)] 13 14) (Pr := PrA) (st := some (14, fV 13 (.agg #[(.int .i8 0), (.bool false), (.slice none 0 0), (.slice none 0 0), (.bool false), (.slice none 0 0), (.slice none 0 0), (.bool false), (.slice none 0 0), (.slice none 0 0), (.bool false), (.slice none 0 0), (.slice none 0 0)]) 43, fI 13 (fun b w => ∃ xs12 xa12 xd12 xt12 xb12 xe12 xs12b xa12b xd12b xt12b xb12b xe12b, Blk w.1 b 43 [.int .i8 (xI (jC p r) (jC q r) (jC u r) (jC z r)).1, .bool xs12, xa12, xd12, .bool xt12, xb12, xe12, .bool xs12b, xa12b, xd12b, .bool xt12b, xb12b, xe12b] ∧ PC (Mg (Ins b11 (Ins b9 (Ins b8 (Ins b7 (Ins b6 (Ins b5 M)))))) w.2) w.1 (16 * ((n0 + n4 + 3) + (n1 + n4 + 3) + (n2 + n4 + 3) + (n3 + n4 + 3)) + 80) ((xI (jC p r) (jC q r) (jC u r) (jC z r)).2.1) xs12 xa12 xd12 xt12 xb12 xe12 ∧ PC (Mg (Ins b11 (Ins b9 (Ins b8 (Ins b7 (Ins b6 (Ins b5 M)))))) w.2) w.1 (16 * ((n0 + n4 + 3) + (n1 + n4 + 3) + (n2 + n4 + 3) + (n3 + n4 + 3)) + 80) ((xI (jC p r) (jC q r) (jC u r) (jC z r)).2.2) xs12b xa12b xd12b xt12b xb12b xe12b))) g0 jM 15 [9, 10, 11, 12] (by decide +kernel) rg_trans fM (rg_drew _) (fun _ _ _ h => by cases h; exact ⟨by decide, preB0, preB_mono rfl, postB_mono (fun b x y hb ⟨xs12, xa12, xd12, xt12, xb12, xe12, xs12b, xa12b, xd12b, xt12b, xb12b, xe12b, B, h0, h1⟩ hl r => ⟨xs12, xa12, xd12, xt12, xb12, xe12, xs12b, xa12b, xd12b, xt12b, xb12b, xe12b, B.below hl, h0.mono r.le, h1.mono r.le⟩), _, rfl⟩) prA0 prA_mono ?_
  apply jL rfl
  ·intro xq hR hst hPr
   obtain ⟨wq, gq⟩ := xq
   refine gN rfl rfl ?_
   refine yS ?_; dsimp only
   have Lq : Le Fz (Ins b11 (Ins b9 (Ins b8 (Ins b7 (Ins b6 (Ins b5 M)))))) wq4 (Mg (Ins b11 (Ins b9 (Ins b8 (Ins b7 (Ins b6 (Ins b5 M)))))) gq) wq := hR.le0
   replace B5 := B5.rg hR
   exact zL rfl yQ yY rfl B5 rfl rfl (zA ⟨rfl, gq, jQ rfl rfl (Below.refl _ _), _, rfl, rfl⟩)
  apply jL rfl
  ·intro xq hR hst hPr
   obtain ⟨wq, gq⟩ := xq
   refine gN rfl rfl ?_
   refine yS ?_; dsimp only
   have Lq : Le Fz (Ins b11 (Ins b9 (Ins b8 (Ins b7 (Ins b6 (Ins b5 M)))))) wq4 (Mg (Ins b11 (Ins b9 (Ins b8 (Ins b7 (Ins b6 (Ins b5 M)))))) gq) wq := hR.le0
   replace B9 := B9.rg hR
   exact zL rfl yQ yY rfl B9 rfl rfl (zA ⟨rfl, gq, jQ rfl rfl (Below.refl _ _), _, rfl, rfl⟩)
  refine jB rfl (fun v w => ∃ xs67 xa67 xd67 xt67 xb67 xe67, v = .agg #[.bool xs67, xa67, xd67, .bool xt67, xb67, xe67] ∧ PC (Mg (Ins b11 (Ins b9 (Ins b8 (Ins b7 (Ins b6 (Ins b5 M)))))) w.2) w.1 (n0 + n4 + 3) (jC p r) xs67 xa67 xd67 xt67 xb67 xe67) (fun _ _ _ ⟨xs67, xa67, xd67, xt67, xb67, xe67, e, h0⟩ r => ⟨xs67, xa67, xd67, xt67, xb67, xe67, e, h0.mono (r.le)⟩) (fun xq hR hst hPr => ?_) ?_
  ·obtain ⟨wq, gq⟩ := xq
   refine gO rfl ?_
   refine gO rfl ?_
   refine yS ?_; dsimp only
   have Lq : Le Fz (Ins b11 (Ins b9 (Ins b8 (Ins b7 (Ins b6 (Ins b5 M)))))) wq4 (Mg (Ins b11 (Ins b9 (Ins b8 (Ins b7 (Ins b6 (Ins b5 M)))))) gq) wq := hR.le0
   obtain ⟨hM, h0, h4⟩ := up3 Lq hM h0 h4
   refine zH rfl fG rfl rfl ?_
   refine (cZ h0 h4 (by omega) (by omega) hM).mono ?_
   rintro v67 w19 ⟨hB67, xs67, xa67, xd67, xt67, xb67, xe67, rfl, hn67⟩
   exact zA ⟨rfl, gq, jQ rfl rfl hB67, _, rfl, ⟨_, _, _, _, _, _, rfl, hn67⟩⟩
  apply jL rfl
  ·intro xq hR hst hPr
   obtain ⟨wq, gq⟩ := xq
   refine gN rfl rfl ?_
   refine yS ?_; dsimp only
   have Lq : Le Fz (Ins b11 (Ins b9 (Ins b8 (Ins b7 (Ins b6 (Ins b5 M)))))) wq4 (Mg (Ins b11 (Ins b9 (Ins b8 (Ins b7 (Ins b6 (Ins b5 M)))))) gq) wq := hR.le0
   replace B6 := B6.rg hR
   exact zL rfl yQ yY rfl B6 rfl rfl (zA ⟨rfl, gq, jQ rfl rfl (Below.refl _ _), _, rfl, rfl⟩)
  apply jL rfl
  ·intro xq hR hst hPr
   obtain ⟨wq, gq⟩ := xq
   refine gN rfl rfl ?_
   refine yS ?_; dsimp only
   have Lq : Le Fz (Ins b11 (Ins b9 (Ins b8 (Ins b7 (Ins b6 (Ins b5 M)))))) wq4 (Mg (Ins b11 (Ins b9 (Ins b8 (Ins b7 (Ins b6 (Ins b5 M)))))) gq) wq := hR.le0
   replace B9 := B9.rg hR
   exact zL rfl yQ yY rfl B9 rfl rfl (zA ⟨rfl, gq, jQ rfl rfl (Below.refl _ _), _, rfl, rfl⟩)
  refine jB rfl (fun v w => ∃ xs70 xa70 xd70 xt70 xb70 xe70, v = .agg #[.bool xs70, xa70, xd70, .bool xt70, xb70, xe70] ∧ PC (Mg (Ins b11 (Ins b9 (Ins b8 (Ins b7 (Ins b6 (Ins b5 M)))))) w.2) w.1 (n1 + n4 + 3) (jC q r) xs70 xa70 xd70 xt70 xb70 xe70) (fun _ _ _ ⟨xs70, xa70, xd70, xt70, xb70, xe70, e, h0⟩ r => ⟨xs70, xa70, xd70, xt70, xb70, xe70, e, h0.mono (r.le)⟩) (fun xq hR hst hPr => ?_) ?_
  ·obtain ⟨wq, gq⟩ := xq
   refine gO rfl ?_
   refine gO rfl ?_
   refine yS ?_; dsimp only
   have Lq : Le Fz (Ins b11 (Ins b9 (Ins b8 (Ins b7 (Ins b6 (Ins b5 M)))))) wq4 (Mg (Ins b11 (Ins b9 (Ins b8 (Ins b7 (Ins b6 (Ins b5 M)))))) gq) wq := hR.le0
   obtain ⟨hM, h1, h4⟩ := up3 Lq hM h1 h4
   refine zH rfl fG rfl rfl ?_
   refine (cZ h1 h4 (by omega) (by omega) hM).mono ?_
   rintro v70 w20 ⟨hB70, xs70, xa70, xd70, xt70, xb70, xe70, rfl, hn70⟩
   exact zA ⟨rfl, gq, jQ rfl rfl hB70, _, rfl, ⟨_, _, _, _, _, _, rfl, hn70⟩⟩
  apply jL rfl
  ·intro xq hR hst hPr
   obtain ⟨wq, gq⟩ := xq
   refine gN rfl rfl ?_
   refine yS ?_; dsimp only
   have Lq : Le Fz (Ins b11 (Ins b9 (Ins b8 (Ins b7 (Ins b6 (Ins b5 M)))))) wq4 (Mg (Ins b11 (Ins b9 (Ins b8 (Ins b7 (Ins b6 (Ins b5 M)))))) gq) wq := hR.le0
   replace B7 := B7.rg hR
   exact zL rfl yQ yY rfl B7 rfl rfl (zA ⟨rfl, gq, jQ rfl rfl (Below.refl _ _), _, rfl, rfl⟩)
  apply jL rfl
  ·intro xq hR hst hPr
   obtain ⟨wq, gq⟩ := xq
   refine gN rfl rfl ?_
   refine yS ?_; dsimp only
   have Lq : Le Fz (Ins b11 (Ins b9 (Ins b8 (Ins b7 (Ins b6 (Ins b5 M)))))) wq4 (Mg (Ins b11 (Ins b9 (Ins b8 (Ins b7 (Ins b6 (Ins b5 M)))))) gq) wq := hR.le0
   replace B9 := B9.rg hR
   exact zL rfl yQ yY rfl B9 rfl rfl (zA ⟨rfl, gq, jQ rfl rfl (Below.refl _ _), _, rfl, rfl⟩)
  refine jB rfl (fun v w => ∃ xs73 xa73 xd73 xt73 xb73 xe73, v = .agg #[.bool xs73, xa73, xd73, .bool xt73, xb73, xe73] ∧ PC (Mg (Ins b11 (Ins b9 (Ins b8 (Ins b7 (Ins b6 (Ins b5 M)))))) w.2) w.1 (n2 + n4 + 3) (jC u r) xs73 xa73 xd73 xt73 xb73 xe73) (fun _ _ _ ⟨xs73, xa73, xd73, xt73, xb73, xe73, e, h0⟩ r => ⟨xs73, xa73, xd73, xt73, xb73, xe73, e, h0.mono (r.le)⟩) (fun xq hR hst hPr => ?_) ?_
  ·obtain ⟨wq, gq⟩ := xq
   refine gO rfl ?_
   refine gO rfl ?_
   refine yS ?_; dsimp only
   have Lq : Le Fz (Ins b11 (Ins b9 (Ins b8 (Ins b7 (Ins b6 (Ins b5 M)))))) wq4 (Mg (Ins b11 (Ins b9 (Ins b8 (Ins b7 (Ins b6 (Ins b5 M)))))) gq) wq := hR.le0
   obtain ⟨hM, h2, h4⟩ := up3 Lq hM h2 h4
   refine zH rfl fG rfl rfl ?_
   refine (cZ h2 h4 (by omega) (by omega) hM).mono ?_
   rintro v73 w21 ⟨hB73, xs73, xa73, xd73, xt73, xb73, xe73, rfl, hn73⟩
   exact zA ⟨rfl, gq, jQ rfl rfl hB73, _, rfl, ⟨_, _, _, _, _, _, rfl, hn73⟩⟩
  apply jL rfl
  ·intro xq hR hst hPr
   obtain ⟨wq, gq⟩ := xq
   refine gN rfl rfl ?_
   refine yS ?_; dsimp only
   have Lq : Le Fz (Ins b11 (Ins b9 (Ins b8 (Ins b7 (Ins b6 (Ins b5 M)))))) wq4 (Mg (Ins b11 (Ins b9 (Ins b8 (Ins b7 (Ins b6 (Ins b5 M)))))) gq) wq := hR.le0
   replace B8 := B8.rg hR
   exact zL rfl yQ yY rfl B8 rfl rfl (zA ⟨rfl, gq, jQ rfl rfl (Below.refl _ _), _, rfl, rfl⟩)
  apply jL rfl
  ·intro xq hR hst hPr
   obtain ⟨wq, gq⟩ := xq
   refine gN rfl rfl ?_
   refine yS ?_; dsimp only
   have Lq : Le Fz (Ins b11 (Ins b9 (Ins b8 (Ins b7 (Ins b6 (Ins b5 M)))))) wq4 (Mg (Ins b11 (Ins b9 (Ins b8 (Ins b7 (Ins b6 (Ins b5 M)))))) gq) wq := hR.le0
   replace B9 := B9.rg hR
   exact zL rfl yQ yY rfl B9 rfl rfl (zA ⟨rfl, gq, jQ rfl rfl (Below.refl _ _), _, rfl, rfl⟩)
  refine jB rfl (fun v w => ∃ xs76 xa76 xd76 xt76 xb76 xe76, v = .agg #[.bool xs76, xa76, xd76, .bool xt76, xb76, xe76] ∧ PC (Mg (Ins b11 (Ins b9 (Ins b8 (Ins b7 (Ins b6 (Ins b5 M)))))) w.2) w.1 (n3 + n4 + 3) (jC z r) xs76 xa76 xd76 xt76 xb76 xe76) (fun _ _ _ ⟨xs76, xa76, xd76, xt76, xb76, xe76, e, h0⟩ r => ⟨xs76, xa76, xd76, xt76, xb76, xe76, e, h0.mono (r.le)⟩) (fun xq hR hst hPr => ?_) ?_
  ·obtain ⟨wq, gq⟩ := xq
   refine gO rfl ?_
   refine gO rfl ?_
   refine yS ?_; dsimp only
   have Lq : Le Fz (Ins b11 (Ins b9 (Ins b8 (Ins b7 (Ins b6 (Ins b5 M)))))) wq4 (Mg (Ins b11 (Ins b9 (Ins b8 (Ins b7 (Ins b6 (Ins b5 M)))))) gq) wq := hR.le0
   obtain ⟨hM, h3, h4⟩ := up3 Lq hM h3 h4
   refine zH rfl fG rfl rfl ?_
   refine (cZ h3 h4 (by omega) (by omega) hM).mono ?_
   rintro v76 w22 ⟨hB76, xs76, xa76, xd76, xt76, xb76, xe76, rfl, hn76⟩
   exact zA ⟨rfl, gq, jQ rfl rfl hB76, _, rfl, ⟨_, _, _, _, _, _, rfl, hn76⟩⟩
  refine jB rfl (fun v w => ∃ xs77 xa77 xd77 xt77 xb77 xe77 xs77b xa77b xd77b xt77b xb77b xe77b, v = .agg #[.int .i8 (xI (jC p r) (jC q r) (jC u r) (jC z r)).1, .bool xs77, xa77, xd77, .bool xt77, xb77, xe77, .bool xs77b, xa77b, xd77b, .bool xt77b, xb77b, xe77b] ∧ PC (Mg (Ins b11 (Ins b9 (Ins b8 (Ins b7 (Ins b6 (Ins b5 M)))))) w.2) w.1 (16 * ((n0 + n4 + 3) + (n1 + n4 + 3) + (n2 + n4 + 3) + (n3 + n4 + 3)) + 80) ((xI (jC p r) (jC q r) (jC u r) (jC z r)).2.1) xs77 xa77 xd77 xt77 xb77 xe77 ∧ PC (Mg (Ins b11 (Ins b9 (Ins b8 (Ins b7 (Ins b6 (Ins b5 M)))))) w.2) w.1 (16 * ((n0 + n4 + 3) + (n1 + n4 + 3) + (n2 + n4 + 3) + (n3 + n4 + 3)) + 80) ((xI (jC p r) (jC q r) (jC u r) (jC z r)).2.2) xs77b xa77b xd77b xt77b xb77b xe77b) (fun _ _ _ ⟨xs77, xa77, xd77, xt77, xb77, xe77, xs77b, xa77b, xd77b, xt77b, xb77b, xe77b, e, h0, h1⟩ r => ⟨xs77, xa77, xd77, xt77, xb77, xe77, xs77b, xa77b, xd77b, xt77b, xb77b, xe77b, e, h0.mono (r.le), h1.mono (r.le)⟩) (fun xq hR hst hPr => ?_) ?_
  ·obtain ⟨wq, gq⟩ := xq
   refine gE rfl (fun v67 hp67 => ?_)
   obtain ⟨xs67, xa67, xd67, xt67, xb67, xe67, rfl, hn67⟩ := hp67
   refine gE rfl (fun v70 hp70 => ?_)
   obtain ⟨xs70, xa70, xd70, xt70, xb70, xe70, rfl, hn70⟩ := hp70
   refine gE rfl (fun v73 hp73 => ?_)
   obtain ⟨xs73, xa73, xd73, xt73, xb73, xe73, rfl, hn73⟩ := hp73
   refine gE rfl (fun v76 hp76 => ?_)
   obtain ⟨xs76, xa76, xd76, xt76, xb76, xe76, rfl, hn76⟩ := hp76
   refine yS ?_; dsimp only
   have Lq : Le Fz (Ins b11 (Ins b9 (Ins b8 (Ins b7 (Ins b6 (Ins b5 M)))))) wq4 (Mg (Ins b11 (Ins b9 (Ins b8 (Ins b7 (Ins b6 (Ins b5 M)))))) gq) wq := hR.le0
   obtain ⟨hM, hT⟩ := up2 Lq hM hT
   refine zH rfl dS rfl rfl ?_
   refine (aS hT hn67.gen hn70.gen hn73.gen hn76.gen (by omega) (by omega) (by omega) (by omega) hM).mono ?_
   rintro v77 w23 ⟨hB77, xs77, xa77, xd77, xt77, xb77, xe77, xs77b, xa77b, xd77b, xt77b, xb77b, xe77b, rfl, hn77, hnb77⟩
   obtain ⟨oxa77, oxd77, oxb77, oxe77, _⟩ := hn77.one
   exact zA ⟨rfl, gq, jQ rfl rfl hB77, _, rfl, ⟨_, _, _, _, _, _, _, _, _, _, _, _, rfl, hn77, hnb77⟩⟩
  refine jB rfl (Pb 13) pb_mono (fun xq hR hst hPr => ?_) ?_
  ·obtain ⟨wq, gq⟩ := xq; refine yS ?_; dsimp only
   exact yM rfl qU (fun w24 b12 N12 => (zA ⟨rfl, _, eT rfl hPr N12, _, rfl, pb_new⟩))
  refine drsS_eff rfl (fun xq hR hpre => ?_) ?_
  ·obtain ⟨wq, gq⟩ := xq
   refine gE rfl (fun v12 hp12 => ?_)
   obtain ⟨b12, rfl, hg12⟩ := hp12; dsimp only at hg12
   refine gE rfl (fun v77 hp77 => ?_)
   obtain ⟨xs77, xa77, xd77, xt77, xb77, xe77, xs77b, xa77b, xd77b, xt77b, xb77b, xe77b, rfl, hn77, hnb77⟩ := hp77; obtain ⟨oxa77, oxd77, oxb77, oxe77, _⟩ := hn77.one; obtain ⟨oxa77b, oxd77b, oxb77b, oxe77b, _⟩ := hnb77.one
   refine yS ?_; dsimp only
   have ge12 := hR.ge hg12
   have nF12 : ¬ Fz b12 := fun c => Nat.not_lt.2 ge12 (hF _ c)
   have nM12 : ¬ (Ins b11 (Ins b9 (Ins b8 (Ins b7 (Ins b6 (Ins b5 M)))))) b12 := fun c => Nat.not_lt.2 ge12 (hM _ c)
   have ne5_12 : b5 ≠ b12 := by have := B5.lt; omega
   have ne6_12 : b6 ≠ b12 := by have := B6.lt; omega
   have ne7_12 : b7 ≠ b12 := by have := B7.lt; omega
   have ne8_12 : b8 ≠ b12 := by have := B8.lt; omega
   have ne9_12 : b9 ≠ b12 := by have := B9.lt; omega
   have ne11_12 : b11 ≠ b12 := by have := B11.lt; omega
   have Lq : Le Fz (Ins b11 (Ins b9 (Ins b8 (Ins b7 (Ins b6 (Ins b5 M)))))) wq4 (Ins b12 (Mg (Ins b11 (Ins b9 (Ins b8 (Ins b7 (Ins b6 (Ins b5 M)))))) gq)) wq := hR.le0.trans (Le.less (Mg.ins hg12))
   have B12 := hpre b12 hg12; rw [aC] at B12
   replace hn77 := hn77.less (Mg.ins hg12)
   replace hnb77 := hnb77.less (Mg.ins hg12)
   refine zZ rfl rfl qU B12 rfl rfl (zU rfl (zU rfl (zU (by first | rfl | assumption) (zU (by first | rfl | assumption) (zU rfl (zU (by first | rfl | assumption) (zU (by first | rfl | assumption) (zU rfl (zU (by first | rfl | assumption) (zU (by first | rfl | assumption) (zU rfl (zU (by first | rfl | assumption) (zU (by first | rfl | assumption) jK))))))))))))) rfl (fun w25 Cw25 B12 => ?_)
   have Lw25 := Le.of_chg (M := (Ins b12 (Mg (Ins b11 (Ins b9 (Ins b8 (Ins b7 (Ins b6 (Ins b5 M)))))) gq))) Cw25 zS nF12
   obtain ⟨hn77, hnb77⟩ := up2 Lw25 hn77 hnb77
   exact zA ⟨rfl, gq, rh_chg rfl hg12 Cw25, b12, hg12, _, _, _, _, _, _, _, _, _, _, _, _, B12, (hn77).mono (Fz := fun _ => False) (Le.less (fun k c => .inr c)), (hnb77).mono (Fz := fun _ => False) (Le.less (fun k c => .inr c))⟩
  refine drsS_nil (fun xq hR hpost => ?_)
  obtain ⟨wq6, gq⟩ := xq
  refine gN rfl rfl ?_
  refine gN rfl rfl ?_
  refine gN rfl rfl ?_
  refine gE rfl (fun v12 hp12 => ?_)
  obtain ⟨b12, rfl, hg12⟩ := hp12; dsimp only at hg12
  refine yS ?_; dsimp only
  simp only [List.drop_succ_cons, List.drop_zero, List.drop_nil, List.toList_toArray]
  obtain ⟨bx, hgx, hQ⟩ := hpost _ _ _ rfl; dsimp only at hgx; obtain rfl : b12 = bx := by rw [hg12] at hgx; exact Option.some.inj hgx
  obtain ⟨xs12, xa12, xd12, xt12, xb12, xe12, xs12b, xa12b, xd12b, xt12b, xb12b, xe12b, B12, hn12, hnb12⟩ := hQ; dsimp only at B12
  have ge12 := hR.ge hg12
  have nF12 : ¬ Fz b12 := fun c => Nat.not_lt.2 ge12 (hF _ c)
  have nM12 : ¬ (Ins b11 (Ins b9 (Ins b8 (Ins b7 (Ins b6 (Ins b5 M)))))) b12 := fun c => Nat.not_lt.2 ge12 (hM _ c)
  have ne5_12 : b5 ≠ b12 := by have := B5.lt; omega
  have ne6_12 : b6 ≠ b12 := by have := B6.lt; omega
  have ne7_12 : b7 ≠ b12 := by have := B7.lt; omega
  have ne8_12 : b8 ≠ b12 := by have := B8.lt; omega
  have ne9_12 : b9 ≠ b12 := by have := B9.lt; omega
  have ne11_12 : b11 ≠ b12 := by have := B11.lt; omega
  have hsub : ∀ k, (Ins b12 (Ins b11 (Ins b9 (Ins b8 (Ins b7 (Ins b6 (Ins b5 M))))))) k → Mg (Ins b11 (Ins b9 (Ins b8 (Ins b7 (Ins b6 (Ins b5 M)))))) gq k := (dM (.inl ⟨_, hg12⟩) Mg.base)
  have Lq : Le Fz (Ins b11 (Ins b9 (Ins b8 (Ins b7 (Ins b6 (Ins b5 M)))))) wq4 (Ins b12 (Ins b11 (Ins b9 (Ins b8 (Ins b7 (Ins b6 (Ins b5 M))))))) wq6 := hR.le0.trans (Le.less hsub)
  obtain ⟨LL, hM, hT, h0, h4, hn25, hnb25⟩ := up7 Lq LL hM hT h0 h4 hn25 hnb25
  replace B9 := B9.rg hR
  replace B11 := B11.rg hR
  replace hn12 : _ := hn12.less hsub
  replace hnb12 : _ := hnb12.less hsub
  obtain ⟨oxa12, oxd12, oxb12, oxe12, _⟩ := hn12.one; obtain ⟨oxa12b, oxd12b, oxb12b, oxe12b, _⟩ := hnb12.one
  refine zA (zG (zG (zC (zK 0 rfl yu43 rfl rfl fU rfl rfl (zR rfl dI rfl B12 rfl (zK 0 rfl yu43 rfl rfl fU rfl rfl (zR rfl dI rfl B11 rfl (bC rfl rfl rfl (ops_bf (d := 82) rfl (by rw [segs_add, movM_fst]; simp) (zA (uI rfl (yL (zG (zG ?_))))))))))))))
  refine zC (zK 0 rfl yu43 rfl rfl fU rfl rfl (zR rfl dI rfl B11 rfl (gZ rfl rfl rfl (zA ?_))))
  refine yD rfl (fun hc1 => ?_) (fun hc1 => ?_)
  ·refine zG ?_
   refine xN (R := Rb) (R' := Rb) (st := none) jM 8 [9, 10, 11, 12, 90, 92, 93] (by decide +kernel) xK xW (xU _) (fun _ _ _ h => by cases h) ?_
   refine zM (fun _ _ _ => zP rfl rfl (zD (zK 1 rfl yu43 rfl rfl yY rfl rfl (on0 rfl)))) ?_
   refine zM (fun _ hR _ => zJ rfl (zD (zL rfl yQ yY rfl (B11.below hR) rfl rfl (on0 rfl)))) ?_
   refine zV (vPC (Ins b12 (Ins b11 (Ins b9 (Ins b8 (Ins b7 (Ins b6 (Ins b5 M))))))) (2) ((((0 : Nat) : Rat), ((0 : Nat) : Rat)))) kV (fun wq hR hst => ?_) ?_
   ·refine zD ?_
    replace hM := ub1 hR hM
    refine zH rfl uB rfl rfl ?_
    refine (jZ (k := 0) (l := 0)  (by omega) (by omega) hM).mono ?_
    rintro v88 w26 ⟨hB88, xs88, xa88, xd88, xt88, xb88, xe88, rfl, hn88⟩
    exact zA ⟨rfl, hB88, _, rfl, ⟨_, _, _, _, _, _, rfl, hn88⟩⟩
   refine zV (Ex (.bool (decide (((xI p q u z).2.1) = ((((0 : Nat) : Rat), ((0 : Nat) : Rat))))))) gA (fun wq hR hst => ?_) ?_
   ·refine zJ rfl (yG rfl (fun v88 hp88 => ?_))
    obtain ⟨xs88, xa88, xd88, xt88, xb88, xe88, rfl, hn88⟩ := hp88
    refine zD ?_
    obtain ⟨hM, hn25⟩ := ub2 hR hM hn25
    refine zH rfl fF rfl rfl ?_
    refine (aW hn25 hn88 (by omega) (by omega) hM).mono ?_
    rintro v89 w27 ⟨hB89, rfl⟩
    exact zA ⟨rfl, hB89, _, rfl, rfl⟩
   refine zV (Ex (.bool true)) gA (fun wq hR hst => ?_) ?_
   ·refine zJ rfl (zD ?_)
    exact zB rfl rfl (zA ⟨rfl, yP _, _, rfl, congrArg Value.bool (decide_eq_true (segs_none (by assumption)).1)⟩)
   refine zM (fun _ _ _ => zP rfl rfl (zJ rfl (zD (zN rfl rfl (zK 7 rfl yu43 rfl rfl yY rfl rfl (on0 rfl)))))) ?_
   refine zM (fun _ hR _ => zJ rfl (zJ rfl (zD (zN rfl rfl (zL rfl yQ yY rfl (B11.below hR) rfl rfl (on0 rfl)))))) ?_
   refine zV (vPC (Ins b12 (Ins b11 (Ins b9 (Ins b8 (Ins b7 (Ins b6 (Ins b5 M))))))) (2) ((((0 : Nat) : Rat), ((0 : Nat) : Rat)))) kV (fun wq hR hst => ?_) ?_
   ·refine zJ rfl (zD ?_)
    replace hM := ub1 hR hM
    refine zN rfl rfl (zH rfl uB rfl rfl ?_)
    refine (jZ (k := 0) (l := 0)  (by omega) (by omega) hM).mono ?_
    rintro v93 w28 ⟨hB93, xs93, xa93, xd93, xt93, xb93, xe93, rfl, hn93⟩
    exact zA ⟨rfl, hB93, _, rfl, ⟨_, _, _, _, _, _, rfl, hn93⟩⟩
   refine xO (fun wq10 hR10 hpost10 => ?_)
   refine zP rfl rfl (zP rfl rfl (zP rfl rfl (zP rfl rfl (zJ rfl (zJ rfl (yG rfl (fun v93 hp93 => ?_)))))))
   obtain ⟨xs93, xa93, xd93, xt93, xb93, xe93, rfl, hn93⟩ := hp93; obtain ⟨oxa93, oxd93, oxb93, oxe93, _⟩ := hn93.one
   refine zD ?_
   simp only [List.drop_succ_cons, List.drop_zero, List.drop_nil, List.toList_toArray]
   obtain ⟨LL, hM, hT, hnb25⟩ := ub4 hR10 LL hM hT hnb25
   refine zN rfl rfl (zH rfl fF rfl rfl ?_)
   refine (aW hnb25 hn93 (by omega) (by omega) hM).mono ?_
   rintro v94 w29 ⟨hB94, rfl⟩
   obtain ⟨LL, hM, hT⟩ := ub3 hB94 LL hM hT
   refine ops_bt (d := 94) rfl (decide_eq_true (segs_none (by assumption)).2) (xB rfl rfl rfl (zB rfl rfl (zN rfl rfl (zH rfl bod25 rfl rfl ?_))))
   refine (wakes_c hT   hM).mono ?_
   rintro v97 w30 ⟨hB97, rfl⟩
   replace LL := ub1 hB97 LL
   refine xB rfl rfl rfl (zE rfl rfl (zA (zX ?_)))
   refine zO ⟨[_], ⟨rfl, trivial⟩, ?_⟩
   dsimp only [zW]
   subst hFz
   exact ⟨LL.below (Nat.le_refl _), rfl⟩
  ·refine yL (zG ?_)
   refine xN (R := Rb) (R' := Rb) (st := none) jM 14 [10, 106, 108, 112] (by decide +kernel) xK xW (xU _) (fun _ _ _ h => by cases h) ?_
   refine zM (fun _ _ _ => zP rfl rfl (zD (zK 1 rfl yu43 rfl rfl yY rfl rfl (on0 rfl)))) ?_
   refine zM (fun _ hR _ => zJ rfl (zD (zL rfl yQ yY rfl (B12.below hR) rfl rfl (on0 rfl)))) ?_
   refine zM (fun _ _ _ => zP rfl rfl (zD (zK 1 rfl yu43 rfl rfl yY rfl rfl (on0 rfl)))) ?_
   refine zM (fun _ hR _ => zJ rfl (zD (zL rfl yQ yY rfl (B11.below hR) rfl rfl (on0 rfl)))) ?_
   refine zM (fun _ hR _ => zP rfl rfl (zD (zL rfl yQ yY rfl (B9.below hR) rfl rfl (on0 rfl)))) ?_
   refine zV (vPC (Ins b12 (Ins b11 (Ins b9 (Ins b8 (Ins b7 (Ins b6 (Ins b5 M))))))) ((16 * (n0 + n1 + n2 + n3) + 80) + n4 + 3) (jC ((xI p q u z).2.1) r)) kV (fun wq hR hst => ?_) ?_
   ·refine zJ rfl (zJ rfl (zD ?_))
    obtain ⟨hM, h4, hn25⟩ := ub3 hR hM h4 hn25
    refine zH rfl fG rfl rfl ?_
    refine (cZ hn25.gen h4 (by omega) (by omega) hM).mono ?_
    rintro v104 w31 ⟨hB104, xs104, xa104, xd104, xt104, xb104, xe104, rfl, hn104⟩
    exact zA ⟨rfl, hB104, _, rfl, ⟨_, _, _, _, _, _, rfl, hn104⟩⟩
   refine zV (Ex (.bool (decide (((xI (jC p r) (jC q r) (jC u r) (jC z r)).2.1) = (jC ((xI p q u z).2.1) r))))) gA (fun wq hR hst => ?_) ?_
   ·refine zJ rfl (yG rfl (fun v104 hp104 => ?_))
    obtain ⟨xs104, xa104, xd104, xt104, xb104, xe104, rfl, hn104⟩ := hp104
    refine zD ?_
    obtain ⟨hM, hn12⟩ := ub2 hR hM hn12
    refine zH rfl fF rfl rfl ?_
    refine (aW hn12 hn104 (by omega) (by omega) hM).mono ?_
    rintro v105 w32 ⟨hB105, rfl⟩
    exact zA ⟨rfl, hB105, _, rfl, rfl⟩
   refine zV (Ex (.bool true)) gA (fun wq hR hst => ?_) ?_
   ·refine zJ rfl (zD ?_)
    exact zB rfl rfl (zA ⟨rfl, yP _, _, rfl, congrArg Value.bool (decide_eq_true (segs_moved (by assumption)).1)⟩)
   refine zM (fun _ _ _ => zP rfl rfl (zJ rfl (zD (zN rfl rfl (zK 7 rfl yu43 rfl rfl yY rfl rfl (on0 rfl)))))) ?_
   refine zM (fun _ hR _ => zJ rfl (zJ rfl (zD (zN rfl rfl (zL rfl yQ yY rfl (B12.below hR) rfl rfl (on0 rfl)))))) ?_
   refine zM (fun _ _ _ => zP rfl rfl (zJ rfl (zD (zN rfl rfl (zK 7 rfl yu43 rfl rfl yY rfl rfl (on0 rfl)))))) ?_
   refine zM (fun _ hR _ => zJ rfl (zJ rfl (zD (zN rfl rfl (zL rfl yQ yY rfl (B11.below hR) rfl rfl (on0 rfl)))))) ?_
   refine zM (fun _ hR _ => zP rfl rfl (zJ rfl (zD (zN rfl rfl (zL rfl yQ yY rfl (B9.below hR) rfl rfl (on0 rfl)))))) ?_
   refine zV (vPC (Ins b12 (Ins b11 (Ins b9 (Ins b8 (Ins b7 (Ins b6 (Ins b5 M))))))) ((16 * (n0 + n1 + n2 + n3) + 80) + n4 + 3) (jC ((xI p q u z).2.2) r)) kV (fun wq hR hst => ?_) ?_
   ·refine zJ rfl (zJ rfl (zJ rfl (zD ?_)))
    obtain ⟨hM, h4, hnb25⟩ := ub3 hR hM h4 hnb25
    refine zN rfl rfl (zH rfl fG rfl rfl ?_)
    refine (cZ hnb25.gen h4 (by omega) (by omega) hM).mono ?_
    rintro v112 w33 ⟨hB112, xs112, xa112, xd112, xt112, xb112, xe112, rfl, hn112⟩
    exact zA ⟨rfl, hB112, _, rfl, ⟨_, _, _, _, _, _, rfl, hn112⟩⟩
   refine xO (fun wq11 hR11 hpost11 => ?_)
   refine zP rfl rfl (zJ rfl (zJ rfl (yG rfl (fun v112 hp112 => ?_))))
   obtain ⟨xs112, xa112, xd112, xt112, xb112, xe112, rfl, hn112⟩ := hp112; obtain ⟨oxa112, oxd112, oxb112, oxe112, _⟩ := hn112.one
   refine zD ?_
   simp only [List.drop_succ_cons, List.drop_zero, List.drop_nil, List.toList_toArray]
   obtain ⟨LL, hM, hT, hnb12⟩ := ub4 hR11 LL hM hT hnb12
   refine zN rfl rfl (zH rfl fF rfl rfl ?_)
   refine (aW hnb12 hn112 (by omega) (by omega) hM).mono ?_
   rintro v113 w34 ⟨hB113, rfl⟩
   obtain ⟨LL, hM, hT⟩ := ub3 hB113 LL hM hT
   refine ops_bt (d := 113) rfl (decide_eq_true (segs_moved (by assumption)).2) (xB rfl rfl rfl (zB rfl rfl (zN rfl rfl (zH rfl bod25 rfl rfl ?_))))
   refine (wakes_c hT   hM).mono ?_
   rintro v116 w35 ⟨hB116, rfl⟩
   replace LL := ub1 hB116 LL
   refine xB rfl rfl rfl (zE rfl rfl (zA (zX ?_)))
   refine zO ⟨[_], ⟨rfl, trivial⟩, ?_⟩
   dsimp only [zW]
   subst hFz
   exact ⟨LL.below (Nat.le_refl _), rfl⟩
end Go.Proofs.YtfkejnlohkgbgaaGreatDoor
