/- Lemmas and walks of functions; no statement. -/
import Derived.Test.YtfkejnlohkgbgaaGreatDoorPe
set_option linter.unusedVariables false
set_option linter.unusedSimpArgs false
set_option maxRecDepth 100000
namespace Go.Proofs.YtfkejnlohkgbgaaGreatDoor
open Go.SL Go.RowKit Go.Proofs Tryz
variable {M : Nat → Prop} {w : World}
theorem wakes_c (hT : Tab M w) (hM : OkM M w) :
    CallsV prog 25 [] w fun r w' => Bel w.heap.size w w' ∧ r = .bool true := by
 refine ci M func25 ntmps25 fun Fz hFz hF LL => ?_
 refine zH (zB (zF rfl rfl (zD (zH (zB (zI rfl (bo func31) rfl rfl ?_))))))
 refine (gK (k := 0) (l := 0)  (by omega) (by omega) hM).mono ?_
 rintro v4 w1 ⟨hB4, xs4, xa4, xd4, xt4, xb4, xe4, rfl, hn4⟩
 obtain ⟨LL, hM, hF, hT⟩ := ub4 hB4 LL hM hF hT
 obtain ⟨oxa4, oxd4, oxb4, oxe4, _⟩ := hn4.one
 refine zI rfl (bo func31) rfl rfl ?_
 refine (gK (k := 2) (l := 2)  (by omega) (by omega) hM).mono ?_
 rintro v5 w2 ⟨hB5, xs5, xa5, xd5, xt5, xb5, xe5, rfl, hn5⟩
 obtain ⟨LL, hM, hF, hT, hn4⟩ := ub5 hB5 LL hM hF hT hn4
 obtain ⟨oxa5, oxd5, oxb5, oxe5, _⟩ := hn5.one
 refine zI rfl (bo func31) rfl rfl ?_
 refine (gK (k := 0) (l := 2)  (by omega) (by omega) hM).mono ?_
 rintro v6 w3 ⟨hB6, xs6, xa6, xd6, xt6, xb6, xe6, rfl, hn6⟩
 obtain ⟨LL, hM, hF, hT, hn4, hn5⟩ := ub6 hB6 LL hM hF hT hn4 hn5
 obtain ⟨oxa6, oxd6, oxb6, oxe6, _⟩ := hn6.one
 refine zI rfl (bo func31) rfl rfl ?_
 refine (gK (k := 2) (l := 0)  (by omega) (by omega) hM).mono ?_
 rintro v7 w4 ⟨hB7, xs7, xa7, xd7, xt7, xb7, xe7, rfl, hn7⟩
 obtain ⟨LL, hM, hF, hT, hn4, hn5, hn6⟩ := ub7 hB7 LL hM hF hT hn4 hn5 hn6
 obtain ⟨oxa7, oxd7, oxb7, oxe7, _⟩ := hn7.one
 refine zI rfl (bo func26) rfl rfl ?_
 refine (msegs_c hT hn4.gen hn5.gen hn6.gen hn7.gen (by omega) (by omega) (by omega) (by omega) hM).mono ?_
 rintro v8 w5 ⟨hB8, xs8, xa8, xd8, xt8, xb8, xe8, xs8b, xa8b, xd8b, xt8b, xb8b, xe8b, rfl, hn8, hnb8⟩
 obtain ⟨LL, hM, hF, hT⟩ := ub4 hB8 LL hM hF hT
 obtain ⟨oxa8, oxd8, oxb8, oxe8, _⟩ := hn8.one; obtain ⟨oxa8b, oxd8b, oxb8b, oxe8b, _⟩ := hnb8.one
 refine yI rfl uX (fun w6 b1 N1 => ?_)
 obtain ⟨_, nF1, nM1, Lw6, B1⟩ := nza hF hM N1
 obtain ⟨LL, hM, hF, hT, hn8, hnb8⟩ := up6 Lw6 LL hM hF hT hn8 hnb8
 refine zV rfl rfl uX B1 rfl rfl (zU (zU (zU (zU (zU (zU (zU (zU (zU (zU (zU (zU (zU xY))))))))))))) rfl (fun w7 Cw7 B1 => ?_)
 obtain ⟨LL, hM, hF, hT, hn8, hnb8⟩ := up6 (lc LL Cw7 zQ nF1) LL hM hF hT hn8 hnb8
 refine zD (zH (zB (zI rfl (bo func31) rfl rfl ?_)))
 refine (gK (k := 0) (l := 0)  (by omega) (by omega) hM).mono ?_
 rintro v9 w8 ⟨hB9, xs9, xa9, xd9, xt9, xb9, xe9, rfl, hn9⟩
 obtain ⟨LL, hM, hF, hT, hn8, hnb8, B1⟩ := ub7 hB9 LL hM hF hT hn8 hnb8 B1
 obtain ⟨oxa9, oxd9, oxb9, oxe9, _⟩ := hn9.one
 refine zI rfl (bo func31) rfl rfl ?_
 refine (gK (k := 3) (l := 0)  (by omega) (by omega) hM).mono ?_
 rintro v10 w9 ⟨hB10, xs10, xa10, xd10, xt10, xb10, xe10, rfl, hn10⟩
 obtain ⟨LL, hM, hF, hT, hn8, hnb8, hn9, B1⟩ := ub8 hB10 LL hM hF hT hn8 hnb8 hn9 B1
 obtain ⟨oxa10, oxd10, oxb10, oxe10, _⟩ := hn10.one
 refine zI rfl (bo func31) rfl rfl ?_
 refine (gK (k := 1) (l := 0)  (by omega) (by omega) hM).mono ?_
 rintro v11 w10 ⟨hB11, xs11, xa11, xd11, xt11, xb11, xe11, rfl, hn11⟩
 obtain ⟨LL, hM, hF, hT, hn8, hnb8, hn9, hn10, B1⟩ := ub9 hB11 LL hM hF hT hn8 hnb8 hn9 hn10 B1
 obtain ⟨oxa11, oxd11, oxb11, oxe11, _⟩ := hn11.one
 refine zI rfl (bo func31) rfl rfl ?_
 refine (gK (k := 5) (l := 0)  (by omega) (by omega) hM).mono ?_
 rintro v12 w11 ⟨hB12, xs12, xa12, xd12, xt12, xb12, xe12, rfl, hn12⟩
 obtain ⟨LL, hM, hF, hT, hn8, hnb8, hn9, hn10, hn11, B1⟩ := eV hB12 LL hM hF hT hn8 hnb8 hn9 hn10 hn11 B1
 obtain ⟨oxa12, oxd12, oxb12, oxe12, _⟩ := hn12.one
 refine zI rfl (bo func26) rfl rfl ?_
 refine (msegs_c hT hn9.gen hn10.gen hn11.gen hn12.gen (by omega) (by omega) (by omega) (by omega) hM).mono ?_
 rintro v13 w12 ⟨hB13, xs13, xa13, xd13, xt13, xb13, xe13, xs13b, xa13b, xd13b, xt13b, xb13b, xe13b, rfl, hn13, hnb13⟩
 obtain ⟨LL, hM, hF, hT, hn8, hnb8, B1⟩ := ub7 hB13 LL hM hF hT hn8 hnb8 B1
 obtain ⟨oxa13, oxd13, oxb13, oxe13, _⟩ := hn13.one; obtain ⟨oxa13b, oxd13b, oxb13b, oxe13b, _⟩ := hnb13.one
 refine yI rfl uX (fun w13 b2 N2 => ?_)
 obtain ⟨hBw13, nF2, nM2, Lw13, B2⟩ := nza hF hM N2
 obtain ⟨B1, ne1_2⟩ := bn B1 N2
 obtain ⟨LL, hM, hF, hT, hn8, hnb8, hn13, hnb13⟩ := up8 Lw13 LL hM hF hT hn8 hnb8 hn13 hnb13
 refine zV rfl rfl uX B2 rfl rfl (zU (zU (zU (zU (zU (zU (zU (zU (zU (zU (zU (zU (zU xY))))))))))))) rfl (fun w14 Cw14 B2 => ?_)
 obtain ⟨LL, hM, hF, hT, hn8, hnb8, hn13, hnb13⟩ := up8 (lc LL Cw14 zQ nF2) LL hM hF hT hn8 hnb8 hn13 hnb13
 replace B1 := B1.other Cw14 ne1_2
 refine zD (zH (zB (zI rfl (bo func31) rfl rfl ?_)))
 refine (gK (k := 0) (l := 0)  (by omega) (by omega) hM).mono ?_
 rintro v14 w15 ⟨hB14, xs14, xa14, xd14, xt14, xb14, xe14, rfl, hn14⟩
 obtain ⟨LL, hM, hF, hT, hn8, hnb8, hn13, hnb13, B1, B2⟩ := eV hB14 LL hM hF hT hn8 hnb8 hn13 hnb13 B1 B2
 obtain ⟨oxa14, oxd14, oxb14, oxe14, _⟩ := hn14.one
 refine zI rfl (bo func31) rfl rfl ?_
 refine (gK (k := 1) (l := 0)  (by omega) (by omega) hM).mono ?_
 rintro v15 w16 ⟨hB15, xs15, xa15, xd15, xt15, xb15, xe15, rfl, hn15⟩
 obtain ⟨LL, hM, hF, hT, hn8, hnb8, hn13, hnb13, hn14, B1, B2⟩ := fS hB15 LL hM hF hT hn8 hnb8 hn13 hnb13 hn14 B1 B2
 obtain ⟨oxa15, oxd15, oxb15, oxe15, _⟩ := hn15.one
 refine zI rfl (bo func31) rfl rfl ?_
 refine (gK (k := 2) (l := 0)  (by omega) (by omega) hM).mono ?_
 rintro v16 w17 ⟨hB16, xs16, xa16, xd16, xt16, xb16, xe16, rfl, hn16⟩
 obtain ⟨LL, hM, hF, hT, hn8, hnb8, hn13, hnb13, hn14, hn15, B1, B2⟩ := fV hB16 LL hM hF hT hn8 hnb8 hn13 hnb13 hn14 hn15 B1 B2
 obtain ⟨oxa16, oxd16, oxb16, oxe16, _⟩ := hn16.one
 refine zI rfl (bo func31) rfl rfl ?_
 refine (gK (k := 3) (l := 0)  (by omega) (by omega) hM).mono ?_
 rintro v17 w18 ⟨hB17, xs17, xa17, xd17, xt17, xb17, xe17, rfl, hn17⟩
 obtain ⟨LL, hM, hF, hT, hn8, hnb8, hn13, hnb13, hn14, hn15, hn16, B1, B2⟩ := fY hB17 LL hM hF hT hn8 hnb8 hn13 hnb13 hn14 hn15 hn16 B1 B2
 obtain ⟨oxa17, oxd17, oxb17, oxe17, _⟩ := hn17.one
 refine zI rfl (bo func26) rfl rfl ?_
 refine (msegs_c hT hn14.gen hn15.gen hn16.gen hn17.gen (by omega) (by omega) (by omega) (by omega) hM).mono ?_
 rintro v18 w19 ⟨hB18, xs18, xa18, xd18, xt18, xb18, xe18, xs18b, xa18b, xd18b, xt18b, xb18b, xe18b, rfl, hn18, hnb18⟩
 obtain ⟨LL, hM, hF, hT, hn8, hnb8, hn13, hnb13, B1, B2⟩ := eV hB18 LL hM hF hT hn8 hnb8 hn13 hnb13 B1 B2
 obtain ⟨oxa18, oxd18, oxb18, oxe18, _⟩ := hn18.one; obtain ⟨oxa18b, oxd18b, oxb18b, oxe18b, _⟩ := hnb18.one
 refine yI rfl uX (fun w20 b3 N3 => ?_)
 obtain ⟨hBw20, nF3, nM3, Lw20, B3⟩ := nza hF hM N3
 obtain ⟨B1, ne1_3⟩ := bn B1 N3
 obtain ⟨B2, ne2_3⟩ := bn B2 N3
 obtain ⟨LL, hM, hT, hn8, hnb8, hn13, hnb13, hn18, hnb18⟩ := up9 Lw20 LL hM hT hn8 hnb8 hn13 hnb13 hn18 hnb18
 refine zV rfl rfl uX B3 rfl rfl (zU (zU (zU (zU (zU (zU (zU (zU (zU (zU (zU (zU (zU xY))))))))))))) rfl (fun w21 Cw21 B3 => ?_)
 obtain ⟨LL, hM, hT, hn8, hnb8, hn13, hnb13, hn18, hnb18⟩ := up9 (lc LL Cw21 zQ nF3) LL hM hT hn8 hnb8 hn13 hnb13 hn18 hnb18
 replace B1 := B1.other Cw21 ne1_3
 replace B2 := B2.other Cw21 ne2_3
 refine zD (zH ?_)
 refine wd mixed 17 [0, 31, 32, 35] (qV (by decide +kernel)) ?_
 refine zN (fun _ hR _ => zP rfl rfl (zC (zM rfl aZ uX rfl (B1.below hR) rfl rfl (on0 rfl)))) ?_
 refine zS (vPC (Ins b3 (Ins b2 (Ins b1 M))) (2) ((((1 : Nat) : Rat), ((1 : Nat) : Rat)))) qZ (fun wq hR hst => ?_) ?_
 ·refine zC ?_
  replace hM := ub1 hR hM
  refine zI rfl (bo func31) rfl rfl ?_
  refine (gK (k := 1) (l := 1)  (by omega) (by omega) hM).mono ?_
  rintro v20 w22 ⟨hB20, xs20, xa20, xd20, xt20, xb20, xe20, rfl, hn20⟩
  exact on1 hB20 rfl ⟨_, _, _, _, _, _, rfl, hn20⟩
 refine zS (vPC (Ins b3 (Ins b2 (Ins b1 M))) (2) ((((1 : Nat) : Rat), ((1 : Nat) : Rat)))) qZ (fun wq hR hst => ?_) ?_
 ·refine zC ?_
  replace hM := ub1 hR hM
  refine zI rfl (bo func31) rfl rfl ?_
  refine (gK (k := 1) (l := 1)  (by omega) (by omega) hM).mono ?_
  rintro v21 w23 ⟨hB21, xs21, xa21, xd21, xt21, xb21, xe21, rfl, hn21⟩
  exact on1 hB21 rfl ⟨_, _, _, _, _, _, rfl, hn21⟩
 refine dv (fun v w => ∃ xs22 xa22 xd22 xt22 xb22 xe22 xs22b xa22b xd22b xt22b xb22b xe22b, v = .agg #[.int .i8 1, .bool xs22, xa22, xd22, .bool xt22, xb22, xe22, .bool xs22b, xa22b, xd22b, .bool xt22b, xb22b, xe22b] ∧ PC (Ins b3 (Ins b2 (Ins b1 M))) w (2) ((((1 : Nat) : Rat), ((1 : Nat) : Rat))) xs22 xa22 xd22 xt22 xb22 xe22 ∧ PC (Ins b3 (Ins b2 (Ins b1 M))) w (2) ((((1 : Nat) : Rat), ((1 : Nat) : Rat))) xs22b xa22b xd22b xt22b xb22b xe22b) (fun wq hR hst => ?_) ?_
 ·refine yD rfl (fun v20 hp20 => ?_)
  obtain ⟨xs20, xa20, xd20, xt20, xb20, xe20, rfl, hn20⟩ := hp20
  refine yD rfl (fun v21 hp21 => ?_)
  obtain ⟨xs21, xa21, xd21, xt21, xb21, xe21, rfl, hn21⟩ := hp21
  refine zC ?_
  exact xM rfl fB rfl rfl (zX (gS rfl) (zX (rfl) (zX (rfl) xD))) rfl (zD ⟨rfl, zY _, _, rfl, ⟨_, _, _, _, _, _, _, _, _, _, _, _, rfl, hn20, hn21⟩⟩)
 refine zS (Ex (.bool (decide ((((cD ((((0 : Nat) : Rat), ((0 : Nat) : Rat))) ((((2 : Nat) : Rat), ((2 : Nat) : Rat))) ((((0 : Nat) : Rat), ((2 : Nat) : Rat))) ((((2 : Nat) : Rat), ((0 : Nat) : Rat)))).1), ((cD ((((0 : Nat) : Rat), ((0 : Nat) : Rat))) ((((2 : Nat) : Rat), ((2 : Nat) : Rat))) ((((0 : Nat) : Rat), ((2 : Nat) : Rat))) ((((2 : Nat) : Rat), ((0 : Nat) : Rat)))).2.1), ((cD ((((0 : Nat) : Rat), ((0 : Nat) : Rat))) ((((2 : Nat) : Rat), ((2 : Nat) : Rat))) ((((0 : Nat) : Rat), ((2 : Nat) : Rat))) ((((2 : Nat) : Rat), ((0 : Nat) : Rat)))).2.2)) = (1, ((((1 : Nat) : Rat), ((1 : Nat) : Rat))), ((((1 : Nat) : Rat), ((1 : Nat) : Rat)))))))) xU (fun wq hR hst => ?_) ?_
 ·refine zK rfl (yD rfl (fun v22 hp22 => ?_))
  obtain ⟨xs22, xa22, xd22, xt22, xb22, xe22, xs22b, xa22b, xd22b, xt22b, xb22b, xe22b, rfl, hn22, hnb22⟩ := hp22; obtain ⟨oxa22, oxd22, oxb22, oxe22, _⟩ := hn22.one
  refine zC ?_
  obtain ⟨hM, hn8, hnb8⟩ := ub3 hR hM hn8 hnb8
  refine zI rfl (bo func27) rfl rfl ?_
  refine (r10alike_c hn8 hnb8 hn22 hnb22 (by omega) (by omega) (by omega) (by omega) hM).mono ?_
  rintro v23 w24 ⟨hB23, rfl⟩
  exact on1 hB23 rfl rfl
 refine zS (Ex (.bool true)) xU (fun wq hR hst => ?_) ?_
 ·refine zK rfl (zC ?_)
  exact zA rfl rfl (zD ⟨rfl, zY _, _, rfl, congrArg Value.bool (by decide +kernel)⟩)
 refine zN (fun _ hR _ => zP rfl rfl (zK rfl (zC (zO rfl rfl (zM rfl aZ uX rfl (B2.below hR) rfl rfl (on0 rfl)))))) ?_
 refine zS (vPC (Ins b3 (Ins b2 (Ins b1 M))) (2) ((((1 : Nat) : Rat), ((0 : Nat) : Rat)))) qZ (fun wq hR hst => ?_) ?_
 ·refine zK rfl (zC ?_)
  replace hM := ub1 hR hM
  refine zO rfl rfl (zI rfl (bo func31) rfl rfl ?_)
  refine (gK (k := 1) (l := 0)  (by omega) (by omega) hM).mono ?_
  rintro v26 w25 ⟨hB26, xs26, xa26, xd26, xt26, xb26, xe26, rfl, hn26⟩
  exact on1 hB26 rfl ⟨_, _, _, _, _, _, rfl, hn26⟩
 refine zS (vPC (Ins b3 (Ins b2 (Ins b1 M))) (2) ((((3 : Nat) : Rat), ((0 : Nat) : Rat)))) qZ (fun wq hR hst => ?_) ?_
 ·refine zK rfl (zC ?_)
  replace hM := ub1 hR hM
  refine zO rfl rfl (zI rfl (bo func31) rfl rfl ?_)
  refine (gK (k := 3) (l := 0)  (by omega) (by omega) hM).mono ?_
  rintro v27 w26 ⟨hB27, xs27, xa27, xd27, xt27, xb27, xe27, rfl, hn27⟩
  exact on1 hB27 rfl ⟨_, _, _, _, _, _, rfl, hn27⟩
 refine dv (fun v w => ∃ xs28 xa28 xd28 xt28 xb28 xe28 xs28b xa28b xd28b xt28b xb28b xe28b, v = .agg #[.int .i8 2, .bool xs28, xa28, xd28, .bool xt28, xb28, xe28, .bool xs28b, xa28b, xd28b, .bool xt28b, xb28b, xe28b] ∧ PC (Ins b3 (Ins b2 (Ins b1 M))) w (2) ((((1 : Nat) : Rat), ((0 : Nat) : Rat))) xs28 xa28 xd28 xt28 xb28 xe28 ∧ PC (Ins b3 (Ins b2 (Ins b1 M))) w (2) ((((3 : Nat) : Rat), ((0 : Nat) : Rat))) xs28b xa28b xd28b xt28b xb28b xe28b) (fun wq hR hst => ?_) ?_
 ·refine yD rfl (fun v26 hp26 => ?_)
  obtain ⟨xs26, xa26, xd26, xt26, xb26, xe26, rfl, hn26⟩ := hp26
  refine yD rfl (fun v27 hp27 => ?_)
  obtain ⟨xs27, xa27, xd27, xt27, xb27, xe27, rfl, hn27⟩ := hp27
  refine zK rfl (zC ?_)
  exact zO rfl rfl (xM rfl fB rfl rfl (zX (gS rfl) (zX (rfl) (zX (rfl) xD))) rfl (zD ⟨rfl, zY _, _, rfl, ⟨_, _, _, _, _, _, _, _, _, _, _, _, rfl, hn26, hn27⟩⟩))
 refine zS (Ex (.bool (decide ((((cD ((((0 : Nat) : Rat), ((0 : Nat) : Rat))) ((((3 : Nat) : Rat), ((0 : Nat) : Rat))) ((((1 : Nat) : Rat), ((0 : Nat) : Rat))) ((((5 : Nat) : Rat), ((0 : Nat) : Rat)))).1), ((cD ((((0 : Nat) : Rat), ((0 : Nat) : Rat))) ((((3 : Nat) : Rat), ((0 : Nat) : Rat))) ((((1 : Nat) : Rat), ((0 : Nat) : Rat))) ((((5 : Nat) : Rat), ((0 : Nat) : Rat)))).2.1), ((cD ((((0 : Nat) : Rat), ((0 : Nat) : Rat))) ((((3 : Nat) : Rat), ((0 : Nat) : Rat))) ((((1 : Nat) : Rat), ((0 : Nat) : Rat))) ((((5 : Nat) : Rat), ((0 : Nat) : Rat)))).2.2)) = (2, ((((1 : Nat) : Rat), ((0 : Nat) : Rat))), ((((3 : Nat) : Rat), ((0 : Nat) : Rat)))))))) xU (fun wq hR hst => ?_) ?_
 ·refine zK rfl (yD rfl (fun v28 hp28 => ?_))
  obtain ⟨xs28, xa28, xd28, xt28, xb28, xe28, xs28b, xa28b, xd28b, xt28b, xb28b, xe28b, rfl, hn28, hnb28⟩ := hp28; obtain ⟨oxa28, oxd28, oxb28, oxe28, _⟩ := hn28.one
  refine zK rfl (zC ?_)
  obtain ⟨hM, hn13, hnb13⟩ := ub3 hR hM hn13 hnb13
  refine zO rfl rfl (zI rfl (bo func27) rfl rfl ?_)
  refine (r10alike_c hn13 hnb13 hn28 hnb28 (by omega) (by omega) (by omega) (by omega) hM).mono ?_
  rintro v29 w27 ⟨hB29, rfl⟩
  exact on1 hB29 rfl rfl
 refine zS (Ex (.bool (decide ((((cD ((((0 : Nat) : Rat), ((0 : Nat) : Rat))) ((((3 : Nat) : Rat), ((0 : Nat) : Rat))) ((((1 : Nat) : Rat), ((0 : Nat) : Rat))) ((((5 : Nat) : Rat), ((0 : Nat) : Rat)))).1), ((cD ((((0 : Nat) : Rat), ((0 : Nat) : Rat))) ((((3 : Nat) : Rat), ((0 : Nat) : Rat))) ((((1 : Nat) : Rat), ((0 : Nat) : Rat))) ((((5 : Nat) : Rat), ((0 : Nat) : Rat)))).2.1), ((cD ((((0 : Nat) : Rat), ((0 : Nat) : Rat))) ((((3 : Nat) : Rat), ((0 : Nat) : Rat))) ((((1 : Nat) : Rat), ((0 : Nat) : Rat))) ((((5 : Nat) : Rat), ((0 : Nat) : Rat)))).2.2)) = (2, ((((1 : Nat) : Rat), ((0 : Nat) : Rat))), ((((3 : Nat) : Rat), ((0 : Nat) : Rat)))))))) xU (fun wq hR hst => ?_) ?_
 ·refine zK rfl (zK rfl (zC ?_))
  exact yW rfl rfl rfl (on0 rfl)
 refine zS (Ex (.bool true)) xU (fun wq hR hst => ?_) ?_
 ·refine zK rfl (zC ?_)
  exact zA rfl rfl (zD ⟨rfl, zY _, _, rfl, congrArg Value.bool (by decide +kernel)⟩)
 refine zN (fun _ hR _ => zP rfl rfl (zK rfl (zC (zO rfl rfl (zM rfl aZ uX rfl (B3.below hR) rfl rfl (on0 rfl)))))) ?_
 refine zS (vPC (Ins b3 (Ins b2 (Ins b1 M))) (2) ((((0 : Nat) : Rat), ((0 : Nat) : Rat)))) qZ (fun wq hR hst => ?_) ?_
 ·refine zK rfl (zC ?_)
  replace hM := ub1 hR hM
  refine zO rfl rfl (zI rfl (bo func31) rfl rfl ?_)
  refine (gK (k := 0) (l := 0)  (by omega) (by omega) hM).mono ?_
  rintro v33 w28 ⟨hB33, xs33, xa33, xd33, xt33, xb33, xe33, rfl, hn33⟩
  exact on1 hB33 rfl ⟨_, _, _, _, _, _, rfl, hn33⟩
 refine zS (vPC (Ins b3 (Ins b2 (Ins b1 M))) (2) ((((0 : Nat) : Rat), ((0 : Nat) : Rat)))) qZ (fun wq hR hst => ?_) ?_
 ·refine zK rfl (zC ?_)
  replace hM := ub1 hR hM
  refine zO rfl rfl (zI rfl (bo func31) rfl rfl ?_)
  refine (gK (k := 0) (l := 0)  (by omega) (by omega) hM).mono ?_
  rintro v34 w29 ⟨hB34, xs34, xa34, xd34, xt34, xb34, xe34, rfl, hn34⟩
  exact on1 hB34 rfl ⟨_, _, _, _, _, _, rfl, hn34⟩
 refine dv (fun v w => ∃ xs35 xa35 xd35 xt35 xb35 xe35 xs35b xa35b xd35b xt35b xb35b xe35b, v = .agg #[.int .i8 0, .bool xs35, xa35, xd35, .bool xt35, xb35, xe35, .bool xs35b, xa35b, xd35b, .bool xt35b, xb35b, xe35b] ∧ PC (Ins b3 (Ins b2 (Ins b1 M))) w (2) ((((0 : Nat) : Rat), ((0 : Nat) : Rat))) xs35 xa35 xd35 xt35 xb35 xe35 ∧ PC (Ins b3 (Ins b2 (Ins b1 M))) w (2) ((((0 : Nat) : Rat), ((0 : Nat) : Rat))) xs35b xa35b xd35b xt35b xb35b xe35b) (fun wq hR hst => ?_) ?_
 ·refine yD rfl (fun v33 hp33 => ?_)
  obtain ⟨xs33, xa33, xd33, xt33, xb33, xe33, rfl, hn33⟩ := hp33
  refine yD rfl (fun v34 hp34 => ?_)
  obtain ⟨xs34, xa34, xd34, xt34, xb34, xe34, rfl, hn34⟩ := hp34
  refine zK rfl (zC ?_)
  exact zO rfl rfl (kQ rfl fB uX rfl (zX (rfl) (zX (rfl) xD)) rfl rfl (zD ⟨rfl, zY _, _, rfl, ⟨_, _, _, _, _, _, _, _, _, _, _, _, rfl, hn33, hn34⟩⟩))
 refine xI (fun wq4 hR4 hpost4 => ?_)
 refine zP rfl rfl (zK rfl (zK rfl (yD rfl (fun v35 hp35 => ?_))))
 obtain ⟨xs35, xa35, xd35, xt35, xb35, xe35, xs35b, xa35b, xd35b, xt35b, xb35b, xe35b, rfl, hn35, hnb35⟩ := hp35; obtain ⟨oxa35, oxd35, oxb35, oxe35, _⟩ := hn35.one
 refine zC ?_
 simp only [jC, jB, jA, xZ]
 obtain ⟨LL, hM, hT, hn18, hnb18⟩ := ub5 hR4 LL hM hT hn18 hnb18
 refine zO rfl rfl (zI rfl (bo func27) rfl rfl ?_)
 refine (r10alike_c hn18 hnb18 hn35 hnb35 (by omega) (by omega) (by omega) (by omega) hM).mono ?_
 rintro v36 w30 ⟨hB36, rfl⟩
 obtain ⟨LL, hM, hT⟩ := ub3 hB36 LL hM hT
 refine yW rfl rfl rfl (zA rfl rfl (fD (d := 38) rfl (by decide +kernel) (zO rfl rfl (zI rfl (bo func31) rfl rfl ?_))))
 refine (gK (k := 0) (l := 0)  (by omega) (by omega) hM).mono ?_
 rintro v39 w31 ⟨hB39, xs39, xa39, xd39, xt39, xb39, xe39, rfl, hn39⟩
 obtain ⟨LL, hM, hT⟩ := ub3 hB39 LL hM hT
 refine zO rfl rfl (zI rfl (bo func31) rfl rfl ?_)
 refine (gK (k := 0) (l := 0)  (by omega) (by omega) hM).mono ?_
 rintro v40 w32 ⟨hB40, xs40, xa40, xd40, xt40, xb40, xe40, rfl, hn40⟩
 obtain ⟨LL, hM, hT, hn39⟩ := ub4 hB40 LL hM hT hn39
 refine zO rfl rfl (zI rfl (bo func31) rfl rfl ?_)
 refine (gK (k := 0) (l := 0)  (by omega) (by omega) hM).mono ?_
 rintro v41 w33 ⟨hB41, xs41, xa41, xd41, xt41, xb41, xe41, rfl, hn41⟩
 obtain ⟨LL, hM, hT, hn39, hn40⟩ := ub5 hB41 LL hM hT hn39 hn40
 refine zO rfl rfl (zI rfl (bo func31) rfl rfl ?_)
 refine (gK (k := 1) (l := 1)  (by omega) (by omega) hM).mono ?_
 rintro v42 w34 ⟨hB42, xs42, xa42, xd42, xt42, xb42, xe42, rfl, hn42⟩
 obtain ⟨LL, hM, hT, hn39, hn40, hn41⟩ := ub6 hB42 LL hM hT hn39 hn40 hn41
 refine zO rfl rfl (zI rfl (bo func28) rfl rfl ?_)
 refine (mmeets2_c hT hn39.gen hn40.gen hn41.gen hn42.gen (by omega) (by omega) (by omega) (by omega) hM).mono ?_
 rintro v43 w35 ⟨hB43, rfl⟩
 replace LL := ub1 hB43 LL
 refine fD (d := 43) rfl (by decide +kernel) (yW rfl rfl rfl (zF rfl rfl (zD (zW ?_))))
 refine lv1 ⟨rfl, trivial⟩ ?_
 subst hFz
 exact ⟨LL.b, rfl⟩
end Go.Proofs.YtfkejnlohkgbgaaGreatDoor
set_option maxRecDepth 100000
namespace Go.Proofs.YtfkejnlohkgbgaaGreatDoor
open Go.SL Go.RowKit Go.Proofs Tryz
variable {M : Nat → Prop} {w : World}
theorem same_take {l m : List P2} {s : Nat} (hl : s < l.length) (hm : s < m.length) (h : l.take s = m.take s) (e : l.getD s (0, 0) = m.getD s (0, 0)) : l.take (s + 1) = m.take (s + 1) := by
  rw [(qA (0, 0) hl).1, (qA (0, 0) hm).1, h, e]
theorem r8all_c {l : List P2} {n0 : Nat} {xa0 : Value} {m : List P2} {n1 : Nat} {xa1 : Value} (h0 : PLc M w n0 l xa0) (h1 : PLc M w n1 m xa1) (hl0 : n0 ≤ 20000) (hl1 : n1 ≤ 20000) (hM : OkM M w) :
    CallsV prog 44 [xa0, xa1] w fun r w' => Bel w.heap.size w w' ∧ r = .bool (decide (l = m)) := by
 have hln0 := h0.len
 have hln1 := h1.len
 refine ci M func44 ntmps44 fun Fz hFz hF LL => ?_
 refine zH (zB (zF rfl rfl (zD (zH (zH (zB (zA rfl rfl (gQ rfl yu63 rfl h0.row (zA rfl rfl (gQ rfl yu63 rfl h1.row (bO rfl rfl rfl (zD ?_))))))))))))
 refine yA rfl (fun hc0 => ?_) (fun hc0 => ?_)
 ·refine zH (zB (zF rfl rfl (zD (zW ?_))))
  refine lv1 ⟨rfl, trivial⟩ ?_
  rw [show decide (l = m) = false from decide_eq_false fun c => hc0 (by rw [c])]
  subst hFz
  exact ⟨LL.b, rfl⟩
 ·have hll : l.length = m.length := by omega
  refine yH (zH (zH (zB (zF rfl rfl (zD (yC ?_))))))
  refine xP (σ := Nat) [(0, _), (1, _)] (fun s => [(5, .int .i64 ((s : Nat) : Int))]) (fun s w1 => Le Fz M w M w1 ∧ s ≤ l.length ∧ l.take s = m.take s) (fun s => l.length - s) (0) (zG rfl (zG rfl (zG rfl yE))) ?_ (fun s w1 hJ => ?_)
  · exact ⟨Le.refl _ _ _, by omega, by simp⟩
  ·obtain ⟨LR, hk, hs⟩ := hJ
   obtain ⟨LL, hM, h0, h1⟩ := up4 LR LL hM h0 h1
   refine zH (zH (zB (zA rfl rfl (zA rfl rfl (gQ rfl yu63 rfl h0.row (jI rfl rfl rfl (zD ?_)))))))
   refine yA rfl (fun hc1 => ?_) (fun hc1 => ?_)
   ·refine yH (zH (yC (zH ?_)))
    refine wd mixed 8 [0, 1, 5, 20, 24] (by decide +kernel) ?_
    refine dv (fun v w => ∃ xa17, v = xa17 ∧ PLc M w (n0) (l) xa17) (fun wq hR hst => ?_) ?_
    ·refine zP rfl rfl (zC ?_)
     replace h0 := ub1 hR h0
     exact zA rfl rfl (zD ⟨rfl, zY _, _, rfl, ⟨_, rfl, h0⟩⟩)
    refine zN (fun _ _ _ => zP rfl rfl (zC (zA rfl rfl (on0 rfl)))) ?_
    refine dv (rPC M (n0) (l.getD s (0, 0))) (fun wq hR hst => ?_) ?_
    ·refine yD rfl (fun v17 hp17 => ?_)
     obtain ⟨xa17, rfl, hn17⟩ := hp17
     refine zK rfl (zC ?_)
     refine jL (dflt := ((0, 0) : P2)) (s) rfl yu63 yR rfl rfl hn17.row (by first | rfl | omega) (by first | omega | (simp; omega) | simp) (fun b19 o19 us19 hul19 hu19 hc19 => ?_)
     obtain ⟨xs19, xa19, xd19, xt19, xb19, xe19, rfl, hn19⟩ := hu19
     exact on1 (zY _) rfl ⟨b19, o19, _, _, _, _, _, _, rfl, hc19, hn19⟩
    refine zS (vPC M (n0) (l.getD s (0, 0))) qZ (fun wq hR hst => ?_) ?_
    ·refine yD rfl (fun v19 hp19 => ?_)
     obtain ⟨b19, o19, xs19, xa19, xd19, xt19, xb19, xe19, rfl, hc19, hn19⟩ := hp19
     refine zC ?_
     exact jF rfl yL yR rfl hc19 rfl (zD ⟨rfl, zY _, _, rfl, ⟨_, _, _, _, _, _, rfl, hn19⟩⟩)
    refine dv (fun v w => ∃ xa21, v = xa21 ∧ PLc M w (n1) (m) xa21) (fun wq hR hst => ?_) ?_
    ·refine zP rfl rfl (zC ?_)
     replace h1 := ub1 hR h1
     exact zA rfl rfl (zD ⟨rfl, zY _, _, rfl, ⟨_, rfl, h1⟩⟩)
    refine zN (fun _ _ _ => zP rfl rfl (zC (zA rfl rfl (on0 rfl)))) ?_
    refine dv (rPC M (n1) (m.getD s (0, 0))) (fun wq hR hst => ?_) ?_
    ·refine yD rfl (fun v21 hp21 => ?_)
     obtain ⟨xa21, rfl, hn21⟩ := hp21
     refine zK rfl (zC ?_)
     refine jL (dflt := ((0, 0) : P2)) (s) rfl yu63 yR rfl rfl hn21.row (by first | rfl | omega) (by first | omega | (simp; omega) | simp) (fun b23 o23 us23 hul23 hu23 hc23 => ?_)
     obtain ⟨xs23, xa23, xd23, xt23, xb23, xe23, rfl, hn23⟩ := hu23
     exact on1 (zY _) rfl ⟨b23, o23, _, _, _, _, _, _, rfl, hc23, hn23⟩
    refine zS (vPC M (n1) (m.getD s (0, 0))) qZ (fun wq hR hst => ?_) ?_
    ·refine yD rfl (fun v23 hp23 => ?_)
     obtain ⟨b23, o23, xs23, xa23, xd23, xt23, xb23, xe23, rfl, hc23, hn23⟩ := hp23
     refine zC ?_
     exact jF rfl yL yR rfl hc23 rfl (zD ⟨rfl, zY _, _, rfl, ⟨_, _, _, _, _, _, rfl, hn23⟩⟩)
    refine xI (fun wq6 hR6 hpost6 => ?_)
    refine zP rfl rfl (zP rfl rfl (zP rfl rfl (yD rfl (fun v20 hp20 => ?_))))
    obtain ⟨xs20, xa20, xd20, xt20, xb20, xe20, rfl, hn20⟩ := hp20
    refine yD rfl (fun v24 hp24 => ?_)
    obtain ⟨xs24, xa24, xd24, xt24, xb24, xe24, rfl, hn24⟩ := hp24
    refine zC ?_
    simp only [jC, jB, jA, xZ]
    obtain ⟨LL, LR, hM⟩ := ub3 hR6 LL LR hM
    refine zI rfl (bo func30) rfl rfl ?_
    refine (r8alike_c hn20 hn24 (by omega) (by omega) hM).mono ?_
    rintro v25 w2 ⟨hB25, rfl⟩
    obtain ⟨LL, LR⟩ := ub2 hB25 LL LR
    refine gX rfl rfl (zD ?_)
    refine qI rfl (fun hc2 => ?_) (fun hc2 => ?_)
    ·refine zH (zB (zF rfl rfl (zD (zW ?_))))
     refine lv1 ⟨rfl, trivial⟩ ?_
     rw [show decide (l = m) = false from decide_eq_false fun c => by simp [c] at hc2]
     subst hFz
     exact ⟨LL.b, rfl⟩
    ·refine yH (zB (zA rfl rfl (xC rfl rfl rfl (by omega) (zF rfl rfl (zD ?_)))))
     refine ⟨rfl, s + 1, (zZ rfl (by rw [Int.natCast_add]; rfl) (zG rfl (zG rfl yE))), ?_, ?_⟩
     exact ⟨LR, by omega, same_take (by omega) (by omega) hs (by simpa using hc2)⟩
     omega
   ·refine xN (xO (zH (zB (zF rfl rfl (zD (zW ?_))))))
    refine lv1 ⟨rfl, trivial⟩ ?_
    obtain rfl : s = l.length := by omega
    rw [List.take_length, hll, List.take_length] at hs
    rw [show decide (l = m) = true from decide_eq_true hs]
    subst hFz
    exact ⟨LL.b, rfl⟩
theorem border_c {l : List P2} {n0 : Nat} {xa0 : Value} {u : P2} {n1 : Nat} {xs1 xt1 : Bool} {xa1 xd1 xb1 xe1 : Value} (h0 : PL M w n0 l xa0) (h1 : PQ M w n1 u xs1 xa1 xd1 xt1 xb1 xe1) (hl0 : n0 ≤ 200) (hl1 : n1 ≤ 200) (hlen : l.length ≤ 1000) (hM : OkM M w) :
    CallsV prog 43 [xa0, .agg #[.bool xs1, xa1, xd1, .bool xt1, xb1, xe1]] w fun r w' => Bel w.heap.size w w' ∧ r = .bool (decide (dO l u)) := by
 refine ci M func43 ntmps43 fun Fz hFz hF LL => ?_
 refine zH (zB (yG rfl rfl (fun w1 b3 N3 => ?_)))
 obtain ⟨_, nF3, nM3, Lw1, B3⟩ := nza hF hM N3
 obtain ⟨LL, hM, h0, h1⟩ := up4 Lw1 LL hM h0 h1
 refine zF rfl rfl (zD (zH (zH (zB (zF rfl rfl (zD (yC ?_)))))))
 refine xP (σ := Nat) [(0, _), (3, _)] (fun s => [(5, .int .i64 ((s : Nat) : Int))]) (fun s w2 => Le Fz (Ins b3 M) w1 (Ins b3 M) w2 ∧ Blk w2 b3 39 [.bool xs1, xa1, xd1, .bool xt1, xb1, xe1] ∧ s ≤ l.length ∧ ∀ i, i < s → ¬ onP (l.getD i (0, 0)) (l.getD ((i + 1) % l.length) (0, 0)) u) (fun s => l.length - s) (0) (zG rfl (zG rfl (zG rfl yE))) ?_ (fun s w2 hJ => ?_)
 · exact ⟨Le.refl _ _ _, B3, by omega, fun i hi => by omega⟩
 ·clear B3; obtain ⟨LR, B3, hk, hs⟩ := hJ
  obtain ⟨LL, hM, h0, h1⟩ := up4 LR LL hM h0 h1
  refine zH (zH (zB (zA rfl rfl (zA rfl rfl (gQ rfl yu63 rfl h0.row (jI rfl rfl rfl (zD ?_)))))))
  refine yA rfl (fun hc0 => ?_) (fun hc0 => ?_)
  ·have hmod : (s + 1) % l.length < l.length := Nat.mod_lt _ (by omega)
   refine yH (zH (yC (zH ?_)))
   refine wd mixed 13 [0, 3, 5, 15, 23, 24] (by decide +kernel) ?_
   refine dv (fun v w => ∃ xa12, v = xa12 ∧ PL (Ins b3 M) w (n0) (l) xa12) (fun wq hR hst => ?_) ?_
   ·refine zP rfl rfl (zC ?_)
    replace h0 := ub1 hR h0
    exact zA rfl rfl (zD ⟨rfl, zY _, _, rfl, ⟨_, rfl, h0⟩⟩)
   refine zN (fun _ _ _ => zP rfl rfl (zC (zA rfl rfl (on0 rfl)))) ?_
   refine dv (rPQ (Ins b3 M) (n0) (l.getD s (0, 0))) (fun wq hR hst => ?_) ?_
   ·refine yD rfl (fun v12 hp12 => ?_)
    obtain ⟨xa12, rfl, hn12⟩ := hp12
    refine zK rfl (zC ?_)
    refine jL (dflt := ((0, 0) : P2)) (s) rfl yu63 yR rfl rfl hn12.row (by first | rfl | omega) (by first | omega | (simp; omega) | simp) (fun b14 o14 us14 hul14 hu14 hc14 => ?_)
    obtain ⟨xs14, xa14, xd14, xt14, xb14, xe14, rfl, hn14⟩ := hu14
    exact on1 (zY _) rfl ⟨b14, o14, _, _, _, _, _, _, rfl, hc14, hn14⟩
   refine zS (vPQ (Ins b3 M) (n0) (l.getD s (0, 0))) vPQ_m (fun wq hR hst => ?_) ?_
   ·refine yD rfl (fun v14 hp14 => ?_)
    obtain ⟨b14, o14, xs14, xa14, xd14, xt14, xb14, xe14, rfl, hc14, hn14⟩ := hp14
    refine zC ?_
    exact jF rfl yL yR rfl hc14 rfl (zD ⟨rfl, zY _, _, rfl, ⟨_, _, _, _, _, _, rfl, hn14⟩⟩)
   refine dv (fun v w => ∃ xa16, v = xa16 ∧ PL (Ins b3 M) w (n0) (l) xa16) (fun wq hR hst => ?_) ?_
   ·refine zP rfl rfl (zC ?_)
    replace h0 := ub1 hR h0
    exact zA rfl rfl (zD ⟨rfl, zY _, _, rfl, ⟨_, rfl, h0⟩⟩)
   refine zN (fun _ _ _ => zP rfl rfl (zC (zA rfl rfl (on0 rfl)))) ?_
   refine zS (Ex (.int .i64 (((s : Nat) : Int) + 1))) xU (fun wq hR hst => ?_) ?_
   ·refine zK rfl (zC ?_)
    exact xC rfl rfl rfl (by omega) (on0 rfl)
   refine dv (fun v w => ∃ xa19, v = xa19 ∧ PL (Ins b3 M) w (n0) (l) xa19) (fun wq hR hst => ?_) ?_
   ·refine zP rfl rfl (zC ?_)
    replace h0 := ub1 hR h0
    exact zA rfl rfl (zD ⟨rfl, zY _, _, rfl, ⟨_, rfl, h0⟩⟩)
   refine zS (Ex (.int .i64 ((l.length : Nat) : Int))) xU (fun wq hR hst => ?_) ?_
   ·refine yD rfl (fun v19 hp19 => ?_)
    obtain ⟨xa19, rfl, hn19⟩ := hp19
    refine zC ?_
    exact gQ rfl yu63 rfl hn19.row (on0 rfl)
   refine zS (Ex (.int .i64 (((s + 1) % l.length : Nat) : Int))) xU (fun wq hR hst => ?_) ?_
   ·refine zK rfl (zK rfl (zC ?_))
    exact kN rfl rfl rfl (by omega) (zD ⟨rfl, zY _, _, rfl, by show _ = _; simp⟩)
   refine dv (rPQ (Ins b3 M) (n0) (l.getD ((s + 1) % l.length) (0, 0))) (fun wq hR hst => ?_) ?_
   ·refine yD rfl (fun v16 hp16 => ?_)
    obtain ⟨xa16, rfl, hn16⟩ := hp16
    refine zK rfl (zC ?_)
    refine jL (dflt := ((0, 0) : P2)) ((s + 1) % l.length) rfl yu63 yR rfl rfl hn16.row (by first | rfl | omega) (by first | omega | (simp; omega) | simp) (fun b22 o22 us22 hul22 hu22 hc22 => ?_)
    obtain ⟨xs22, xa22, xd22, xt22, xb22, xe22, rfl, hn22⟩ := hu22
    exact on1 (zY _) rfl ⟨b22, o22, _, _, _, _, _, _, rfl, hc22, hn22⟩
   refine zS (vPQ (Ins b3 M) (n0) (l.getD ((s + 1) % l.length) (0, 0))) vPQ_m (fun wq hR hst => ?_) ?_
   ·refine yD rfl (fun v22 hp22 => ?_)
    obtain ⟨b22, o22, xs22, xa22, xd22, xt22, xb22, xe22, rfl, hc22, hn22⟩ := hp22
    refine zC ?_
    exact jF rfl yL yR rfl hc22 rfl (zD ⟨rfl, zY _, _, rfl, ⟨_, _, _, _, _, _, rfl, hn22⟩⟩)
   refine zN (fun _ hR _ => zP rfl rfl (zC (zM rfl yL yR rfl (B3.below hR) rfl rfl (on0 rfl)))) ?_
   refine xI (fun wq4 hR4 hpost4 => ?_)
   refine zP rfl rfl (zP rfl rfl (zP rfl rfl (yD rfl (fun v15 hp15 => ?_))))
   obtain ⟨xs15, xa15, xd15, xt15, xb15, xe15, rfl, hn15⟩ := hp15
   refine yD rfl (fun v23 hp23 => ?_)
   obtain ⟨xs23, xa23, xd23, xt23, xb23, xe23, rfl, hn23⟩ := hp23
   refine zK rfl (zC ?_)
   simp only [jC, jB, jA, xZ]
   obtain ⟨LL, LR, hM, h1, B3⟩ := ub5 hR4 LL LR hM h1 B3
   refine zI rfl (bo func35) rfl rfl ?_
   refine (l10on_c hn15 hn23 h1 (by omega) (by omega) (by omega) hM).mono ?_
   rintro v25 w3 ⟨hB25, rfl⟩
   obtain ⟨LL, LR, B3⟩ := ub3 hB25 LL LR B3
   refine zD ?_
   refine yA rfl (fun hc1 => ?_) (fun hc1 => ?_)
   ·refine zH (zB (zF rfl rfl (zD (zW ?_))))
    refine lv1 ⟨rfl, trivial⟩ ?_
    rw [show decide (dO l u) = true from decide_eq_true ⟨s, by omega, hc1⟩]
    subst hFz
    exact ⟨LL.b, rfl⟩
   ·refine yH (zB (zA rfl rfl (xC rfl rfl rfl (by omega) (zF rfl rfl (zD ?_)))))
    refine ⟨rfl, s + 1, (zZ rfl (by rw [Int.natCast_add]; rfl) (zG rfl (zG rfl yE))), ?_, ?_⟩
    exact ⟨LR, B3, by omega, fun i hi => by rcases Nat.lt_or_ge i s with c | c; exact hs i c; obtain rfl : i = s := (by omega); exact hc1⟩
    omega
  ·refine xN (xO (zH (zB (zF rfl rfl (zD (zW ?_))))))
   refine lv1 ⟨rfl, trivial⟩ ?_
   obtain rfl : s = l.length := by omega
   rw [show decide (dO l u) = false from decide_eq_false fun ⟨i, hi, c⟩ => hs i hi c]
   subst hFz
   exact ⟨LL.b, rfl⟩
end Go.Proofs.YtfkejnlohkgbgaaGreatDoor
set_option maxRecDepth 100000
namespace Go.Proofs.YtfkejnlohkgbgaaGreatDoor
open Go.SL Go.RowKit Go.Proofs Tryz
variable {M : Nat → Prop} {w : World}
def RSg (M : Nat → Prop) (w0 : World) (n : Nat) : P2 × P2 → List Value → World → Prop := fun s vs w => ∃ xs1 xa1 xd1 xt1 xb1 xe1 xs2 xa2 xd2 xt2 xb2 xe2, vs = [.agg #[.bool xs1, xa1, xd1, .bool xt1, xb1, xe1, .bool xs2, xa2, xd2, .bool xt2, xb2, xe2]] ∧ PQ M w0 n s.1 xs1 xa1 xd1 xt1 xb1 xe1 ∧ PQ M w0 n s.2 xs2 xa2 xd2 xt2 xb2 xe2
structure PQ2 (N : Nat → Prop) (W : World) (M : Nat → Prop) (w : World) (n : Nat) (q : P2) (s : Bool) (a d : Value) (t : Bool) (b e : Value) : Prop where
  now : PQ M w n q s a d t b e
  old : PQ N W n q s a d t b e
structure PL2 (N : Nat → Prop) (W : World) (M : Nat → Prop) (w : World) (n : Nat) (q : List P2) (v : Value) : Prop where
  row : RowOf (fun M w p us => ∃ s a d t b e, us = [.bool s, a, d, .bool t, b, e] ∧ PQ2 N W M w n p s a d t b e) 6 M w v q
section
variable {N Fz M M' : Nat → Prop} {W w w' : World} {n : Nat}
theorem PQ2.mono {q : P2} {s : Bool} {a d : Value} {t : Bool} {b e : Value} (h : PQ2 N W M w n q s a d t b e) (l : Le Fz M w M' w') : PQ2 N W M' w' n q s a d t b e := ⟨h.now.mono l, h.old⟩
theorem PQ2.one {q : P2} {s : Bool} {a d : Value} {t : Bool} {b e : Value} (h : PQ2 N W M w n q s a d t b e) : a.oneCell' = true ∧ d.oneCell' = true ∧ b.oneCell' = true ∧ e.oneCell' = true ∧ True := h.now.one
theorem PL2.mono {q : List P2} {v : Value} (h : PL2 N W M w n q v) (l : Le Fz M w M' w') : PL2 N W M' w' n q v := ⟨h.row.mono l fun _ _ ⟨a, b, c, d, e, f, e0, h0⟩ => ⟨a, b, c, d, e, f, e0, h0.mono l⟩⟩
theorem PL2.keep {q : List P2} {v : Value} (h : PL2 N W M w n q v) (k : Keep M w w') : PL2 N W M w' n q v := ⟨h.row.keep k fun _ _ ⟨a, b, c, d, e, f, e0, h0⟩ => ⟨a, b, c, d, e, f, e0, h0.now.keep k, h0.old⟩⟩
theorem PL2.of {q : List P2} {v : Value} (h : PL M w n q v) : PL2 M w M w n q v := ⟨let ⟨cs, h1, h2⟩ := h.row; ⟨cs, h1, fun i a ha => let ⟨us, h3, h4, x, y, z, x', y', z', e0, h5⟩ := h2 i a ha; ⟨us, h3, h4, x, y, z, x', y', z', e0, h5, h5⟩⟩⟩
instance {q : P2} {s t : Bool} {a d b e : Value} : Up Fz M M' w w' (PQ2 N W M w n q s a d t b e) (PQ2 N W M' w' n q s a d t b e) := ⟨fun l h => h.mono l⟩
instance {q : P2} {s t : Bool} {a d b e : Value} : UpB w w' (PQ2 N W M w n q s a d t b e) (PQ2 N W M w' n q s a d t b e) := ⟨fun l h => h.mono (lb l)⟩
instance {q : List P2} {v : Value} : Up Fz M M' w w' (PL2 N W M w n q v) (PL2 N W M' w' n q v) := ⟨fun l h => h.mono l⟩
instance {q : List P2} {v : Value} : UpB w w' (PL2 N W M w n q v) (PL2 N W M w' n q v) := ⟨fun l h => h.mono (lb l)⟩
theorem PL2.one {q : List P2} {v : Value} (h : PL2 N W M w n q v) : v.oneCell' = true ∧ True := by obtain ⟨_, ⟨_, _, ad, cap, rfl, _⟩, _⟩ := h.row; exact ⟨rfl, trivial⟩
end
theorem mfromq_c {p : P2} {n0 : Nat} {xs0 xt0 : Bool} {xa0 xd0 xb0 xe0 : Value} {q : P2} {n1 : Nat} {xs1 xt1 : Bool} {xa1 xd1 xb1 xe1 : Value} (hT : Tab M w) (h0 : PQ M w n0 p xs0 xa0 xd0 xt0 xb0 xe0) (h1 : PQ M w n1 q xs1 xa1 xd1 xt1 xb1 xe1) (hl0 : n0 ≤ 20000) (hl1 : n1 ≤ 20000) (Q : P2 → Bool → Value → Value → Bool → Value → Value → Prop) (q0 : Q p xs0 xa0 xd0 xt0 xb0 xe0) (q1 : Q q xs1 xa1 xd1 xt1 xb1 xe1) (hM : OkM M w) :
    CallsV prog 83 [.agg #[.bool xs0, xa0, xd0, .bool xt0, xb0, xe0], .agg #[.bool xs1, xa1, xd1, .bool xt1, xb1, xe1]] w fun r w' => Bel w.heap.size w w' ∧ ∃ xs1 xa1 xd1 xt1 xb1 xe1 xs2 xa2 xd2 xt2 xb2 xe2, r = .agg #[.bool xs1, xa1, xd1, .bool xt1, xb1, xe1, .bool xs2, xa2, xd2, .bool xt2, xb2, xe2] ∧ Q (aG p q).1 xs1 xa1 xd1 xt1 xb1 xe1 ∧ Q (aG p q).2 xs2 xa2 xd2 xt2 xb2 xe2 := by
 obtain ⟨oxa0, oxd0, oxb0, oxe0, _⟩ := h0.one
 obtain ⟨oxa1, oxd1, oxb1, oxe1, _⟩ := h1.one
 refine ci M func83 ntmps83 fun Fz hFz hF LL => ?_
 refine zH (zB (yG rfl rfl (fun w1 b2 N2 => ?_)))
 obtain ⟨_, nF2, nM2, Lw1, B2⟩ := nza hF hM N2
 obtain ⟨LL, hM, hF, hT, h0, h1⟩ := up6 Lw1 LL hM hF hT h0 h1
 refine yG rfl rfl (fun w2 b3 N3 => ?_)
 obtain ⟨hBw2, nF3, nM3, Lw2, B3⟩ := nza hF hM N3
 obtain ⟨B2, ne2_3⟩ := bn B2 N3
 obtain ⟨LL, hM, hF, hT, h0, h1⟩ := up6 Lw2 LL hM hF hT h0 h1
 refine yI rfl uH (fun w3 b4 N4 => ?_)
 obtain ⟨hBw3, nF4, nM4, Lw3, B4⟩ := nza hF hM N4
 obtain ⟨B2, ne2_4⟩ := bn B2 N4
 obtain ⟨B3, ne3_4⟩ := bn B3 N4
 obtain ⟨LL, hM, hT, h0, h1⟩ := up5 Lw3 LL hM hT h0 h1
 refine zD (zH (zH (zB (zM rfl yL yR rfl B2 rfl rfl (zM rfl yL yR rfl B3 rfl rfl (zI rfl (bo func101) rfl rfl ?_))))))
 refine (cL hT h0 h1 (by omega) (by omega) hM).mono ?_
 rintro v7 w4 ⟨hB7, rfl⟩
 obtain ⟨LL, B2, B3, B4⟩ := ub4 hB7 LL B2 B3 B4
 refine uD rfl rfl rfl (zD ?_)
 refine yA rfl (fun hc0 => ?_) (fun hc0 => ?_)
 ·have hfr : aG p q = (q, p) := if_pos hc0
  refine zB (zM rfl yL yR rfl B3 rfl rfl (zM rfl yL yR rfl B2 rfl rfl (zV rfl rfl yR B2 rfl rfl (zU (zU (zU (zU (zU (zU xY)))))) rfl (fun w5 Cw5 B2 => ?_))))
  have Lw5 := Le.of_chg (M := (Ins b4 (Ins b3 (Ins b2 M)))) Cw5 (.inr (.inr zQ)) nF2
  replace LL := LL.trans Lw5
  replace B3 := B3.other Cw5 ne2_3.symm
  replace B4 := B4.other Cw5 ne2_4.symm
  refine zV rfl rfl yR B3 rfl rfl (zU (zU (zU (zU (zU (zU xY)))))) rfl (fun w6 Cw6 B3 => ?_)
  have Lw6 := Le.of_chg (M := (Ins b4 (Ins b3 (Ins b2 M)))) Cw6 (.inr zQ) nF3
  replace LL := LL.trans Lw6
  replace B2 := B2.other Cw6 ne2_3
  replace B4 := B4.other Cw6 ne3_4.symm
  refine zD (zH (zB (zM rfl yL yR rfl B2 rfl rfl (zM rfl yL yR rfl B3 rfl rfl (xM rfl plc110 rfl rfl (zX (rfl) (zX (rfl) xD)) rfl (zV rfl rfl uH B4 rfl rfl (zU (zU (zU (zU (zU (zU (zU (zU (zU (zU (zU (zU xY)))))))))))) rfl (fun w7 Cw7 B4 => ?_)))))))
  have Lw7 := Le.of_chg (M := (Ins b4 (Ins b3 (Ins b2 M)))) Cw7 zQ nF4
  replace LL := LL.trans Lw7
  refine zD (zW ?_)
  refine lv1 ⟨⟨_, rfl, yQ uG uH B4 rfl rfl⟩, trivial⟩ ?_
  rw [hfr]
  subst hFz
  exact ⟨LL.b, _, _, _, _, _, _, _, _, _, _, _, _, rfl, q1, q0⟩
 ·have hfr : aG p q = (p, q) := if_neg hc0
  refine yH (zH (zB (zM rfl yL yR rfl B2 rfl rfl (zM rfl yL yR rfl B3 rfl rfl (xM rfl plc110 rfl rfl (zX (rfl) (zX (rfl) xD)) rfl (zV rfl rfl uH B4 rfl rfl (zU (zU (zU (zU (zU (zU (zU (zU (zU (zU (zU (zU xY)))))))))))) rfl (fun w8 Cw8 B4 => ?_)))))))
  have Lw8 := Le.of_chg (M := (Ins b4 (Ins b3 (Ins b2 M)))) Cw8 zQ nF4
  replace LL := LL.trans Lw8
  refine zD (zW ?_)
  refine lv1 ⟨⟨_, rfl, yQ uG uH B4 rfl rfl⟩, trivial⟩ ?_
  rw [hfr]
  subst hFz
  exact ⟨LL.b, _, _, _, _, _, _, _, _, _, _, _, _, rfl, q0, q1⟩
theorem edges1_c {M : Nat → Prop} {w0 : World} {b1 n0 : Nat} {v : Value} {p : List P2} (hT : Tab M w0) (B1 : Blk w0 b1 63 [v]) (n1 : ¬ M b1) (h1 : PL M w0 n0 p v) (hl1 : n0 ≤ 80) (hlen : p.length ≤ 1000) (hM : OkM M w0) :
    IterR prog 164 [.pointer (some ⟨b1, 0, none⟩)] M NoT w0 (gH p) (RSg M w0 n0) (fun _ => True) := by
 intro n l w J X hn0 hn hdr hJ hkeep hJd hXd hy
 replace h1 := PL2.of h1
 obtain ⟨M0, hM00⟩ : ∃ M0, M0 = M := ⟨_, rfl⟩
 have B1' := B1
 have h1' : PL2 M0 w0 M w0 n0 p v := hM00 ▸ h1
 have hM' := hM
 have hT' := hT
 clear h1
 have h1 := h1'
 replace B1 := (hkeep _ _ hJ).blk B1 n1
 replace h1 := h1.keep (hkeep _ _ hJ)
 replace hM := (hkeep _ _ hJ).okM hM
 replace hT := (hkeep _ _ hJ).tab hT
 obtain ⟨oh1, _⟩ := h1.one
 obtain ⟨Fz, hFz⟩ : ∃ Fz : Nat → Prop, Fz = fun _ => False := ⟨_, rfl⟩
 have hFa : ∀ w, FOk Fz w := by subst hFz; exact fun _ _ h => h.elim
 have hF := hFa w
 have LL := Le.refl Fz M w
 refine jP func164 rfl ntmps164 rfl ?_
 refine zH (zB (zT rfl dB rfl B1 rfl (gQ rfl yu63 rfl h1.row (zA rfl rfl (zD (yC ?_))))))
 refine xP (σ := Nat) [(0, _), (1, _), (5, _), (6, _)] (fun s => [(7, .int .i64 ((s : Nat) : Int))]) (fun s w1 => J ((gH p).take s) w1 ∧ n ≤ w1.heap.size ∧ s ≤ p.length) (fun s => p.length - s) (0) (zG rfl (zG rfl (zG rfl (zG rfl (zG rfl yE))))) ?_ (fun s w1 hJ => ?_)
 · exact ⟨hJ, hn, by omega⟩
 ·clear B1 h1 hM hT hF LL
  obtain ⟨hJ1, hn1, hs⟩ := hJ
  have hk := hkeep _ _ hJ1
  have B1 := hk.blk B1' n1
  have h1 := h1'.keep hk
  have hM := hk.okM hM'
  have hT := hk.tab hT'
  obtain ⟨Fz, hFz, hF, LL⟩ := fz0 M w1
  refine zH (zB (jI rfl rfl rfl (zD (zH ?_))))
  refine yA rfl (fun hc0 => ?_) (fun hc0 => ?_)
  ·have hmod : (s + 1) % p.length < p.length := Nat.mod_lt _ (by omega)
   refine yH (zH (yC (zH (zB (zA rfl rfl (jL (dflt := ((0, 0) : P2)) (s) rfl yu63 yR rfl rfl h1.row (by first | rfl | omega) (by first | omega | (simp; omega) | simp) (fun b10 o10 us10 hul10 hu10 hc10 => ?_)))))))
   obtain ⟨xs10, xa10, xd10, xt10, xb10, xe10, rfl, hn10⟩ := hu10
   obtain ⟨oxa10, oxd10, oxb10, oxe10, _⟩ := hn10.one
   refine jF rfl yL yR rfl hc10 rfl (yI rfl yR (fun w2 b4 N4 => ?_))
   obtain ⟨hBw2, nF4, nM4, Lw2, B4⟩ := nza hF hM N4
   obtain ⟨B1, ne1_4⟩ := bn B1 N4
   obtain ⟨LL, hM, hT, h1, hn10⟩ := up5 Lw2 LL hM hT h1 hn10
   refine zF rfl rfl (zV rfl rfl yR B4 rfl rfl (zU (zU (zU (zU (zU (zU xY)))))) rfl (fun w3 Cw3 B4 => ?_))
   obtain ⟨LL, hM, hT, h1, hn10⟩ := up5 (lc LL Cw3 zQ nF4) LL hM hT h1 hn10
   replace B1 := B1.other Cw3 ne1_4
   refine zD (zH ?_)
   refine wd mixed 11 [0, 1, 5, 6, 7, 12, 22] (by decide +kernel) ?_
   refine zN (fun _ _ _ => zP rfl rfl (zC (zA rfl rfl (on0 rfl)))) ?_
   refine zN (fun _ hR _ => zP rfl rfl (zC (zM rfl yL yR rfl (B4.below hR) rfl rfl (on0 rfl)))) ?_
   refine zN (fun _ hR _ => zP rfl rfl (zC (zT rfl dB rfl (B1.below hR) rfl (on0 rfl)))) ?_
   refine zN (fun _ _ _ => zP rfl rfl (zC (zA rfl rfl (on0 rfl)))) ?_
   refine zS (Ex (.int .i64 (((s : Nat) : Int) + 1))) xU (fun wq hR hst => ?_) ?_
   ·refine zK rfl (zC ?_)
    exact xC rfl rfl rfl (by omega) (on0 rfl)
   refine zN (fun _ hR _ => zP rfl rfl (zC (zT rfl dB rfl (B1.below hR) rfl (on0 rfl)))) ?_
   refine zS (Ex (.int .i64 ((p.length : Nat) : Int))) xU (fun wq hR hst => ?_) ?_
   ·refine zK rfl (zC ?_)
    replace h1 := ub1 hR h1
    exact gQ rfl yu63 rfl h1.row (on0 rfl)
   refine zS (Ex (.int .i64 (((s + 1) % p.length : Nat) : Int))) xU (fun wq hR hst => ?_) ?_
   ·refine zK rfl (zK rfl (zC ?_))
    exact kN rfl rfl rfl (by omega) (zD ⟨rfl, zY _, _, rfl, by show _ = _; simp⟩)
   refine dv (fun v w => ∃ b o xs20 xa20 xd20 xt20 xb20 xe20, v = .pointer (some ⟨b, o, none⟩) ∧ (∀ (q : Nat) (u : Value), [.bool xs20, xa20, xd20, .bool xt20, xb20, xe20][q]? = some u → w.cell? ⟨b, o + q, none⟩ = some u) ∧ PQ2 M0 w0 (Ins b4 M) w (n0) (p.getD ((s + 1) % p.length) (0, 0)) xs20 xa20 xd20 xt20 xb20 xe20) (fun wq hR hst => ?_) ?_
   ·refine zK rfl (zK rfl (zC ?_))
    replace h1 := ub1 hR h1
    refine jL (dflt := ((0, 0) : P2)) ((s + 1) % p.length) rfl yu63 yR rfl rfl h1.row (by first | rfl | omega) (by first | omega | (simp; omega) | simp) (fun b20 o20 us20 hul20 hu20 hc20 => ?_)
    obtain ⟨xs20, xa20, xd20, xt20, xb20, xe20, rfl, hn20⟩ := hu20
    exact on1 (zY _) rfl ⟨b20, o20, _, _, _, _, _, _, rfl, hc20, hn20⟩
   refine dv (fun v w => ∃ xs21 xa21 xd21 xt21 xb21 xe21, v = .agg #[.bool xs21, xa21, xd21, .bool xt21, xb21, xe21] ∧ PQ2 M0 w0 (Ins b4 M) w (n0) (p.getD ((s + 1) % p.length) (0, 0)) xs21 xa21 xd21 xt21 xb21 xe21) (fun wq hR hst => ?_) ?_
   ·refine yD rfl (fun v20 hp20 => ?_)
    obtain ⟨b20, o20, xs20, xa20, xd20, xt20, xb20, xe20, rfl, hc20, hn20⟩ := hp20
    refine zC ?_
    exact jF rfl yL yR rfl hc20 rfl (zD ⟨rfl, zY _, _, rfl, ⟨_, _, _, _, _, _, rfl, hn20⟩⟩)
   refine zS (fun v w => ∃ xs1 xa1 xd1 xt1 xb1 xe1 xs2 xa2 xd2 xt2 xb2 xe2, v = .agg #[.bool xs1, xa1, xd1, .bool xt1, xb1, xe1, .bool xs2, xa2, xd2, .bool xt2, xb2, xe2] ∧ PQ M0 w0 n0 (dC p s).1 xs1 xa1 xd1 xt1 xb1 xe1 ∧ PQ M0 w0 n0 (dC p s).2 xs2 xa2 xd2 xt2 xb2 xe2) (fun _ _ _ h _ => h) (fun wq hR hst => ?_) ?_
   ·refine zK rfl (yD rfl (fun v21 hp21 => ?_))
    obtain ⟨xs21, xa21, xd21, xt21, xb21, xe21, rfl, hn21⟩ := hp21
    refine zC ?_
    obtain ⟨hM, hT, hn10⟩ := ub3 hR hM hT hn10
    refine zI rfl (bo func83) rfl rfl ?_
    refine (mfromq_c hT hn10.now hn21.now (by omega) (by omega) (PQ M0 w0 n0) hn10.old hn21.old hM).mono ?_
    rintro v22 w4 ⟨hB22, xs22, xa22, xd22, xt22, xb22, xe22, xs22b, xa22b, xd22b, xt22b, xb22b, xe22b, rfl, hn22, hnb22⟩
    exact on1 hB22 rfl ⟨_, _, _, _, _, _, _, _, _, _, _, _, rfl, hn22, hnb22⟩
   refine xI (fun wq3 hR3 hpost3 => ?_)
   refine zP rfl rfl (zP rfl rfl (zP rfl rfl (zP rfl rfl (zP rfl rfl (zK rfl (yD rfl (fun v22 hp22 => ?_)))))))
   obtain ⟨xs22, xa22, xd22, xt22, xb22, xe22, xs22b, xa22b, xd22b, xt22b, xb22b, xe22b, rfl, hn22, hnb22⟩ := hp22
   refine zC ?_
   simp only [jC, jB, jA, xZ]
   replace LL := ub1 hR3 LL
   refine kW rfl rfl rfl ?_
   refine (hy _ (dC p s) _ _ _ (edges_split (show s < p.length by omega)).1 (hJd _ _ _ hJ1 (LL.drift_all hFz hn1)) ⟨_, _, _, _, _, _, _, _, _, _, _, _, rfl, hM00 ▸ hn22, hM00 ▸ hnb22⟩ (Nat.le_trans hn1 LL.size)).mono ?_
   rintro v23 w5 ⟨hn2, _, hyn⟩
   refine gX rfl rfl (zD ?_)
   refine qI rfl (fun hc1 => ?_) (fun hc1 => ?_)
   ·refine zW ?_
    refine xL ⟨[], trivial, ?_⟩
    dsimp only [xW]
    right
    rcases hyn with ⟨e, _⟩ | ⟨_, h⟩
    · subst e; simp at hc1
    · exact h
   ·refine yH (zB (xC rfl rfl rfl (by omega) (zA rfl rfl (zD ?_))))
    refine ⟨rfl, s + 1, (zZ rfl (by rw [Int.natCast_add]; rfl) (zG rfl (zG rfl (zG rfl (zG rfl yE))))), ?_, ?_⟩
    exact ⟨by
      rw [(edges_split (show s < p.length by omega)).2]
      rcases hyn with ⟨_, h⟩ | ⟨e, _⟩
      · exact h
      · subst e; simp at hc1, hn2, by omega⟩
    omega
  ·refine xN (xO ?_)
   refine xL ⟨[], trivial, ?_⟩
   dsimp only [xW]
   left
   obtain rfl : s = p.length := by omega
   rw [List.take_of_length_le (by rw [aO]; exact Nat.le_refl _)] at hJ1
   exact ⟨hJ1, trivial⟩
theorem edges_c {n0 : Nat} {v : Value} {p : List P2} (hT : Tab M w) (h1 : PL M w n0 p v) (hl1 : n0 ≤ 80) (hlen : p.length ≤ 1000) (hM : OkM M w) :
    CallsV prog 99 [v] w fun r w' => Bel w.heap.size w w' ∧ ∃ cap, r = .func (.func 164) #[] cap ∧ IterR prog 164 cap.toList M NoT w' (gH p) (RSg M w' n0) (fun _ => True) := by
 refine ci M func99 ntmps99 fun Fz hFz hF LL => ?_
 refine zH (zB (yG rfl rfl (fun w1 b1 N1 => ?_)))
 obtain ⟨_, nF1, nM1, Lw1, B1⟩ := nz hF hM N1
 obtain ⟨LL, hM, hT, h1⟩ := up4 Lw1 LL hM hT h1
 refine zF rfl rfl (zD (zH (zB (gC rfl rfl (zF rfl rfl (zD (zW ?_)))))))
 refine lv1 ⟨rfl, trivial⟩ ?_
 subst hFz
 rw [h1.cells] at B1
 refine ⟨LL.b, _, rfl, ?_⟩
 exact edges1_c (hT.less fun k c => zJ c) B1 (fun c => nM1 c) (h1.less fun k c => zJ c) hl1 hlen (fun k c => hM k (zJ c))
end Go.Proofs.YtfkejnlohkgbgaaGreatDoor
set_option maxRecDepth 100000
namespace Go.Proofs.YtfkejnlohkgbgaaGreatDoor
open Go.SL Go.RowKit Go.Proofs Tryz
variable {M : Nat → Prop} {w : World}
structure EPB (M : Nat → Prop) (w : World) (n : Nat) (cur : List Value) (l : List P2) : Prop where
  e : EB (RPc n) 6 M w cur l
theorem EPB.mono {Fz M M' : Nat → Prop} {w w' : World} {n : Nat} {cur : List Value} {l : List P2} (h : EPB M w n cur l) (k : Le Fz M w M' w') : EPB M' w' n cur l := ⟨EB.mono h.e fun _ _ ⟨a, b, c, d, e, f, e0, h0⟩ => ⟨a, b, c, d, e, f, e0, h0.mono k⟩⟩
instance {Fz M M' : Nat → Prop} {w w' : World} {n : Nat} {cur : List Value} {l : List P2} : Up Fz M M' w w' (EPB M w n cur l) (EPB M' w' n cur l) := ⟨fun l h => h.mono l⟩
instance {M : Nat → Prop} {w w' : World} {n : Nat} {cur : List Value} {l : List P2} : UpB w w' (EPB M w n cur l) (EPB M w' n cur l) := ⟨fun l h => h.mono (lb l)⟩
theorem EPB.set {n i : Nat} {cur : List Value} {l : List P2} {p : P2} {s t : Bool} {a d b e : Value} (h : EPB M w n cur l) (hi : i < l.length) (hp : PC M w n p s a d t b e) : EPB M w n (cur.take (i * 6) ++ [.bool s, a, d, .bool t, b, e] ++ cur.drop (i * 6 + 6)) (l.set i p) := ⟨h.e.set hi rfl ⟨_, _, _, _, _, _, rfl, hp⟩⟩
theorem EPB.take {n m : Nat} {cur : List Value} {l : List P2} (h : EPB M w n cur l) : EPB M w n cur (l.take m) := ⟨h.e.take⟩
theorem keep_same {l : List P2} {s : Nat} (h0 : 0 < s) (hs : s < l.length) (h : ∀ i, 0 < i → i < s → qO (l.getD i (0, 0)) (l.getD (i - 1) (0, 0)) ≠ 0) (hc : qO (l.getD s (0, 0)) (l.getD (s - 1) (0, 0)) = 0) : l.take s = qX l (s + 1) := by
  rw [qX, if_pos ⟨h0, hc⟩, keep_all (by omega) h, List.append_nil]
theorem keep_skip {l l2 : List P2} {k m : Nat} (h0 : 0 < m) (ht : l2.take k = qX l m) (hc : qO (l.getD m (0, 0)) (l.getD (m - 1) (0, 0)) = 0) : l2.take k = qX l (m + 1) := by
  rw [qX, if_pos ⟨h0, hc⟩, List.append_nil, ht]
theorem keep_put {l l2 : List P2} {k m : Nat} (hk : k < l2.length) (ht : l2.take k = qX l m) (hc : ¬ qO (l.getD m (0, 0)) (l.getD (m - 1) (0, 0)) = 0) : (l2.set k (l.getD m (0, 0))).take (k + 1) = qX l (m + 1) := by
  rw [qX, if_neg (fun c => hc c.2), ← ht, List.take_add_one, List.getElem?_set_self hk, List.take_set_of_le (Nat.le_refl _)]; rfl
theorem getD_set_ne {l : List P2} {k i : Nat} {p : P2} (h : k ≠ i) : (l.set k p).getD i (0, 0) = l.getD i (0, 0) := by
  rw [List.getD_eq_getElem?_getD, List.getD_eq_getElem?_getD, List.getElem?_set_ne h]
theorem compact_c {Fz M : Nat → Prop} {w : World} {bn n0 cap : Nat} {cur : List Value} {l : List P2} (hT : Tab M w) (Bn : Blk w bn 39 cur) (hE : EPB M w n0 cur l) (hl1 : n0 ≤ 20000) (hlen : l.length ≤ 1000000) (hl0 : 0 < l.length) (hcap : l.length ≤ cap) (hmn : M bn) (nFn : ¬ Fz bn) (hF : FOk Fz w) (hM : OkM M w) :
    CallsV prog 102 [.slice (some ⟨bn, 0, none⟩) l.length cap, .func (.func 103) #[] #[]] w fun r w' => Le Fz M w M w' ∧ ∃ cur', Blk w' bn 39 cur' ∧ cur'.length = cur.length ∧ EPB M w' n0 cur' (qX l l.length) ∧ r = .slice (some ⟨bn, 0, none⟩) (qX l l.length).length cap := by
 have LL := Le.refl Fz M w
 refine jP func102 rfl ntmps102 rfl ?_
 refine zH (zB (zF rfl rfl (zD (zH (zH (zB (zA rfl rfl (yT rfl yu63 rfl (jI rfl rfl rfl (zD ?_))))))))))
 refine yA rfl (fun hc0 => ?_) (fun hc0 => ?_)
 ·refine zH (zB (zA rfl rfl (zF rfl rfl (zD (zW ?_)))))
  refine lv1 ⟨rfl, trivial⟩ ?_
  have hke : qX l l.length = l := by rw [keep_all (Nat.le_refl _) (fun i h1 h2 => by omega), List.take_length]
  rw [hke]
  exact ⟨LL, cur, Bn, rfl, hE, rfl⟩
 ·refine yH (zH (zH (zB (zF rfl rfl (zD (yC ?_))))))
  refine xP (σ := Nat) [(0, _), (1, _)] (fun s => [(5, .int .i64 ((s : Nat) : Int))]) (fun s w1 => Le Fz M w M w1 ∧ Blk w1 bn 39 cur ∧ 1 ≤ s ∧ s ≤ l.length ∧ ∀ i, 0 < i → i < s → qO (l.getD i (0, 0)) (l.getD (i - 1) (0, 0)) ≠ 0) (fun s => l.length - s) (1) (zG rfl (zG rfl (zG rfl yE))) ?_ (fun s w1 hJ => ?_)
  · exact ⟨Le.refl _ _ _, Bn, by omega, by omega, fun i h1 h2 => by omega⟩
  ·clear Bn; obtain ⟨LR, Bn, hs1, hk, hs⟩ := hJ
   obtain ⟨LL, hM, hT, hE⟩ := up4 LR LL hM hT hE
   refine zH (zH (zB (zA rfl rfl (zA rfl rfl (yT rfl yu63 rfl (jI rfl rfl rfl (zD ?_)))))))
   refine yA rfl (fun hc1 => ?_) (fun hc1 => ?_)
   ·refine yH (zH (yC (zH ?_)))
    refine wd mixed 10 [0, 1, 5, 18, 22, 27] (by decide +kernel) ?_
    refine zS (Ex (.func (.func 103) #[] #[])) xU (fun wq hR hst => ?_) ?_
    ·refine zP rfl rfl (zC ?_)
     obtain ⟨hE, Bn⟩ := ub2 hR hE Bn
     exact zA rfl rfl (on0 rfl)
    refine zS (Ex (.slice (some ⟨bn, 0, none⟩) l.length cap)) xU (fun wq hR hst => ?_) ?_
    ·refine zP rfl rfl (zC ?_)
     obtain ⟨hE, Bn⟩ := ub2 hR hE Bn
     exact zA rfl rfl (on0 rfl)
    apply zN
    ·intro wq hR hst
     refine zP rfl rfl (zC ?_)
     obtain ⟨hE, Bn⟩ := ub2 hR hE Bn
     exact zA rfl rfl (on0 rfl)
    refine dv (rPC M (n0) (l.getD s (0, 0))) (fun wq hR hst => ?_) ?_
    ·refine zK rfl (zK rfl (zC ?_))
     obtain ⟨hE, Bn⟩ := ub2 hR hE Bn
     refine ops_idxer (dflt := ((0, 0) : P2)) (s) (s) (0) rfl yu63 yR rfl rfl Bn hE.e (by omega) (by omega) (by omega) (by omega) (by omega) (fun b21 o21 us21 hul21 hu21 hc21 => ?_)
     obtain ⟨xs21, xa21, xd21, xt21, xb21, xe21, rfl, hn21⟩ := hu21
     exact on1 (zY _) rfl ⟨b21, o21, _, _, _, _, _, _, rfl, hc21, hn21⟩
    refine zS (vPC M (n0) (l.getD s (0, 0))) qZ (fun wq hR hst => ?_) ?_
    ·refine yD rfl (fun v21 hp21 => ?_)
     obtain ⟨b21, o21, xs21, xa21, xd21, xt21, xb21, xe21, rfl, hc21, hn21⟩ := hp21
     refine zC ?_
     obtain ⟨hE, Bn⟩ := ub2 hR hE Bn
     exact jF rfl yL yR rfl hc21 rfl (zD ⟨rfl, zY _, _, rfl, ⟨_, _, _, _, _, _, rfl, hn21⟩⟩)
    refine zS (Ex (.slice (some ⟨bn, 0, none⟩) l.length cap)) xU (fun wq hR hst => ?_) ?_
    ·refine zP rfl rfl (zC ?_)
     obtain ⟨hE, Bn⟩ := ub2 hR hE Bn
     exact zA rfl rfl (on0 rfl)
    apply zN
    ·intro wq hR hst
     refine zP rfl rfl (zC ?_)
     obtain ⟨hE, Bn⟩ := ub2 hR hE Bn
     exact zA rfl rfl (on0 rfl)
    refine zS (Ex (.int .i64 (((s : Nat) : Int) - 1))) xU (fun wq hR hst => ?_) ?_
    ·refine zK rfl (zC ?_)
     obtain ⟨hE, Bn⟩ := ub2 hR hE Bn
     exact jS rfl rfl rfl (by omega) (on0 rfl)
    refine dv (rPC M (n0) (l.getD ((s - 1)) (0, 0))) (fun wq hR hst => ?_) ?_
    ·refine zK rfl (zK rfl (zC ?_))
     obtain ⟨hE, Bn⟩ := ub2 hR hE Bn
     refine ops_idxer (dflt := ((0, 0) : P2)) (s - 1) (s - 1) (0) rfl yu63 yR rfl rfl Bn hE.e (by omega) (by omega) (by omega) (by omega) (by omega) (fun b26 o26 us26 hul26 hu26 hc26 => ?_)
     obtain ⟨xs26, xa26, xd26, xt26, xb26, xe26, rfl, hn26⟩ := hu26
     exact on1 (zY _) rfl ⟨b26, o26, _, _, _, _, _, _, rfl, hc26, hn26⟩
    refine zS (vPC M (n0) (l.getD ((s - 1)) (0, 0))) qZ (fun wq hR hst => ?_) ?_
    ·refine yD rfl (fun v26 hp26 => ?_)
     obtain ⟨b26, o26, xs26, xa26, xd26, xt26, xb26, xe26, rfl, hc26, hn26⟩ := hp26
     refine zC ?_
     obtain ⟨hE, Bn⟩ := ub2 hR hE Bn
     exact jF rfl yL yR rfl hc26 rfl (zD ⟨rfl, zY _, _, rfl, ⟨_, _, _, _, _, _, rfl, hn26⟩⟩)
    refine xI (fun wq6 hR6 hpost6 => ?_)
    refine zP rfl rfl (zP rfl rfl (zP rfl rfl (zK rfl (yD rfl (fun v22 hp22 => ?_)))))
    obtain ⟨xs22, xa22, xd22, xt22, xb22, xe22, rfl, hn22⟩ := hp22
    refine yD rfl (fun v27 hp27 => ?_)
    obtain ⟨xs27, xa27, xd27, xt27, xb27, xe27, rfl, hn27⟩ := hp27
    refine zC ?_
    simp only [jC, jB, jA, xZ]
    obtain ⟨LL, LR, hM, hT, hE, Bn⟩ := ub6 hR6 LL LR hM hT hE Bn
    refine zI rfl (bo func103) rfl rfl ?_
    refine (vsame_c hT hn22.gen hn27.gen (by omega) (by omega) hM).mono ?_
    rintro v28 w2 ⟨hB28, rfl⟩
    obtain ⟨LL, LR, hM, hT, hE, Bn⟩ := ub6 hB28 LL LR hM hT hE Bn
    refine zD ?_
    refine yA rfl (fun hc2 => ?_) (fun hc2 => ?_)
    ·refine zH (zB (zA rfl rfl (zA rfl rfl (ops_slicelo (s) rfl yu63 yR rfl rfl (by omega) (by omega) (zF rfl rfl (zD (zH (zH (zB (zF rfl rfl (zD (yC ?_))))))))))))
     refine xP (σ := Nat × Nat) [(0, _), (1, _), (6, _)] (fun z => [(5, .int .i64 ((z.1 : Nat) : Int)), (7, .int .i64 ((z.2 : Nat) : Int))]) (fun z w3 => Le Fz M w2 M w3 ∧ ∃ cur2 l2, Blk w3 bn 39 cur2 ∧ EPB M w3 n0 cur2 l2 ∧ cur2.length = cur.length ∧ l2.length = l.length ∧ 1 ≤ z.2 ∧ s + z.2 ≤ l.length ∧ z.1 + 1 ≤ s + z.2 ∧ l2.take z.1 = qX l (s + z.2) ∧ ∀ i, s + z.2 ≤ i + 1 → l2.getD i (0, 0) = l.getD i (0, 0)) (fun z => l.length - z.2) ((s, 1)) (zG rfl (zG rfl (zG rfl (zG rfl (zG rfl yE))))) ?_ (fun z w3 hJ => ?_)
     · exact ⟨Le.refl _ _ _, cur, l, Bn, hE, rfl, rfl, by omega, by omega, by omega, keep_same (by omega) (by omega) hs hc2, fun _ _ => rfl⟩
     ·clear Bn hE; obtain ⟨kk, k⟩ := z; dsimp only at hJ ⊢; obtain ⟨LS, cur2, l2, Bn, hE, hcl2, hll, hk1, hk2, hk3, hkt, hke⟩ := hJ; have hE0 := hE.e.len
      obtain ⟨LL, hM, hT⟩ := up3 LS LL hM hT
      refine zH (zH (zB (zA rfl rfl (zA rfl rfl (yT rfl yu63 rfl (jI rfl rfl rfl (zD ?_)))))))
      refine yA rfl (fun hc3 => ?_) (fun hc3 => ?_)
      ·refine yH (zH (yC (zH ?_)))
       refine wd mixed 10 [0, 1, 5, 6, 7, 38, 42, 47] (by decide +kernel) ?_
       refine zS (Ex (.func (.func 103) #[] #[])) xU (fun wq hR hst => ?_) ?_
       ·refine zP rfl rfl (zC ?_)
        obtain ⟨LS, hE, Bn⟩ := ub3 hR LS hE Bn
        exact zA rfl rfl (on0 rfl)
       refine zS (Ex (.slice (some ⟨bn, s * 6, none⟩) (l.length - s) (cap - s))) xU (fun wq hR hst => ?_) ?_
       ·refine zP rfl rfl (zC ?_)
        obtain ⟨LS, hE, Bn⟩ := ub3 hR LS hE Bn
        exact zA rfl rfl (on0 rfl)
       apply zN
       ·intro wq hR hst
        refine zP rfl rfl (zC ?_)
        obtain ⟨LS, hE, Bn⟩ := ub3 hR LS hE Bn
        exact zA rfl rfl (on0 rfl)
       refine dv (rPC M (n0) (l2.getD ((s + k)) (0, 0))) (fun wq hR hst => ?_) ?_
       ·refine zK rfl (zK rfl (zC ?_))
        obtain ⟨LS, hE, Bn⟩ := ub3 hR LS hE Bn
        refine ops_idxer (dflt := ((0, 0) : P2)) (s + k) (k) (s) rfl yu63 yR rfl rfl Bn hE.e (by omega) (by omega) (by omega) (by omega) (by omega) (fun b41 o41 us41 hul41 hu41 hc41 => ?_)
        obtain ⟨xs41, xa41, xd41, xt41, xb41, xe41, rfl, hn41⟩ := hu41
        exact on1 (zY _) rfl ⟨b41, o41, _, _, _, _, _, _, rfl, hc41, hn41⟩
       refine zS (vPC M (n0) (l2.getD ((s + k)) (0, 0))) qZ (fun wq hR hst => ?_) ?_
       ·refine yD rfl (fun v41 hp41 => ?_)
        obtain ⟨b41, o41, xs41, xa41, xd41, xt41, xb41, xe41, rfl, hc41, hn41⟩ := hp41
        refine zC ?_
        obtain ⟨LS, hE, Bn⟩ := ub3 hR LS hE Bn
        exact jF rfl yL yR rfl hc41 rfl (zD ⟨rfl, zY _, _, rfl, ⟨_, _, _, _, _, _, rfl, hn41⟩⟩)
       refine zS (Ex (.slice (some ⟨bn, s * 6, none⟩) (l.length - s) (cap - s))) xU (fun wq hR hst => ?_) ?_
       ·refine zP rfl rfl (zC ?_)
        obtain ⟨LS, hE, Bn⟩ := ub3 hR LS hE Bn
        exact zA rfl rfl (on0 rfl)
       apply zN
       ·intro wq hR hst
        refine zP rfl rfl (zC ?_)
        obtain ⟨LS, hE, Bn⟩ := ub3 hR LS hE Bn
        exact zA rfl rfl (on0 rfl)
       refine zS (Ex (.int .i64 (((k : Nat) : Int) - 1))) xU (fun wq hR hst => ?_) ?_
       ·refine zK rfl (zC ?_)
        obtain ⟨LS, hE, Bn⟩ := ub3 hR LS hE Bn
        exact jS rfl rfl rfl (by omega) (on0 rfl)
       refine dv (rPC M (n0) (l2.getD ((s + k - 1)) (0, 0))) (fun wq hR hst => ?_) ?_
       ·refine zK rfl (zK rfl (zC ?_))
        obtain ⟨LS, hE, Bn⟩ := ub3 hR LS hE Bn
        refine ops_idxer (dflt := ((0, 0) : P2)) (s + k - 1) (k - 1) (s) rfl yu63 yR rfl rfl Bn hE.e (by omega) (by omega) (by omega) (by omega) (by omega) (fun b46 o46 us46 hul46 hu46 hc46 => ?_)
        obtain ⟨xs46, xa46, xd46, xt46, xb46, xe46, rfl, hn46⟩ := hu46
        exact on1 (zY _) rfl ⟨b46, o46, _, _, _, _, _, _, rfl, hc46, hn46⟩
       refine zS (vPC M (n0) (l2.getD ((s + k - 1)) (0, 0))) qZ (fun wq hR hst => ?_) ?_
       ·refine yD rfl (fun v46 hp46 => ?_)
        obtain ⟨b46, o46, xs46, xa46, xd46, xt46, xb46, xe46, rfl, hc46, hn46⟩ := hp46
        refine zC ?_
        obtain ⟨LS, hE, Bn⟩ := ub3 hR LS hE Bn
        exact jF rfl yL yR rfl hc46 rfl (zD ⟨rfl, zY _, _, rfl, ⟨_, _, _, _, _, _, rfl, hn46⟩⟩)
       refine xI (fun wq11 hR11 hpost11 => ?_)
       refine zP rfl rfl (zP rfl rfl (zP rfl rfl (zP rfl rfl (zP rfl rfl (zK rfl (yD rfl (fun v42 hp42 => ?_)))))))
       obtain ⟨xs42, xa42, xd42, xt42, xb42, xe42, rfl, hn42⟩ := hp42
       refine yD rfl (fun v47 hp47 => ?_)
       obtain ⟨xs47, xa47, xd47, xt47, xb47, xe47, rfl, hn47⟩ := hp47
       refine zC ?_
       simp only [jC, jB, jA, xZ]
       obtain ⟨LS, hM, hT, hE, Bn⟩ := ub5 hR11 LS hM hT hE Bn
       refine zI rfl (bo func103) rfl rfl ?_
       refine (vsame_c hT hn42.gen hn47.gen (by omega) (by omega) hM).mono ?_
       rintro v48 w4 ⟨hB48, rfl⟩
       obtain ⟨LS, hE, Bn⟩ := ub3 hB48 LS hE Bn
       refine gX rfl rfl (zD ?_)
       refine qI rfl (fun hc4 => ?_) (fun hc4 => ?_)
       ·refine zH (zB (zA rfl rfl (zA rfl rfl (zA rfl rfl (zA rfl rfl (ops_idxe (dflt := ((0, 0) : P2)) (s + k) (k) (s) rfl yu63 yR rfl rfl Bn hE.e (by omega) (by omega) (by omega) (by omega) (by omega) (fun us54 hul54 hu54 hc54 => ?_)))))))
        obtain ⟨xs54, xa54, xd54, xt54, xb54, xe54, rfl, hn54⟩ := hu54
        obtain ⟨oxa54, oxd54, oxb54, oxe54, _⟩ := hn54.one
        refine jF rfl yL yR rfl hc54 rfl (ops_idxe (dflt := ((0, 0) : P2)) kk kk 0 rfl yu63 yR rfl rfl Bn hE.e (by omega) (by omega) (by omega) (by omega) (by omega) (fun _ _ _ _ => ?_))
        refine zV rfl rfl yR Bn rfl (by rw [Nat.ble_eq]; have := hE.e.len; have := dT (k := 6) (show kk < l2.length by omega); omega) (ones6 oxa54 oxd54 oxb54 oxe54) rfl (fun w5 Cw5 Bn => ?_)
        have hE := hE.set (i := kk) (by omega) hn54
        obtain ⟨LS, hE⟩ := up2 (lc LS Cw5 hmn nFn) LS hE
        refine zD (zB (zA rfl rfl (xC rfl rfl rfl (by omega) (zF rfl rfl (zD (zB (zA rfl rfl (xC rfl rfl rfl (by omega) (zF rfl rfl (zD ?_))))))))))
        refine ⟨rfl, (kk + 1, k + 1), (zZ rfl (by rw [Int.natCast_add]; rfl) (zZ rfl (by rw [Int.natCast_add]; rfl) (zG rfl (zG rfl (zG rfl yE))))), ?_, ?_⟩
        dsimp only
        refine ⟨LS, _, _, Bn, hE, by rw [List.length_append, List.length_append, List.length_take, List.length_drop]; have := dT (k := 6) (show kk < l2.length by omega); simp only [List.length_cons, List.length_nil]; omega, by rw [List.length_set]; exact hll, by omega, by omega, by omega, ?_, fun i hi => by rw [getD_set_ne (by omega)]; exact hke i (by omega)⟩
        rw [hke _ (by omega)]
        exact keep_put (by omega) hkt (by rw [← hke _ (by omega), ← hke (s + k - 1) (by omega)]; simpa using hc4)
        dsimp only
        omega
       ·refine yH (zB (zA rfl rfl (xC rfl rfl rfl (by omega) (zF rfl rfl (zD ?_)))))
        refine ⟨rfl, (kk, k + 1), (zZ rfl (rfl) (zZ rfl (by rw [Int.natCast_add]; rfl) (zG rfl (zG rfl (zG rfl yE))))), ?_, ?_⟩
        dsimp only
        refine ⟨LS, _, _, Bn, hE, hcl2, hll, by omega, by omega, by omega, keep_skip (m := s + k) (by omega) hkt (by rw [← hke _ (by omega), ← hke (s + k - 1) (by omega)]; simpa using hc4), fun i hi => hke i (by omega)⟩
        dsimp only
        omega
      ·refine xN (xO (zH (zB (zA rfl rfl (zA rfl rfl (ops_slicelo (kk) rfl yu63 yR rfl rfl (by omega) (by omega) (ops_clear (te := 39) yu63 yR rfl (zU (zU (zU (zU (zU (zU xY)))))) rfl Bn (by have := hE.e.len; have : (l.length - kk) * 6 = l.length * 6 - kk * 6 := Nat.sub_mul _ _ _; have := Nat.mul_le_mul_right 6 (show kk ≤ l.length by omega); rw [hll] at *; omega) (by omega) (by omega) (fun w6 cur3 Cw6 Bw6 hcl hce => ?_))))))))
       have hE : EPB _ _ n0 cur3 (l2.take kk) := ⟨hE.take.e.cut (n := kk) (by rw [List.length_take]; omega) hcl hce⟩
       obtain ⟨LL, LS, hE⟩ := up3 (lc LL Cw6 hmn nFn) LL LS hE
       replace Bn := Bw6; clear Bw6
       refine zD (zH (zB (zA rfl rfl (zA rfl rfl (ops_slicehi kk rfl yu63 yR rfl rfl (by omega) (by omega) (zF rfl rfl (zD (zW ?_))))))))
       refine lv1 ⟨rfl, trivial⟩ ?_
       have hkl : s + k = l.length := by omega
       rw [hkl] at hkt
       have hkn : (qX l l.length).length = kk := by rw [← hkt, List.length_take]; omega
       rw [hkn, ← hkt]
       exact ⟨LL, _, Bn, by omega, hE, rfl⟩
    ·refine yH (zB (zA rfl rfl (xC rfl rfl rfl (by omega) (zF rfl rfl (zD ?_)))))
     refine ⟨rfl, s + 1, (zZ rfl (by rw [Int.natCast_add]; rfl) (zG rfl (zG rfl yE))), ?_, ?_⟩
     exact ⟨LR, Bn, by omega, by omega, fun i h1 h2 => by rcases Nat.lt_or_ge i s with c | c; exact hs i h1 c; obtain rfl : i = s := (by omega); exact hc2⟩
     omega
   ·refine xN (xO (zH (zB (zA rfl rfl (zF rfl rfl (zD (zW ?_)))))))
    refine lv1 ⟨rfl, trivial⟩ ?_
    obtain rfl : s = l.length := by omega
    have hke : qX l l.length = l := by rw [keep_all (Nat.le_refl _) hs, List.take_length]
    rw [hke]
    exact ⟨LL, cur, Bn, rfl, hE, rfl⟩
end Go.Proofs.YtfkejnlohkgbgaaGreatDoor
set_option maxRecDepth 100000
namespace Go.Proofs.YtfkejnlohkgbgaaGreatDoor
open Go.SL Go.RowKit Go.Proofs Tryz
variable {M : Nat → Prop} {w : World}
structure VRow (Fz M : Nat → Prop) (w : World) (n : Nat) (v : Value) (l : List P2) : Prop where
  ex : (l = [] ∧ ∃ ad cap, v = .slice ad 0 cap) ∨ ∃ b cap cur, v = .slice (some ⟨b, 0, none⟩) l.length cap ∧ l.length ≤ cap ∧ 0 < l.length ∧ Blk w b 39 cur ∧ M b ∧ ¬ Fz b ∧ EPB M w n cur l
theorem cmpP_swo : Sort.SWO (ltOf qO) :=
  ⟨fun x => by simpa [ltOf] using cmpP_irr x, fun x y z h k => by simp only [ltOf, decide_eq_true_eq] at *; exact cmpP_lt_trans h k, fun x y z h k => by
    simp only [ltOf, decide_eq_false_iff_not, cQ, Classical.not_not] at *
    exact leP_trans k h⟩
theorem bod_enter {P : Program} {g : Nat} (h : Bod P g) (args : Array Value) (w : World) : (callFunc g args).run P w = .ok (.enter g args) w := by
  obtain ⟨fn, h1, h2, h3⟩ := h
  have h2' : fn.body ≠ none := fun c => by rw [c] at h2; cases h2
  have h3' : fn.name ≠ "runtime.NumGoroutine" := fun c => by rw [c] at h3; simp at h3
  simp [callFunc, h1, h2', h3']
theorem sortv_c {Fz M : Nat → Prop} {w : World} {n0 : Nat} {v : Value} {l : List P2} (hT : Tab M w) (h1 : VRow Fz M w n0 v l) (hl1 : n0 ≤ 20000) (hlen : l.length ≤ 1000000) (hF : FOk Fz w) (hM : OkM M w) :
    CallsV prog 100 [v, .func (.func 101) #[] #[]] w fun r w' => Le Fz M w M w' ∧ (∀ k, v.ownBlock ≠ some k → k < w.heap.size → w'.heap[k]? = w.heap[k]?) ∧ ∃ l', VRow Fz M w' n0 v l' ∧ l'.Perm l ∧ ∀ i j, i < j → j < l'.length → leP (l'.getD i (0, 0)) (l'.getD j (0, 0)) := by
  rcases h1.ex with ⟨rfl, ad, cap, rfl⟩ | ⟨b, cap, cur, rfl, hc, h0, B, hm, hf, hE⟩
  · refine (AnyF.slices_SortFunc_none sortPt ad cap _ w).mono ?_
    rintro e w' ⟨rfl, rfl⟩
    exact ⟨_, rfl, Le.refl _ _ _, fun _ _ _ => rfl, [], ⟨.inl ⟨rfl, ad, cap, rfl⟩⟩, .refl _, fun i j _ h => by simp at h⟩
  · have hs := sort_row (g := 101) (k := 6) (b := b) (cap := cap) (te := 39) (Fz := fun k => k ≠ b) (M := M) (w := w) (cur := cur) (l := l) (R := RPc n0) (cf := qO) sortPt yL (uT yR) (bod_enter (bo func101)) cmpP_swo
      (fun a us ⟨s, x, y, t, z, q, e, h⟩ => by rw [e]; obtain ⟨o1, o2, o3, o4, _⟩ := h.one; exact ones6 o1 o2 o3 o4) hm (fun c => c rfl)
      (fun W hle a us ⟨s, x, y, t, z, q, e, h⟩ => ⟨s, x, y, t, z, q, e, h.mono hle⟩)
      (fun W hle x y us vs ⟨s, a, d, t, b', e, e1, g1⟩ ⟨s2, a2, d2, t2, b2, e2, e3, g2⟩ => by
        rw [e1, e3]
        exact cL (hT.mono hle) g1.gen g2.gen hl1 hl1 (hM.mono hle)) B hE.e h0 (by omega)
    refine hs.mono ?_
    rintro e w' ⟨rfl, cur', l', hp, hso, hcl, B', hE', hle⟩
    have hll := hp.length_eq
    refine ⟨_, rfl, ⟨hle.os, hle.tape, hle.output, hle.size, fun k hk hF' => hle.frz k hk (fun c => hf (c ▸ hF')), hle.imm, hle.chg, hle.ok⟩, fun k hk hs => hle.frz k hs (fun c => hk (by rw [c]; rfl)), l', ⟨.inr ⟨b, cap, cur', by rw [hll], by omega, by omega, B', hm, hf, ⟨hE'⟩⟩⟩, hp, fun i j hij hj => ?_⟩
    have h5 := hso i j hij hj
    rw [cQ, Classical.not_not, getElem!_pos l' i (by omega), getElem!_pos l' j hj] at h5
    simpa [List.getD_eq_getElem?_getD, List.getElem?_eq_getElem hj, List.getElem?_eq_getElem (show i < l'.length by omega)] using h5
theorem compact0_c {ad : Option Addr} {cap : Nat} {g : Value} (hM : OkM M w) :
    CallsV prog 102 [.slice ad 0 cap, g] w fun r w' => Bel w.heap.size w w' ∧ r = .slice ad 0 cap := by
 refine ci M func102 ntmps102 fun Fz hFz hF LL => ?_
 refine zH (zB (zF rfl rfl (zD (zH (zH (zB (zA rfl rfl (yT rfl yu63 rfl (jI rfl rfl rfl (zD ?_))))))))))
 refine yA rfl (fun hc0 => ?_) (fun hn => absurd (by decide) hn)
 refine zH (zB (zA rfl rfl (zF rfl rfl (zD (zW ?_)))))
 refine lv1 ⟨rfl, trivial⟩ ?_
 subst hFz
 exact ⟨LL.b, rfl⟩
theorem compactv_c {Fz M : Nat → Prop} {w : World} {n0 : Nat} {v : Value} {l : List P2} (hT : Tab M w) (h1 : VRow Fz M w n0 v l) (hl1 : n0 ≤ 20000) (hlen : l.length ≤ 1000000) (hF : FOk Fz w) (hM : OkM M w) :
    CallsV prog 102 [v, .func (.func 103) #[] #[]] w fun r w' => Le Fz M w M w' ∧ (∀ k, v.ownBlock ≠ some k → k < w.heap.size → w'.heap[k]? = w.heap[k]?) ∧ VRow Fz M w' n0 r (qX l l.length) ∧ (∀ k, r.ownBlock = some k → v.ownBlock = some k) := by
  rcases h1.ex with ⟨rfl, ad, cap, rfl⟩ | ⟨b, cap, cur, rfl, hc, h0, B, hm, hf, hE⟩
  · refine (compact0_c hM).mono ?_
    rintro r w' ⟨hB, rfl⟩
    exact ⟨Le.of_below hB, fun k _ hk => hB.block k hk, ⟨.inl ⟨rfl, ad, cap, rfl⟩⟩, fun k h => h⟩
  · refine (compact_c (Fz := fun k => k ≠ b ∧ k < w.heap.size) hT B hE hl1 hlen h0 hc hm (fun c => c.1 rfl) (fun k hk => hk.2) hM).mono ?_
    rintro r w' ⟨hle, cur', B', hcl, hE', rfl⟩
    have hkl := keep_len l l.length
    refine ⟨⟨hle.os, hle.tape, hle.output, hle.size, fun k hk hF' => hle.frz k hk ⟨fun c => hf (c ▸ hF'), hk⟩, hle.imm, hle.chg, hle.ok⟩, fun k hk hs => hle.frz k hs ⟨fun c => hk (by rw [c]; rfl), hs⟩, ⟨.inr ⟨b, cap, cur', rfl, by omega, keep_pos h0, B', hm, hf, hE'⟩⟩, fun k h => h⟩
end Go.Proofs.YtfkejnlohkgbgaaGreatDoor
set_option maxRecDepth 100000
namespace Go.Proofs.YtfkejnlohkgbgaaGreatDoor
open Go.SL Go.RowKit Go.Proofs Tryz
variable {M : Nat → Prop} {w : World}
theorem VRow.one {Fz M : Nat → Prop} {w : World} {n : Nat} {v : Value} {l : List P2} (h : VRow Fz M w n v l) : v.oneCell' = true := by
  rcases h.ex with ⟨_, ad, cap, rfl⟩ | ⟨b, cap, cur, rfl, _⟩ <;> rfl
theorem vrow_own {Fz M : Nat → Prop} {w : World} {n : Nat} {v : Value} {cs : List Value} {l : List P2} (Ow : w.ownsRow 0 39 6 v l.length cs) (He : EP M w n cs l) (hm : ∀ k, v.ownBlock = some k → M k) (hf : ∀ k, v.ownBlock = some k → ¬ Fz k) : VRow Fz M w n v l := by
  obtain ⟨hlen, ⟨rfl, h0⟩ | ⟨g, cap, cur, rfl, _, hb, hc, _, hsz, htk⟩⟩ := Ow
  · exact ⟨.inl ⟨List.length_eq_zero_iff.1 h0, none, 0, rfl⟩⟩
  · rcases Nat.eq_zero_or_pos l.length with h0 | h0
    · exact ⟨.inl ⟨List.length_eq_zero_iff.1 h0, _, cap, by rw [h0]⟩⟩
    · refine ⟨.inr ⟨g, cap, cur.toList, rfl, hc, h0, by unfold Blk; simpa using hb, hm _ rfl, hf _ rfl, ⟨⟨by rw [show cur.toList.length = cap * 6 by rw [Array.length_toList]; exact hsz]; exact Nat.mul_le_mul_right 6 hc, fun i a ha => ?_⟩⟩⟩⟩
      obtain ⟨us, h1, h2, h3⟩ := He.e.at_ i a ha
      refine ⟨us, h1, fun q u hq => ?_, h3⟩
      have := h2 q u hq
      rw [← htk, List.getElem?_take] at this
      split at this
      · exact this
      · cases this
theorem vrow_pl {Fz M1 M : Nat → Prop} {w : World} {n : Nat} {v : Value} {l : List P2} (h : VRow Fz M1 w n v l) (hs : ∀ k, M k → M1 k) (hn : ∀ k, v.ownBlock = some k → ¬ M k) (hl : l.length ≤ 1000000) : PLc M w n l v := by
  rcases h.ex with ⟨rfl, ad, cap, rfl⟩ | ⟨b, cap, cur, rfl, hc, h0, B, hm, hf, hE⟩
  · exact ⟨⟨[], ⟨rfl, by simp, ad, cap, rfl, Nat.zero_le _, .inl rfl⟩, fun i a ha => by simp at ha⟩⟩
  · have e : EB (RPc n) 6 M w cur l := hE.e.mono fun _ _ ⟨a, b, c, d, e, f, e0, h0⟩ => ⟨a, b, c, d, e, f, e0, h0.less hs⟩
    exact ⟨e.row B (hn b rfl) hc (by omega)⟩
theorem mall_c {n0 n1 : Nat} {xa0 xa1 : Value} {p q : List P2} (hT : Tab M w) (h0 : PL M w n0 p xa0) (h1 : PL M w n1 q xa1) (hl0 : n0 ≤ 80) (hl1 : n1 ≤ 80) (hlp : p.length ≤ 500) (hlq : q.length ≤ 500) (hM : OkM M w) :
    CallsV prog 42 [xa0, xa1] w fun r w' => Bel w.heap.size w w' ∧ ∃ l, IsAll p q l ∧ PLc M w' (8 * (n0 + n0 + n1 + n1) + 80) l r := by
 obtain ⟨oh0, _⟩ := h0.one; obtain ⟨oh1, _⟩ := h1.one
 have hM0 := hM
 have Mk : Marks M w.heap.size [] w := uN
 refine ci M func42 ntmps42 fun Fz hFz hF LL => ?_
 refine zH (zB (yG rfl rfl (fun w1 b3 N3 => ?_)))
 obtain ⟨hBw1, nF3, nM3, Lw1, B3⟩ := nz hF hM N3
 replace LL := LL.trans Lw1
 replace hM := hM.mono Lw1
 replace hF := hF.mono Lw1
 replace hT := hT.mono Lw1
 replace h0 := h0.mono Lw1
 replace h1 := h1.mono Lw1
 replace Mk := Mk.mono Lw1
 rw [h1.cells] at B3
 refine yI rfl sz63 (fun w2 b4 N4 => ?_)
 obtain ⟨hBw2, nF4, nM4, Lw2, B4⟩ := nz hF hM N4
 obtain ⟨B3, ne3_4⟩ := bn B3 N4
 replace LL := LL.trans Lw2
 replace hM := hM.mono Lw2
 replace hF := hF.mono Lw2
 replace hT := hT.mono Lw2
 replace h0 := h0.mono Lw2
 replace h1 := h1.mono Lw2
 replace Mk := Mk.mono Lw2
 refine zD (zH (zH (zB ?_)))
 have Ow := own_nilk (w := w2) 6 (e := 39)
 have Of : ∀ k, (Value.slice none 0 0).ownBlock = some k → ¬ Fz k := uF
 have Om : ∀ k, (Value.slice none 0 0).ownBlock = some k → ¬ (Ins b4 (Ins b3 M)) k := uF
 have He : EP (Mo (.slice none 0 0) (Ins b4 (Ins b3 M))) w2 (8 * (n0 + n0 + n1 + n1) + 80) [] [] := ⟨Elems.nil⟩
 have Ln := Le.mo_nil (Fz := Fz) (M := (Ins b4 (Ins b3 M))) (w := w2)
 replace LL := LL.trans Ln
 replace hM := hM.mono Ln
 replace hF := hF.mono Ln
 replace hT := hT.mono Ln
 replace h0 := h0.mono Ln
 replace h1 := h1.mono Ln
 replace Mk := Mk.mono Ln
 clear Ln
 refine zA rfl rfl (zI rfl (bo func99) rfl rfl ?_)
 refine (edges_c (M := (Mo (.slice none 0 0) (Ins b4 (Ins b3 M)))) hT (by assumption) (by omega) (by omega) hM).mono ?_
 rintro v9 w3 ⟨hB9, cap9, rfl, hit9⟩
 have Lw3 := Le.of_below (Fz := Fz) (M := (Mo (.slice none 0 0) (Ins b4 (Ins b3 M)))) hB9
 replace LL := LL.trans Lw3
 replace hM := hM.mono Lw3
 replace hF := hF.mono Lw3
 replace hT := hT.mono Lw3
 replace h0 := h0.mono Lw3
 replace h1 := h1.mono Lw3
 replace Mk := Mk.mono Lw3
 replace He := He.mono Lw3
 replace B3 := B3.below hB9
 replace B4 := B4.below hB9
 replace Ow := xK Ow hB9
 refine zD (yC ?_)
 have hszLL := LL.size
 have Mold0 := Mk.old (Nat.le_refl _)
 refine aJ (M := (Mo (.slice none 0 0) (Ins b4 (Ins b3 M)))) (T := NoT) (gH p) (RSg (Mo (.slice none 0 0) (Ins b4 (Ins b3 M))) w3 n0) rfl (bo func164) (hit9) noT (trivial) (fun _ _ _ ⟨_, _, _, _, _, _, _, _, _, _, _, _, h, _⟩ => by rw [h]; rfl) rfl [(3, _), (4, _)] (zG rfl (zG rfl yE)) (fun pre w4 => ∃ v0, Le Fz (Mo (.slice none 0 0) (Ins b4 (Ins b3 M))) w3 (Mo v0 (Ins b4 (Ins b3 M))) w4 ∧ Blk w4 b3 63 [xa1] ∧ Blk w4 b4 63 [v0] ∧ (∀ k, v0.ownBlock = some k → ¬ Fz k) ∧ (∀ k, v0.ownBlock = some k → ¬ (Ins b4 (Ins b3 M)) k) ∧ ∃ cs, w4.ownsRow 0 39 6 v0 (dQ pre (gH q)).length cs ∧ EP (Mo v0 (Ins b4 (Ins b3 M))) w4 (8 * (n0 + n0 + n1 + n1) + 80) cs (dQ pre (gH q))) (fun _ _ => False) (fun _ => False) (⟨_, Le.refl _ _ _, B3, B4, Of, Om, [], Ow, He⟩) (fun pre w h => (let ⟨_, h1, _⟩ := h; h1.keep)) (fun pre w1 w2 hJ hd => (by obtain ⟨v0, h1, h2, h3, h4, h5, cs, h6, h7⟩ := hJ; exact ⟨v0, h1.drift0 hd (Nat.le_refl _), h2.drift hd (fun c => c), h3.drift hd (fun c => c), h4, h5, cs, qS h6 hd (fun _ _ c => c), h7.drift hd noT⟩)) (fun _ _ _ h _ => h) (fun _ _ h _ => h) (fun _ _ _ _ => trivial) ?_ ?_ (fun _ _ h _ => h.elim) (fun _ h _ => h.elim)
 ·intro pre x vs post l b w4 ρ δ hx hJ hv hnl hnb hl hb hbc
  clear Ow He Of Om B3 B4
  obtain ⟨v0, LS0, B3, B4, Of, Om, cs, Ow, He⟩ := hJ
  replace LL := LL.trans LS0
  replace hM := hM.mono LS0
  replace hF := hF.mono LS0
  replace hT := hT.mono LS0
  replace h0 := h0.mono LS0
  replace h1 := h1.mono LS0
  replace Mk := Mk.mono LS0
  have RL : Rec (Mo v0 (Ins b4 (Ins b3 M))) w4 l (.loop ρ) := ⟨hl, (bQ (qM Ow hl (by simp)) (gP (Rec.ne hl B4 (by simp)) (gP (Rec.ne hl B3 (by simp)) (jT hM0 (by omega)))))⟩
  have RB : Rec (Mo v0 (Ins b4 (Ins b3 M))) w4 b δ := ⟨hb, (bQ (qM Ow hb hbc) (gP (Rec.ne hb B4 hbc) (gP (Rec.ne hb B3 hbc) (jT hM0 (by omega)))))⟩
  have hs1 : w4.heap.size ≤ w4.heap.size := Nat.le_refl _
  obtain ⟨xs10, xa10, xd10, xt10, xb10, xe10, xs10b, xa10b, xd10b, xt10b, xb10b, xe10b, rfl, hn10, hnb10⟩ := hv
  replace hn10 := hn10.mono LS0
  replace hnb10 := hnb10.mono LS0
  obtain ⟨oxa10, oxd10, oxb10, oxe10, _⟩ := hn10.one; obtain ⟨oxa10b, oxd10b, oxb10b, oxe10b, _⟩ := hnb10.one
  refine zB (yI rfl uH (fun w5 b5 N5 => ?_))
  obtain ⟨hBw5, nF5, nM5, _, B5⟩ := nza hF hM N5
  have Lw5 := Le.of_new_in (Fz := Fz) (M := (Ins b4 (Ins b3 M))) (v := v0) N5
  replace Om := eL Ow N5 Om
  replace Ow := xK Ow hBw5
  obtain ⟨B3, ne3_5⟩ := bn B3 N5
  obtain ⟨B4, ne4_5⟩ := bn B4 N5
  replace LL := LL.trans Lw5
  replace LS0 := LS0.trans Lw5
  replace hM := hM.mono Lw5
  replace hF := hF.mono Lw5
  replace hT := hT.mono Lw5
  replace h0 := h0.mono Lw5
  replace h1 := h1.mono Lw5
  replace He := He.mono Lw5
  replace RL := RL.mono Lw5
  replace RB := RB.mono Lw5
  replace hn10 := hn10.mono Lw5
  replace hnb10 := hnb10.mono Lw5
  replace hs1 := Nat.le_trans hs1 Lw5.size
  refine zV rfl rfl uH B5 rfl rfl (zU (zU (zU (zU (zU (zU (zU (zU (zU (zU (zU (zU xY)))))))))))) rfl (fun w6 Cw6 B5 => ?_)
  have Lw6 := Le.of_chg (M := (Mo v0 (Ins b5 (Ins b4 (Ins b3 M))))) Cw6 (.inr zQ) nF5
  replace LL := LL.trans Lw6
  replace LS0 := LS0.trans Lw6
  replace hM := hM.mono Lw6
  replace hF := hF.mono Lw6
  replace hT := hT.mono Lw6
  replace h0 := h0.mono Lw6
  replace h1 := h1.mono Lw6
  replace He := He.mono Lw6
  replace RL := RL.mono Lw6
  replace RB := RB.mono Lw6
  replace hn10 := hn10.mono Lw6
  replace hnb10 := hnb10.mono Lw6
  replace hs1 := Nat.le_trans hs1 Lw6.size
  replace B3 := B3.other Cw6 ne3_5
  replace B4 := B4.other Cw6 ne4_5
  replace Ow := kM Ow Cw6 (fun h => Om _ h zQ)
  try simp only [List.set_cons_zero, List.set_cons_succ, List.take_succ_cons, List.take_zero, List.drop_succ_cons, List.drop_zero, List.drop_nil, List.cons_append, List.nil_append, List.append_nil] at B5
  refine zD ?_
  refine ⟨RL.at_, RB.at_, rfl, fun w7 ρ' δ' hdr hl' hb' hbc' => ?_⟩
  replace LL := LL.drift0 hdr hszLL
  replace LS0 := LS0.drift0 hdr (Nat.le_refl _)
  replace hM := hM.drift hdr
  replace hF := hF.drift hdr
  replace hs1 := Nat.le_trans hs1 hdr.size
  replace hT := hT.drift hdr noT
  replace h0 := h0.drift hdr noT
  replace h1 := h1.drift hdr noT
  replace He := He.drift hdr noT
  replace hn10 := hn10.drift hdr noT
  replace hnb10 := hnb10.drift hdr noT
  replace RL : Rec (Mo v0 (Ins b5 (Ins b4 (Ins b3 M)))) w7 l (.loop ρ') := ⟨hl', RL.not⟩
  replace RB : Rec (Mo v0 (Ins b5 (Ins b4 (Ins b3 M)))) w7 b δ' := ⟨hb', RB.not⟩
  replace B3 := B3.drift hdr (fun c => c)
  replace B4 := B4.drift hdr (fun c => c)
  replace B5 := B5.drift hdr (fun c => c)
  replace Ow := qS Ow hdr (fun _ _ c => c)
  refine yC (cR (zH (cT (zH (zB (zT rfl dB rfl B3 rfl (zI rfl (bo func99) rfl rfl ?_)))))))
  refine (edges_c (M := (Mo v0 (Ins b5 (Ins b4 (Ins b3 M))))) hT (by assumption) (by omega) (by omega) hM).mono ?_
  rintro v12 w8 ⟨hB12, cap12, rfl, hit12⟩
  have Lw8 := Le.of_below (Fz := Fz) (M := (Mo v0 (Ins b5 (Ins b4 (Ins b3 M))))) hB12
  replace LL := LL.trans Lw8
  replace LS0 := LS0.trans Lw8
  replace hM := hM.mono Lw8
  replace hF := hF.mono Lw8
  replace hT := hT.mono Lw8
  replace h0 := h0.mono Lw8
  replace h1 := h1.mono Lw8
  replace He := He.mono Lw8
  replace RL := RL.mono Lw8
  replace RB := RB.mono Lw8
  replace hn10 := hn10.mono Lw8
  replace hnb10 := hnb10.mono Lw8
  replace hs1 := Nat.le_trans hs1 Lw8.size
  replace B3 := B3.below hB12
  replace B4 := B4.below hB12
  replace B5 := B5.below hB12
  replace Ow := xK Ow hB12
  refine zD (yC ?_)
  obtain ⟨prA, hprA⟩ : ∃ prA, prA = pre := ⟨_, rfl⟩; rw [← hprA] at Ow He
  have hszLL := LL.size
  have hszLS0 := LS0.size
  have ltRL := RL.lt
  have ltRB := RB.lt
  refine aJ (M := (Mo v0 (Ins b5 (Ins b4 (Ins b3 M))))) (T := NoT) (gH q) (RSg (Mo v0 (Ins b5 (Ins b4 (Ins b3 M)))) w8 n1) rfl (bo func164) (hit12) noT (⟨_, RL.at_⟩) (fun _ _ _ ⟨_, _, _, _, _, _, _, _, _, _, _, _, h, _⟩ => by rw [h]; rfl) rfl [(4, _), (5, _)] (zG rfl (zG rfl yE)) (fun pre w9 => ∃ v1, Le Fz (Mo v0 (Ins b5 (Ins b4 (Ins b3 M)))) w8 (Mo v1 (Ins b5 (Ins b4 (Ins b3 M)))) w9 ∧ Blk w9 b3 63 [xa1] ∧ Blk w9 b4 63 [v1] ∧ Blk w9 b5 110 [.bool xs10, xa10, xd10, .bool xt10, xb10, xe10, .bool xs10b, xa10b, xd10b, .bool xt10b, xb10b, xe10b] ∧ (∀ k, v1.ownBlock = some k → ¬ Fz k) ∧ (∀ k, v1.ownBlock = some k → ¬ (Ins b5 (Ins b4 (Ins b3 M))) k) ∧ ∃ cs, w9.ownsRow 0 39 6 v1 ((dQ prA (gH q) ++ pre.flatMap fun t => bB (jZ x t))).length cs ∧ EP (Mo v1 (Ins b5 (Ins b4 (Ins b3 M)))) w9 (8 * (n0 + n0 + n1 + n1) + 80) cs ((dQ prA (gH q) ++ pre.flatMap fun t => bB (jZ x t)))) (fun _ _ => False) (fun _ => False) (⟨_, Le.refl _ _ _, B3, B4, B5, Of, Om, cs, by simpa using Ow, by simpa using He⟩) (fun pre w h => (let ⟨_, h1, _⟩ := h; h1.keep)) (fun pre w1 w2 hJ hd => (by obtain ⟨v0, h1, h2, h3, hb, h4, h5, cs, h6, h7⟩ := hJ; exact ⟨v0, h1.drift0 hd (Nat.le_refl _), h2.drift hd (fun c => c), h3.drift hd (fun c => c), hb.drift hd (fun c => c), h4, h5, cs, qS h6 hd (fun _ _ c => c), h7.drift hd noT⟩)) (fun _ _ _ h _ => h) (fun _ _ h _ => h) (fun _ _ _ _ => trivial) ?_ ?_ (fun _ _ h _ => h.elim) (fun _ h _ => h.elim)
  ·intro preB xB vs postB l b w9 ρ δ hxB hJ hvB hnl hnb hl hb hbc
   clear Ow He Of Om B3 B4 B5
   obtain ⟨v1, LS1, B3, B4, B5, Of, Om, cs2, Ow, He⟩ := hJ
   replace LL := LL.trans LS1
   replace LS0 := LS0.trans LS1
   replace hM := hM.mono LS1
   replace hF := hF.mono LS1
   replace hT := hT.mono LS1
   replace h0 := h0.mono LS1
   replace h1 := h1.mono LS1
   replace RL := RL.mono LS1
   replace RB := RB.mono LS1
   replace hn10 := hn10.mono LS1
   replace hnb10 := hnb10.mono LS1
   replace hs1 := Nat.le_trans hs1 LS1.size
   have RLB : Rec (Mo v1 (Ins b5 (Ins b4 (Ins b3 M)))) w9 l (.loop ρ) := ⟨hl, (bQ (qM Ow hl (by simp)) (gP (Rec.ne hl B5 (by simp)) (gP (Rec.ne hl B4 (by simp)) (gP (Rec.ne hl B3 (by simp)) (jT hM0 (by omega))))))⟩
   have RBB : Rec (Mo v1 (Ins b5 (Ins b4 (Ins b3 M)))) w9 b δ := ⟨hb, (bQ (qM Ow hb hbc) (gP (Rec.ne hb B5 hbc) (gP (Rec.ne hb B4 hbc) (gP (Rec.ne hb B3 hbc) (jT hM0 (by omega))))))⟩
   have hs1B : w9.heap.size ≤ w9.heap.size := Nat.le_refl _
   have hpa : prA.length ≤ 500 := by rw [hprA]; have := congrArg List.length hx; rw [aO, List.length_append] at this; omega
   have hpb : preB.length ≤ 500 := by have := congrArg List.length hxB; rw [aO, List.length_append] at this; omega
   have hbL : (dQ prA (gH q) ++ preB.flatMap fun t => bB (jZ x t)).length ≤ 501000 := by rw [List.length_append]; have h1 := rawL_len (gH q) prA; have h2 := rowL_len x preB; rw [aO] at h1; have h3 := Nat.mul_le_mul (Nat.mul_le_mul_left 2 hlq) hpa; omega
   obtain ⟨xs13, xa13, xd13, xt13, xb13, xe13, xs13b, xa13b, xd13b, xt13b, xb13b, xe13b, rfl, hn13, hnb13⟩ := hvB
   replace hn13 := hn13.mono LS1
   replace hnb13 := hnb13.mono LS1
   obtain ⟨oxa13, oxd13, oxb13, oxe13, _⟩ := hn13.one; obtain ⟨oxa13b, oxd13b, oxb13b, oxe13b, _⟩ := hnb13.one
   refine zB (yI rfl uH (fun w10 b6 N6 => ?_))
   obtain ⟨hBw10, nF6, nM6, _, _⟩ := nz hF hM N6
   have Lw10 := Le.of_new_in (Fz := Fz) (M := (Ins b5 (Ins b4 (Ins b3 M)))) (v := v1) N6
   replace Om := eL Ow N6 Om
   replace Ow := xK Ow hBw10
   obtain ⟨B3, ne3_6⟩ := bn B3 N6
   obtain ⟨B4, ne4_6⟩ := bn B4 N6
   obtain ⟨B5, ne5_6⟩ := bn B5 N6
   replace LL := LL.trans Lw10
   replace LS0 := LS0.trans Lw10
   replace LS1 := LS1.trans Lw10
   replace hM := hM.mono Lw10
   replace hF := hF.mono Lw10
   replace hT := hT.mono Lw10
   replace h0 := h0.mono Lw10
   replace h1 := h1.mono Lw10
   replace RL := RL.mono Lw10
   replace RB := RB.mono Lw10
   replace hn10 := hn10.mono Lw10
   replace hnb10 := hnb10.mono Lw10
   replace He := He.mono Lw10
   replace RLB := RLB.mono Lw10
   replace RBB := RBB.mono Lw10
   replace hn13 := hn13.mono Lw10
   replace hnb13 := hnb13.mono Lw10
   replace hs1 := Nat.le_trans hs1 Lw10.size
   replace hs1B := Nat.le_trans hs1B Lw10.size
   have B6 := N6.blk
   rw [kZ] at B6
   refine zV rfl rfl uH B6 rfl rfl (zU (zU (zU (zU (zU (zU (zU (zU (zU (zU (zU (zU xY)))))))))))) rfl (fun w11 Cw11 B6 => ?_)
   have Lw11 := Le.of_chg (M := (Mo v1 (Ins b6 (Ins b5 (Ins b4 (Ins b3 M)))))) Cw11 (.inr zQ) nF6
   replace LL := LL.trans Lw11
   replace LS0 := LS0.trans Lw11
   replace LS1 := LS1.trans Lw11
   replace hM := hM.mono Lw11
   replace hF := hF.mono Lw11
   replace hT := hT.mono Lw11
   replace h0 := h0.mono Lw11
   replace h1 := h1.mono Lw11
   replace RL := RL.mono Lw11
   replace RB := RB.mono Lw11
   replace hn10 := hn10.mono Lw11
   replace hnb10 := hnb10.mono Lw11
   replace He := He.mono Lw11
   replace RLB := RLB.mono Lw11
   replace RBB := RBB.mono Lw11
   replace hn13 := hn13.mono Lw11
   replace hnb13 := hnb13.mono Lw11
   replace hs1 := Nat.le_trans hs1 Lw11.size
   replace hs1B := Nat.le_trans hs1B Lw11.size
   replace B3 := B3.other Cw11 ne3_6
   replace B4 := B4.other Cw11 ne4_6
   replace B5 := B5.other Cw11 ne5_6
   replace Ow := kM Ow Cw11 (fun h => Om _ h zQ)
   try simp only [List.set_cons_zero, List.set_cons_succ, List.take_succ_cons, List.take_zero, List.drop_succ_cons, List.drop_zero, List.drop_nil, List.cons_append, List.nil_append, List.append_nil] at B6
   refine zD ?_
   refine ⟨RLB.at_, RBB.at_, rfl, fun w12 ρ' δ' hdr hl' hb' hbc' => ?_⟩
   replace LL := LL.drift0 hdr hszLL
   replace LS0 := LS0.drift0 hdr hszLS0
   replace LS1 := LS1.drift0 hdr (Nat.le_refl _)
   replace hM := hM.drift hdr
   replace hF := hF.drift hdr
   replace hs1B := Nat.le_trans hs1B hdr.size
   replace hs1 := Nat.le_trans hs1 hdr.size
   replace hT := hT.drift hdr noT
   replace h0 := h0.drift hdr noT
   replace h1 := h1.drift hdr noT
   replace RL := RL.drift_lt hdr ltRL
   replace RB := RB.drift_lt hdr ltRB
   replace hn10 := hn10.drift hdr noT
   replace hnb10 := hnb10.drift hdr noT
   replace He := He.drift hdr noT
   replace hn13 := hn13.drift hdr noT
   replace hnb13 := hnb13.drift hdr noT
   replace RLB : Rec (Mo v1 (Ins b6 (Ins b5 (Ins b4 (Ins b3 M))))) w12 l (.loop ρ') := ⟨hl', RLB.not⟩
   replace RBB : Rec (Mo v1 (Ins b6 (Ins b5 (Ins b4 (Ins b3 M))))) w12 b δ' := ⟨hb', RBB.not⟩
   replace B3 := B3.drift hdr (fun c => c)
   replace B4 := B4.drift hdr (fun c => c)
   replace B5 := B5.drift hdr (fun c => c)
   replace B6 := B6.drift hdr (fun c => c)
   replace Ow := qS Ow hdr (fun _ _ c => c)
   refine yC (zH (zB (zM rfl uG uH rfl B5 rfl rfl (zM rfl uG uH rfl B6 rfl rfl (zI rfl (bo func84) rfl rfl ?_)))))
   refine (mmeets_c (M := (Mo v1 (Ins b6 (Ins b5 (Ins b4 (Ins b3 M)))))) hT hn10 hnb10 hn13 hnb13 (by omega) (by omega) (by omega) (by omega) hM).mono ?_
   rintro v16 w13 ⟨hB16, xs16, xa16, xd16, xt16, xb16, xe16, xs16b, xa16b, xd16b, xt16b, xb16b, xe16b, rfl, hn16, hnb16⟩
   have Lw13 := Le.of_below (Fz := Fz) (M := (Mo v1 (Ins b6 (Ins b5 (Ins b4 (Ins b3 M)))))) hB16
   replace LL := LL.trans Lw13
   replace LS0 := LS0.trans Lw13
   replace LS1 := LS1.trans Lw13
   replace hM := hM.mono Lw13
   replace hF := hF.mono Lw13
   replace hT := hT.mono Lw13
   replace h0 := h0.mono Lw13
   replace h1 := h1.mono Lw13
   replace RL := RL.mono Lw13
   replace RB := RB.mono Lw13
   replace hn10 := hn10.mono Lw13
   replace hnb10 := hnb10.mono Lw13
   replace He := He.mono Lw13
   replace RLB := RLB.mono Lw13
   replace RBB := RBB.mono Lw13
   replace hn13 := hn13.mono Lw13
   replace hnb13 := hnb13.mono Lw13
   replace hs1 := Nat.le_trans hs1 Lw13.size
   replace hs1B := Nat.le_trans hs1B Lw13.size
   replace B3 := B3.below hB16
   replace B4 := B4.below hB16
   replace B5 := B5.below hB16
   replace B6 := B6.below hB16
   replace Ow := xK Ow hB16
   obtain ⟨oxa16, oxd16, oxb16, oxe16, _⟩ := hn16.one; obtain ⟨oxa16b, oxd16b, oxb16b, oxe16b, _⟩ := hnb16.one
   refine yI rfl uX (fun w14 b7 N7 => ?_)
   obtain ⟨hBw14, nF7, nM7, _, _⟩ := nz hF hM N7
   have Lw14 := Le.of_new_in (Fz := Fz) (M := (Ins b6 (Ins b5 (Ins b4 (Ins b3 M))))) (v := v1) N7
   replace Om := eL Ow N7 Om
   replace Ow := xK Ow hBw14
   obtain ⟨B3, ne3_7⟩ := bn B3 N7
   obtain ⟨B4, ne4_7⟩ := bn B4 N7
   obtain ⟨B5, ne5_7⟩ := bn B5 N7
   obtain ⟨B6, ne6_7⟩ := bn B6 N7
   replace LL := LL.trans Lw14
   replace LS0 := LS0.trans Lw14
   replace LS1 := LS1.trans Lw14
   replace hM := hM.mono Lw14
   replace hF := hF.mono Lw14
   replace hT := hT.mono Lw14
   replace h0 := h0.mono Lw14
   replace h1 := h1.mono Lw14
   replace RL := RL.mono Lw14
   replace RB := RB.mono Lw14
   replace hn10 := hn10.mono Lw14
   replace hnb10 := hnb10.mono Lw14
   replace He := He.mono Lw14
   replace RLB := RLB.mono Lw14
   replace RBB := RBB.mono Lw14
   replace hn13 := hn13.mono Lw14
   replace hnb13 := hnb13.mono Lw14
   replace hn16 := hn16.mono Lw14
   replace hnb16 := hnb16.mono Lw14
   replace hs1 := Nat.le_trans hs1 Lw14.size
   replace hs1B := Nat.le_trans hs1B Lw14.size
   have B7 := N7.blk
   rw [kZ] at B7
   refine zV rfl rfl uX B7 rfl rfl (zU (zU (zU (zU (zU (zU (zU (zU (zU (zU (zU (zU (zU xY))))))))))))) rfl (fun w15 Cw15 B7 => ?_)
   have Lw15 := Le.of_chg (M := (Mo v1 (Ins b7 (Ins b6 (Ins b5 (Ins b4 (Ins b3 M))))))) Cw15 (.inr zQ) nF7
   replace LL := LL.trans Lw15
   replace LS0 := LS0.trans Lw15
   replace LS1 := LS1.trans Lw15
   replace hM := hM.mono Lw15
   replace hF := hF.mono Lw15
   replace hT := hT.mono Lw15
   replace h0 := h0.mono Lw15
   replace h1 := h1.mono Lw15
   replace RL := RL.mono Lw15
   replace RB := RB.mono Lw15
   replace hn10 := hn10.mono Lw15
   replace hnb10 := hnb10.mono Lw15
   replace He := He.mono Lw15
   replace RLB := RLB.mono Lw15
   replace RBB := RBB.mono Lw15
   replace hn13 := hn13.mono Lw15
   replace hnb13 := hnb13.mono Lw15
   replace hn16 := hn16.mono Lw15
   replace hnb16 := hnb16.mono Lw15
   replace hs1 := Nat.le_trans hs1 Lw15.size
   replace hs1B := Nat.le_trans hs1B Lw15.size
   replace B3 := B3.other Cw15 ne3_7
   replace B4 := B4.other Cw15 ne4_7
   replace B5 := B5.other Cw15 ne5_7
   replace B6 := B6.other Cw15 ne6_7
   replace Ow := kM Ow Cw15 (fun h => Om _ h zQ)
   try simp only [List.set_cons_zero, List.set_cons_succ, List.take_succ_cons, List.take_zero, List.drop_succ_cons, List.drop_zero, List.drop_nil, List.cons_append, List.nil_append, List.append_nil] at B7
   refine zD (zH (zH (zB (zL 0 rfl yu43 rfl rfl sz41 rfl rfl (zT rfl flat41 rfl B7 rfl (gN rfl rfl rfl (zD ?_)))))))
   refine yA rfl (fun hc0 => ?_) (fun hc0 => ?_)
   ·refine xN (xO ?_)
    refine ⟨RLB.at_, RBB.at_, hs1B, fun _ c => c.elim, ?_⟩
    have hsb : ∀ k, (Mo v1 (Ins b5 (Ins b4 (Ins b3 M)))) k → (Mo v1 (Ins b7 (Ins b6 (Ins b5 (Ins b4 (Ins b3 M)))))) k := fun k c => c.imp id fun c => .inr (.inr c)
    rw [List.flatMap_append, show ([xB].flatMap fun t => bB (jZ x t)) = [] by simp [bB, hc0], List.append_nil]
    exact ⟨v1, LS1.trans (Le.less hsb), B3, B4, B5, Of, fun k hk c => Om k hk (.inr (.inr c)), cs2, Ow, He.mono (Fz := fun _ => False) (Le.less hsb)⟩
   ·refine yH (zB (zT rfl dB rfl B4 rfl (zL 1 rfl yu43 rfl rfl yR rfl rfl (zM rfl yL yR rfl B7 rfl rfl (zL 7 rfl yu43 rfl rfl yR rfl rfl (zM rfl yL yR rfl B7 rfl rfl (xA rfl yu63 yR rfl rfl rfl rfl (zX rfl (zX rfl xD)) rfl rfl rfl (fun w16 b25 N25 => ?_))))))))
    have hBw16 := N25.below
    have nM25 := hM.new N25
    have B25 := N25.blk
    have Lw16 := Le.of_below (Fz := Fz) (M := (Mo v1 (Ins b7 (Ins b6 (Ins b5 (Ins b4 (Ins b3 M))))))) hBw16
    replace LL := LL.trans Lw16
    replace LS0 := LS0.trans Lw16
    replace LS1 := LS1.trans Lw16
    replace hM := hM.mono Lw16
    replace hF := hF.mono Lw16
    replace hT := hT.mono Lw16
    replace h0 := h0.mono Lw16
    replace h1 := h1.mono Lw16
    replace RL := RL.mono Lw16
    replace RB := RB.mono Lw16
    replace hn10 := hn10.mono Lw16
    replace hnb10 := hnb10.mono Lw16
    replace He := He.mono Lw16
    replace RLB := RLB.mono Lw16
    replace RBB := RBB.mono Lw16
    replace hn13 := hn13.mono Lw16
    replace hnb13 := hnb13.mono Lw16
    replace hn16 := hn16.mono Lw16
    replace hnb16 := hnb16.mono Lw16
    replace hs1 := Nat.le_trans hs1 Lw16.size
    replace hs1B := Nat.le_trans hs1B Lw16.size
    replace B3 := B3.below hBw16
    replace B4 := B4.below hBw16
    replace B5 := B5.below hBw16
    replace B6 := B6.below hBw16
    replace B7 := B7.below hBw16
    replace Ow := xK Ow hBw16
    refine ops_appendk rfl yu63 yR rfl rfl rfl rfl Ow (((KBlk.mk B25 nM25)).blk.slc ((KBlk.mk B25 nM25)).not (sz := 6) (n := 2) rfl (fun _ _ h => h) (by omega) (Nat.le_refl _)) (fun u hu => by rcases List.mem_append.1 (show u ∈ [_, _, _, _, _, _] ++ [_, _, _, _, _, _] from hu) with h | h <;> exact ones6 (by assumption) (by assumption) (by assumption) (by assumption) _ h) (by omega) (by omega) (fun v26 w17 A26 G26 S26 => ?_)
    have Lw17 := Le.of_grown (Fz := Fz) (M := (Ins b7 (Ins b6 (Ins b5 (Ins b4 (Ins b3 M)))))) G26 S26 A26 Of
    have Omo26 := Om
    replace Of := jY (w' := w17) Of hF S26
    replace Om := jX (w' := w17) Om (fun k hk => hM k (.inr hk)) S26
    replace B3 := B3.grown G26 (fun h => Omo26 _ h (.inr (.inr (.inr (.inr zQ)))))
    replace B4 := B4.grown G26 (fun h => Omo26 _ h (.inr (.inr (.inr zQ))))
    replace B5 := B5.grown G26 (fun h => Omo26 _ h (.inr (.inr zQ)))
    replace B6 := B6.grown G26 (fun h => Omo26 _ h (.inr zQ))
    replace B7 := B7.grown G26 (fun h => Omo26 _ h zQ)
    replace LL := LL.trans Lw17
    replace LS0 := LS0.trans Lw17
    replace LS1 := LS1.trans Lw17
    replace hM := hM.mono Lw17
    replace hF := hF.mono Lw17
    replace hT := hT.mono Lw17
    replace h0 := h0.mono Lw17
    replace h1 := h1.mono Lw17
    replace RL := RL.mono Lw17
    replace RB := RB.mono Lw17
    replace hn10 := hn10.mono Lw17
    replace hnb10 := hnb10.mono Lw17
    replace He := He.mono Lw17
    replace RLB := RLB.mono Lw17
    replace RBB := RBB.mono Lw17
    replace hn13 := hn13.mono Lw17
    replace hnb13 := hnb13.mono Lw17
    replace hn16 := hn16.mono Lw17
    replace hnb16 := hnb16.mono Lw17
    replace hs1 := Nat.le_trans hs1 Lw17.size
    replace hs1B := Nat.le_trans hs1B Lw17.size
    clear Ow; have Ow := A26
    replace He := He.snoc (hn16.up (by omega))
    replace He := He.snoc (hnb16.up (by omega))
    refine jD rfl rfl sz63 B4 (by first | rfl | exact yZ (by assumption) | assumption | exact yX (by assumption)) (fun w18 Cw18 B4 => ?_)
    have Lw18 := Le.of_chg (M := (Mo v26 (Ins b7 (Ins b6 (Ins b5 (Ins b4 (Ins b3 M))))))) Cw18 (.inr (.inr (.inr (.inr zQ)))) nF4
    replace LS0 := LS0.trans Lw18
    replace LS1 := LS1.trans Lw18
    replace RL := RL.mono Lw18
    replace RB := RB.mono Lw18
    replace He := He.mono Lw18
    replace RLB := RLB.mono Lw18
    replace RBB := RBB.mono Lw18
    replace hs1B := Nat.le_trans hs1B Lw18.size
    replace B3 := B3.other Cw18 ne3_4
    replace B5 := B5.other Cw18 ne4_5.symm
    replace Ow := kM Ow Cw18 (fun h => Om _ h (.inr (.inr (.inr zQ))))
    refine zD ?_
    refine ⟨RLB.at_, RBB.at_, hs1B, fun _ c => c.elim, ?_⟩
    have hsb : ∀ k, (Mo v26 (Ins b5 (Ins b4 (Ins b3 M)))) k → (Mo v26 (Ins b7 (Ins b6 (Ins b5 (Ins b4 (Ins b3 M)))))) k := fun k c => c.imp id fun c => .inr (.inr c)
    rw [List.flatMap_append, show ([xB].flatMap fun t => bB (jZ x t)) = [(jZ x xB).2.1, (jZ x xB).2.2] by simp [bB, hc0], ← List.append_assoc]
    exact ⟨v26, LS1.trans (Le.less hsb), B3, B4, B5, Of, fun k hk c => Om k hk (.inr (.inr c)), _, by rw [List.length_append]; exact Ow, by
      have h := He.mono (Fz := fun _ => False) (Le.less hsb)
      simp only [List.append_assoc, List.cons_append, List.nil_append] at h ⊢; exact h⟩
  ·intro w19 hJ hZ hDd
   clear Ow He Of Om B3 B4 B5
   obtain ⟨v1, LS1, B3, B4, B5, Of, Om, cs2, Ow, He⟩ := hJ
   replace LS0 := LS0.trans LS1
   replace RL := RL.mono LS1
   replace RB := RB.mono LS1
   replace hs1 := Nat.le_trans hs1 LS1.size
   subst hprA
   refine ⟨RL.at_, RB.at_, hs1, fun _ c => c.elim, ?_⟩
   have hsb : ∀ k, (Mo v1 (Ins b4 (Ins b3 M))) k → (Mo v1 (Ins b5 (Ins b4 (Ins b3 M)))) k := fun k c => c.imp id .inr
   have e : dQ (prA ++ [x]) (gH q) = dQ prA (gH q) ++ (gH q).flatMap fun t => bB (jZ x t) := by simp [dQ]
   rw [e]
   exact ⟨v1, LS0.trans (Le.less hsb), B3, B4, Of, fun k hk c => Om k hk (.inr c), cs2, Ow, He.mono (Fz := fun _ => False) (Le.less hsb)⟩
 ·intro w20 hJ hZ hDd
  clear Ow He Of Om B3 B4
  obtain ⟨v0, LS0, B3, B4, Of, Om, cs, Ow, He⟩ := hJ
  replace LL := LL.trans LS0
  replace hM := hM.mono LS0
  replace hF := hF.mono LS0
  replace hT := hT.mono LS0
  replace h0 := h0.mono LS0
  replace h1 := h1.mono LS0
  replace Mk := Mk.mono LS0
  have hdd := hDd _ rfl rfl
  have RD : Rec (Mo v0 (Ins b4 (Ins b3 M))) w20 w3.heap.size (.deferred (some [])) := ⟨hdd, (bQ (qM Ow hdd (by simp)) (gP (Rec.ne hdd B4 (by simp)) (gP (Rec.ne hdd B3 (by simp)) (jT hM0 (by omega)))))⟩
  replace Mk := Mk.cons hszLL RD Mold0
  refine zH (zB ?_)
  have hrl : (dQ (gH p) (gH q)).length ≤ 500000 := by have h := rawL_len (gH q) (gH p); rw [aO, aO] at h; exact Nat.le_trans h (by have := Nat.mul_le_mul (Nat.mul_le_mul_left 2 hlq) hlp; omega)
  have hvr := vrow_own (Fz := Fz) Ow He (fun k h => .inl h) Of
  refine zT rfl dB rfl B4 rfl (zI rfl (bo func100) rfl rfl ?_)
  refine (sortv_c (Fz := Fz) (M := (Mo v0 (Ins b4 (Ins b3 M)))) hT hvr (by omega) (by omega) hF hM).mono ?_
  rintro v28 w21 ⟨Lw21, hkpw21, l1, hv1, hp1, hs1⟩
  replace LL := LL.trans Lw21
  replace LS0 := LS0.trans Lw21
  replace hM := hM.mono Lw21
  replace hF := hF.mono Lw21
  replace hT := hT.mono Lw21
  replace h0 := h0.mono Lw21
  replace h1 := h1.mono Lw21
  replace Mk := Mk.mono Lw21
  replace B3 := (show Blk w21 b3 63 [xa1] from (hkpw21 _ (fun c => Om _ c (.inr zQ)) B3.lt).trans B3)
  replace B4 := (show Blk w21 b4 63 [v0] from (hkpw21 _ (fun c => Om _ c zQ) B4.lt).trans B4)
  have hll1 := hp1.length_eq
  refine zD (zH (zB (zT rfl dB rfl B4 rfl (zI rfl (bo func102) rfl rfl ?_))))
  refine (compactv_c (Fz := Fz) (M := (Mo v0 (Ins b4 (Ins b3 M)))) hT hv1 (by omega) (by omega) hF hM).mono ?_
  rintro v30 w22 ⟨Lw22, hkpw22, hv2, ho2⟩
  replace LL := LL.trans Lw22
  replace LS0 := LS0.trans Lw22
  replace hM := hM.mono Lw22
  replace hF := hF.mono Lw22
  replace hT := hT.mono Lw22
  replace h0 := h0.mono Lw22
  replace h1 := h1.mono Lw22
  replace Mk := Mk.mono Lw22
  replace B3 := (show Blk w22 b3 63 [xa1] from (hkpw22 _ (fun c => Om _ c (.inr zQ)) B3.lt).trans B3)
  replace B4 := (show Blk w22 b4 63 [v0] from (hkpw22 _ (fun c => Om _ c zQ) B4.lt).trans B4)
  have ov30 := hv2.one
  have hres : PLc (Ins b4 (Ins b3 M)) w22 (8 * (n0 + n0 + n1 + n1) + 80) (qX l1 l1.length) v30 := vrow_pl hv2 (fun k c => .inr c) (fun k h => Om k (ho2 k h)) (by have := keep_len l1 l1.length; omega)
  have Lz : Le Fz (Mo v0 (Ins b4 (Ins b3 M))) w22 (Ins b4 (Ins b3 M)) w22 := Le.less (fun k c => .inr c)
  replace LL := LL.trans Lz
  replace LS0 := LS0.trans Lz
  replace hM := hM.mono Lz
  replace hF := hF.mono Lz
  replace hT := hT.mono Lz
  replace h0 := h0.mono Lz
  replace h1 := h1.mono Lz
  replace Mk := Mk.mono Lz
  refine jD rfl rfl sz63 B4 (by first | rfl | exact yZ (by assumption) | assumption | exact yX (by assumption)) (fun w23 Cw23 B4 => ?_)
  have Lw23 := Le.of_chg (M := (Ins b4 (Ins b3 M))) Cw23 zQ nF4
  replace LL := LL.trans Lw23
  replace LS0 := LS0.trans Lw23
  replace Mk := Mk.mono Lw23
  replace hres := hres.mono Lw23
  refine zD (zW ?_)
  refine gB Mk (fun wz hz => ⟨[_], ⟨⟨_, rfl, bS dB (B4.drift hz (fun c => c)) rfl⟩, trivial⟩, ?_⟩)
  dsimp only [xW]
  subst hFz
  exact ⟨SL.Bel.drift (LL.b) hz (Nat.le_refl _), _, all_of_sort hp1 hs1, (hres.less (fun k c => .inr (.inr c))).drift hz noT⟩
end Go.Proofs.YtfkejnlohkgbgaaGreatDoor
set_option maxRecDepth 100000
namespace Go.Proofs.YtfkejnlohkgbgaaGreatDoor
open Go.SL Go.RowKit Go.Proofs Tryz
variable {M : Nat → Prop} {w : World}
theorem long_not' {l : List N4} (h : eT l = false) : ∀ x ∈ l, m4 x ≤ 2 := by
  unfold eT at h
  rw [decide_eq_false_iff_not] at h
  exact fun x hx => Nat.not_lt.1 fun c => h ⟨x, hx, c⟩
theorem mem_take_succ {l : List P2} {k : Nat} {x : P2} (h : k < l.length) : x ∈ l.take (k + 1) ↔ x ∈ l.take k ∨ l.getD k (0, 0) = x := by
  rw [(qA (0, 0) h).1, List.mem_append, List.mem_singleton]
  exact ⟨fun c => c.imp id Eq.symm, fun c => c.imp id Eq.symm⟩
def pq' (x : PtR) : P2 := (mkRat (zv x.1 x.2.1) (val x.2.2.1), mkRat (zv x.2.2.2.1 x.2.2.2.2.1) (val x.2.2.2.2.2))
def fF (x : PtR) : N4 := (x.2.1.length, x.2.2.1.length, x.2.2.2.2.1.length, x.2.2.2.2.2.length)
def mxp (l : List PtR) : Nat := l.foldr (fun x n => max (m4 (fF x)) n) 0
theorem mxp_mem : ∀ {l : List PtR} {x : PtR}, x ∈ l → m4 (fF x) ≤ mxp l
  | y :: l, x, h => by
    have e : mxp (y :: l) = max (m4 (fF y)) (mxp l) := rfl
    rw [e]
    rcases List.mem_cons.1 h with rfl | h
    · omega
    · have := mxp_mem h; omega
theorem mxp_le : ∀ {l : List PtR}, (∀ x ∈ l, m4 (fF x) ≤ 2) → mxp l ≤ 2
  | [], _ => by simp [mxp]
  | y :: l, h => by
    have e : mxp (y :: l) = max (m4 (fF y)) (mxp l) := rfl
    rw [e]
    have h1 := h y (by simp)
    have h2 := mxp_le (l := l) fun x hx => h x (by simp [hx])
    omega
theorem row_map {α β : Type} {R : aA α} {S : aA β} {k : Nat} {v : Value} {l : List α} (f : α → β) (h : RowOf R k M w v l) (hR : ∀ a ∈ l, ∀ us, R M w a us → S M w (f a) us) : RowOf S k M w v (l.map f) := by
  obtain ⟨cs, h1, h2⟩ := h
  refine ⟨cs, by simpa using h1, fun i a ha => ?_⟩
  rw [List.getElem?_map] at ha
  cases hl : l[i]? with
  | none => rw [hl] at ha; cases ha
  | some x =>
    rw [hl] at ha
    obtain rfl := Option.some.inj ha
    obtain ⟨us, h3, h4, h5⟩ := h2 i x hl
    exact ⟨us, h3, h4, hR x (List.mem_of_getElem? hl) us h5⟩
theorem pl_of {v : Value} {l : List PtR} (h : IsPts M w v l) : PL M w (mxp l) (l.map pq') v :=
  ⟨row_map pq' h.row fun x hx us ⟨a, d, b, e, e0, g1, g2, g3, g4⟩ => by
    have hm := mxp_mem hx
    unfold m4 fF at hm; simp only at hm
    exact ⟨_, _, _, _, _, _, e0, ⟨x.2.1, x.2.2.1, g1, g2, by omega, by omega, rfl⟩, ⟨x.2.2.2.2.1, x.2.2.2.2.2, g3, g4, by omega, by omega, rfl⟩⟩⟩
theorem natp_sl {v : Value} {xs : List Nat} (h : IsNat M w v xs) : ∃ p c, v = .slice p xs.length c := by
  obtain ⟨_, _, ad, cap, e, _⟩ := h.slc
  exact ⟨ad, cap, by simpa using e⟩
theorem q4l_of {v : Value} {l : List PtR} (h : IsPts M w v l) : Q4L M w 0 (l.map fF) v :=
  ⟨row_map fF h.row fun x hx us ⟨a, d, b, e, e0, g1, g2, g3, g4⟩ => ⟨_, _, _, _, _, _, e0, natp_sl g1, natp_sl g2, natp_sl g3, natp_sl g4⟩⟩
theorem len4_len {l : List PtR} : (l.map fF).length = (l.map pq').length := by simp
theorem long_mx {l : List PtR} (h : eT (l.map fF) = false) : mxp l ≤ 2 := mxp_le fun x hx => long_not' h _ (List.mem_map_of_mem hx)
theorem law_MeetAll {p : List P2} {n0 : Nat} {xa0 : Value} {q : List P2} {n1 : Nat} {xa1 : Value} (hT : Tab M w) (h0 : PL M w n0 p xa0) (h1 : PL M w n1 q xa1) {l0 l1 : List N4} (z0 : Q4L M w 0 l0 xa0) (hll0 : l0.length = p.length) (hz0 : eT l0 = false → n0 ≤ 2) (z1 : Q4L M w 0 l1 xa1) (hll1 : l1.length = q.length) (hz1 : eT l1 = false → n1 ≤ 2) (hM : OkM M w) :
    CallsV prog 7 [xa0, xa1] w fun r w' => Bel w.heap.size w w' ∧ r = .bool true := by
 have hlp := h0.len
 have hlq := h1.len
 refine ci M func7 ntmps7 fun Fz hFz hF LL => ?_
 refine zH (zB (zF rfl rfl (zD (zH (zH (zB (zA rfl rfl (gQ rfl yu63 rfl h0.row (zA rfl rfl (gQ rfl yu63 rfl h1.row (aC rfl rfl rfl (uD rfl rfl rfl (zA rfl rfl (gE (d := 17) rfl (fun hg1_6 => ?_) (fun hg1_6 => ?_)))))))))))))))
 ·refine zR rfl rfl rfl rfl (zR rfl rfl rfl rfl (yW rfl rfl rfl (zA rfl rfl (zR rfl rfl rfl rfl (zR rfl rfl rfl rfl (yW rfl rfl rfl (zD (kT rfl (zH (zB (zI rfl (bo func25) rfl rfl ?_)))))))))))
  refine (wakes_c hT   hM).mono ?_
  rintro v25 w1 ⟨hB25, rfl⟩
  replace LL := ub1 hB25 LL
  refine zF rfl rfl (zD (zW ?_))
  refine lv1 ⟨rfl, trivial⟩ ?_
  subst hFz
  exact ⟨LL.b, rfl⟩
 ·refine zO rfl rfl (zA rfl rfl (zO rfl rfl (zI rfl (bo func24) rfl rfl ?_)))
  refine (long_c z0 (by omega) (by omega) hM).mono ?_
  rintro v19 w2 ⟨hB19, rfl⟩
  obtain ⟨LL, hM, hT, h0, h1, z1⟩ := ub6 hB19 LL hM hT h0 h1 z1
  refine yW rfl rfl rfl (zA rfl rfl (bH (d := 21) rfl (fun hg1_10 => ?_) (fun hg1_10 => ?_)))
  ·refine zR rfl rfl rfl rfl (zR rfl rfl rfl rfl (yW rfl rfl rfl (zD (kT rfl (zH (zB (zI rfl (bo func25) rfl rfl ?_)))))))
   refine (wakes_c hT   hM).mono ?_
   rintro v25 w3 ⟨hB25, rfl⟩
   replace LL := ub1 hB25 LL
   refine zF rfl rfl (zD (zW ?_))
   refine lv1 ⟨rfl, trivial⟩ ?_
   subst hFz
   exact ⟨LL.b, rfl⟩
  ·refine zO rfl rfl (zA rfl rfl (zO rfl rfl (zI rfl (bo func24) rfl rfl ?_)))
   refine (long_c z1 (by omega) (by omega) hM).mono ?_
   rintro v23 w4 ⟨hB23, rfl⟩
   obtain ⟨LL, hM, hT, h0, h1⟩ := ub5 hB23 LL hM hT h0 h1
   refine yW rfl rfl rfl (zD ?_)
   refine qI rfl (fun hc0 => ?_) (fun hc0 => ?_)
   ·refine zH (zB (zI rfl (bo func25) rfl rfl ?_))
    refine (wakes_c hT   hM).mono ?_
    rintro v25 w5 ⟨hB25, rfl⟩
    replace LL := ub1 hB25 LL
    refine zF rfl rfl (zD (zW ?_))
    refine lv1 ⟨rfl, trivial⟩ ?_
    subst hFz
    exact ⟨LL.b, rfl⟩
   ·have hn0 := hz0 (by simpa using hg1_10)
    have hn1 := hz1 (by simpa using hc0)
    refine yH (zH (zB (zA rfl rfl (zA rfl rfl (zI rfl (bo func42) rfl rfl ?_)))))
    refine (mall_c hT h0 h1 (by omega) (by omega) (by omega) (by omega) hM).mono ?_
    rintro v28 w6 ⟨hB28, lA, hA1, hn28⟩
    obtain ⟨LL, hM, hT, h0, h1⟩ := ub5 hB28 LL hM hT h0 h1
    obtain ⟨onr28, _⟩ := hn28.one; have hln28 := hn28.len
    refine zF rfl rfl (zD (zH (zH (zB (zF rfl rfl (zD (yC ?_)))))))
    refine xP (σ := Nat) [(0, _), (1, _), (5, _)] (fun s => [(6, .int .i64 ((s : Nat) : Int))]) (fun s w7 => Le Fz M w6 M w7 ∧ s ≤ lA.length) (fun s => lA.length - s) (0) (zG rfl (zG rfl (zG rfl (zG rfl yE)))) ?_ (fun s w7 hJ => ?_)
    · exact ⟨Le.refl _ _ _, by omega⟩
    ·obtain ⟨LR, hk⟩ := hJ
     obtain ⟨LL, hM, hT, h0, h1, hn28⟩ := up6 LR LL hM hT h0 h1 hn28
     refine zH (zH (zB (zA rfl rfl (zA rfl rfl (gQ rfl yu63 rfl hn28.row (jI rfl rfl rfl (zD ?_)))))))
     refine yA rfl (fun hc1 => ?_) (fun hc1 => ?_)
     ·refine yH (zH (yC (zH ?_)))
      by_cases hg7_2 : (0 : Int) < ((s : Nat) : Int)
      ·skip
       refine wd mixed 30 [0, 1, 5, 6, 59, 60, 64] (qV (by decide +kernel)) ?_
       refine zN (fun _ _ _ => zP rfl rfl (zC (zA rfl rfl (on0 rfl)))) ?_
       refine zN (fun _ _ _ => zK rfl (zC (uD rfl rfl rfl (on0 rfl)))) ?_
       refine zS (Ex (.bool true)) xU (fun wq hR hst => ?_) ?_
       ·refine zK rfl (zC ?_)
        exact zA rfl rfl (zD ⟨rfl, zY _, _, rfl, congrArg Value.bool (decide_eq_true hg7_2)⟩)
       refine dv (fun v w => ∃ xa38, v = xa38 ∧ PLc M w (8 * (n0 + n0 + n1 + n1) + 80) (lA) xa38) (fun wq hR hst => ?_) ?_
       ·refine zP rfl rfl (zK rfl (zC ?_))
        replace hn28 := ub1 hR hn28
        exact zO rfl rfl (zA rfl rfl (zD ⟨rfl, zY _, _, rfl, ⟨_, rfl, hn28⟩⟩))
       refine zN (fun _ _ _ => zP rfl rfl (zK rfl (zC (zO rfl rfl (zA rfl rfl (on0 rfl)))))) ?_
       apply zN
       ·intro wq hR hst
        refine zK rfl (zK rfl (zC ?_))
        exact zO rfl rfl (jS rfl rfl rfl (by omega) (on0 rfl))
       refine dv (rPC M (8 * (n0 + n0 + n1 + n1) + 80) (lA.getD (s - 1) (0, 0))) (fun wq hR hst => ?_) ?_
       ·refine yD rfl (fun v38 hp38 => ?_)
        obtain ⟨xa38, rfl, hn38⟩ := hp38
        refine zK rfl (zK rfl (zC ?_))
        refine zO rfl rfl (jL (dflt := ((0, 0) : P2)) (s - 1) rfl yu63 yR rfl rfl hn38.row (by first | rfl | omega) (by first | omega | (simp; omega) | simp) (fun b41 o41 us41 hul41 hu41 hc41 => ?_))
        obtain ⟨xs41, xa41, xd41, xt41, xb41, xe41, rfl, hn41⟩ := hu41
        exact on1 (zY _) rfl ⟨b41, o41, _, _, _, _, _, _, rfl, hc41, hn41⟩
       refine zS (vPC M (8 * (n0 + n0 + n1 + n1) + 80) (lA.getD (s - 1) (0, 0))) qZ (fun wq hR hst => ?_) ?_
       ·refine yD rfl (fun v41 hp41 => ?_)
        obtain ⟨b41, o41, xs41, xa41, xd41, xt41, xb41, xe41, rfl, hc41, hn41⟩ := hp41
        refine zK rfl (zC ?_)
        exact zO rfl rfl (jF rfl yL yR rfl hc41 rfl (zD ⟨rfl, zY _, _, rfl, ⟨_, _, _, _, _, _, rfl, hn41⟩⟩))
       refine dv (fun v w => ∃ xa43, v = xa43 ∧ PLc M w (8 * (n0 + n0 + n1 + n1) + 80) (lA) xa43) (fun wq hR hst => ?_) ?_
       ·refine zP rfl rfl (zK rfl (zC ?_))
        replace hn28 := ub1 hR hn28
        exact zO rfl rfl (zA rfl rfl (zD ⟨rfl, zY _, _, rfl, ⟨_, rfl, hn28⟩⟩))
       refine zN (fun _ _ _ => zP rfl rfl (zK rfl (zC (zO rfl rfl (zA rfl rfl (on0 rfl)))))) ?_
       refine dv (rPC M (8 * (n0 + n0 + n1 + n1) + 80) (lA.getD s (0, 0))) (fun wq hR hst => ?_) ?_
       ·refine yD rfl (fun v43 hp43 => ?_)
        obtain ⟨xa43, rfl, hn43⟩ := hp43
        refine zK rfl (zK rfl (zC ?_))
        refine zO rfl rfl (jL (dflt := ((0, 0) : P2)) (s) rfl yu63 yR rfl rfl hn43.row (by first | rfl | omega) (by first | omega | (simp; omega) | simp) (fun b45 o45 us45 hul45 hu45 hc45 => ?_))
        obtain ⟨xs45, xa45, xd45, xt45, xb45, xe45, rfl, hn45⟩ := hu45
        exact on1 (zY _) rfl ⟨b45, o45, _, _, _, _, _, _, rfl, hc45, hn45⟩
       refine zS (vPC M (8 * (n0 + n0 + n1 + n1) + 80) (lA.getD s (0, 0))) qZ (fun wq hR hst => ?_) ?_
       ·refine yD rfl (fun v45 hp45 => ?_)
        obtain ⟨b45, o45, xs45, xa45, xd45, xt45, xb45, xe45, rfl, hc45, hn45⟩ := hp45
        refine zK rfl (zC ?_)
        exact zO rfl rfl (jF rfl yL yR rfl hc45 rfl (zD ⟨rfl, zY _, _, rfl, ⟨_, _, _, _, _, _, rfl, hn45⟩⟩))
       refine zS (Ex (.int .i64 (qO (lA.getD (s - 1) (0, 0)) (lA.getD s (0, 0))))) xU (fun wq hR hst => ?_) ?_
       ·refine yD rfl (fun v42 hp42 => ?_)
        obtain ⟨xs42, xa42, xd42, xt42, xb42, xe42, rfl, hn42⟩ := hp42
        refine yD rfl (fun v46 hp46 => ?_)
        obtain ⟨xs46, xa46, xd46, xt46, xb46, xe46, rfl, hn46⟩ := hp46
        refine zK rfl (zC ?_)
        replace hM := ub1 hR hM
        refine zO rfl rfl (zI rfl (bo func36) rfl rfl ?_)
        refine (r8cmp_c hn42.gen hn46.gen (by omega) (by omega) hM).mono ?_
        rintro v47 w8 ⟨hB47, rfl⟩
        exact on1 hB47 rfl rfl
       refine zS (Ex (.bool false)) xU (fun wq hR hst => ?_) ?_
       ·refine zK rfl (zK rfl (zC ?_))
        exact zO rfl rfl (aM rfl rfl rfl (zD ⟨rfl, zY _, _, rfl, congrArg Value.bool (decide_eq_false (by have := all_rise hA1 (i := s - 1) (by omega); rw [show s - 1 + 1 = s by omega] at this; omega))⟩))
       refine zS (Ex (.bool false)) xU (fun wq hR hst => ?_) ?_
       ·refine zK rfl (zK rfl (zC ?_))
        exact yW rfl rfl rfl (on0 rfl)
       refine zS (Ex (.bool false)) xU (fun wq hR hst => ?_) ?_
       ·refine zK rfl (zC ?_)
        exact zA rfl rfl (on0 rfl)
       refine dv (fun v w => ∃ xa51, v = xa51 ∧ PL M w (n0) (p) xa51) (fun wq hR hst => ?_) ?_
       ·refine zP rfl rfl (zK rfl (zC ?_))
        replace h0 := ub1 hR h0
        exact zO rfl rfl (zA rfl rfl (zD ⟨rfl, zY _, _, rfl, ⟨_, rfl, h0⟩⟩))
       refine dv (fun v w => ∃ xa52, v = xa52 ∧ PLc M w (8 * (n0 + n0 + n1 + n1) + 80) (lA) xa52) (fun wq hR hst => ?_) ?_
       ·refine zP rfl rfl (zK rfl (zC ?_))
        replace hn28 := ub1 hR hn28
        exact zO rfl rfl (zA rfl rfl (zD ⟨rfl, zY _, _, rfl, ⟨_, rfl, hn28⟩⟩))
       refine zN (fun _ _ _ => zP rfl rfl (zK rfl (zC (zO rfl rfl (zA rfl rfl (on0 rfl)))))) ?_
       refine dv (rPC M (8 * (n0 + n0 + n1 + n1) + 80) (lA.getD s (0, 0))) (fun wq hR hst => ?_) ?_
       ·refine yD rfl (fun v52 hp52 => ?_)
        obtain ⟨xa52, rfl, hn52⟩ := hp52
        refine zK rfl (zK rfl (zC ?_))
        refine zO rfl rfl (jL (dflt := ((0, 0) : P2)) (s) rfl yu63 yR rfl rfl hn52.row (by first | rfl | omega) (by first | omega | (simp; omega) | simp) (fun b54 o54 us54 hul54 hu54 hc54 => ?_))
        obtain ⟨xs54, xa54, xd54, xt54, xb54, xe54, rfl, hn54⟩ := hu54
        exact on1 (zY _) rfl ⟨b54, o54, _, _, _, _, _, _, rfl, hc54, hn54⟩
       refine zS (vPC M (8 * (n0 + n0 + n1 + n1) + 80) (lA.getD s (0, 0))) qZ (fun wq hR hst => ?_) ?_
       ·refine yD rfl (fun v54 hp54 => ?_)
        obtain ⟨b54, o54, xs54, xa54, xd54, xt54, xb54, xe54, rfl, hc54, hn54⟩ := hp54
        refine zK rfl (zC ?_)
        exact zO rfl rfl (jF rfl yL yR rfl hc54 rfl (zD ⟨rfl, zY _, _, rfl, ⟨_, _, _, _, _, _, rfl, hn54⟩⟩))
       refine zS (Ex (.bool true)) xU (fun wq hR hst => ?_) ?_
       ·refine yD rfl (fun v51 hp51 => ?_)
        obtain ⟨xa51, rfl, hn51⟩ := hp51
        refine yD rfl (fun v55 hp55 => ?_)
        obtain ⟨xs55, xa55, xd55, xt55, xb55, xe55, rfl, hn55⟩ := hp55
        refine zK rfl (zC ?_)
        replace hM := ub1 hR hM
        refine zO rfl rfl (zI rfl (bo func43) rfl rfl ?_)
        refine (border_c hn51 hn55.gen (by omega) (by omega) (by omega) hM).mono ?_
        rintro v56 w9 ⟨hB56, rfl⟩
        exact on1 hB56 rfl (congrArg Value.bool (decide_eq_true (all_border hA1 (dA (0, 0) (show s < lA.length by omega))).1))
       refine zS (Ex (.bool false)) xU (fun wq hR hst => ?_) ?_
       ·refine zK rfl (zK rfl (zC ?_))
        exact zO rfl rfl (gX rfl rfl (on0 rfl))
       refine zS (Ex (.bool false)) xU (fun wq hR hst => ?_) ?_
       ·refine zK rfl (zK rfl (zC ?_))
        exact yW rfl rfl rfl (on0 rfl)
       refine zS (Ex (.bool false)) xU (fun wq hR hst => ?_) ?_
       ·refine zK rfl (zC ?_)
        exact zA rfl rfl (on0 rfl)
       refine dv (fun v w => ∃ xa60, v = xa60 ∧ PL M w (n1) (q) xa60) (fun wq hR hst => ?_) ?_
       ·refine zP rfl rfl (zK rfl (zC ?_))
        replace h1 := ub1 hR h1
        exact zO rfl rfl (zA rfl rfl (zD ⟨rfl, zY _, _, rfl, ⟨_, rfl, h1⟩⟩))
       refine dv (fun v w => ∃ xa61, v = xa61 ∧ PLc M w (8 * (n0 + n0 + n1 + n1) + 80) (lA) xa61) (fun wq hR hst => ?_) ?_
       ·refine zP rfl rfl (zK rfl (zC ?_))
        replace hn28 := ub1 hR hn28
        exact zO rfl rfl (zA rfl rfl (zD ⟨rfl, zY _, _, rfl, ⟨_, rfl, hn28⟩⟩))
       refine zN (fun _ _ _ => zP rfl rfl (zK rfl (zC (zO rfl rfl (zA rfl rfl (on0 rfl)))))) ?_
       refine dv (rPC M (8 * (n0 + n0 + n1 + n1) + 80) (lA.getD s (0, 0))) (fun wq hR hst => ?_) ?_
       ·refine yD rfl (fun v61 hp61 => ?_)
        obtain ⟨xa61, rfl, hn61⟩ := hp61
        refine zK rfl (zK rfl (zC ?_))
        refine zO rfl rfl (jL (dflt := ((0, 0) : P2)) (s) rfl yu63 yR rfl rfl hn61.row (by first | rfl | omega) (by first | omega | (simp; omega) | simp) (fun b63 o63 us63 hul63 hu63 hc63 => ?_))
        obtain ⟨xs63, xa63, xd63, xt63, xb63, xe63, rfl, hn63⟩ := hu63
        exact on1 (zY _) rfl ⟨b63, o63, _, _, _, _, _, _, rfl, hc63, hn63⟩
       refine zS (vPC M (8 * (n0 + n0 + n1 + n1) + 80) (lA.getD s (0, 0))) qZ (fun wq hR hst => ?_) ?_
       ·refine yD rfl (fun v63 hp63 => ?_)
        obtain ⟨b63, o63, xs63, xa63, xd63, xt63, xb63, xe63, rfl, hc63, hn63⟩ := hp63
        refine zK rfl (zC ?_)
        exact zO rfl rfl (jF rfl yL yR rfl hc63 rfl (zD ⟨rfl, zY _, _, rfl, ⟨_, _, _, _, _, _, rfl, hn63⟩⟩))
       refine xI (fun wq7 hR7 hpost7 => ?_)
       refine zP rfl rfl (zP rfl rfl (zP rfl rfl (zP rfl rfl (zK rfl (yD rfl (fun v60 hp60 => ?_))))))
       obtain ⟨xa60, rfl, hn60⟩ := hp60
       refine yD rfl (fun v64 hp64 => ?_)
       obtain ⟨xs64, xa64, xd64, xt64, xb64, xe64, rfl, hn64⟩ := hp64
       refine zC ?_
       simp only [jC, jB, jA, xZ]
       obtain ⟨LR, hM⟩ := ub2 hR7 LR hM
       refine zO rfl rfl (zI rfl (bo func43) rfl rfl ?_)
       refine (border_c hn60 hn64.gen (by omega) (by omega) (by omega) hM).mono ?_
       rintro v65 w10 ⟨hB65, rfl⟩
       replace LR := ub1 hB65 LR
       refine fD (d := 65) rfl (decide_eq_true (all_border hA1 (dA (0, 0) (show s < lA.length by omega))).2) (zO rfl rfl (gX rfl rfl (yW rfl rfl rfl (zD (uL rfl (yH (zB (zA rfl rfl (xC rfl rfl rfl (by omega) (zF rfl rfl (zD ?_)))))))))))
       refine ⟨rfl, s + 1, (zZ rfl (by rw [Int.natCast_add]; rfl) (zG rfl (zG rfl (zG rfl yE)))), ?_, ?_⟩
       exact ⟨LR, by omega⟩
       omega
      ·skip
       refine wd mixed 30 [0, 1, 5, 6, 59, 60, 64] (qV (by decide +kernel)) ?_
       refine zN (fun _ _ _ => zP rfl rfl (zC (zA rfl rfl (on0 rfl)))) ?_
       refine zN (fun _ _ _ => zK rfl (zC (uD rfl rfl rfl (on0 rfl)))) ?_
       refine zS (Ex (.bool false)) xU (fun wq hR hst => ?_) ?_
       ·refine zK rfl (zC ?_)
        exact zA rfl rfl (zD ⟨rfl, zY _, _, rfl, congrArg Value.bool (decide_eq_false hg7_2)⟩)
       refine zN (fun _ _ _ => zP rfl rfl (zK rfl (zC (zR rfl rfl rfl rfl (on0 rfl))))) ?_
       refine zN (fun _ _ _ => zP rfl rfl (zK rfl (zC (zR rfl rfl rfl rfl (on0 rfl))))) ?_
       refine zN (fun _ _ _ => zK rfl (zK rfl (zC (zR rfl rfl rfl rfl (on0 rfl))))) ?_
       refine zN (fun _ _ _ => zK rfl (zK rfl (zK rfl (zC (zR rfl rfl rfl rfl (on0 rfl)))))) ?_
       refine zN (fun _ _ _ => zK rfl (zK rfl (zC (zR rfl rfl rfl rfl (on0 rfl))))) ?_
       refine zN (fun _ _ _ => zP rfl rfl (zK rfl (zC (zR rfl rfl rfl rfl (on0 rfl))))) ?_
       refine zN (fun _ _ _ => zP rfl rfl (zK rfl (zC (zR rfl rfl rfl rfl (on0 rfl))))) ?_
       refine zN (fun _ _ _ => zK rfl (zK rfl (zK rfl (zC (zR rfl rfl rfl rfl (on0 rfl)))))) ?_
       refine zN (fun _ _ _ => zK rfl (zK rfl (zC (zR rfl rfl rfl rfl (on0 rfl))))) ?_
       refine zN (fun _ _ _ => zK rfl (zK rfl (zK rfl (zC (zR rfl rfl rfl rfl (on0 rfl)))))) ?_
       refine zN (fun _ _ _ => zK rfl (zK rfl (zC (zR rfl rfl rfl rfl (on0 rfl))))) ?_
       refine zS (Ex (.bool false)) xU (fun wq hR hst => ?_) ?_
       ·refine zK rfl (zK rfl (zC ?_))
        exact yW rfl rfl rfl (on0 rfl)
       refine zS (Ex (.bool false)) xU (fun wq hR hst => ?_) ?_
       ·refine zK rfl (zC ?_)
        exact zA rfl rfl (on0 rfl)
       refine dv (fun v w => ∃ xa51, v = xa51 ∧ PL M w (n0) (p) xa51) (fun wq hR hst => ?_) ?_
       ·refine zP rfl rfl (zK rfl (zC ?_))
        replace h0 := ub1 hR h0
        exact zO rfl rfl (zA rfl rfl (zD ⟨rfl, zY _, _, rfl, ⟨_, rfl, h0⟩⟩))
       refine dv (fun v w => ∃ xa52, v = xa52 ∧ PLc M w (8 * (n0 + n0 + n1 + n1) + 80) (lA) xa52) (fun wq hR hst => ?_) ?_
       ·refine zP rfl rfl (zK rfl (zC ?_))
        replace hn28 := ub1 hR hn28
        exact zO rfl rfl (zA rfl rfl (zD ⟨rfl, zY _, _, rfl, ⟨_, rfl, hn28⟩⟩))
       refine zN (fun _ _ _ => zP rfl rfl (zK rfl (zC (zO rfl rfl (zA rfl rfl (on0 rfl)))))) ?_
       refine dv (rPC M (8 * (n0 + n0 + n1 + n1) + 80) (lA.getD s (0, 0))) (fun wq hR hst => ?_) ?_
       ·refine yD rfl (fun v52 hp52 => ?_)
        obtain ⟨xa52, rfl, hn52⟩ := hp52
        refine zK rfl (zK rfl (zC ?_))
        refine zO rfl rfl (jL (dflt := ((0, 0) : P2)) (s) rfl yu63 yR rfl rfl hn52.row (by first | rfl | omega) (by first | omega | (simp; omega) | simp) (fun b54 o54 us54 hul54 hu54 hc54 => ?_))
        obtain ⟨xs54, xa54, xd54, xt54, xb54, xe54, rfl, hn54⟩ := hu54
        exact on1 (zY _) rfl ⟨b54, o54, _, _, _, _, _, _, rfl, hc54, hn54⟩
       refine zS (vPC M (8 * (n0 + n0 + n1 + n1) + 80) (lA.getD s (0, 0))) qZ (fun wq hR hst => ?_) ?_
       ·refine yD rfl (fun v54 hp54 => ?_)
        obtain ⟨b54, o54, xs54, xa54, xd54, xt54, xb54, xe54, rfl, hc54, hn54⟩ := hp54
        refine zK rfl (zC ?_)
        exact zO rfl rfl (jF rfl yL yR rfl hc54 rfl (zD ⟨rfl, zY _, _, rfl, ⟨_, _, _, _, _, _, rfl, hn54⟩⟩))
       refine zS (Ex (.bool true)) xU (fun wq hR hst => ?_) ?_
       ·refine yD rfl (fun v51 hp51 => ?_)
        obtain ⟨xa51, rfl, hn51⟩ := hp51
        refine yD rfl (fun v55 hp55 => ?_)
        obtain ⟨xs55, xa55, xd55, xt55, xb55, xe55, rfl, hn55⟩ := hp55
        refine zK rfl (zC ?_)
        replace hM := ub1 hR hM
        refine zO rfl rfl (zI rfl (bo func43) rfl rfl ?_)
        refine (border_c hn51 hn55.gen (by omega) (by omega) (by omega) hM).mono ?_
        rintro v56 w11 ⟨hB56, rfl⟩
        exact on1 hB56 rfl (congrArg Value.bool (decide_eq_true (all_border hA1 (dA (0, 0) (show s < lA.length by omega))).1))
       refine zS (Ex (.bool false)) xU (fun wq hR hst => ?_) ?_
       ·refine zK rfl (zK rfl (zC ?_))
        exact zO rfl rfl (gX rfl rfl (on0 rfl))
       refine zS (Ex (.bool false)) xU (fun wq hR hst => ?_) ?_
       ·refine zK rfl (zK rfl (zC ?_))
        exact yW rfl rfl rfl (on0 rfl)
       refine zS (Ex (.bool false)) xU (fun wq hR hst => ?_) ?_
       ·refine zK rfl (zC ?_)
        exact zA rfl rfl (on0 rfl)
       refine dv (fun v w => ∃ xa60, v = xa60 ∧ PL M w (n1) (q) xa60) (fun wq hR hst => ?_) ?_
       ·refine zP rfl rfl (zK rfl (zC ?_))
        replace h1 := ub1 hR h1
        exact zO rfl rfl (zA rfl rfl (zD ⟨rfl, zY _, _, rfl, ⟨_, rfl, h1⟩⟩))
       refine dv (fun v w => ∃ xa61, v = xa61 ∧ PLc M w (8 * (n0 + n0 + n1 + n1) + 80) (lA) xa61) (fun wq hR hst => ?_) ?_
       ·refine zP rfl rfl (zK rfl (zC ?_))
        replace hn28 := ub1 hR hn28
        exact zO rfl rfl (zA rfl rfl (zD ⟨rfl, zY _, _, rfl, ⟨_, rfl, hn28⟩⟩))
       refine zN (fun _ _ _ => zP rfl rfl (zK rfl (zC (zO rfl rfl (zA rfl rfl (on0 rfl)))))) ?_
       refine dv (rPC M (8 * (n0 + n0 + n1 + n1) + 80) (lA.getD s (0, 0))) (fun wq hR hst => ?_) ?_
       ·refine yD rfl (fun v61 hp61 => ?_)
        obtain ⟨xa61, rfl, hn61⟩ := hp61
        refine zK rfl (zK rfl (zC ?_))
        refine zO rfl rfl (jL (dflt := ((0, 0) : P2)) (s) rfl yu63 yR rfl rfl hn61.row (by first | rfl | omega) (by first | omega | (simp; omega) | simp) (fun b63 o63 us63 hul63 hu63 hc63 => ?_))
        obtain ⟨xs63, xa63, xd63, xt63, xb63, xe63, rfl, hn63⟩ := hu63
        exact on1 (zY _) rfl ⟨b63, o63, _, _, _, _, _, _, rfl, hc63, hn63⟩
       refine zS (vPC M (8 * (n0 + n0 + n1 + n1) + 80) (lA.getD s (0, 0))) qZ (fun wq hR hst => ?_) ?_
       ·refine yD rfl (fun v63 hp63 => ?_)
        obtain ⟨b63, o63, xs63, xa63, xd63, xt63, xb63, xe63, rfl, hc63, hn63⟩ := hp63
        refine zK rfl (zC ?_)
        exact zO rfl rfl (jF rfl yL yR rfl hc63 rfl (zD ⟨rfl, zY _, _, rfl, ⟨_, _, _, _, _, _, rfl, hn63⟩⟩))
       refine xI (fun wq7 hR7 hpost7 => ?_)
       refine zP rfl rfl (zP rfl rfl (zP rfl rfl (zP rfl rfl (zK rfl (yD rfl (fun v60 hp60 => ?_))))))
       obtain ⟨xa60, rfl, hn60⟩ := hp60
       refine yD rfl (fun v64 hp64 => ?_)
       obtain ⟨xs64, xa64, xd64, xt64, xb64, xe64, rfl, hn64⟩ := hp64
       refine zC ?_
       simp only [jC, jB, jA, xZ]
       obtain ⟨LR, hM⟩ := ub2 hR7 LR hM
       refine zO rfl rfl (zI rfl (bo func43) rfl rfl ?_)
       refine (border_c hn60 hn64.gen (by omega) (by omega) (by omega) hM).mono ?_
       rintro v65 w12 ⟨hB65, rfl⟩
       replace LR := ub1 hB65 LR
       refine fD (d := 65) rfl (decide_eq_true (all_border hA1 (dA (0, 0) (show s < lA.length by omega))).2) (zO rfl rfl (gX rfl rfl (yW rfl rfl rfl (zD (uL rfl (yH (zB (zA rfl rfl (xC rfl rfl rfl (by omega) (zF rfl rfl (zD ?_)))))))))))
       refine ⟨rfl, s + 1, (zZ rfl (by rw [Int.natCast_add]; rfl) (zG rfl (zG rfl (zG rfl yE)))), ?_, ?_⟩
       exact ⟨LR, by omega⟩
       omega
     ·refine xN (xO (zH (zB (zA rfl rfl (zA rfl rfl (zI rfl (bo func42) rfl rfl ?_))))))
      refine (mall_c hT h0 h0 (by omega) (by omega) (by omega) (by omega) hM).mono ?_
      rintro v70 w13 ⟨hB70, lB, hA2, hn70⟩
      obtain ⟨LL, hM, hT, h0, h1, hn28⟩ := ub6 hB70 LL hM hT h0 h1 hn28
      obtain ⟨onr70, _⟩ := hn70.one; have hln70 := hn70.len
      refine zF rfl rfl (zD (zH (zH (zB (zF rfl rfl (zD (yC ?_)))))))
      refine xP (σ := Nat) [(0, _), (1, _), (5, _), (7, _)] (fun s => [(8, .int .i64 ((s : Nat) : Int))]) (fun s w14 => Le Fz M w13 M w14 ∧ s ≤ p.length) (fun s => p.length - s) (0) (zG rfl (zG rfl (zG rfl (zG rfl (zG rfl yE))))) ?_ (fun s w14 hJ => ?_)
      · exact ⟨Le.refl _ _ _, by omega⟩
      ·obtain ⟨LR2, hk2⟩ := hJ
       obtain ⟨LL, hM, hT, h0, h1, hn28, hn70⟩ := up7 LR2 LL hM hT h0 h1 hn28 hn70
       refine zH (zH (zB (zA rfl rfl (zA rfl rfl (gQ rfl yu63 rfl h0.row (jI rfl rfl rfl (zD ?_)))))))
       refine yA rfl (fun hc2 => ?_) (fun hc2 => ?_)
       ·refine yH (zH (yC (zH (zB (zF rfl rfl (zD (zH (zH (zB (zF rfl rfl (zD (yC ?_))))))))))))
        refine xP (σ := Nat) [(0, _), (1, _), (5, _), (7, _), (8, _)] (fun k => [(9, .bool (decide (p.getD s (0, 0) ∈ lB.take k))), (10, .int .i64 ((k : Nat) : Int))]) (fun k w15 => Le Fz M w14 M w15 ∧ k ≤ lB.length) (fun k => lB.length - k) (0) (zZ rfl (by simp) (zG rfl (zG rfl (zG rfl (zG rfl (zG rfl (zG rfl yE))))))) ?_ (fun k w15 hJ => ?_)
        · exact ⟨Le.refl _ _ _, by omega⟩
        ·obtain ⟨LR3, hk3⟩ := hJ
         obtain ⟨LR2, hM, h0, hn70⟩ := up4 LR3 LR2 hM h0 hn70
         refine zH (zH (zB (zA rfl rfl (zA rfl rfl (gQ rfl yu63 rfl hn70.row (jI rfl rfl rfl (zD ?_)))))))
         refine yA rfl (fun hc3 => ?_) (fun hc3 => ?_)
         ·refine yH (zH (yC ?_))
          by_cases hg17_1 : p.getD s (0, 0) ∈ lB.take k
          ·skip
           refine wd mixed 10 [0, 1, 5, 7, 8, 9, 10, 84, 88, 92] (by decide +kernel) ?_
           refine zS (Ex (.bool (decide (p.getD s (0, 0) ∈ lB.take k)))) xU (fun wq hR hst => ?_) ?_
           ·refine zP rfl rfl (zC ?_)
            obtain ⟨LR2, LR3⟩ := ub2 hR LR2 LR3
            exact zA rfl rfl (on0 rfl)
           refine zS (Ex (.bool true)) xU (fun wq hR hst => ?_) ?_
           ·refine zK rfl (zC ?_)
            obtain ⟨LR2, LR3⟩ := ub2 hR LR2 LR3
            exact zA rfl rfl (zD ⟨rfl, zY _, _, rfl, congrArg Value.bool (decide_eq_true hg17_1)⟩)
           apply zN
           ·intro wq hR hst
            refine zP rfl rfl (zK rfl (zC ?_))
            obtain ⟨LR2, LR3⟩ := ub2 hR LR2 LR3
            exact zR rfl rfl rfl rfl (on0 rfl)
           apply zN
           ·intro wq hR hst
            refine zP rfl rfl (zK rfl (zC ?_))
            obtain ⟨LR2, LR3⟩ := ub2 hR LR2 LR3
            exact zR rfl rfl rfl rfl (on0 rfl)
           apply zN
           ·intro wq hR hst
            refine zK rfl (zK rfl (zK rfl (zC ?_)))
            obtain ⟨LR2, LR3⟩ := ub2 hR LR2 LR3
            exact zR rfl rfl rfl rfl (on0 rfl)
           apply zN
           ·intro wq hR hst
            refine zK rfl (zK rfl (zC ?_))
            obtain ⟨LR2, LR3⟩ := ub2 hR LR2 LR3
            exact zR rfl rfl rfl rfl (on0 rfl)
           apply zN
           ·intro wq hR hst
            refine zP rfl rfl (zK rfl (zC ?_))
            obtain ⟨LR2, LR3⟩ := ub2 hR LR2 LR3
            exact zR rfl rfl rfl rfl (on0 rfl)
           apply zN
           ·intro wq hR hst
            refine zP rfl rfl (zK rfl (zC ?_))
            obtain ⟨LR2, LR3⟩ := ub2 hR LR2 LR3
            exact zR rfl rfl rfl rfl (on0 rfl)
           apply zN
           ·intro wq hR hst
            refine zK rfl (zK rfl (zK rfl (zC ?_)))
            obtain ⟨LR2, LR3⟩ := ub2 hR LR2 LR3
            exact zR rfl rfl rfl rfl (on0 rfl)
           apply zN
           ·intro wq hR hst
            refine zK rfl (zK rfl (zC ?_))
            obtain ⟨LR2, LR3⟩ := ub2 hR LR2 LR3
            exact zR rfl rfl rfl rfl (on0 rfl)
           refine xI (fun wq17 hR17 hpost17 => ?_)
           refine zP rfl rfl (zP rfl rfl (zP rfl rfl (zP rfl rfl (zP rfl rfl (zP rfl rfl (zP rfl rfl (zK rfl (zK rfl (zK rfl (zC ?_))))))))))
           simp only [jC, jB, jA, xZ]
           obtain ⟨LR2, LR3⟩ := ub2 hR17 LR2 LR3
           refine zR rfl rfl rfl rfl (yW rfl rfl rfl (zF rfl rfl (zD (zB (zA rfl rfl (xC rfl rfl rfl (by omega) (zF rfl rfl (zD ?_))))))))
           refine ⟨rfl, k + 1, (zZ rfl (by rw [decide_eq_true ((mem_take_succ (by omega)).2 (.inl hg17_1))]) (zZ rfl (by rw [Int.natCast_add]; rfl) (zG rfl (zG rfl (zG rfl (zG rfl (zG rfl yE))))))), ?_, ?_⟩
           exact ⟨LR3, by omega⟩
           omega
          ·skip
           refine wd mixed 10 [0, 1, 5, 7, 8, 9, 10, 84, 88, 92] (by decide +kernel) ?_
           refine zS (Ex (.bool (decide (p.getD s (0, 0) ∈ lB.take k)))) xU (fun wq hR hst => ?_) ?_
           ·refine zP rfl rfl (zC ?_)
            obtain ⟨LR2, LR3⟩ := ub2 hR LR2 LR3
            exact zA rfl rfl (on0 rfl)
           refine zS (Ex (.bool false)) xU (fun wq hR hst => ?_) ?_
           ·refine zK rfl (zC ?_)
            obtain ⟨LR2, LR3⟩ := ub2 hR LR2 LR3
            exact zA rfl rfl (zD ⟨rfl, zY _, _, rfl, congrArg Value.bool (decide_eq_false hg17_1)⟩)
           refine dv (fun v w => ∃ xa85, v = xa85 ∧ PLc M w (8 * (n0 + n0 + n0 + n0) + 80) (lB) xa85) (fun wq hR hst => ?_) ?_
           ·refine zP rfl rfl (zK rfl (zC ?_))
            obtain ⟨LR2, LR3, hn70⟩ := ub3 hR LR2 LR3 hn70
            exact zO rfl rfl (zA rfl rfl (zD ⟨rfl, zY _, _, rfl, ⟨_, rfl, hn70⟩⟩))
           apply zN
           ·intro wq hR hst
            refine zP rfl rfl (zK rfl (zC ?_))
            obtain ⟨LR2, LR3⟩ := ub2 hR LR2 LR3
            exact zO rfl rfl (zA rfl rfl (on0 rfl))
           refine dv (rPC M (8 * (n0 + n0 + n0 + n0) + 80) (lB.getD k (0, 0))) (fun wq hR hst => ?_) ?_
           ·refine yD rfl (fun v85 hp85 => ?_)
            obtain ⟨xa85, rfl, hn85⟩ := hp85
            refine zK rfl (zK rfl (zC ?_))
            obtain ⟨LR2, LR3⟩ := ub2 hR LR2 LR3
            refine zO rfl rfl (jL (dflt := ((0, 0) : P2)) (k) rfl yu63 yR rfl rfl hn85.row (by first | rfl | omega) (by first | omega | (simp; omega) | simp) (fun b87 o87 us87 hul87 hu87 hc87 => ?_))
            obtain ⟨xs87, xa87, xd87, xt87, xb87, xe87, rfl, hn87⟩ := hu87
            exact on1 (zY _) rfl ⟨b87, o87, _, _, _, _, _, _, rfl, hc87, hn87⟩
           refine zS (vPC M (8 * (n0 + n0 + n0 + n0) + 80) (lB.getD k (0, 0))) qZ (fun wq hR hst => ?_) ?_
           ·refine yD rfl (fun v87 hp87 => ?_)
            obtain ⟨b87, o87, xs87, xa87, xd87, xt87, xb87, xe87, rfl, hc87, hn87⟩ := hp87
            refine zK rfl (zC ?_)
            obtain ⟨LR2, LR3⟩ := ub2 hR LR2 LR3
            exact zO rfl rfl (jF rfl yL yR rfl hc87 rfl (zD ⟨rfl, zY _, _, rfl, ⟨_, _, _, _, _, _, rfl, hn87⟩⟩))
           refine dv (fun v w => ∃ xa89, v = xa89 ∧ PL M w (n0) (p) xa89) (fun wq hR hst => ?_) ?_
           ·refine zP rfl rfl (zK rfl (zC ?_))
            obtain ⟨LR2, LR3, h0⟩ := ub3 hR LR2 LR3 h0
            exact zO rfl rfl (zA rfl rfl (zD ⟨rfl, zY _, _, rfl, ⟨_, rfl, h0⟩⟩))
           apply zN
           ·intro wq hR hst
            refine zP rfl rfl (zK rfl (zC ?_))
            obtain ⟨LR2, LR3⟩ := ub2 hR LR2 LR3
            exact zO rfl rfl (zA rfl rfl (on0 rfl))
           refine dv (rPQ M (n0) (p.getD s (0, 0))) (fun wq hR hst => ?_) ?_
           ·refine yD rfl (fun v89 hp89 => ?_)
            obtain ⟨xa89, rfl, hn89⟩ := hp89
            refine zK rfl (zK rfl (zC ?_))
            obtain ⟨LR2, LR3⟩ := ub2 hR LR2 LR3
            refine zO rfl rfl (jL (dflt := ((0, 0) : P2)) (s) rfl yu63 yR rfl rfl hn89.row (by first | rfl | omega) (by first | omega | (simp; omega) | simp) (fun b91 o91 us91 hul91 hu91 hc91 => ?_))
            obtain ⟨xs91, xa91, xd91, xt91, xb91, xe91, rfl, hn91⟩ := hu91
            exact on1 (zY _) rfl ⟨b91, o91, _, _, _, _, _, _, rfl, hc91, hn91⟩
           refine zS (vPQ M (n0) (p.getD s (0, 0))) vPQ_m (fun wq hR hst => ?_) ?_
           ·refine yD rfl (fun v91 hp91 => ?_)
            obtain ⟨b91, o91, xs91, xa91, xd91, xt91, xb91, xe91, rfl, hc91, hn91⟩ := hp91
            refine zK rfl (zC ?_)
            obtain ⟨LR2, LR3⟩ := ub2 hR LR2 LR3
            exact zO rfl rfl (jF rfl yL yR rfl hc91 rfl (zD ⟨rfl, zY _, _, rfl, ⟨_, _, _, _, _, _, rfl, hn91⟩⟩))
           refine xI (fun wq17 hR17 hpost17 => ?_)
           refine zP rfl rfl (zP rfl rfl (zP rfl rfl (zP rfl rfl (zP rfl rfl (zP rfl rfl (zP rfl rfl (zK rfl (yD rfl (fun v88 hp88 => ?_)))))))))
           obtain ⟨xs88, xa88, xd88, xt88, xb88, xe88, rfl, hn88⟩ := hp88
           refine yD rfl (fun v92 hp92 => ?_)
           obtain ⟨xs92, xa92, xd92, xt92, xb92, xe92, rfl, hn92⟩ := hp92
           refine zC ?_
           simp only [jC, jB, jA, xZ]
           obtain ⟨LR2, LR3, hM⟩ := ub3 hR17 LR2 LR3 hM
           refine zO rfl rfl (zI rfl (bo func38) rfl rfl ?_)
           refine (r8same_c hn88.gen hn92 (by omega) (by omega) hM).mono ?_
           rintro v93 w16 ⟨hB93, rfl⟩
           obtain ⟨LR2, LR3⟩ := ub2 hB93 LR2 LR3
           refine yW rfl rfl rfl (zF rfl rfl (zD (zB (zA rfl rfl (xC rfl rfl rfl (by omega) (zF rfl rfl (zD ?_)))))))
           refine ⟨rfl, k + 1, (zZ rfl (by congr 1; rw [decide_eq_decide, mem_take_succ (by omega)]; exact ⟨fun c => .inr (cmpP_zero.1 c), fun c => c.elim (fun c => absurd c hg17_1) cmpP_zero.2⟩) (zZ rfl (by rw [Int.natCast_add]; rfl) (zG rfl (zG rfl (zG rfl (zG rfl (zG rfl yE))))))), ?_, ?_⟩
           exact ⟨LR3, by omega⟩
           omega
         ·refine xN (xO (zH (zB ?_)))
          obtain rfl : k = lB.length := by omega
          have hin : p.getD s (0, 0) ∈ lB.take lB.length := by rw [List.take_length]; exact all_own hA2 (by omega)
          refine zA rfl rfl (gX rfl rfl (ops_bf (d := 96) rfl (by rw [decide_eq_true hin]; rfl) (zD (uL rfl (yH (zB (zA rfl rfl (xC rfl rfl rfl (by omega) (zF rfl rfl (zD ?_))))))))))
          refine ⟨rfl, s + 1, (zZ rfl (by rw [Int.natCast_add]; rfl) (zG rfl (zG rfl (zG rfl (zG rfl yE))))), ?_, ?_⟩
          exact ⟨LR2, by omega⟩
          omega
       ·refine xN (xO (zH (zB (zA rfl rfl (zA rfl rfl (zA rfl rfl (zI rfl (bo func42) rfl rfl ?_)))))))
        refine (mall_c hT h1 h0 (by omega) (by omega) (by omega) (by omega) hM).mono ?_
        rintro v100 w17 ⟨hB100, lC, hA3, hn100⟩
        obtain ⟨LL, LR2, hM, hT, hn28⟩ := ub5 hB100 LL LR2 hM hT hn28
        obtain ⟨onr100, _⟩ := hn100.one; have hln100 := hn100.len
        refine zI rfl (bo func44) rfl rfl ?_
        refine (r8all_c hn28 hn100 (by omega) (by omega) hM).mono ?_
        rintro v101 w18 ⟨hB101, rfl⟩
        obtain ⟨LL, LR2, hM, hT⟩ := ub4 hB101 LL LR2 hM hT
        refine fD (d := 101) rfl (decide_eq_true (all_comm hA1 hA3)) (zA rfl rfl (zO rfl rfl (zI rfl (bo func25) rfl rfl ?_)))
        refine (wakes_c hT   hM).mono ?_
        rintro v103 w19 ⟨hB103, rfl⟩
        obtain ⟨LL, LR2⟩ := ub2 hB103 LL LR2
        refine yW rfl rfl rfl (zF rfl rfl (zD (zW ?_)))
        refine lv1 ⟨rfl, trivial⟩ ?_
        subst hFz
        exact ⟨LL.b, rfl⟩
end Go.Proofs.YtfkejnlohkgbgaaGreatDoor
