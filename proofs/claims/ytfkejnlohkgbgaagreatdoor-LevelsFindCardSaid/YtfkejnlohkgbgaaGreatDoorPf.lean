/- Lemmas and walks of functions; no statement. -/
import Derived.Test.YtfkejnlohkgbgaaGreatDoorPe
set_option linter.unusedVariables false
set_option linter.unusedSimpArgs false
set_option maxRecDepth 100000
namespace Go.Proofs.YtfkejnlohkgbgaaGreatDoor
open Go.SL Go.RowKit Go.Proofs Tryz
section
variable {M : Nat → Prop} {w : World}
structure LIt (M : Nat → Prop) (w : World) (n : Nat) (ls : List P2) (v : Value) : Prop where
  ex : ∃ cap, v = .func (.func 172) #[] cap ∧ ∀ (M' : Nat → Prop) (w1 : World), (∀ k, M' k → M k ∨ w.heap.size ≤ k) → Keep M w w1 → OkM M' w1 → IterW True prog 172 cap.toList M' NoT w1 ls (RLv M' w1 n) (fun _ => True)
theorem keep_le {Fz M M' : Nat → Prop} {w w' w1 : World} (k : Keep M' w' w1) (l : Le Fz M w M' w') : Keep M w w1 :=
  ⟨Nat.le_trans l.size k.1, fun i hi hm => (k.2 i (Nat.lt_of_lt_of_le hi l.size) (fun c => (l.chg i c).elim hm (fun h => by omega))).trans (l.imm i hi hm)⟩
theorem LIt.mono {Fz M M' : Nat → Prop} {w w' : World} {n : Nat} {ls : List P2} {v : Value} (h : LIt M w n ls v) (l : Le Fz M w M' w') : LIt M' w' n ls v := by
  obtain ⟨cap, rfl, h0⟩ := h.ex
  exact ⟨cap, rfl, fun M2 w1 hs k o => h0 M2 w1 (fun i hi => (hs i hi).elim (fun c => l.chg i c) (fun c => .inr (Nat.le_trans l.size c))) (keep_le k l) o⟩
theorem LIt.one {n : Nat} {ls : List P2} {v : Value} (h : LIt M w n ls v) : v.oneCell' = true ∧ True := by obtain ⟨_, rfl, _⟩ := h.ex; exact ⟨rfl, trivial⟩
theorem through_c {n0 n1 n2 : Nat} {v : Value} {xs2 : Bool} {xa2 : Value} {xd2 : Value} {xs3 : Bool} {xa3 : Value} {xd3 : Value} {lo hi : Rat} {es : List (P2 × P2)} (hT : Tab M w) (h2 : QC M w n1 lo xs2 xa2 xd2) (h3 : QC M w n2 hi xs3 xa3 xd3) (h1 : EL M w n0 es v) (hl0 : n0 ≤ 100) (hl1 : n1 ≤ 100) (hl2 : n2 ≤ 100) (hlen : es.length ≤ 1000) (hM : OkM M w) :
    CallsV prog 110 [.agg #[.bool xs2, xa2, xd2], .agg #[.bool xs3, xa3, xd3], v] w fun r w' => Bel w.heap.size w w' ∧ LIt M w' (20 * (n0 + n0 + n1 + n2) + 100) (qD lo hi es es.length) r := by
 obtain ⟨oxa2, oxd2, _⟩ := h2.one
 refine ci M func110 ntmps110 fun Fz hFz hF LL => ?_
 refine zG (zB (yN rfl rfl (fun w1 b3 N3 => ?_)))
 obtain ⟨_, nF3, nM3, Lw1, B3⟩ := nza hF hM N3
 replace LL := LL.trans Lw1
 replace hM := hM.mono Lw1
 replace hF := hF.mono Lw1
 replace hT := hT.mono Lw1
 replace h1 := h1.mono Lw1
 replace h2 := h2.mono Lw1
 replace h3 := h3.mono Lw1
 refine yN rfl rfl (fun w2 b4 N4 => ?_)
 obtain ⟨hBw2, nF4, nM4, Lw2, B4⟩ := nza hF hM N4
 obtain ⟨B3, ne3_4⟩ := bn B3 N4
 replace LL := LL.trans Lw2
 replace hM := hM.mono Lw2
 replace hF := hF.mono Lw2
 replace hT := hT.mono Lw2
 replace h1 := h1.mono Lw2
 replace h2 := h2.mono Lw2
 replace h3 := h3.mono Lw2
 refine yN rfl rfl (fun w3 b5 N5 => ?_)
 obtain ⟨hBw3, nF5, nM5, Lw3, B5⟩ := nz hF hM N5
 obtain ⟨B3, ne3_5⟩ := bn B3 N5
 obtain ⟨B4, ne4_5⟩ := bn B4 N5
 replace LL := LL.trans Lw3
 replace hT := hT.mono Lw3
 replace h1 := h1.mono Lw3
 replace h2 := h2.mono Lw3
 replace h3 := h3.mono Lw3
 refine zC rfl rfl (zD (zG (zB (jP rfl rfl (zC rfl rfl (zD (zR ?_)))))))
 refine lv1 ⟨rfl, trivial⟩ ?_
 subst hFz
 rw [h1.cells] at B5
 refine ⟨LL.b, _, rfl, fun M' w1 hs hk ho => ?_⟩
 have q3 : ¬ M b3 := nM3
 have q4 : ¬ M b4 := fun c => nM4 (zM c)
 have q5 : ¬ M b5 := fun c => nM5 (zM (zM c))
 have hin : ∀ k, M k → Ins b5 (Ins b4 (Ins b3 M)) k := fun k c => zM (zM (zM c))
 exact through1_c (tab_start (hT.less hin) hs hk) (hk.blk B5 q5) (hk.blk B3 q3) (hk.blk B4 q4) (fun c => (hs _ c).elim q5 (fun c => by have := B5.lt; omega)) (fun c => (hs _ c).elim q3 (fun c => by have := B3.lt; omega)) (fun c => (hs _ c).elim q4 (fun c => by have := B4.lt; omega)) (el_start (h1.less hin) hs hk) (aG (h2.less hin) hs hk) (aG (h3.less hin) hs hk) hl0 hl1 hl2 hlen ho
theorem appendl_c {n m : Nat} {v : Value} {ls : List P2} (h1 : LIt M w n ls v) (hnm : n ≤ m) (hlen : ls.length ≤ 1000) (hM : OkM M w) :
    CallsV prog 171 [.slice none 0 0, v] w fun r w' => Bel w.heap.size w w' ∧ ∃ cs, w'.ownsRow 0 83 6 r ls.length cs ∧ EP (Mo r M) w' m cs ls ∧ ∀ k, r.ownBlock = some k → w.heap.size ≤ k := by
 obtain ⟨oh1, _⟩ := h1.one
 have hM0 := hM
 have Mk : Marks M w.heap.size [] w := qY
 refine ci M func171 ntmps171 fun Fz hFz hF LL => ?_
 refine zG (zB (yN rfl rfl (fun w1 b2 N2 => ?_)))
 obtain ⟨hBw1, nF2, nM2, Lw1, B2⟩ := nz hF hM N2
 replace LL := LL.trans Lw1
 replace hM := hM.mono Lw1
 replace hF := hF.mono Lw1
 replace h1 := h1.mono Lw1
 replace Mk := Mk.mono Lw1
 refine zC rfl rfl (zD (zG (zG (zB ?_))))
 have Ow := own_nilk (w := w1) 6 (e := 83)
 have Of : ∀ k, (Value.slice none 0 0).ownBlock = some k → ¬ Fz k := uP
 have Om : ∀ k, (Value.slice none 0 0).ownBlock = some k → ¬ (Ins b2 M) k := uP
 have He : EP (Mo (.slice none 0 0) (Ins b2 M)) w1 (m) [] [] := ⟨Elems.nil⟩
 have Ln := Le.mo_nil (Fz := Fz) (M := (Ins b2 M)) (w := w1)
 replace LL := LL.trans Ln
 replace hM := hM.mono Ln
 replace hF := hF.mono Ln
 replace h1 := h1.mono Ln
 replace Mk := Mk.mono Ln
 clear Ln
 refine zA rfl rfl (zD (zZ ?_))
 obtain ⟨cap0, rfl, it0⟩ := h1.ex
 have hMz := hM
 have hszLL := LL.size
 have Mold0 := Mk.old (Nat.le_refl _)
 refine SL.wp_rangew (fin := True) (M := (Mo (.slice none 0 0) (Ins b2 M))) (T := NoT) (ls) (RLv (Mo (.slice none 0 0) (Ins b2 M)) w1 n) rfl (bo func172) (it0 _ _ (fun k c => .inl c) ⟨Nat.le_refl _, fun _ _ _ => rfl⟩ hM) noT (trivial) (fun _ _ _ _ ⟨_, _, _, _, _, _, h, _⟩ => by rw [h]; rfl) rfl [(2, _)] (zH rfl yE) (fun pre w2 => ∃ v0, Le Fz (Mo (.slice none 0 0) (Ins b2 M)) w1 (Mo v0 (Ins b2 M)) w2 ∧ Blk w2 b2 67 [v0] ∧ (∀ k, v0.ownBlock = some k → ¬ Fz k) ∧ (∀ k, v0.ownBlock = some k → ¬ (Ins b2 M) k) ∧ ∃ cs, w2.ownsRow 0 83 6 v0 pre.length cs ∧ EP (Mo v0 (Ins b2 M)) w2 m cs pre) (fun _ _ => False) (fun _ => False) (.inl trivial) (⟨_, Le.refl _ _ _, B2, Of, Om, [], Ow, He⟩) (fun pre w h => (let ⟨_, h1, _⟩ := h; h1.keep)) (fun pre w1 w2 hJ hd => (by obtain ⟨v0, h1, h2, h4, h5, cs, h6, h7⟩ := hJ; exact ⟨v0, h1.drift0 hd (Nat.le_refl _), h2.drift hd (fun c => c), h4, h5, cs, qB h6 hd (fun _ _ c => c), h7.drift hd noT⟩)) (fun _ _ _ h _ => h) (fun _ _ h _ => h) (fun _ _ _ _ => trivial) ?_ ?_ (fun _ _ h _ => h.elim) (fun _ h _ => h.elim)
 ·intro pre x vs post l b wi w2 ρ δ hx hJi hwi hdi hJ hv hnl hnb hl hb hbc
  clear Ow He Of Om B2
  obtain ⟨v0, LSi, B2i, Of, Om, cs, Owi, Hei⟩ := hJi
  have LS0 := LSi.drift0 hdi (Nat.le_refl _)
  have B2 := B2i.drift hdi (fun c => c)
  have Ow := qB Owi hdi (fun _ _ c => c)
  have He := Hei.drift hdi noT
  replace LL := LL.trans LS0
  replace hM := hM.mono LS0
  replace hF := hF.mono LS0
  replace Mk := Mk.mono LS0
  have RL : Rec (Mo v0 (Ins b2 M)) w2 l (.loop ρ) := ⟨hl, (cY (qR Ow hl (by simp)) (qJ (Rec.ne hl B2 (by simp)) (jN hM0 (by omega))))⟩
  have RB : Rec (Mo v0 (Ins b2 M)) w2 b δ := ⟨hb, (cY (qR Ow hb hbc) (qJ (Rec.ne hb B2 hbc) (jN hM0 (by omega))))⟩
  have hs1 : w2.heap.size ≤ w2.heap.size := Nat.le_refl _
  have hpl : pre.length ≤ 1000 := by have := congrArg List.length hx; rw [List.length_append] at this; omega
  obtain ⟨xs7, xa7, xd7, xt7, xb7, xe7, rfl, hn7⟩ := hv
  replace hn7 := hn7.less fun k c => (LSi.chg k c).imp id fun h => ⟨h, LSi.ok hMz k c⟩
  obtain ⟨oxa7, oxd7, oxb7, oxe7, _⟩ := hn7.one
  refine zB (yH rfl kI (fun w3 b5 N5 => ?_))
  obtain ⟨hBw3, nF5, nM5, _, B5⟩ := nza hF hM N5
  have Lw3 := Le.of_new_in (Fz := Fz) (M := (Ins b2 M)) (v := v0) N5
  replace Om := own_in Ow N5 Om
  replace Ow := xH Ow hBw3
  obtain ⟨B2, ne2_5⟩ := bn B2 N5
  replace LL := LL.trans Lw3
  replace LS0 := LS0.trans Lw3
  replace hM := hM.mono Lw3
  replace hF := hF.mono Lw3
  replace He := He.mono Lw3
  replace RL := RL.mono Lw3
  replace RB := RB.mono Lw3
  replace hn7 := hn7.mono Lw3
  replace hs1 := Nat.le_trans hs1 Lw3.size
  refine yC rfl rfl kI B5 rfl rfl (yK (yK (yK (yK (yK (yK jI)))))) rfl (fun w4 Cw4 B5 => ?_)
  have Lw4 := Le.of_chg (M := (Mo v0 (Ins b5 (Ins b2 M)))) Cw4 (.inr zO) nF5
  replace LL := LL.trans Lw4
  replace LS0 := LS0.trans Lw4
  replace hM := hM.mono Lw4
  replace hF := hF.mono Lw4
  replace He := He.mono Lw4
  replace RL := RL.mono Lw4
  replace RB := RB.mono Lw4
  replace hn7 := hn7.mono Lw4
  replace hs1 := Nat.le_trans hs1 Lw4.size
  replace B2 := B2.other Cw4 ne2_5
  replace Ow := aR Ow Cw4 (fun h => Om _ h zO)
  try simp only [List.set_cons_zero, List.set_cons_succ, List.take_succ_cons, List.take_zero, List.drop_succ_cons, List.drop_zero, List.drop_nil, List.cons_append, List.nil_append, List.append_nil] at B5
  refine zD ?_
  refine ⟨RL.at_, RB.at_, rfl, fun w5 ρ' δ' hdr hl' hb' hbc' => ?_⟩
  replace LL := LL.drift0 hdr hszLL
  replace LS0 := LS0.drift0 hdr (Nat.le_refl _)
  replace hM := hM.drift hdr
  replace hF := hF.drift hdr
  replace hs1 := Nat.le_trans hs1 hdr.size
  replace He := He.drift hdr noT
  replace hn7 := hn7.drift hdr noT
  replace RL : Rec (Mo v0 (Ins b5 (Ins b2 M))) w5 l (.loop ρ') := ⟨hl', RL.not⟩
  replace RB : Rec (Mo v0 (Ins b5 (Ins b2 M))) w5 b δ' := ⟨hb', RB.not⟩
  replace B2 := B2.drift hdr (fun c => c)
  replace B5 := B5.drift hdr (fun c => c)
  replace Ow := qB Ow hdr (fun _ _ c => c)
  refine zZ (zB (zN rfl flat67 rfl B2 rfl (zP rfl dA kI rfl B5 rfl rfl (xN rfl yu67 kI rfl rfl rfl rfl (yB rfl xI) rfl rfl rfl (fun w6 b10 N10 => ?_)))))
  have hBw6 := N10.below
  have nM10 := hM.new N10
  have B10 := N10.blk
  have Lw6 := Le.of_below (Fz := Fz) (M := (Mo v0 (Ins b5 (Ins b2 M)))) hBw6
  replace LL := LL.trans Lw6
  replace LS0 := LS0.trans Lw6
  replace hM := hM.mono Lw6
  replace hF := hF.mono Lw6
  replace He := He.mono Lw6
  replace RL := RL.mono Lw6
  replace RB := RB.mono Lw6
  replace hn7 := hn7.mono Lw6
  replace hs1 := Nat.le_trans hs1 Lw6.size
  replace B2 := B2.below hBw6
  replace B5 := B5.below hBw6
  replace Ow := xH Ow hBw6
  refine ops_appendk rfl yu67 kI rfl rfl rfl rfl Ow (((KBlk.mk B10 nM10)).blk.slc ((KBlk.mk B10 nM10)).not (sz := 6) (n := 1) rfl (fun _ _ h => h) (by omega) (Nat.le_refl _)) (ones6 (by assumption) (by assumption) (by assumption) (by assumption)) (by omega) (by omega) (fun v11 w7 A11 G11 S11 => ?_)
  have Lw7 := Le.of_grown (Fz := Fz) (M := (Ins b5 (Ins b2 M))) G11 S11 A11 Of
  have Omo11 := Om
  replace Of := jM (w' := w7) Of hF S11
  replace Om := jL (w' := w7) Om (fun k hk => hM k (.inr hk)) S11
  replace B2 := B2.grown G11 (fun h => Omo11 _ h (.inr zO))
  replace B5 := B5.grown G11 (fun h => Omo11 _ h zO)
  replace LL := LL.trans Lw7
  replace LS0 := LS0.trans Lw7
  replace hM := hM.mono Lw7
  replace hF := hF.mono Lw7
  replace He := He.mono Lw7
  replace RL := RL.mono Lw7
  replace RB := RB.mono Lw7
  replace hn7 := hn7.mono Lw7
  replace hs1 := Nat.le_trans hs1 Lw7.size
  clear Ow; have Ow := A11
  replace He := He.snoc (hn7.up (by omega))
  refine xW rfl rfl sz67 B2 (by first | rfl | exact yO (by assumption) | assumption | exact yM (by assumption)) (fun w8 Cw8 B2 => ?_)
  have Lw8 := Le.of_chg (M := (Mo v11 (Ins b5 (Ins b2 M)))) Cw8 (.inr (.inr zO)) nF2
  replace LS0 := LS0.trans Lw8
  replace He := He.mono Lw8
  replace RL := RL.mono Lw8
  replace RB := RB.mono Lw8
  replace hs1 := Nat.le_trans hs1 Lw8.size
  replace Ow := aR Ow Cw8 (fun h => Om _ h (.inr zO))
  refine zD ?_
  refine ⟨RL.at_, RB.at_, hs1, fun _ c => c.elim, ?_⟩
  have hsb : ∀ k, (Mo v11 (Ins b2 M)) k → (Mo v11 (Ins b5 (Ins b2 M))) k := fun k c => c.imp id .inr
  exact ⟨v11, LS0.trans (Le.less hsb), B2, Of, fun k hk c => Om k hk (.inr c), _, by rw [List.length_append]; exact Ow, He.mono (Fz := fun _ => False) (Le.less hsb)⟩
 ·intro w9 hJ hZ hDd
  clear Ow He Of Om B2
  obtain ⟨v0, LS0, B2, Of, Om, cs, Ow, He⟩ := hJ
  replace LL := LL.trans LS0
  replace Mk := Mk.mono LS0
  have hdd := hDd _ rfl rfl
  have RD : Rec (Mo v0 (Ins b2 M)) w9 w1.heap.size (.deferred (some [])) := ⟨hdd, (cY (qR Ow hdd (by simp)) (qJ (Rec.ne hdd B2 (by simp)) (jN hM0 (by omega))))⟩
  replace Mk := Mk.cons hszLL RD Mold0
  refine zG (zB (zN rfl flat67 rfl B2 rfl (zC rfl rfl (zD (zR ?_)))))
  refine jO Mk (fun wz hz => ⟨[_], ⟨rfl, trivial⟩, ?_⟩)
  dsimp only [xJ]
  subst hFz
  exact ⟨SL.Bel.drift (LL.b) hz (Nat.le_refl _), _, qB Ow hz (fun _ _ c => c), ((He.mono (Fz := fun _ => False) (Le.less (fun k c => c.imp id .inr))).drift hz noT), fun k hk => by have := Of k hk; omega⟩
theorem collectl_c {n m : Nat} {v : Value} {ls : List P2} (h1 : LIt M w n ls v) (hnm : n ≤ m) (hlen : ls.length ≤ 1000) (hM : OkM M w) :
    CallsV prog 109 [v] w fun r w' => Bel w.heap.size w w' ∧ ∃ cs, w'.ownsRow 0 83 6 r ls.length cs ∧ EP (Mo r M) w' m cs ls ∧ ∀ k, r.ownBlock = some k → w.heap.size ≤ k := by
 refine ci M func109 ntmps109 fun Fz hFz hF LL => ?_
 refine zG (zB (zC rfl rfl (zD (zG (zB (zA rfl rfl (zI rfl (bo func171) rfl rfl ?_)))))))
 refine (appendl_c h1 hnm hlen hM).mono ?_
 rintro v4 w1 ⟨hB4, cs, Ow, He, hO⟩
 replace LL := ub1 hB4 LL
 refine zC rfl rfl (zD (zR ?_))
 refine lv1 ⟨rfl, trivial⟩ ?_
 subst hFz
 exact ⟨LL.b, cs, Ow, He, hO⟩
theorem compactl_c {Fz M : Nat → Prop} {w : World} {bn n0 cap : Nat} {cur : List Value} {l : List P2} (hT : Tab M w) (Bn : Blk w bn 83 cur) (hE : EPB M w n0 cur l) (hl1 : n0 ≤ 9000) (hlen : l.length ≤ 1000000) (hl0 : 0 < l.length) (hcap : l.length ≤ cap) (hmn : M bn) (nFn : ¬ Fz bn) (hF : FOk Fz w) (hM : OkM M w) :
    CallsV prog 114 [.slice (some ⟨bn, 0, none⟩) l.length cap, .func (.func 115) #[] #[]] w fun r w' => Le Fz M w M w' ∧ ∃ cur', Blk w' bn 83 cur' ∧ cur'.length = cur.length ∧ EPB M w' n0 cur' (qF l l.length) ∧ r = .slice (some ⟨bn, 0, none⟩) (qF l l.length).length cap := by
 have LL := Le.refl Fz M w
 refine jA func114 rfl ntmps114 rfl ?_
 refine zG (zB (zC rfl rfl (zD (zG (zG (zB (zA rfl rfl (aS rfl yu67 rfl (jE rfl rfl rfl (zD ?_))))))))))
 refine zU rfl (fun hc0 => ?_) (fun hc0 => ?_)
 ·refine zG (zB (zA rfl rfl (zC rfl rfl (zD (zR ?_)))))
  refine lv1 ⟨rfl, trivial⟩ ?_
  have hke : qF l l.length = l := by rw [keep_all (Nat.le_refl _) (fun i h1 h2 => by omega), List.take_length]
  rw [hke]
  exact ⟨LL, cur, Bn, rfl, hE, rfl⟩
 ·refine yG (zG (zG (zB (zC rfl rfl (zD (zZ ?_))))))
  refine xR (σ := Nat) [(0, _), (1, _)] (fun s => [(5, .int .i64 ((s : Nat) : Int))]) (fun s w1 => Le Fz M w M w1 ∧ Blk w1 bn 83 cur ∧ 1 ≤ s ∧ s ≤ l.length ∧ ∀ i, 0 < i → i < s → iU (l.getD i (0, 0)) (l.getD (i - 1) (0, 0)) ≠ 0) (fun s => l.length - s) (1) (zH rfl (zH rfl (zH rfl yE))) ?_ (fun s w1 hJ => ?_)
  · exact ⟨Le.refl _ _ _, Bn, by omega, by omega, fun i h1 h2 => by omega⟩
  ·clear Bn; obtain ⟨LR, Bn, hs1, hk, hs⟩ := hJ
   obtain ⟨LL, hM, hT, hE⟩ := up4 LR LL hM hT hE
   refine zG (zG (zB (zA rfl rfl (zA rfl rfl (aS rfl yu67 rfl (jE rfl rfl rfl (zD ?_)))))))
   refine zU rfl (fun hc1 => ?_) (fun hc1 => ?_)
   ·refine yG (zG (zZ (zG ?_)))
    refine wd mixed 10 [0, 1, 5, 18, 22, 27] (by decide +kernel) ?_
    refine yZ (Ex (.func (.func 115) #[] #[])) uZ (fun wq hR hst => ?_) ?_
    ·refine zQ rfl rfl (zF ?_)
     obtain ⟨hE, Bn⟩ := ub2 hR hE Bn
     exact zA rfl rfl (on0 rfl)
    refine yZ (Ex (.slice (some ⟨bn, 0, none⟩) l.length cap)) uZ (fun wq hR hst => ?_) ?_
    ·refine zQ rfl rfl (zF ?_)
     obtain ⟨hE, Bn⟩ := ub2 hR hE Bn
     exact zA rfl rfl (on0 rfl)
    apply zL
    ·intro wq hR hst
     refine zQ rfl rfl (zF ?_)
     obtain ⟨hE, Bn⟩ := ub2 hR hE Bn
     exact zA rfl rfl (on0 rfl)
    refine dv (rPC M (n0) (l.getD s (0, 0))) (fun wq hR hst => ?_) ?_
    ·refine zK rfl (zK rfl (zF ?_))
     obtain ⟨hE, Bn⟩ := ub2 hR hE Bn
     refine ops_idxer (dflt := ((0, 0) : P2)) (s) (s) (0) rfl yu67 kI rfl rfl Bn hE.e (by omega) (by omega) (by omega) (by omega) (by omega) (fun b21 o21 us21 hul21 hu21 hc21 => ?_)
     obtain ⟨xs21, xa21, xd21, xt21, xb21, xe21, rfl, hn21⟩ := hu21
     exact on1 (xD _) rfl ⟨b21, o21, _, _, _, _, _, _, rfl, hc21, hn21⟩
    refine yZ (vPC M (n0) (l.getD s (0, 0))) vPC_m (fun wq hR hst => ?_) ?_
    ·refine yY rfl (fun v21 hp21 => ?_)
     obtain ⟨b21, o21, xs21, xa21, xd21, xt21, xb21, xe21, rfl, hc21, hn21⟩ := hp21
     refine zF ?_
     obtain ⟨hE, Bn⟩ := ub2 hR hE Bn
     exact gU rfl dA kI rfl hc21 rfl (zD ⟨rfl, xD _, _, rfl, ⟨_, _, _, _, _, _, rfl, hn21⟩⟩)
    refine yZ (Ex (.slice (some ⟨bn, 0, none⟩) l.length cap)) uZ (fun wq hR hst => ?_) ?_
    ·refine zQ rfl rfl (zF ?_)
     obtain ⟨hE, Bn⟩ := ub2 hR hE Bn
     exact zA rfl rfl (on0 rfl)
    apply zL
    ·intro wq hR hst
     refine zQ rfl rfl (zF ?_)
     obtain ⟨hE, Bn⟩ := ub2 hR hE Bn
     exact zA rfl rfl (on0 rfl)
    refine yZ (Ex (.int .i64 (((s : Nat) : Int) - 1))) uZ (fun wq hR hst => ?_) ?_
    ·refine zK rfl (zF ?_)
     obtain ⟨hE, Bn⟩ := ub2 hR hE Bn
     exact jJ rfl rfl rfl (by omega) (on0 rfl)
    refine dv (rPC M (n0) (l.getD ((s - 1)) (0, 0))) (fun wq hR hst => ?_) ?_
    ·refine zK rfl (zK rfl (zF ?_))
     obtain ⟨hE, Bn⟩ := ub2 hR hE Bn
     refine ops_idxer (dflt := ((0, 0) : P2)) (s - 1) (s - 1) (0) rfl yu67 kI rfl rfl Bn hE.e (by omega) (by omega) (by omega) (by omega) (by omega) (fun b26 o26 us26 hul26 hu26 hc26 => ?_)
     obtain ⟨xs26, xa26, xd26, xt26, xb26, xe26, rfl, hn26⟩ := hu26
     exact on1 (xD _) rfl ⟨b26, o26, _, _, _, _, _, _, rfl, hc26, hn26⟩
    refine yZ (vPC M (n0) (l.getD ((s - 1)) (0, 0))) vPC_m (fun wq hR hst => ?_) ?_
    ·refine yY rfl (fun v26 hp26 => ?_)
     obtain ⟨b26, o26, xs26, xa26, xd26, xt26, xb26, xe26, rfl, hc26, hn26⟩ := hp26
     refine zF ?_
     obtain ⟨hE, Bn⟩ := ub2 hR hE Bn
     exact gU rfl dA kI rfl hc26 rfl (zD ⟨rfl, xD _, _, rfl, ⟨_, _, _, _, _, _, rfl, hn26⟩⟩)
    refine xQ (fun wq6 hR6 hpost6 => ?_)
    refine zQ rfl rfl (zQ rfl rfl (zQ rfl rfl (zK rfl (yY rfl (fun v22 hp22 => ?_)))))
    obtain ⟨xs22, xa22, xd22, xt22, xb22, xe22, rfl, hn22⟩ := hp22
    refine yY rfl (fun v27 hp27 => ?_)
    obtain ⟨xs27, xa27, xd27, xt27, xb27, xe27, rfl, hn27⟩ := hp27
    refine zF ?_
    simp only [jW, jV, jU, jT]
    obtain ⟨LL, LR, hM, hT, hE, Bn⟩ := ub6 hR6 LL LR hM hT hE Bn
    refine zI rfl (bo func115) rfl rfl ?_
    refine (lsame_c hT hn22.gen hn27.gen (by omega) (by omega) hM).mono ?_
    rintro v28 w2 ⟨hB28, rfl⟩
    obtain ⟨LL, LR, hM, hT, hE, Bn⟩ := ub6 hB28 LL LR hM hT hE Bn
    refine zD ?_
    refine zU rfl (fun hc2 => ?_) (fun hc2 => ?_)
    ·refine zG (zB (zA rfl rfl (zA rfl rfl (ops_slicelo (s) rfl yu67 kI rfl rfl (by omega) (by omega) (zC rfl rfl (zD (zG (zG (zB (zC rfl rfl (zD (zZ ?_))))))))))))
     refine xR (σ := Nat × Nat) [(0, _), (1, _), (6, _)] (fun z => [(5, .int .i64 ((z.1 : Nat) : Int)), (7, .int .i64 ((z.2 : Nat) : Int))]) (fun z w3 => Le Fz M w2 M w3 ∧ ∃ cur2 l2, Blk w3 bn 83 cur2 ∧ EPB M w3 n0 cur2 l2 ∧ cur2.length = cur.length ∧ l2.length = l.length ∧ 1 ≤ z.2 ∧ s + z.2 ≤ l.length ∧ z.1 + 1 ≤ s + z.2 ∧ l2.take z.1 = qF l (s + z.2) ∧ ∀ i, s + z.2 ≤ i + 1 → l2.getD i (0, 0) = l.getD i (0, 0)) (fun z => l.length - z.2) ((s, 1)) (zH rfl (zH rfl (zH rfl (zH rfl (zH rfl yE))))) ?_ (fun z w3 hJ => ?_)
     · exact ⟨Le.refl _ _ _, cur, l, Bn, hE, rfl, rfl, by omega, by omega, by omega, keep_same (by omega) (by omega) hs (aX.2 hc2), fun _ _ => rfl⟩
     ·clear Bn hE; obtain ⟨kk, k⟩ := z; dsimp only at hJ ⊢; obtain ⟨LS, cur2, l2, Bn, hE, hcl2, hll, hk1, hk2, hk3, hkt, hke⟩ := hJ; have hE0 := hE.e.len
      obtain ⟨LL, hM, hT⟩ := up3 LS LL hM hT
      refine zG (zG (zB (zA rfl rfl (zA rfl rfl (aS rfl yu67 rfl (jE rfl rfl rfl (zD ?_)))))))
      refine zU rfl (fun hc3 => ?_) (fun hc3 => ?_)
      ·refine yG (zG (zZ (zG ?_)))
       refine wd mixed 10 [0, 1, 5, 6, 7, 38, 42, 47] (by decide +kernel) ?_
       refine yZ (Ex (.func (.func 115) #[] #[])) uZ (fun wq hR hst => ?_) ?_
       ·refine zQ rfl rfl (zF ?_)
        obtain ⟨LS, hE, Bn⟩ := ub3 hR LS hE Bn
        exact zA rfl rfl (on0 rfl)
       refine yZ (Ex (.slice (some ⟨bn, s * 6, none⟩) (l.length - s) (cap - s))) uZ (fun wq hR hst => ?_) ?_
       ·refine zQ rfl rfl (zF ?_)
        obtain ⟨LS, hE, Bn⟩ := ub3 hR LS hE Bn
        exact zA rfl rfl (on0 rfl)
       apply zL
       ·intro wq hR hst
        refine zQ rfl rfl (zF ?_)
        obtain ⟨LS, hE, Bn⟩ := ub3 hR LS hE Bn
        exact zA rfl rfl (on0 rfl)
       refine dv (rPC M (n0) (l2.getD ((s + k)) (0, 0))) (fun wq hR hst => ?_) ?_
       ·refine zK rfl (zK rfl (zF ?_))
        obtain ⟨LS, hE, Bn⟩ := ub3 hR LS hE Bn
        refine ops_idxer (dflt := ((0, 0) : P2)) (s + k) (k) (s) rfl yu67 kI rfl rfl Bn hE.e (by omega) (by omega) (by omega) (by omega) (by omega) (fun b41 o41 us41 hul41 hu41 hc41 => ?_)
        obtain ⟨xs41, xa41, xd41, xt41, xb41, xe41, rfl, hn41⟩ := hu41
        exact on1 (xD _) rfl ⟨b41, o41, _, _, _, _, _, _, rfl, hc41, hn41⟩
       refine yZ (vPC M (n0) (l2.getD ((s + k)) (0, 0))) vPC_m (fun wq hR hst => ?_) ?_
       ·refine yY rfl (fun v41 hp41 => ?_)
        obtain ⟨b41, o41, xs41, xa41, xd41, xt41, xb41, xe41, rfl, hc41, hn41⟩ := hp41
        refine zF ?_
        obtain ⟨LS, hE, Bn⟩ := ub3 hR LS hE Bn
        exact gU rfl dA kI rfl hc41 rfl (zD ⟨rfl, xD _, _, rfl, ⟨_, _, _, _, _, _, rfl, hn41⟩⟩)
       refine yZ (Ex (.slice (some ⟨bn, s * 6, none⟩) (l.length - s) (cap - s))) uZ (fun wq hR hst => ?_) ?_
       ·refine zQ rfl rfl (zF ?_)
        obtain ⟨LS, hE, Bn⟩ := ub3 hR LS hE Bn
        exact zA rfl rfl (on0 rfl)
       apply zL
       ·intro wq hR hst
        refine zQ rfl rfl (zF ?_)
        obtain ⟨LS, hE, Bn⟩ := ub3 hR LS hE Bn
        exact zA rfl rfl (on0 rfl)
       refine yZ (Ex (.int .i64 (((k : Nat) : Int) - 1))) uZ (fun wq hR hst => ?_) ?_
       ·refine zK rfl (zF ?_)
        obtain ⟨LS, hE, Bn⟩ := ub3 hR LS hE Bn
        exact jJ rfl rfl rfl (by omega) (on0 rfl)
       refine dv (rPC M (n0) (l2.getD ((s + k - 1)) (0, 0))) (fun wq hR hst => ?_) ?_
       ·refine zK rfl (zK rfl (zF ?_))
        obtain ⟨LS, hE, Bn⟩ := ub3 hR LS hE Bn
        refine ops_idxer (dflt := ((0, 0) : P2)) (s + k - 1) (k - 1) (s) rfl yu67 kI rfl rfl Bn hE.e (by omega) (by omega) (by omega) (by omega) (by omega) (fun b46 o46 us46 hul46 hu46 hc46 => ?_)
        obtain ⟨xs46, xa46, xd46, xt46, xb46, xe46, rfl, hn46⟩ := hu46
        exact on1 (xD _) rfl ⟨b46, o46, _, _, _, _, _, _, rfl, hc46, hn46⟩
       refine yZ (vPC M (n0) (l2.getD ((s + k - 1)) (0, 0))) vPC_m (fun wq hR hst => ?_) ?_
       ·refine yY rfl (fun v46 hp46 => ?_)
        obtain ⟨b46, o46, xs46, xa46, xd46, xt46, xb46, xe46, rfl, hc46, hn46⟩ := hp46
        refine zF ?_
        obtain ⟨LS, hE, Bn⟩ := ub3 hR LS hE Bn
        exact gU rfl dA kI rfl hc46 rfl (zD ⟨rfl, xD _, _, rfl, ⟨_, _, _, _, _, _, rfl, hn46⟩⟩)
       refine xQ (fun wq11 hR11 hpost11 => ?_)
       refine zQ rfl rfl (zQ rfl rfl (zQ rfl rfl (zQ rfl rfl (zQ rfl rfl (zK rfl (yY rfl (fun v42 hp42 => ?_)))))))
       obtain ⟨xs42, xa42, xd42, xt42, xb42, xe42, rfl, hn42⟩ := hp42
       refine yY rfl (fun v47 hp47 => ?_)
       obtain ⟨xs47, xa47, xd47, xt47, xb47, xe47, rfl, hn47⟩ := hp47
       refine zF ?_
       simp only [jW, jV, jU, jT]
       obtain ⟨LS, hM, hT, hE, Bn⟩ := ub5 hR11 LS hM hT hE Bn
       refine zI rfl (bo func115) rfl rfl ?_
       refine (lsame_c hT hn42.gen hn47.gen (by omega) (by omega) hM).mono ?_
       rintro v48 w4 ⟨hB48, rfl⟩
       obtain ⟨LS, hE, Bn⟩ := ub3 hB48 LS hE Bn
       refine qZ rfl rfl (zD ?_)
       refine qC rfl (fun hc4 => ?_) (fun hc4 => ?_)
       ·refine zG (zB (zA rfl rfl (zA rfl rfl (zA rfl rfl (zA rfl rfl (ops_idxe (dflt := ((0, 0) : P2)) (s + k) (k) (s) rfl yu67 kI rfl rfl Bn hE.e (by omega) (by omega) (by omega) (by omega) (by omega) (fun us54 hul54 hu54 hc54 => ?_)))))))
        obtain ⟨xs54, xa54, xd54, xt54, xb54, xe54, rfl, hn54⟩ := hu54
        obtain ⟨oxa54, oxd54, oxb54, oxe54, _⟩ := hn54.one
        refine gU rfl dA kI rfl hc54 rfl (ops_idxe (dflt := ((0, 0) : P2)) kk kk 0 rfl yu67 kI rfl rfl Bn hE.e (by omega) (by omega) (by omega) (by omega) (by omega) (fun _ _ _ _ => ?_))
        refine yC rfl rfl kI Bn rfl (by rw [Nat.ble_eq]; have := hE.e.len; have := eP (k := 6) (show kk < l2.length by omega); omega) (ones6 oxa54 oxd54 oxb54 oxe54) rfl (fun w5 Cw5 Bn => ?_)
        have hE := hE.set (i := kk) (by omega) hn54
        obtain ⟨LS, hE⟩ := up2 (lc LS Cw5 hmn nFn) LS hE
        refine zD (zB (zA rfl rfl (yW rfl rfl rfl (by omega) (zC rfl rfl (zD (zB (zA rfl rfl (yW rfl rfl rfl (by omega) (zC rfl rfl (zD ?_))))))))))
        refine ⟨rfl, (kk + 1, k + 1), (zS rfl (by rw [Int.natCast_add]; rfl) (zS rfl (by rw [Int.natCast_add]; rfl) (zH rfl (zH rfl (zH rfl yE))))), ?_, ?_⟩
        dsimp only
        refine ⟨LS, _, _, Bn, hE, by rw [List.length_append, List.length_append, List.length_take, List.length_drop]; have := eP (k := 6) (show kk < l2.length by omega); simp only [List.length_cons, List.length_nil]; omega, by rw [List.length_set]; exact hll, by omega, by omega, by omega, ?_, fun i hi => by rw [getD_set_ne (by omega)]; exact hke i (by omega)⟩
        rw [hke _ (by omega)]
        exact keep_put (by omega) hkt (by rw [← hke _ (by omega), ← hke (s + k - 1) (by omega), aX]; simpa using hc4)
        dsimp only
        omega
       ·refine yG (zB (zA rfl rfl (yW rfl rfl rfl (by omega) (zC rfl rfl (zD ?_)))))
        refine ⟨rfl, (kk, k + 1), (zS rfl (rfl) (zS rfl (by rw [Int.natCast_add]; rfl) (zH rfl (zH rfl (zH rfl yE))))), ?_, ?_⟩
        dsimp only
        refine ⟨LS, _, _, Bn, hE, hcl2, hll, by omega, by omega, by omega, keep_skip (m := s + k) (by omega) hkt (by rw [← hke _ (by omega), ← hke (s + k - 1) (by omega), aX]; simpa using hc4), fun i hi => hke i (by omega)⟩
        dsimp only
        omega
      ·refine xK (xM (zG (zB (zA rfl rfl (zA rfl rfl (ops_slicelo (kk) rfl yu67 kI rfl rfl (by omega) (by omega) (ops_clear (te := 83) yu67 kI rfl (yK (yK (yK (yK (yK (yK jI)))))) rfl Bn (by have := hE.e.len; have : (l.length - kk) * 6 = l.length * 6 - kk * 6 := Nat.sub_mul _ _ _; have := Nat.mul_le_mul_right 6 (show kk ≤ l.length by omega); rw [hll] at *; omega) (by omega) (by omega) (fun w6 cur3 Cw6 Bw6 hcl hce => ?_))))))))
       have hE : EPB _ _ n0 cur3 (l2.take kk) := ⟨hE.take.e.cut (n := kk) (by rw [List.length_take]; omega) hcl hce⟩
       obtain ⟨LL, LS, hE⟩ := up3 (lc LL Cw6 hmn nFn) LL LS hE
       replace Bn := Bw6; clear Bw6
       refine zD (zG (zB (zA rfl rfl (zA rfl rfl (ops_slicehi kk rfl yu67 kI rfl rfl (by omega) (by omega) (zC rfl rfl (zD (zR ?_))))))))
       refine lv1 ⟨rfl, trivial⟩ ?_
       have hkl : s + k = l.length := by omega
       rw [hkl] at hkt
       have hkn : (qF l l.length).length = kk := by rw [← hkt, List.length_take]; omega
       rw [hkn, ← hkt]
       exact ⟨LL, _, Bn, by omega, hE, rfl⟩
    ·refine yG (zB (zA rfl rfl (yW rfl rfl rfl (by omega) (zC rfl rfl (zD ?_)))))
     refine ⟨rfl, s + 1, (zS rfl (by rw [Int.natCast_add]; rfl) (zH rfl (zH rfl yE))), ?_, ?_⟩
     exact ⟨LR, Bn, by omega, by omega, fun i h1 h2 => by rcases Nat.lt_or_ge i s with c | c; exact hs i h1 c; obtain rfl : i = s := (by omega); exact fun c => hc2 (aX.1 c)⟩
     omega
   ·refine xK (xM (zG (zB (zA rfl rfl (zC rfl rfl (zD (zR ?_)))))))
    refine lv1 ⟨rfl, trivial⟩ ?_
    obtain rfl : s = l.length := by omega
    have hke : qF l l.length = l := by rw [keep_all (Nat.le_refl _) hs, List.take_length]
    rw [hke]
    exact ⟨LL, cur, Bn, rfl, hE, rfl⟩
structure LRow (Fz M : Nat → Prop) (w : World) (n : Nat) (v : Value) (l : List P2) : Prop where
  ex : (l = [] ∧ ∃ ad cap, v = .slice ad 0 cap) ∨ ∃ b cap cur, v = .slice (some ⟨b, 0, none⟩) l.length cap ∧ l.length ≤ cap ∧ 0 < l.length ∧ Blk w b 83 cur ∧ M b ∧ ¬ Fz b ∧ EPB M w n cur l
theorem cmpL_swo : Sort.SWO (ltOf eQ) :=
  ⟨fun x => by simpa [ltOf] using cmpL_irr x, fun x y z h k => by simp only [ltOf, decide_eq_true_eq] at *; exact cmpL_lt_trans h k, fun x y z h k => by
    simp only [ltOf, decide_eq_false_iff_not, eX, Classical.not_not] at *
    exact leL_trans k h⟩
theorem sortl_c {Fz M : Nat → Prop} {w : World} {n0 : Nat} {v : Value} {l : List P2} (hT : Tab M w) (h1 : LRow Fz M w n0 v l) (hl1 : n0 ≤ 9000) (hlen : l.length ≤ 1000000) (hF : FOk Fz w) (hM : OkM M w) :
    CallsV prog 112 [v, .func (.func 113) #[] #[]] w fun r w' => Le Fz M w M w' ∧ (∀ k, v.ownBlock ≠ some k → k < w.heap.size → w'.heap[k]? = w.heap[k]?) ∧ ∃ l', LRow Fz M w' n0 v l' ∧ l'.Perm l ∧ ∀ i j, i < j → j < l'.length → leL (l'.getD i (0, 0)) (l'.getD j (0, 0)) := by
  rcases h1.ex with ⟨rfl, ad, cap, rfl⟩ | ⟨b, cap, cur, rfl, hc, h0, B, hm, hf, hE⟩
  · refine (AnyF.slices_SortFunc_none sortLevel ad cap _ w).mono ?_
    rintro e w' ⟨rfl, rfl⟩
    exact ⟨_, rfl, Le.refl _ _ _, fun _ _ _ => rfl, [], ⟨.inl ⟨rfl, ad, cap, rfl⟩⟩, .refl _, fun i j _ h => by simp at h⟩
  · have hs := sort_row (g := 113) (k := 6) (b := b) (cap := cap) (te := 83) (Fz := fun k => k ≠ b) (M := M) (w := w) (cur := cur) (l := l) (R := RPc n0) (cf := eQ) sortLevel dA (qT kI) (bod_enter (bo func113)) cmpL_swo
      (fun a us ⟨s, x, y, t, z, q, e, h⟩ => by rw [e]; obtain ⟨o1, o2, o3, o4, _⟩ := h.one; exact ones6 o1 o2 o3 o4) hm (fun c => c rfl)
      (fun W hle a us ⟨s, x, y, t, z, q, e, h⟩ => ⟨s, x, y, t, z, q, e, h.mono hle⟩)
      (fun W hle x y us vs ⟨s, a, d, t, b', e, e1, g1⟩ ⟨s2, a2, d2, t2, b2, e2, e3, g2⟩ => by
        rw [e1, e3]
        exact lcmp_c (hT.mono hle) g1.gen g2.gen hl1 hl1 (hM.mono hle)) B hE.e h0 (by omega)
    refine hs.mono ?_
    rintro e w' ⟨rfl, cur', l', hp, hso, hcl, B', hE', hle⟩
    have hll := hp.length_eq
    refine ⟨_, rfl, ⟨hle.os, hle.tape, hle.output, hle.size, fun k hk hF' => hle.frz k hk (fun c => hf (c ▸ hF')), hle.imm, hle.chg, hle.ok⟩, fun k hk hs => hle.frz k hs (fun c => hk (by rw [c]; rfl)), l', ⟨.inr ⟨b, cap, cur', by rw [hll], by omega, by omega, B', hm, hf, ⟨hE'⟩⟩⟩, hp, fun i j hij hj => ?_⟩
    have h5 := hso i j hij hj
    rw [eX, Classical.not_not, getElem!_pos l' i (by omega), getElem!_pos l' j hj] at h5
    simpa [List.getD_eq_getElem?_getD, List.getElem?_eq_getElem hj, List.getElem?_eq_getElem (show i < l'.length by omega)] using h5
theorem compactl0_c {ad : Option Addr} {cap : Nat} {g : Value} (hM : OkM M w) :
    CallsV prog 114 [.slice ad 0 cap, g] w fun r w' => Bel w.heap.size w w' ∧ r = .slice ad 0 cap := by
 refine ci M func114 ntmps114 fun Fz hFz hF LL => ?_
 refine zG (zB (zC rfl rfl (zD (zG (zG (zB (zA rfl rfl (aS rfl yu67 rfl (jE rfl rfl rfl (zD ?_))))))))))
 refine zU rfl (fun hc0 => ?_) (fun hn => absurd (by decide) hn)
 refine zG (zB (zA rfl rfl (zC rfl rfl (zD (zR ?_)))))
 refine lv1 ⟨rfl, trivial⟩ ?_
 subst hFz
 exact ⟨LL.b, rfl⟩
theorem compactlv_c {Fz M : Nat → Prop} {w : World} {n0 : Nat} {v : Value} {l : List P2} (hT : Tab M w) (h1 : LRow Fz M w n0 v l) (hl1 : n0 ≤ 9000) (hlen : l.length ≤ 1000000) (hF : FOk Fz w) (hM : OkM M w) :
    CallsV prog 114 [v, .func (.func 115) #[] #[]] w fun r w' => Le Fz M w M w' ∧ (∀ k, v.ownBlock ≠ some k → k < w.heap.size → w'.heap[k]? = w.heap[k]?) ∧ LRow Fz M w' n0 r (qF l l.length) ∧ (∀ k, r.ownBlock = some k → v.ownBlock = some k) := by
  rcases h1.ex with ⟨rfl, ad, cap, rfl⟩ | ⟨b, cap, cur, rfl, hc, h0, B, hm, hf, hE⟩
  · refine (compactl0_c hM).mono ?_
    rintro r w' ⟨hB, rfl⟩
    exact ⟨Le.of_below hB, fun k _ hk => hB.block k hk, ⟨.inl ⟨rfl, ad, cap, rfl⟩⟩, fun k h => h⟩
  · refine (compactl_c (Fz := fun k => k ≠ b ∧ k < w.heap.size) hT B hE hl1 hlen h0 hc hm (fun c => c.1 rfl) (fun k hk => hk.2) hM).mono ?_
    rintro r w' ⟨hle, cur', B', hcl, hE', rfl⟩
    have hkl := keep_len l l.length
    refine ⟨⟨hle.os, hle.tape, hle.output, hle.size, fun k hk hF' => hle.frz k hk ⟨fun c => hf (c ▸ hF'), hk⟩, hle.imm, hle.chg, hle.ok⟩, fun k hk hs => hle.frz k hs ⟨fun c => hk (by rw [c]; rfl), hs⟩, ⟨.inr ⟨b, cap, cur', rfl, by omega, keep_pos h0, B', hm, hf, hE'⟩⟩, fun k h => h⟩
theorem LRow.one {Fz M : Nat → Prop} {w : World} {n : Nat} {v : Value} {l : List P2} (h : LRow Fz M w n v l) : v.oneCell' = true := by
  rcases h.ex with ⟨_, ad, cap, rfl⟩ | ⟨b, cap, cur, rfl, _⟩ <;> rfl
theorem lrow_own {Fz M : Nat → Prop} {w : World} {n : Nat} {v : Value} {cs : List Value} {l : List P2} (Ow : w.ownsRow 0 83 6 v l.length cs) (He : EP M w n cs l) (hm : ∀ k, v.ownBlock = some k → M k) (hf : ∀ k, v.ownBlock = some k → ¬ Fz k) : LRow Fz M w n v l := by
  obtain ⟨hlen, ⟨rfl, h0⟩ | ⟨g, cap, cur, rfl, _, hb, hc, _, hsz, htk⟩⟩ := Ow
  · exact ⟨.inl ⟨List.length_eq_zero_iff.1 h0, none, 0, rfl⟩⟩
  · rcases Nat.eq_zero_or_pos l.length with h0 | h0
    · exact ⟨.inl ⟨List.length_eq_zero_iff.1 h0, _, cap, by rw [h0]⟩⟩
    · refine ⟨.inr ⟨g, cap, cur.toList, rfl, hc, h0, by unfold Blk; simpa using hb, hm _ rfl, hf _ rfl, ⟨⟨by rw [show cur.toList.length = cap * 6 by rw [Array.length_toList]; exact hsz]; exact Nat.mul_le_mul_right 6 hc, fun i a ha => ?_⟩⟩⟩⟩
      obtain ⟨us, h1, h2, h3⟩ := He.e.at_ i a ha
      refine ⟨us, h1, fun q u hq => ?_, h3⟩
      have := h2 q u hq
      rw [← htk, List.getElem?_take] at this
      split at this
      · exact this
      · cases this
theorem lrow_pl {Fz M1 M : Nat → Prop} {w : World} {n : Nat} {v : Value} {l : List P2} (h : LRow Fz M1 w n v l) (hs : ∀ k, M k → M1 k) (hn : ∀ k, v.ownBlock = some k → ¬ M k) (hl : l.length ≤ 1000000) : PLc M w n l v := by
  rcases h.ex with ⟨rfl, ad, cap, rfl⟩ | ⟨b, cap, cur, rfl, hc, h0, B, hm, hf, hE⟩
  · exact ⟨⟨[], ⟨rfl, by simp, ad, cap, rfl, Nat.zero_le _, .inl rfl⟩, fun i a ha => by simp at ha⟩⟩
  · have e : EB (RPc n) 6 M w cur l := hE.e.mono fun _ _ ⟨a, b, c, d, e, f, e0, h0⟩ => ⟨a, b, c, d, e, f, e0, h0.less hs⟩
    exact ⟨e.row B (hn b rfl) hc (by omega)⟩
theorem levelsof_c {n0 n1 n2 n3 n4 : Nat} {v : Value} {xs2 : Bool} {xa2 : Value} {xd2 : Value} {xs3 : Bool} {xa3 : Value} {xd3 : Value} {xs4 : Bool} {xa4 : Value} {xd4 : Value} {xt4 : Bool} {xb4 : Value} {xe4 : Value} {xs4b : Bool} {xa4b : Value} {xd4b : Value} {xt4b : Bool} {xb4b : Value} {xe4b : Value} {lo hi : Rat} {bl bh : P2} {es : List (P2 × P2)} (hT : Tab M w) (h2 : QC M w n1 lo xs2 xa2 xd2) (h3 : QC M w n2 hi xs3 xa3 xd3) (h4 : PQ M w n3 bl xs4 xa4 xd4 xt4 xb4 xe4) (h5 : PQ M w n4 bh xs4b xa4b xd4b xt4b xb4b xe4b) (h1 : EL M w n0 es v) (hl0 : n0 ≤ 100) (hl1 : n1 ≤ 100) (hl2 : n2 ≤ 100) (hl3 : n3 ≤ 100) (hl4 : n4 ≤ 100) (hlen : es.length ≤ 1000) (hM : OkM M w) :
    CallsV prog 55 [.agg #[.bool xs2, xa2, xd2], .agg #[.bool xs3, xa3, xd3], .agg #[.bool xs4, xa4, xd4, .bool xt4, xb4, xe4, .bool xs4b, xa4b, xd4b, .bool xt4b, xb4b, xe4b], v] w fun r w' => Bel w.heap.size w w' ∧ ∃ l, (if lo < hi then IsLv lo hi bl.2 bh.2 es l else l = []) ∧ PLc M w' (20 * (n0 + n0 + n1 + n2) + n3 + n4 + 100) l r := by
 obtain ⟨oh1, _⟩ := h1.one
 have hth := Nat.le_trans (thru_len lo hi es es.length) hlen
 obtain ⟨oxa2, oxd2, _⟩ := h2.one; obtain ⟨oxa3, oxd3, _⟩ := h3.one; obtain ⟨oxa4, oxd4, oxb4, oxe4, _⟩ := h4.one; obtain ⟨oxa4b, oxd4b, oxb4b, oxe4b, _⟩ := h5.one
 refine ci M func55 ntmps55 fun Fz hFz hF LL => ?_
 refine zG (zB (yN rfl rfl (fun w1 b4 N4 => ?_)))
 obtain ⟨hBw1, nF4, nM4, Lw1, B4⟩ := nza hF hM N4
 replace LL := LL.trans Lw1
 replace hM := hM.mono Lw1
 replace hF := hF.mono Lw1
 replace hT := hT.mono Lw1
 replace h1 := h1.mono Lw1
 replace h2 := h2.mono Lw1
 replace h3 := h3.mono Lw1
 replace h4 := h4.mono Lw1
 replace h5 := h5.mono Lw1
 refine yN rfl rfl (fun w2 b5 N5 => ?_)
 obtain ⟨hBw2, nF5, nM5, Lw2, B5⟩ := nza hF hM N5
 obtain ⟨B4, ne4_5⟩ := bn B4 N5
 replace LL := LL.trans Lw2
 replace hM := hM.mono Lw2
 replace hF := hF.mono Lw2
 replace hT := hT.mono Lw2
 replace h1 := h1.mono Lw2
 replace h2 := h2.mono Lw2
 replace h3 := h3.mono Lw2
 replace h4 := h4.mono Lw2
 replace h5 := h5.mono Lw2
 refine yN rfl rfl (fun w3 b6 N6 => ?_)
 obtain ⟨hBw3, nF6, nM6, Lw3, B6⟩ := nza hF hM N6
 obtain ⟨B4, ne4_6⟩ := bn B4 N6
 obtain ⟨B5, ne5_6⟩ := bn B5 N6
 replace LL := LL.trans Lw3
 replace hM := hM.mono Lw3
 replace hF := hF.mono Lw3
 replace hT := hT.mono Lw3
 replace h1 := h1.mono Lw3
 replace h2 := h2.mono Lw3
 replace h3 := h3.mono Lw3
 replace h4 := h4.mono Lw3
 replace h5 := h5.mono Lw3
 refine zC rfl rfl (zD (zG (zG (zB (zP rfl yQ yL rfl B4 rfl rfl (zP rfl yQ yL rfl B5 rfl rfl (zI rfl (bo func78) rfl rfl ?_)))))))
 refine (eN hT h2 h3 (by omega) (by omega) hM).mono ?_
 rintro v12 w4 ⟨hB12, rfl⟩
 have Lw4 := Le.of_below (Fz := Fz) (M := (Ins b6 (Ins b5 (Ins b4 M)))) hB12
 replace LL := LL.trans Lw4
 replace hM := hM.mono Lw4
 replace hF := hF.mono Lw4
 replace hT := hT.mono Lw4
 replace h1 := h1.mono Lw4
 replace h2 := h2.mono Lw4
 replace h3 := h3.mono Lw4
 replace h4 := h4.mono Lw4
 replace h5 := h5.mono Lw4
 replace B4 := B4.below hB12
 replace B5 := B5.below hB12
 replace B6 := B6.below hB12
 refine kB rfl rfl rfl (zD ?_)
 refine zU rfl (fun hc0 => ?_) (fun hc0 => ?_)
 ·have hlt : ¬ lo < hi := by have := aV.1 hc0; grind
  refine zG (zB (zC rfl rfl (zD (zR ?_))))
  refine lv1 ⟨rfl, trivial⟩ ?_
  subst hFz
  exact ⟨LL.b, [], (by rw [if_neg hlt]), ⟨⟨[], ⟨rfl, by simp, none, 0, rfl, Nat.le_refl _, .inl rfl⟩, fun i a ha => by simp at ha⟩⟩⟩
 ·have hlt : lo < hi := by have := aV (p := lo) (q := hi); grind
  refine yG (zG ?_)
  refine SL.wp_drawS (R := Ro) (R' := Rp 4) (Pr := fun _ _ => True) (st := some (4, PreO, PostO)) none mixed 12 [18, 22, 25] (by decide +kernel) ro_trans rp_ro (ro_drew _) (fun _ _ _ h => by cases h; exact ⟨by decide, rfl, preO_mono, postO_mono, _, rfl⟩) (fun _ => trivial) (fun _ _ _ _ _ _ _ => trivial) ?_
  apply aK rfl
  ·intro xq hR hst hPr
   obtain ⟨wq, gq⟩ := xq
   refine iG rfl rfl ?_
   refine gW ?_; dsimp only
   replace B4 := B4.below hR.1
   refine zP rfl yQ yL rfl B4 rfl rfl ?_
   exact zD ⟨rfl, gq, dJ (Bel.refl _ _), _, rfl, rfl⟩
  apply aK rfl
  ·intro xq hR hst hPr
   obtain ⟨wq, gq⟩ := xq
   refine iG rfl rfl ?_
   refine gW ?_; dsimp only
   replace B5 := B5.below hR.1
   refine zP rfl yQ yL rfl B5 rfl rfl ?_
   exact zD ⟨rfl, gq, dJ (Bel.refl _ _), _, rfl, rfl⟩
  refine drsS_vals rfl (ExS (v)) (fun _ _ _ h _ => h) (fun xq hR hst hPr => ?_) ?_
  ·obtain ⟨wq, gq⟩ := xq
   refine iG rfl rfl ?_
   refine gW ?_; dsimp only
   refine zA rfl rfl ?_
   exact zD ⟨rfl, gq, dJ (Bel.refl _ _), _, rfl, rfl⟩
  refine drsS_vals rfl (fun v x => LIt (Ins b6 (Ins b5 (Ins b4 M))) x.1 (20 * (n0 + n0 + n1 + n2) + 100) (qD lo hi es es.length) v) (fun _ _ _ h r => h.mono (Fz := fun _ => False) (Le.of_below r.1)) (fun xq hR hst hPr => ?_) ?_
  ·obtain ⟨wq, gq⟩ := xq
   refine cX rfl ?_
   refine cX rfl ?_
   refine cX rfl ?_
   refine gW ?_; dsimp only
   have Lq := Le.of_below (Fz := Fz) (M := (Ins b6 (Ins b5 (Ins b4 M)))) hR.1
   replace LL := LL.trans Lq
   replace hM := hM.mono Lq
   replace hF := hF.mono Lq
   replace hT := hT.mono Lq
   replace h1 := h1.mono Lq
   replace h2 := h2.mono Lq
   replace h3 := h3.mono Lq
   replace h4 := h4.mono Lq
   replace h5 := h5.mono Lq
   replace B4 := B4.below hR.1
   replace B5 := B5.below hR.1
   replace B6 := B6.below hR.1
   refine zI rfl (bo func110) rfl rfl ?_
   refine (through_c hT (by assumption) (by assumption) (by assumption) (by omega) (by omega) (by omega) (by omega) hM).mono ?_
   rintro v17 w5 ⟨hB17, hit17⟩
   exact zD ⟨rfl, gq, dJ hB17, _, rfl, hit17⟩
  refine drsS_chg rfl (fun v x => ∃ z, x.2 = some z ∧ (∀ k, v.ownBlock = some k → k < z) ∧ (∀ k, v.ownBlock = some k → w4.heap.size ≤ k) ∧ v.oneCell' = true ∧ ∃ cs, x.1.ownsRow 0 83 6 v (qD lo hi es es.length).length cs ∧ EP (Mo v (Ins b6 (Ins b5 (Ins b4 M)))) x.1 (20 * (n0 + n0 + n1 + n2) + n3 + n4 + 100) cs (qD lo hi es es.length)) (fun _ _ _ ⟨z, h1, h2, h3, h4, cs, h5, h6⟩ r => ⟨z, ro_some h1 r, h2, h3, h4, cs, xH h5 r.1, h6.mono (Fz := fun _ => False) (Le.of_below r.1)⟩) (fun xq hR hpre => ?_) ?_
  ·obtain ⟨wq, gq⟩ := xq
   refine oblS_g rfl (fun v17 hp17 => ?_)
   dsimp only at hp17
   have hit17 := hp17; obtain ⟨oh17, _⟩ := hit17.one
   refine gW ?_; dsimp only
   have Lq := Le.of_below (Fz := Fz) (M := (Ins b6 (Ins b5 (Ins b4 M)))) hR.1
   replace hM := hM.mono Lq
   refine zI rfl (bo func109) rfl rfl ?_
   refine (collectl_c (m := 20 * (n0 + n0 + n1 + n2) + n3 + n4 + 100) hit17 (by omega) (Nat.le_trans (thru_len _ _ _ _) hlen) hM).mono ?_
   rintro v18 w6 ⟨hB18, cs18, Ow, He, hO18⟩
   exact zD ⟨rfl, _, rp_ka hpre hB18, ⟨_, rfl, Nat.le_refl _⟩, _, rfl, _, rfl, own_lt Ow, fun k c => Nat.le_trans hR.1.size (hO18 k c), yO Ow, cs18, Ow, He⟩
  apply aK rfl
  ·intro xq hR hst hPr
   obtain ⟨wq, gq⟩ := xq
   refine iG rfl rfl ?_
   refine gW ?_; dsimp only
   refine zJ 0 rfl underlying74 rfl rfl gT rfl rfl ?_
   exact zD ⟨rfl, gq, dJ (Bel.refl _ _), _, rfl, rfl⟩
  apply aK rfl
  ·intro xq hR hst hPr
   obtain ⟨wq, gq⟩ := xq
   refine cX rfl ?_
   refine gW ?_; dsimp only
   refine zJ 3 rfl yu39 rfl rfl yL rfl rfl ?_
   exact zD ⟨rfl, gq, dJ (Bel.refl _ _), _, rfl, rfl⟩
  apply aK rfl
  ·intro xq hR hst hPr
   obtain ⟨wq, gq⟩ := xq
   refine cX rfl ?_
   refine gW ?_; dsimp only
   replace B6 := B6.below hR.1
   refine zP rfl yQ yL rfl B6 rfl rfl ?_
   exact zD ⟨rfl, gq, dJ (Bel.refl _ _), _, rfl, rfl⟩
  refine drsS_vals rfl (fun v x => ∃ z22, x.2 = some z22 ∧ ∃ xs22 xa22 xd22 xt22 xb22 xe22, v = .agg #[.bool xs22, xa22, xd22, .bool xt22, xb22, xe22] ∧ PC (fun k => (Ins b6 (Ins b5 (Ins b4 M))) k ∨ (w4.heap.size ≤ k ∧ k < z22)) x.1 (n3 + 1) ((bl.2, bl.2)) xs22 xa22 xd22 xt22 xb22 xe22) (fun _ _ _ ⟨z, hz, xs22, xa22, xd22, xt22, xb22, xe22, e, h0⟩ r => ⟨z, ro_some hz r, xs22, xa22, xd22, xt22, xb22, xe22, e, h0.mono (Fz := fun _ => False) (Le.of_below r.1)⟩) (fun xq hR hst hPr => ?_) ?_
  ·obtain ⟨wq, gq⟩ := xq
   refine cX rfl ?_
   refine gW ?_; dsimp only
   obtain ⟨z22, hz22, hzs22⟩ := hst.1 (by decide +kernel); dsimp only at hz22 hzs22
   have Lq : Le Fz (Ins b6 (Ins b5 (Ins b4 M))) w4 (fun k => (Ins b6 (Ins b5 (Ins b4 M))) k ∨ (w4.heap.size ≤ k ∧ k < z22)) wq := Le.own_any hR.1 (fun k c => c.imp id fun c => ⟨c.1, Nat.lt_of_lt_of_le c.2 hzs22⟩)
   replace hM := hM.mono Lq
   replace hT := hT.mono Lq
   replace h4 := h4.mono Lq
   refine zI rfl (bo func111) rfl rfl ?_
   refine (lflat_c hT h4.y (by omega) hM).mono ?_
   rintro v22 w7 ⟨hB22, xs22, xa22, xd22, xt22, xb22, xe22, rfl, hn22⟩
   exact zD ⟨rfl, gq, dJ hB22, _, rfl, ⟨z22, hz22, _, _, _, _, _, _, rfl, hn22⟩⟩
  apply aK rfl
  ·intro xq hR hst hPr
   obtain ⟨wq, gq⟩ := xq
   refine iG rfl rfl ?_
   refine gW ?_; dsimp only
   refine zJ 6 rfl underlying74 rfl rfl gT rfl rfl ?_
   exact zD ⟨rfl, gq, dJ (Bel.refl _ _), _, rfl, rfl⟩
  apply aK rfl
  ·intro xq hR hst hPr
   obtain ⟨wq, gq⟩ := xq
   refine cX rfl ?_
   refine gW ?_; dsimp only
   refine xA 3 rfl yu39 rfl rfl yL rfl rfl ?_
   exact zD ⟨rfl, gq, dJ (Bel.refl _ _), _, rfl, rfl⟩
  apply aK rfl
  ·intro xq hR hst hPr
   obtain ⟨wq, gq⟩ := xq
   refine cX rfl ?_
   refine gW ?_; dsimp only
   replace B6 := B6.below hR.1
   refine zP rfl yQ yL rfl B6 rfl rfl ?_
   exact zD ⟨rfl, gq, dJ (Bel.refl _ _), _, rfl, rfl⟩
  refine drsS_nil (fun xq hR hpost => ?_)
  obtain ⟨wq3, gq⟩ := xq
  refine oblS_g rfl (fun v18 hp18 => ?_)
  dsimp only at hp18
  obtain ⟨z18, hz18, hlt18, hge18, oh18, cs18, Ow, He⟩ := hp18
  refine oblS_g rfl (fun v22 hp22 => ?_)
  dsimp only at hp22
  obtain ⟨z22, hz22, xs22, xa22, xd22, xt22, xb22, xe22, rfl, hn22⟩ := hp22; obtain ⟨oxa22, oxd22, oxb22, oxe22, _⟩ := hn22.one
  refine cX rfl ?_
  refine gW ?_; dsimp only
  simp only [jW, jV, jU, jT]
  obtain rfl := Option.some.inj (hz18.symm.trans hz22)
  replace hn22 := hn22.less (M' := (Mo v18 (Ins b6 (Ins b5 (Ins b4 M))))) fun k c => c.elim (fun c => .inr ⟨hge18 k c, hlt18 k c⟩) .inl
  have Of : ∀ k, v18.ownBlock = some k → ¬ Fz k := fun k c e => by have h1 := hge18 k c; have h2 := hF k e; omega
  have Om : ∀ k, v18.ownBlock = some k → ¬ (Ins b6 (Ins b5 (Ins b4 M))) k := fun k c e => by have h1 := hge18 k c; have h2 := hM k e; omega
  have Lq : Le Fz (Ins b6 (Ins b5 (Ins b4 M))) w4 (Mo v18 (Ins b6 (Ins b5 (Ins b4 M)))) wq3 := Le.own_any hR.1 (fun k c => c.elim (fun c => .inr ⟨hge18 k c, own_lt Ow k c⟩) .inl)
  replace LL := LL.trans Lq
  replace hM := hM.mono Lq
  replace hF := hF.mono Lq
  replace hT := hT.mono Lq
  replace h1 := h1.mono Lq
  replace h2 := h2.mono Lq
  replace h3 := h3.mono Lq
  replace h4 := h4.mono Lq
  replace h5 := h5.mono Lq
  replace B4 := B4.below hR.1
  replace B5 := B5.below hR.1
  replace B6 := B6.below hR.1
  refine zI rfl (bo func111) rfl rfl ?_
  refine (lflat_c hT h5.y (by omega) hM).mono ?_
  rintro v26 w8 ⟨hB26, xs26, xa26, xd26, xt26, xb26, xe26, rfl, hn26⟩
  have Lw8 := Le.of_below (Fz := Fz) (M := (Mo v18 (Ins b6 (Ins b5 (Ins b4 M))))) hB26
  replace LL := LL.trans Lw8
  replace hM := hM.mono Lw8
  replace hF := hF.mono Lw8
  replace hT := hT.mono Lw8
  replace h1 := h1.mono Lw8
  replace h2 := h2.mono Lw8
  replace h3 := h3.mono Lw8
  replace h4 := h4.mono Lw8
  replace h5 := h5.mono Lw8
  replace He := He.mono Lw8
  replace hn22 := hn22.mono Lw8
  replace B4 := B4.below hB26
  replace B5 := B5.below hB26
  replace B6 := B6.below hB26
  replace Ow := xH Ow hB26
  obtain ⟨oxa26, oxd26, oxb26, oxe26, _⟩ := hn26.one
  refine xN rfl yu67 kI rfl rfl rfl rfl (yB rfl (yB rfl xI)) rfl rfl rfl (fun w9 b27 N27 => ?_)
  have hBw9 := N27.below
  have nM27 := hM.new N27
  have B27 := N27.blk
  have Lw9 := Le.of_below (Fz := Fz) (M := (Mo v18 (Ins b6 (Ins b5 (Ins b4 M))))) hBw9
  replace LL := LL.trans Lw9
  replace hM := hM.mono Lw9
  replace hF := hF.mono Lw9
  replace hT := hT.mono Lw9
  replace h1 := h1.mono Lw9
  replace h2 := h2.mono Lw9
  replace h3 := h3.mono Lw9
  replace h4 := h4.mono Lw9
  replace h5 := h5.mono Lw9
  replace He := He.mono Lw9
  replace hn22 := hn22.mono Lw9
  replace hn26 := hn26.mono Lw9
  replace B4 := B4.below hBw9
  replace B5 := B5.below hBw9
  replace B6 := B6.below hBw9
  replace Ow := xH Ow hBw9
  refine ops_appendk rfl yu67 kI rfl rfl rfl rfl Ow (((KBlk.mk B27 nM27)).blk.slc ((KBlk.mk B27 nM27)).not (sz := 6) (n := 2) rfl (fun _ _ h => h) (by omega) (Nat.le_refl _)) (fun u hu => by rcases List.mem_append.1 (show u ∈ [_, _, _, _, _, _] ++ [_, _, _, _, _, _] from hu) with h | h <;> exact ones6 (by assumption) (by assumption) (by assumption) (by assumption) _ h) (by omega) (by omega) (fun v28 w10 A28 G28 S28 => ?_)
  have Lw10 := Le.of_grown (Fz := Fz) (M := (Ins b6 (Ins b5 (Ins b4 M)))) G28 S28 A28 Of
  have Omo28 := Om
  replace Of := jM (w' := w10) Of hF S28
  replace Om := jL (w' := w10) Om (fun k hk => hM k (.inr hk)) S28
  replace LL := LL.trans Lw10
  replace hM := hM.mono Lw10
  replace hF := hF.mono Lw10
  replace hT := hT.mono Lw10
  replace He := He.mono Lw10
  replace hn22 := hn22.mono Lw10
  replace hn26 := hn26.mono Lw10
  clear Ow; have Ow := A28
  replace He := He.snoc (hn22.up (by omega))
  replace He := He.snoc (hn26.up (by omega))
  refine zC rfl rfl (zD (zG (zB ?_)))
  have hvr := lrow_own (Fz := Fz) (l := qD lo hi es es.length ++ [(bl.2, bl.2), (bh.2, bh.2)]) (by rw [List.length_append]; exact Ow) (by simp only [List.append_assoc, List.cons_append, List.nil_append] at He; exact He) (M := (Mo v28 (Ins b6 (Ins b5 (Ins b4 M))))) (w := w10) (v := v28) (fun k h => .inl h) Of
  refine zA rfl rfl (zI rfl (bo func112) rfl rfl ?_)
  refine (sortl_c (Fz := Fz) (M := (Mo v28 (Ins b6 (Ins b5 (Ins b4 M))))) hT hvr (by omega) (by simp; omega) hF hM).mono ?_
  rintro v30 w11 ⟨Lw11, hkpw11, l1, hv1, hp1, hs1⟩
  replace LL := LL.trans Lw11
  replace hM := hM.mono Lw11
  replace hF := hF.mono Lw11
  replace hT := hT.mono Lw11
  have hll1 := hp1.length_eq; simp at hll1
  refine zD (zG (zB (zA rfl rfl (zI rfl (bo func114) rfl rfl ?_))))
  refine (compactlv_c (Fz := Fz) (M := (Mo v28 (Ins b6 (Ins b5 (Ins b4 M))))) hT hv1 (by omega) (by omega) hF hM).mono ?_
  rintro v32 w12 ⟨Lw12, hkpw12, hv2, ho2⟩
  replace LL := LL.trans Lw12
  have ov32 := hv2.one
  have hres : PLc (Ins b6 (Ins b5 (Ins b4 M))) w12 (20 * (n0 + n0 + n1 + n2) + n3 + n4 + 100) (qF l1 l1.length) v32 := lrow_pl hv2 (fun k c => .inr c) (fun k h => Om k (ho2 k h)) (by have := keep_len l1 l1.length; omega)
  have Lz : Le Fz (Mo v28 (Ins b6 (Ins b5 (Ins b4 M)))) w12 (Ins b6 (Ins b5 (Ins b4 M))) w12 := Le.less (fun k c => .inr c)
  replace LL := LL.trans Lz
  refine zC rfl rfl (zD (zR ?_))
  refine lv1 ⟨rfl, trivial⟩ ?_
  subst hFz
  exact ⟨LL.b, _, by rw [if_pos hlt]; exact lv_of_sort (by simpa using hp1) hs1, hres.less (fun k c => zM (zM (zM c)))⟩
end
theorem rise_y {a b : P2} (h : Tr (((decide (0 < jY a.1 b.1) || decide (0 < jY a.2 b.2)) || (decide (jY a.1 b.1 = 0) && decide (jY a.2 b.2 = 0))) = true)) : ¬ qQ a b := by
 have h := h.h
 simp only [Bool.or_eq_true, Bool.and_eq_true, decide_eq_true_eq] at h
 rcases h with (h | h) | h
 ·exact rise_no1 h
 ·exact rise_no2 h
 ·exact rise_no3 h.1 h.2
theorem rise_n {a b : P2} (h : Tr (((decide (0 < jY a.1 b.1) || decide (0 < jY a.2 b.2)) || (decide (jY a.1 b.1 = 0) && decide (jY a.2 b.2 = 0))) = false)) : qQ a b := by
 have h := h.h
 simp only [Bool.or_eq_false_iff, Bool.and_eq_false_iff, decide_eq_false_iff_not] at h
 exact rise_ok h.1.1 h.1.2 fun c => h.2.elim (fun k => k c.1) (fun k => k c.2)
theorem rise_y2 {a b : P2} (h : Tr (((decide (0 < jY a.1 b.1) || decide (0 < jY a.2 b.2)) || decide (jY a.1 b.1 + jY a.2 b.2 = 0)) = true)) : ¬ qQ a b := by
 have h := h.h
 have h1 := cmpR_bnd a.1 b.1; have h2 := cmpR_bnd a.2 b.2
 simp only [Bool.or_eq_true, decide_eq_true_eq] at h
 rcases h with (h | h) | h
 ·exact rise_no1 h
 ·exact rise_no2 h
 ·by_cases c : 0 < jY a.1 b.1
  ·exact rise_no1 c
  ·by_cases c2 : 0 < jY a.2 b.2
   ·exact rise_no2 c2
   ·exact rise_no3 (by omega) (by omega)
theorem rise_n2 {a b : P2} (h : Tr (((decide (0 < jY a.1 b.1) || decide (0 < jY a.2 b.2)) || decide (jY a.1 b.1 + jY a.2 b.2 = 0)) = false)) : qQ a b := by
 have h := h.h
 simp only [Bool.or_eq_false_iff, decide_eq_false_iff_not] at h
 exact rise_ok h.1.1 h.1.2 fun c => h.2 (by rw [c.1, c.2]; rfl)
theorem same_y {a b : P2} (h : Tr ((!decide (jY a.1 b.1 = 0) || !decide (jY a.2 b.2 = 0)) = true)) : a ≠ b := fun e => by
 have h := h.h
 subst e
 simp [qN] at h
theorem same_n {a b : P2} (h : Tr ((!decide (jY a.1 b.1 = 0) || !decide (jY a.2 b.2 = 0)) = false)) : a = b := by
 have h := h.h
 simp only [Bool.or_eq_false_iff, Bool.not_eq_false', decide_eq_true_eq, qN] at h
 exact Prod.ext h.1 h.2
set_option maxHeartbeats 4000000 in
theorem w23rises {l : List P2} {n : Nat} (hn : n ≤ 1990) : CTy prog 47 [sv (sl 6 (l.map (ptq n)))] (exP (.bool (decide (aN l)))) := by
 refine ct (rs := [2]) func47 rfl rfl rfl rfl rfl dL fun X => (yI (yX rfl (iM (oas rfl) (iE (yI (yI (yX rfl ?_)))))))
 refine iM (oas rfl) (iE (gS (t_len 0 rfl fun hll => ?_)))
 rw [List.length_map] at hll
 refine cP (σ := Nat) (fun s => [(0, True, sv (sl 6 (l.map (ptq n)))), (3, True, exP (.int .i64 ((s : Nat) : Int)))]) (fun s => []) (fun s => 1 ≤ s ∧ s ≤ l.length + 1 ∧ ∀ i, i + 1 < s → qQ (l.getD i (0, 0)) (l.getD (i + 1) (0, 0))) (fun s => l.length - s) (1) (kL (tc rfl (gN _) (tc rfl (uJ rfl) tn)) rfl) ⟨by omega, by omega, fun i hi => by omega⟩ (fun s hJ => ?_)
 obtain ⟨h1, h2, h3⟩ := hJ
 refine yI (yI (yX rfl (iM (omv rfl) (iM (omv rfl) (iM (oln rfl) (iM (olt rfl rfl) (iE ?_)))))))
 refine aM rfl (fun c0 => ?_) (fun c0 => ?_)
 ·have hc := dt c0
  refine gX (yI (gS (yI (qP 26 mixed rfl rfl (d1 (omv rfl) (d1 (omv rfl) (d1 (osb rfl rfl (by omega)) ?_)))))))
  refine d1 (oix (s - 1) rfl rfl rfl (fun _ => by omega) (fun _ => by omega)) (d1 (ofa rfl rfl) (d1 (old rfl rfl) (d1 (omv rfl) (d1 (omv rfl) (d1 (oix s rfl rfl rfl (fun _ => rfl) (fun _ => by omega)) (d1 (ofa rfl rfl) (d1 (old rfl rfl) ?_)))))))
  refine d1 (oca rfl rfl fun _ => iI hn hn) (d1 (omv rfl) (d1 (omv rfl) (d1 (osb rfl rfl (by omega)) (d1 (oix (s - 1) rfl rfl rfl (fun _ => by omega) (fun _ => by omega)) (d1 (ofa rfl rfl) (d1 (old rfl rfl) (d1 (omv rfl) ?_)))))))
  refine d1 (omv rfl) (d1 (oix s rfl rfl rfl (fun _ => rfl) (fun _ => by omega)) (d1 (ofa rfl rfl) (d1 (old rfl rfl) (d1 (oca rfl rfl fun _ => iI hn hn) (d1 (oas rfl) (d1 (oas rfl) (d0 ?_)))))))
  refine iE (yI (yX rfl (iM (omv rfl) (iM (ogt rfl rfl) (iM (omv rfl) (t1g rfl rfl (omv rfl) (t1g rfl rfl (ogt rfl rfl) ?_)))))))
  refine iM (opk rfl rfl rfl) (iM (omv rfl) (t1g rfl rfl (omv rfl) (t1g rfl rfl (oeq rfl rfl) (t1g rfl rfl (omv rfl) (t1g rfl rfl (omv rfl) (t1g rfl rfl (oeq rfl rfl) (t1g rfl rfl (opk rfl rfl rfl) ?_)))))))
  refine iM (opk rfl rfl rfl) (iE ?_)
  refine aM rfl (fun c1 => ?_) (fun c1 => ?_)
  ·refine yI ?_
   refine yX rfl (iM (oas rfl) (iE (gQ ?_)))
   exact tr1 rfl (psb (Eq.symm (rise_not (s := s - 1) (by omega) (by rw [show s - 1 + 1 = s by omega]; exact rise_y c1))))
  ·refine gX ?_
   refine yX rfl (iM (omv rfl) (iM (oad rfl rfl (by omega)) (iM (oas rfl) (iE ?_))))
   exact ⟨s + 1, kL (tc rfl (gN _) (tc rfl (uJ (by omega)) tn)) rfl, ⟨by omega, by omega, fun i hi => by
    rcases Nat.lt_or_ge (i + 1) s with c | c
    ·exact h3 i c
    ·obtain rfl : i = s - 1 := by omega
     rw [show s - 1 + 1 = s by omega]; exact rise_n c1⟩, by omega⟩
 ·have hc := df c0
  refine bW (yI (yX rfl (iM (oas rfl) (iE (gQ ?_)))))
  exact tr1 rfl (psb (Eq.symm (decide_eq_true fun i hi => h3 i (by omega))))
set_option maxHeartbeats 4000000 in
theorem wlrises {l : List P2} {n : Nat} (hn : n ≤ 90000) (hlen : l.length ≤ 1000000) : CTy prog 64 [sv (sl 6 (l.map (ptq n)))] (exP (.bool (decide (aN l)))) := by
 refine ct (rs := [2]) func64 rfl rfl rfl rfl rfl dL fun X => (yI (yX rfl (iM (oas rfl) (iE (yI (yI (yX rfl ?_)))))))
 have hll : l.length ≤ 1000000 := hlen
 refine iM (omv rfl) (iM (oln rfl) (iM (osb rfl rfl (by omega)) (iM (omx rfl rfl) (iM (omv rfl) (iE (gS ?_))))))
 refine cP (σ := Nat) (fun s => [(0, True, sv (sl 6 (l.map (ptq n)))), (9, True, exP (.int .i64 (max (((l.length : Nat) : Int) - 1) 0))), (10, True, exP (.int .i64 ((s : Nat) : Int)))]) (fun s => []) (fun s => s ≤ l.length ∧ ∀ i, i < s → qQ (l.getD i (0, 0)) (l.getD (i + 1) (0, 0))) (fun s => l.length - s) (0) (kL (tc rfl (gN _) (tc rfl (gN _) (tc rfl (uJ rfl) tn))) rfl) ⟨by omega, fun i hi => by omega⟩ (fun s hJ => ?_)
 obtain ⟨h1, h2⟩ := hJ
 refine yI (yX rfl (iM (olt rfl rfl) (iE (yI ?_))))
 refine aM rfl (fun c0 => ?_) (fun c0 => ?_)
 ·have hc : s + 1 < l.length := by have := dt c0; omega
  refine gX (yI (gS (yI (yX rfl (iM (omv rfl) (iM (oas rfl) (iE ?_)))))))
  refine yI (qP 26 mixed rfl rfl (d1 (omv rfl) (d1 (omv rfl) (d1 (oix s rfl rfl rfl (fun _ => rfl) (fun _ => by omega)) (d1 (ofa rfl rfl) (d1 (old rfl rfl) (d1 (omv rfl) ?_)))))))
  refine d1 (omv rfl) (d1 (oad rfl rfl (by omega)) (d1 (oix (s + 1) rfl rfl rfl (fun _ => by omega) (fun _ => by omega)) (d1 (ofa rfl rfl) (d1 (old rfl rfl) (d1 (oca rfl rfl fun _ => krcmp hn hn) (d1 (omv rfl) (d1 (omv rfl) ?_)))))))
  refine d1 (oix s rfl rfl rfl (fun _ => rfl) (fun _ => by omega)) (d1 (ofa rfl rfl) (d1 (old rfl rfl) (d1 (omv rfl) (d1 (omv rfl) (d1 (oad rfl rfl (by omega)) (d1 (oix (s + 1) rfl rfl rfl (fun _ => by omega) (fun _ => by omega)) (d1 (ofa rfl rfl) ?_)))))))
  refine d1 (old rfl rfl) (d1 (oca rfl rfl fun _ => krcmp hn hn) (d1 (oas rfl) (d1 (oas rfl) (d0 (iE (yI (yX rfl ?_)))))))
  refine iM (omv rfl) (iM (ogt rfl rfl) (iM (omv rfl) (t1g rfl rfl (omv rfl) (t1g rfl rfl (ogt rfl rfl) (iM (opk rfl rfl rfl) (iM (omv rfl) (t1g rfl rfl (omv rfl) ?_)))))))
  refine t1g rfl rfl (omv rfl) (t1g rfl rfl (oad rfl rfl (by have := cmpR_bnd (l.getD s Df.d).1 (l.getD (s + 1) Df.d).1; have := cmpR_bnd (l.getD s Df.d).2 (l.getD (s + 1) Df.d).2; omega)) (t1g rfl rfl (oeq rfl rfl) (iM (opk rfl rfl rfl) (iE ?_))))
  refine aM rfl (fun c1 => ?_) (fun c1 => ?_)
  ·refine yI ?_
   refine yX rfl (iM (oas rfl) (iE (gQ ?_)))
   exact tr1 rfl (psb (Eq.symm (rise_not (s := s) hc (rise_y2 c1))))
  ·refine gX ?_
   refine yX rfl (iM (oad rfl rfl (by omega)) (iM (omv rfl) (iE ?_)))
   exact ⟨s + 1, kL (tc rfl (gN _) (tc rfl (gN _) (tc rfl (uJ (by omega)) tn))) rfl, ⟨by omega, fun i hi => by
    rcases Nat.lt_or_ge i s with c | c
    ·exact h2 i c
    ·obtain rfl : i = s := by omega
     exact rise_n2 c1⟩, by omega⟩
 ·have hc := df c0
  refine bW (yI (yX rfl (iM (oas rfl) (iE (gQ ?_)))))
  exact tr1 rfl (psb (Eq.symm (decide_eq_true fun i hi => h2 i (by omega))))
set_option maxHeartbeats 4000000 in
theorem w23same {l m : List P2} {n k : Nat} (hn : n ≤ 1990) (hm : k ≤ 1990) : CTy prog 105 [sv (sl 6 (l.map (ptq n))), sv (sl 6 (m.map (ptq k)))] (exP (.bool (decide (l = m)))) := by
 refine ct (rs := [4]) func105 rfl rfl rfl rfl rfl dL fun X => (yI (yX rfl (iM (oas rfl) (iE (yI (yI (yX rfl ?_)))))))
 refine iM (omv rfl) (iM (oln rfl) (iM (omv rfl) (iM (oln rfl) (iM (oni rfl rfl) (iE ?_)))))
 refine aM rfl (fun c0 => ?_) (fun c0 => ?_)
 ·refine yI ?_
  refine yX rfl (iM (oas rfl) (iE (gQ ?_)))
  exact tr1 rfl (psb (Eq.symm (decide_eq_false fun e => (dt c0) (by rw [e]))))
 ·have hlm : l.length = m.length := by have := df c0; omega
  refine gX (yI (yI (yX rfl (iM (oas rfl) (iE (gS (t_len 0 rfl fun hll => ?_)))))))
  rw [List.length_map] at hll
  refine cP (σ := Nat) (fun s => [(0, True, sv (sl 6 (l.map (ptq n)))), (1, True, sv (sl 6 (m.map (ptq k)))), (5, True, exP (.int .i64 ((s : Nat) : Int)))]) (fun s => []) (fun s => s ≤ l.length ∧ l.take s = m.take s) (fun s => l.length - s) (0) (kL (tc rfl (gN _) (tc rfl (gN _) (tc rfl (uJ rfl) tn))) rfl) ⟨by omega, by simp⟩ (fun s hJ => ?_)
  obtain ⟨h1, h2⟩ := hJ
  refine yI (yI (yX rfl (iM (omv rfl) (iM (omv rfl) (iM (oln rfl) (iM (olt rfl rfl) (iE ?_)))))))
  refine aM rfl (fun c1 => ?_) (fun c1 => ?_)
  ·have hc := dt c1
   refine gX (yI (gS (yI (qP 26 mixed rfl rfl (d1 (omv rfl) (d1 (omv rfl) (d1 (oix s rfl rfl rfl (fun _ => rfl) (fun _ => by omega)) ?_)))))))
   refine d1 (ofa rfl rfl) (d1 (old rfl rfl) (d1 (omv rfl) (d1 (omv rfl) (d1 (oix s rfl rfl rfl (fun _ => rfl) (fun _ => by omega)) (d1 (ofa rfl rfl) (d1 (old rfl rfl) (d1 (oca rfl rfl fun _ => k7same hn hm) ?_)))))))
   refine d1 (ont rfl) (d1 (omv rfl) (d1g rfl rfl (omv rfl) (d1g rfl rfl (omv rfl) (d1g rfl rfl (oix s rfl rfl rfl (fun g => rfl) (fun g => by omega)) (d1g rfl rfl (ofa rfl rfl) (d1g rfl rfl (old rfl rfl) (d1g rfl rfl (omv rfl) ?_)))))))
   refine d1g rfl rfl (omv rfl) (d1g rfl rfl (oix s rfl rfl rfl (fun g => rfl) (fun g => by omega)) (d1g rfl rfl (ofa rfl rfl) (d1g rfl rfl (old rfl rfl) (d1g rfl rfl (oca rfl rfl fun g => k7same hn hm) (d1g rfl rfl (ont rfl) (d1 (opk rfl rfl rfl) (d0 ?_)))))))
   refine iE ?_
   refine aM rfl (fun c2 => ?_) (fun c2 => ?_)
   ·have hne : l.getD s Df.d ≠ m.getD s Df.d := same_y c2
    refine yI (yX rfl (iM (oas rfl) (iE (gQ ?_))))
    exact tr1 rfl (psb (Eq.symm (decide_eq_false (getD_ne hne))))
   ·have heq : l.getD s Df.d = m.getD s Df.d := same_n c2
    refine gX (yX rfl (iM (omv rfl) (iM (oad rfl rfl (by omega)) (iM (oas rfl) (iE ?_)))))
    exact ⟨s + 1, kL (tc rfl (gN _) (tc rfl (gN _) (tc rfl (uJ (by omega)) tn))) rfl, ⟨by omega, take_eq_step (by omega) (by omega) h2 heq⟩, by omega⟩
  ·have hc := df c1
   refine bW (yI (yX rfl (iM (oas rfl) (iE (gQ ?_)))))
   exact tr1 rfl (psb (Eq.symm (decide_eq_true (take_eq_all hlm (by rw [show s = l.length by omega] at h2; exact h2)))))
class QRR (Ψ : PV) (n : outParam Nat) (p : outParam Rat) (m : outParam Nat) (q : outParam Rat) : Prop where
 h : ∀ {M w v}, Ψ.p M w v → ∃ s a d t b e, v = .agg #[.bool s, a, d, .bool t, b, e] ∧ QC M w n p s a d ∧ QC M w m q t b e
instance {c d : CT} {n m : Nat} {p q : Rat} [h1 : CQ c n p] [h2 : CQ d m q] : QRR (ag (st [c, d])) n p m q := ⟨fun ⟨us, e1, x, y, e, k1, z, o, e2, k2, e3⟩ => by
 obtain ⟨s, a, d, rfl, g1⟩ := h1.h k1
 obtain ⟨t, b, f, rfl, g2⟩ := h2.h k2
 obtain rfl : o = [] := e3
 exact ⟨s, a, d, t, b, f, by rw [e1, e, e2]; rfl, g1, g2⟩⟩
theorem k7sign {Ψ : PV} {n : Nat} {p : Rat} [h : QR Ψ n p] (hn : n ≤ 500000) : CTy prog 32 [Ψ] (exP (.int .i64 (iW p))) :=
 ⟨(bo func32), fun M w vs hM hT hv => by
  obtain ⟨v, rfl, h1⟩ := fa1 hv
  obtain ⟨s, a, d, rfl, g1⟩ := h.h h1
  exact r7sign_c g1 hn hM⟩
theorem k7mul {Ψ : PV} {n : Nat} {p q : Rat} [h : VQ Ψ n [p, q]] (hn : n ≤ 970) : CTy prog 52 [Ψ] (ag (rtc (2 * n + 8) (p * q))) :=
 ⟨(bo func52), fun M w vs hM hT hv => by
  obtain ⟨v, rfl, h1⟩ := fa1 hv
  exact (r7mul_c (h.h h1) hn (by simp) hM).mono fun r w' ⟨hB, x, y, z, e, g⟩ => ⟨hB, by
   have e2 : uT [p, q] = p * q := by simp [uT, Rat.one_mul]
   rw [e2] at g; exact e ▸ bC g⟩⟩
theorem gY {k : Nat} (hk : k < 9223372036854775808) : CTy prog 48 [exP (.int .i64 ((k : Nat) : Int))] (ag (rtc 2 ((k : Nat) : Rat))) :=
 ⟨(bo func48), fun M w vs hM hT hv => by
  obtain ⟨v, rfl, h1⟩ := fa1 hv
  obtain rfl : v = _ := h1
  exact (l23whole_c hk hM).mono fun r w' ⟨hB, x, y, z, e, g⟩ => ⟨hB, e ▸ bC g⟩⟩
theorem rlen_sub2 {p q : Rat} {A B : Nat} (h1 : jZ p A) (h2 : jZ q B) : jZ (p - q) (A + B + 1) := by
 rw [Rat.sub_eq_add_neg]; exact qU h1 (rlen_neg h2)
theorem rlen_height {lo hi x : Rat} {l : P2} {a b c e : Nat} (h1 : jZ lo a) (h2 : jZ hi b) (h3 : jZ x c) (h4 : jZ l.1 e) (h5 : jZ l.2 e) (h : lo < hi) : jZ (uY l (bR lo hi x)) (2 * a + b + c + 3 * e + 5) := by
 unfold uY bR
 rw [if_pos h]
 exact jC (qU h4 (bE (rlen_quo (rlen_sub2 h3 h1) (rlen_sub2 h2 h1)) (rlen_sub2 h5 h4))) (by omega)
theorem PL.rl {M : Nat → Prop} {w : World} {n : Nat} {l : List P2} {v : Value} (h : PL M w n l v) : ∀ x ∈ l, jZ x.1 (n + 1) ∧ jZ x.2 (n + 1) := fun x hx => by
 obtain ⟨cs, h1, h2⟩ := h.row
 obtain ⟨i, hi, rfl⟩ := List.mem_iff_getElem.1 hx
 obtain ⟨us, h3, h4, s, a, d, t, b, e, e0, g⟩ := h2 i _ (List.getElem?_eq_getElem hi)
 exact ⟨g.x.rlen, g.y.rlen⟩
theorem tup_r {ρ σ : PV} : ∀ M w vs, Fa [ρ, σ] M w vs → (tu [ρ, σ]).p M w (xJ vs) := eL (PSub.refl _) (PSub.refl _)
theorem tr2 {t u : Nat} {q q' : Prop} {Ψ Φ ρ σ : PV} {Γ : TE} {S : List Ow} (h : tv Γ (.tmp t) = some (q, Ψ)) (k : tv Γ (.tmp u) = some (q', Φ)) [hq : Tr q] [hq' : Tr q'] (hs : PSub Ψ ρ) (hs' : PSub Φ σ) : TR [t, u] [ρ, σ] Γ S :=
 ⟨q ∧ q' ∧ True, [Ψ, Φ], by show tvs Γ [.tmp t, .tmp u] = _; unfold tvs tvs; rw [h, k]; rfl, ⟨hq.h, hq'.h, trivial⟩, fun M w vs ⟨v, us, e, h1, u, us2, e2, h2, e3⟩ => ⟨v, us, e, hs _ _ _ h1, u, us2, e2, hs' _ _ _ h2, e3⟩⟩
theorem hsL_take {lo hi x : Rat} {l : List P2} {s : Nat} (h : s < l.length) : hsL lo hi x (l.take (s + 1)) = hsL lo hi x (l.take s) ++ [uY (l.getD s (0, 0)) (bR lo hi x)] := by
 rw [(gP ((0, 0) : P2) h).1]; unfold hsL; simp
theorem geF {p q : Rat} (h : Tr (decide (0 ≤ jY p q) = false)) : p < q := by have := of_decide_eq_false h.h; rw [aV] at this; grind
theorem geT {p q : Rat} (h : Tr (decide (0 ≤ jY p q) = true)) : ¬ p < q := by have := of_decide_eq_true h.h; rw [aV] at this; grind
theorem ht_no {p q : Rat} (hq : p < q) (h : Tr (decide ((if p < q then (0 : Int) else 2) = 0) = false)) : False := by rw [if_pos hq] at h; exact absurd h.h (by decide)
theorem fd_lt {p q : Rat} (h : Tr (decide (jY p q < 0) = true)) : p < q := (eH).1 (of_decide_eq_true h.h)
theorem fd_nlt {p q : Rat} (h : Tr (decide (jY p q < 0) = false)) : ¬ p < q := fun c => of_decide_eq_false h.h ((eH).2 c)
theorem fd_e {p q : Rat} (h : Tr (decide (jY p q = 0) = true)) : p = q := qN.1 (of_decide_eq_true h.h)
theorem fd_n {p q : Rat} (h : Tr (decide (jY p q = 0) = false)) : p ≠ q := fun c => of_decide_eq_false h.h (qN.2 c)
theorem fd_ne {ys : List Rat} {y : Rat} {s : Nat} (h : ∀ i, i < s → ys.getD i 0 ≠ y) (k : ys.getD s 0 ≠ y) : ∀ i, i < s + 1 → ys.getD i 0 ≠ y := fun i hi => by
 rcases Nat.lt_or_ge i s with c | c
 ·exact h i c
 ·obtain rfl : i = s := by omega
  exact k
set_option maxHeartbeats 4000000 in
theorem wlpart {lo hi x : Rat} {a b c : Nat} (ha : a ≤ 20000) (hb : b ≤ 20000) (hc : c ≤ 20000) : CTy prog 117 [ag (rtq a lo), ag (rtq b hi), ag (rtq c x)] (tu [ag (rtc (2 * a + b + c + 9) (bR lo hi x)), exP (.bool (decide (lo < hi)))]) := by
 refine ctc func117 rfl rfl rfl rfl fun X => (yI (yX rfl (iM (obx rfl) (iM (obx rfl) (iM (obx rfl) ?_)))))
 refine tal fun b6 => ?_
 refine iM (oas rfl) (iE (yI (yI (yX rfl (iM (old rfl rfl) (iM (old rfl rfl) (iM (oca rfl rfl fun _ => krcmp (by omega) (by omega)) ?_)))))))
 refine iM (oge rfl rfl) (iE ?_)
 refine aM rfl (fun c0 => ?_) (fun c0 => ?_)
 ·refine yI ?_
  refine yX rfl (iM (oca rfl rfl fun _ => krof (k := 0) (by omega)) (tst 0 rfl rfl rfl rfl rfl rfl (iM (oas rfl) (iE (gQ ?_)))))
  have hq := geT c0
  exact ⟨[_, _], rsc 0 rfl rfl rfl rfl (rst rfl rs0), eL (eM (by omega) (by unfold bR; rw [if_neg hq]; rfl)) (psb (Eq.symm (decide_eq_false hq)))⟩
 ·refine gX ?_
  refine yI ?_
  apply dW 1 12 11 [(10, 8, 0), (11, 1000011, 0)] rfl rfl mixed rfl rfl rfl
  refine cx1 (old rfl rfl) rfl (cx1 (old rfl rfl) rfl (cx1 (oca rfl rfl fun _ => iZ (by omega) (by omega)) rfl (cx1 (old rfl rfl) rfl (cx1 (old rfl rfl) rfl (cx1 (oca rfl rfl fun _ => iZ (by omega) (by omega)) rfl (cx1 (oca rfl rfl fun _ => krquo (by omega) (by omega)) rfl (cx1 (omv rfl) rfl ?_)))))))
  refine cx1 (oex rfl rfl) rfl (cx1 (oex rfl rfl) rfl (cN rfl rfl (cal) (cS rfl rfl rfl (cst rfl rfl rfl) ?_)))
  refine cE (fun b8 => ?_)
  refine iM (oas rfl) (iE (yI (yX rfl (iM (cG 0 rfl rfl rfl rfl) (tst 1 rfl rfl rfl rfl rfl rfl (iM (oas rfl) (iE ?_)))))))
  refine gQ ?_
  have hq := geF c0
  exact ⟨[_, _], rsc 1 rfl rfl rfl rfl (rst rfl rs0), eL (eM (by omega) (by unfold bR; rw [if_pos hq])) (psb (Eq.symm (decide_eq_true hq)))⟩
set_option maxHeartbeats 4000000 in
theorem wlheight {l : P2} {t : Rat} {n m : Nat} (hn : n ≤ 10000) (hm : m ≤ 10000) : CTy prog 118 [ag (ptq n l), ag (rtq m t)] (ag (rtc (8 * n + 4 * m + 30) (uY l t))) := by
 refine ctc func118 rfl rfl rfl rfl fun X => (yI (yX rfl (iM (obx rfl) (iM (obx rfl) ?_))))
 refine tal fun b4 => ?_
 refine iE (yI (qP 12 mixed rfl rfl (d1 (ofa rfl rfl) (d1 (old rfl rfl) (d1 (old rfl rfl) (d1 (ofa rfl rfl) (d1 (old rfl rfl) ?_)))))))
 refine d1 (ofa rfl rfl) (d1 (old rfl rfl) (d1 (oca rfl rfl fun _ => iZ (by omega) (by omega)) (d1 (obs rfl rfl rfl rfl rfl rfl) (d1 (oca rfl rfl fun _ => krmul (by omega)) (d1 (obs rfl rfl rfl rfl rfl rfl) (d1 (oca rfl rfl fun _ => kradd (by omega)) (d0 ?_)))))))
 refine tst 0 rfl rfl rfl rfl rfl rfl (iE (gQ ?_))
 exact ⟨[_], rsc 0 rfl rfl rfl rfl rs0, iX (eM (by omega) rfl)⟩
theorem klheight {Ψ Φ : PV} {l : P2} {t : Rat} {n m : Nat} [QP Ψ n l] [QR Φ m t] (hn : n ≤ 10000) (hm : m ≤ 10000) : CTy prog 118 [Ψ, Φ] (ag (rtc (8 * n + 4 * m + 30) (uY l t))) := dP (wlheight hn hm) (fs1 lW (fs1 cA fs0))
set_option maxHeartbeats 4000000 in
theorem wlHeight {l : P2} {lo hi x : Rat} {n a b c : Nat} (hn : n ≤ 2000) (ha : a ≤ 2000) (hb : b ≤ 2000) (hc : c ≤ 2000) : CTy prog 104 [ag (ptq n l), ag (rtq a lo), ag (rtq b hi), ag (rtq c x)] (tu [ag (rtc (8 * n + 4 * (2 * a + b + c + 9) + 30) (kP l lo hi x)), exP (.int .i64 (if lo < hi then 0 else 2))]) := by
 refine ctc func104 rfl rfl rfl rfl fun X => (yI (yX rfl (iM (obx rfl) (iM (obx rfl) (iM (obx rfl) (iM (obx rfl) ?_))))))
 refine tal fun b8 => ?_
 refine iM (oas rfl) (iE (yI (yX rfl (iM (old rfl rfl) (iM (old rfl rfl) (iM (old rfl rfl) (iM (oca rfl rfl fun _ => wlpart (by omega) (by omega) (by omega)) ?_)))))))
 refine iM (omv rfl) (iM (oex rfl rfl) (iM (oex rfl rfl) ?_))
 refine tal fun b10 => ?_
 refine tst 0 rfl rfl rfl rfl rfl rfl (iM (oas rfl) (iE (yI (yI (yX rfl (iM (omv rfl) (iM (ont rfl) ?_)))))))
 refine iE ?_
 refine aM rfl (fun c0 => ?_) (fun c0 => ?_)
 ·refine yI ?_
  refine yX rfl (iM (oca rfl rfl fun _ => krof (k := 0) (by omega)) (tst 1 rfl rfl rfl rfl rfl rfl (iM (oas rfl) (iE (gQ ?_)))))
  have hq : ¬ lo < hi := bn_t c0
  exact ⟨[_, _], rsc 1 rfl rfl rfl rfl (rst rfl rs0), eL (eM (by omega) (by unfold kP; rw [if_neg hq]; rfl)) (uJ (by rw [if_neg hq]))⟩
 ·refine gX ?_
  refine yI (yX rfl (iM (old rfl rfl) (iM (cG 0 rfl rfl rfl rfl) (iM (oca rfl rfl fun _ => klheight (by omega) (by omega)) (tst 1 rfl rfl rfl rfl rfl rfl (iM (oas rfl) (iE ?_)))))))
  refine gQ ?_
  have hq : lo < hi := bn_f c0
  exact ⟨[_, _], rsc 1 rfl rfl rfl rfl (rst rfl rs0), eL (eM (by omega) (by unfold kP; rw [if_pos hq])) (uJ (by rw [if_pos hq]))⟩
theorem klHeight {Ψ Φ Θ Ξ : PV} {l : P2} {lo hi x : Rat} {n a b c : Nat} [QP Ψ n l] [QR Φ a lo] [QR Θ b hi] [QR Ξ c x] (hn : n ≤ 2000) (ha : a ≤ 2000) (hb : b ≤ 2000) (hc : c ≤ 2000) : CTy prog 104 [Ψ, Φ, Θ, Ξ] (tu [ag (rtc (8 * n + 4 * (2 * a + b + c + 9) + 30) (kP l lo hi x)), exP (.int .i64 (if lo < hi then 0 else 2))]) := dP (wlHeight hn ha hb hc) (fs1 lW (fs1 cA (fs1 cA (fs1 cA fs0))))
set_option maxHeartbeats 4000000 in
theorem w23height {l : P2} {lo hi x : Rat} {n a b c : Nat} (hn : n ≤ 100) (ha : a ≤ 100) (hb : b ≤ 100) (hc : c ≤ 100) : CTy prog 106 [ag (ptq n l), ag (rtq a lo), ag (rtq b hi), ag (rtq c x)] (tu [ag (rtc (8 * n + 4 * (2 * a + b + c + 15) + 60) (kP l lo hi x)), exP (.int .i64 (if lo < hi then 0 else 2))]) := by
 refine ctc func106 rfl rfl rfl rfl fun X => (yI (yX rfl (iM (obx rfl) (iM (obx rfl) (iM (obx rfl) (iM (obx rfl) ?_))))))
 refine tal fun b8 => ?_
 refine iM (oas rfl) (iE (yI (yI (yX rfl (iM (old rfl rfl) (iM (old rfl rfl) (iM (oca rfl rfl fun _ => iI (by omega) (by omega)) ?_)))))))
 refine iM (oge rfl rfl) (iE ?_)
 refine aM rfl (fun c0 => ?_) (fun c0 => ?_)
 ·refine yI ?_
  refine yX rfl (iM (oca rfl rfl fun _ => k7of (k := 0) (by omega)) (tst 0 rfl rfl rfl rfl rfl rfl (iM (oas rfl) (iE (gQ ?_)))))
  have hq := geT c0
  exact ⟨[_, _], rsc 0 rfl rfl rfl rfl (rst rfl rs0), eL (eM (by omega) (by unfold kP; rw [if_neg hq]; rfl)) (uJ (by rw [if_neg hq]))⟩
 ·refine gX ?_
  refine yI ?_
  apply dW 1 12 11 [(10, 10, 0), (11, 1000011, 0)] rfl rfl mixed rfl rfl rfl
  refine cx1 (old rfl rfl) rfl (cx1 (old rfl rfl) rfl (cx1 (oca rfl rfl fun _ => lA (by omega) (by omega)) rfl (cx1 (old rfl rfl) rfl (cx1 (old rfl rfl) rfl (cx1 (oca rfl rfl fun _ => lA (by omega) (by omega)) rfl (cx1 (oca rfl rfl fun _ => k7quo (by omega) (by omega)) rfl (cx1 (omv rfl) rfl ?_)))))))
  refine cx1 (oex rfl rfl) rfl (cx1 (oex rfl rfl) rfl (cN rfl rfl (cal) (cS rfl rfl rfl (cst rfl rfl rfl) ?_)))
  refine cE (fun b10 => ?_)
  refine iM (oas rfl) (iE (yI (qP 12 mixed rfl rfl (d1 (ofa rfl rfl) (d1 (old rfl rfl) (d1 (cG 0 rfl rfl rfl rfl) (d1 (ofa rfl rfl) ?_)))))))
  refine d1 (old rfl rfl) (d1 (ofa rfl rfl) (d1 (old rfl rfl) (d1 (oca rfl rfl fun _ => lA (by omega) (by omega)) (d1 (obs rfl rfl rfl rfl rfl rfl) (d1 (oca rfl rfl fun _ => k7mul (by omega)) (d1 (obs rfl rfl rfl rfl rfl rfl) (d1 (oca rfl rfl fun _ => k7add (by omega)) ?_)))))))
  refine d0 (tst 1 rfl rfl rfl rfl rfl rfl (iM (oas rfl) (iE (gQ ?_))))
  have hq := geF c0
  exact ⟨[_, _], rsc 1 rfl rfl rfl rfl (rst rfl rs0), eL (eM (by omega) (by unfold kP uY bR; rw [if_pos hq, if_pos hq])) (uJ (by rw [if_pos hq]))⟩
theorem k23height {Ψ Φ Θ Ξ : PV} {l : P2} {lo hi x : Rat} {n a b c : Nat} [QP Ψ n l] [QR Φ a lo] [QR Θ b hi] [QR Ξ c x] (hn : n ≤ 100) (ha : a ≤ 100) (hb : b ≤ 100) (hc : c ≤ 100) : CTy prog 106 [Ψ, Φ, Θ, Ξ] (tu [ag (rtc (8 * n + 4 * (2 * a + b + c + 15) + 60) (kP l lo hi x)), exP (.int .i64 (if lo < hi then 0 else 2))]) := dP (w23height hn ha hb hc) (fs1 lW (fs1 cA (fs1 cA (fs1 cA fs0))))
set_option maxHeartbeats 4000000 in
theorem wlheights {l : List P2} {lo hi x : Rat} {n a b c : Nat} (hn : n ≤ 1000) (ha : a ≤ 1000) (hb : b ≤ 1000) (hc : c ≤ 1000) (hlen : l.length ≤ 1000000) (hq : lo < hi) : CTy prog 57 [ag (rtq a lo), ag (rtq b hi), ag (rtq c x), sv (sl 6 (l.map (ptq n)))] (sv (sl 3 ((hsL lo hi x l).map (rtc (8 * n + 4 * (2 * a + b + c + 9) + 30))))) := by
 refine ct (rs := [8]) func57 rfl rfl rfl rfl rfl dL fun X => (yI (yX rfl (iM (obx rfl) (iM (obx rfl) (iM (obx rfl) (iM (oas rfl) (iE ?_)))))))
 refine yI (yX rfl (iM (old rfl rfl) (iM (old rfl rfl) (iM (old rfl rfl) (iM (oca rfl rfl fun _ => wlpart (by omega) (by omega) (by omega)) (iM (omv rfl) (iM (oex rfl rfl) ?_)))))))
 refine iM (oex rfl rfl) ?_
 refine tal fun b9 => ?_
 refine tst 0 rfl rfl rfl rfl rfl rfl (iM (oas rfl) (iE (yI (yI (yX rfl (iM (omv rfl) (iM (ont rfl) ?_)))))))
 refine iE ?_
 refine aM rfl (fun c0 => ?_) (fun c0 => ?_)
 ·exact (bn_t c0 hq).elim
 ·refine gX ?_
  refine yI (yI (yX rfl (iM (omv rfl) (iM (oln rfl) (iM (omv rfl) (iE (gS ?_)))))))
  refine eI (ts_nil 33 3) ?_
  refine cP (σ := Nat × Value) (fun z => [(8, True, exP z.2), (9, True, exP (.pointer (some ⟨b9, 0, none⟩))), (22, True, sv (sl 6 (l.map (ptq n)))), (23, True, exP (.int .i64 ((l.length : Nat) : Int))), (24, True, exP (.int .i64 ((z.1 : Nat) : Int)))]) (fun z => [.row z.2 33 3 ((hsL lo hi x (l.take z.1)).map (rtc (8 * n + 4 * (2 * a + b + c + 9) + 30))), .blk b9 33 [rtc (2 * a + b + c + 9) (bR lo hi x)]]) (fun z => z.1 ≤ l.length) (fun z => l.length - z.1) ((0, .slice none 0 0)) (kL (tc rfl (gN _) (tc rfl (gN _) (tc rfl (gN _) (tc rfl (uJ (by simp)) (tc rfl (uJ rfl) tn))))) rfl) (Nat.zero_le _) (fun z hJ => ?_)
  obtain ⟨s, v8⟩ := z
  dsimp only at hJ ⊢
  refine yI (yX rfl (iM (olt rfl rfl) (iE (yI ?_))))
  refine aM rfl (fun c1 => ?_) (fun c1 => ?_)
  ·have hc1 : s < l.length := by have := dt c1; omega
   refine gX (yI (gS (yI (yX rfl (iM (oix s rfl rfl rfl (fun _ => rfl) (fun _ => by omega)) (iM (old rfl rfl) ?_))))))
   refine tal fun b12 => ?_
   refine tst 0 rfl rfl rfl rfl rfl rfl (iE (yX rfl (iM (omv rfl) (iM (cG 0 rfl rfl rfl rfl) (iM (cG 2 rfl rfl rfl rfl) (iM (oca rfl rfl fun _ => klheight (by omega) (by omega)) (iM (obs rfl rfl rfl rfl rfl rfl) ?_)))))))
   refine tap 1 rfl rfl rfl (by simp [hsL]; omega) rfl fun r33 => ?_
   refine iM (oas rfl) (iE (eI (ts_sub (List.sublist_cons_self _ _)) (yX rfl (iM (oad rfl rfl (by omega)) (iM (omv rfl) (iE ?_))))))
   exact ⟨(s + 1, r33), kL (tc rfl (gN _) (tc rfl (gN _) (tc rfl (gN _) (tc rfl (gN _) (tc rfl (uJ (by simp)) tn))))) (by rw [hsL_take hc1]; simp; rfl), (by dsimp only; omega), by dsimp only; omega⟩
  ·have hc1 := df c1
   refine eI (ts_frz 0 rfl (s := 8) rfl) ?_
   rw [show l.take s = l from List.take_of_length_le (by omega)]
   refine bW (yI (yX rfl (iM (omv rfl) (iM (oas rfl) (iE (gQ ?_))))))
   exact tr1 rfl (gN _)
theorem klheights0 {Ψ Φ Θ Ξ : PV} {l : List P2} {lo hi x : Rat} {n a b c : Nat} [QR Ψ a lo] [QR Φ b hi] [QR Θ c x] [VPt Ξ n l] (hn : n ≤ 1000) (ha : a ≤ 1000) (hb : b ≤ 1000) (hc : c ≤ 1000) (hlen : l.length ≤ 1000000) (hq : lo < hi) : CTy prog 57 [Ψ, Φ, Θ, Ξ] (sv (sl 3 ((hsL lo hi x l).map (rtc (8 * n + 4 * (2 * a + b + c + 9) + 30))))) := dP (wlheights hn ha hb hc hlen hq) (fs1 cA (fs1 cA (fs1 cA (fs1 fY fs0))))
set_option maxHeartbeats 4000000 in
theorem w23heights {l : List P2} {lo hi x : Rat} {n a b c : Nat} (hn : n ≤ 100) (ha : a ≤ 100) (hb : b ≤ 100) (hc : c ≤ 100) (hlen : l.length ≤ 1000000) (hq : lo < hi) : CTy prog 50 [ag (rtq a lo), ag (rtq b hi), ag (rtq c x), sv (sl 6 (l.map (ptq n)))] (sv (sl 3 ((hsL lo hi x l).map (rtc (8 * n + 4 * (2 * a + b + c + 15) + 60))))) := by
 refine ct (rs := [8]) func50 rfl rfl rfl rfl rfl dL fun X => (yI (yX rfl (iM (obx rfl) (iM (obx rfl) (iM (obx rfl) (iM (oas rfl) (iE ?_)))))))
 refine yI (yX rfl (iM (oas rfl) (iE (yI (yI (yX rfl (iM (oas rfl) ?_)))))))
 refine iE (gS (eI (ts_nil 33 3) ?_))
 refine cP (σ := Nat × Value) (fun z => [(3, True, sv (sl 6 (l.map (ptq n)))), (4, True, pa (rtq a lo)), (5, True, pa (rtq b hi)), (6, True, pa (rtq c x)), (9, True, exP z.2), (10, True, exP (.int .i64 ((z.1 : Nat) : Int)))]) (fun z => [.row z.2 33 3 ((hsL lo hi x (l.take z.1)).map (rtc (8 * n + 4 * (2 * a + b + c + 15) + 60)))]) (fun z => z.1 ≤ l.length) (fun z => l.length - z.1) ((0, .slice none 0 0)) (kL (tc rfl (gN _) (tc rfl (gN _) (tc rfl (gN _) (tc rfl (gN _) (tc rfl (gN _) (tc rfl (uJ rfl) tn)))))) rfl) (Nat.zero_le _) (fun z hJ => ?_)
 obtain ⟨s, v9⟩ := z
 dsimp only at hJ ⊢
 refine yI (yI (yX rfl (iM (omv rfl) (iM (omv rfl) (iM (oln rfl) (iM (olt rfl rfl) (iE ?_)))))))
 refine aM rfl (fun c0 => ?_) (fun c0 => ?_)
 ·have hc1 : s < l.length := by have := dt c0; omega
  refine gX (yI (gS (yI ?_)))
  apply dW 1 13 12 [(11, 11, 0), (12, 1000012, 0)] rfl rfl mixed rfl rfl rfl
  refine cx1 (omv rfl) rfl (cx1 (omv rfl) rfl (cx1 (oix s rfl rfl rfl (fun _ => rfl) (fun _ => by omega)) rfl (cx1 (old rfl rfl) rfl (cx1 (old rfl rfl) rfl (cx1 (old rfl rfl) rfl (cx1 (old rfl rfl) rfl (cx1 (oca rfl rfl fun _ => k23height (by omega) (by omega) (by omega) (by omega)) rfl ?_)))))))
  refine cx1 (omv rfl) rfl (cx1 (oex rfl rfl) rfl (cx1 (oex rfl rfl) rfl (cN rfl rfl (cal) (cS rfl rfl rfl (cst rfl rfl rfl) ?_))))
  refine cE (fun b11 => ?_)
  refine iM (oas rfl) (iE (yI (yX rfl (iM (omv rfl) (iM (oeq rfl rfl) (iE ?_))))))
  refine aM rfl (fun c1 => ?_) (fun c1 => ?_)
  ·refine yX rfl ?_
   refine iM (omv rfl) (iM (cG 0 rfl rfl rfl rfl) (iM (obs rfl rfl rfl rfl rfl rfl) ?_))
   refine tap 1 rfl rfl rfl (by simp [hsL]; omega) rfl fun r35 => ?_
   refine iM (oas rfl) (iE (eI (ts_sub (List.sublist_cons_self _ _)) (yX rfl (iM (omv rfl) (iM (oad rfl rfl (by omega)) (iM (oas rfl) (iE ?_)))))))
   exact ⟨(s + 1, r35), kL (tc rfl (gN _) (tc rfl (gN _) (tc rfl (gN _) (tc rfl (gN _) (tc rfl (gN _) (tc rfl (uJ (by simp)) tn)))))) (by rw [hsL_take hc1, kP, if_pos hq]; simp; rfl), (by dsimp only; omega), by dsimp only; omega⟩
  ·exact (ht_no hq c1).elim
 ·have hc1 := df c0
  refine eI (ts_frz 0 rfl (s := 9) rfl) ?_
  rw [show l.take s = l from List.take_of_length_le (by omega)]
  refine bW (yI (yX rfl (iM (omv rfl) (iM (oas rfl) (iE (gQ ?_))))))
  exact tr1 rfl (gN _)
set_option maxHeartbeats 4000000 in
theorem wlfind {l : List P2} {lo hi x y : Rat} {n a b c d : Nat} (hn : n ≤ 300) (ha : a ≤ 300) (hb : b ≤ 300) (hc : c ≤ 300) (hd : d ≤ 19000) (hlen : l.length ≤ 1000000) (hq : lo < hi) : CTy prog 51 [ag (rtq a lo), ag (rtq b hi), ag (st [rtq c x, rtq d y]), sv (sl 6 (l.map (ptq n)))] (tu [exP (.int .i64 (fU lo hi (x, y) l).1), exP (.bool (fU lo hi (x, y) l).2)]) := by
 refine ct (rs := [8, 9]) func51 rfl rfl rfl rfl rfl tup_r fun X => (yI (yX rfl (iM (obx rfl) (iM (obx rfl) (iM (obx rfl) (iM (oas rfl) (iM (oas rfl) ?_)))))))
 refine iE (t_scope (yI (yX rfl (iM (oas rfl) (iE (yI (t_label ?_)))))))
 refine yI (yI (yX rfl (iM (old rfl rfl) (iM (old rfl rfl) (iM (ofa rfl rfl) (iM (old rfl rfl) (iM (omv rfl) ?_)))))))
 refine iM (oca rfl rfl fun _ => klheights0 (by omega) (by omega) (by omega) (by omega) hlen hq) (iM (oln rfl) (iM (omv rfl) (iE (gS ?_))))
 refine cP (σ := Nat) (fun s => [(6, True, pa (st [rtq c x, rtq d y])), (8, True, exP (.int .i64 (uH (hsL lo hi x l) y s - 1))), (9, True, exP (.bool false)), (18, True, sv (sl 3 ((hsL lo hi x l).map (rtc (8 * n + 4 * (2 * a + b + c + 9) + 30))))), (19, True, exP (.int .i64 (((hsL lo hi x l).length : Nat) : Int))), (20, True, exP (.int .i64 ((s : Nat) : Int)))]) (fun s => []) (fun s => s ≤ (hsL lo hi x l).length ∧ ∀ i, i < s → (hsL lo hi x l).getD i 0 ≠ y) (fun s => (hsL lo hi x l).length - s) (0) (kL (tc rfl (gN _) (tc rfl (uJ rfl) (tc rfl (gN _) (tc rfl (gN _) (tc rfl (uJ (by simp)) (tc rfl (uJ rfl) tn)))))) rfl) ⟨Nat.zero_le _, fun i hi => by omega⟩ (fun s hJ => ?_)
 obtain ⟨h1, h2⟩ := hJ
 have hyl := bU lo hi x l
 have hbb := belowY_bnd (hsL lo hi x l) y s
 refine yI (yX rfl (iM (olt rfl rfl) (iE (yI ?_))))
 refine aM rfl (fun c0 => ?_) (fun c0 => ?_)
 ·have hc1 : s < (hsL lo hi x l).length := by have := dt c0; omega
  refine gX (yI (gS (yI (yX rfl (iM (omv rfl) (iM (oix s rfl rfl rfl (fun _ => rfl) (fun _ => by omega)) (iM (old rfl rfl) ?_)))))))
  refine tal fun b11 => ?_
  refine iM (oas rfl) (tst 0 rfl rfl rfl rfl rfl rfl (iE (yI (yX rfl (iM (cG 0 rfl rfl rfl rfl) (iM (ofa rfl rfl) (iM (old rfl rfl) ?_)))))))
  refine iM (oca rfl rfl fun _ => krcmp (by omega) (by omega)) (iM (oas rfl) (iE (eI (ts_sub (List.sublist_cons_self _ _)) (gS (yI (yX rfl (iM (omv rfl) ?_)))))))
  refine iM (oeq rfl rfl) (iM (oas rfl) (iE ?_))
  refine aM rfl (fun c1 => ?_) (fun c1 => ?_)
  ·refine yI ?_
   refine yX rfl (iM (omv rfl) (iM (oas rfl) (iM (oas rfl) (iE (bW (yI (yX rfl ?_)))))))
   refine iM (omv rfl) (iM (omv rfl) (iM (oas rfl) (iM (oas rfl) (iE (gQ ?_)))))
   have e := findY_hit hc1 h2 (fd_e c1)
   exact tr2 rfl rfl (uJ (congrArg Prod.fst e).symm) (psb (congrArg Prod.snd e).symm)
  ·refine yI ?_
   refine yX rfl (iM (omv rfl) (iM (olt rfl rfl) (iM (oas rfl) (iE ?_))))
   refine aM rfl (fun c2 => ?_) (fun c2 => ?_)
   ·refine yX rfl ?_
    refine iM (omv rfl) (iM (oad rfl rfl (by omega)) (iM (oas rfl) (iE (yX rfl (iM (oad rfl rfl (by omega)) (iM (omv rfl) (iE ?_)))))))
    exact ⟨s + 1, kL (tc rfl (gN _) (tc rfl (uJ (below_yes (fd_lt c2)).symm) (tc rfl (gN _) (tc rfl (gN _) (tc rfl (gN _) (tc rfl (uJ (by simp)) tn)))))) rfl, ⟨by omega, fd_ne h2 (fd_n c1)⟩, by omega⟩
   ·refine gX ?_
    refine yX rfl (iM (oad rfl rfl (by omega)) (iM (omv rfl) (iE ?_)))
    exact ⟨s + 1, kL (tc rfl (gN _) (tc rfl (uJ (below_no (fd_nlt c2)).symm) (tc rfl (gN _) (tc rfl (gN _) (tc rfl (gN _) (tc rfl (uJ (by simp)) tn)))))) rfl, ⟨by omega, fd_ne h2 (fd_n c1)⟩, by omega⟩
 ·have hc1 := df c0
  refine bW (yI (yX rfl (iM (omv rfl) (iM (omv rfl) (iM (oas rfl) (iM (oas rfl) (iE ?_)))))))
  refine gQ ?_
  have e := findY_miss (y := y) (ys := hsL lo hi x l) (fun i hi => h2 i (by omega))
  exact tr2 rfl rfl (uJ (by rw [show s = (hsL lo hi x l).length by omega]; exact (congrArg Prod.fst e).symm)) (psb (congrArg Prod.snd e).symm)
instance {x : N4 × P2} : CP (ptl x) (m4 x.1) x.2 := ⟨fun h => by
 obtain ⟨s, a, d, t, b, e, k, g⟩ := CP.h (c := st [rtl (x.1.1, x.1.2.1) x.2.1, rtl (x.1.2.2.1, x.1.2.2.2) x.2.2]) h
 exact ⟨s, a, d, t, b, e, k, g.up (by unfold m4; omega)⟩⟩
class QB (Ψ : PV) (n : outParam Nat) (p : outParam P2) (m : outParam Nat) (q : outParam P2) : Prop where
 h : ∀ {M w v}, Ψ.p M w v → ∃ s a d t b e s2 a2 d2 lV b2 e2, v = .agg #[.bool s, a, d, .bool t, b, e, .bool s2, a2, d2, .bool lV, b2, e2] ∧ PQ M w n p s a d t b e ∧ PQ M w m q s2 a2 d2 lV b2 e2
instance {c d : CT} {n m : Nat} {p q : P2} [h1 : CP c n p] [h2 : CP d m q] : QB (ag (st [c, d])) n p m q := ⟨fun ⟨us, e, x, y, e1, k1, z, o, e2, k2, e3⟩ => by
 obtain ⟨s, a, d, t, b, f, rfl, g⟩ := h1.h k1
 obtain ⟨s2, a2, d2, lV, b2, f2, rfl, g2⟩ := h2.h k2
 obtain rfl : o = [] := e3
 exact ⟨s, a, d, t, b, f, s2, a2, d2, lV, b2, f2, by rw [e, e1, e2]; rfl, g, g2⟩⟩
class CsE (cs : List CT) (n : outParam Nat) (es : outParam (List (P2 × P2))) : Prop where
 h : ∀ c ∈ cs, c.sz = 12
 l : cs.length = es.length
 e : ∀ (i : Nat) (q : P2 × P2), es[i]? = some q → ∃ c, cs[i]? = some c ∧ ∀ {M w us}, c.p M w us → RE n M w q us
theorem PQ.up2 {M : Nat → Prop} {w : World} {n m : Nat} {p : P2} {s t : Bool} {a d b e : Value} (h : PQ M w n p s a d t b e) (k : n ≤ m) : PQ M w m p s a d t b e := ⟨h.x.up k, h.y.up k⟩
theorem RE.up {n m : Nat} {M : Nat → Prop} {w : World} {q : P2 × P2} {us : List Value} (h : RE n M w q us) (k : n ≤ m) : RE m M w q us := by
 obtain ⟨s, a, d, t, b, e, s2, a2, d2, lV, b2, e2, h1, h2, h3⟩ := h
 exact ⟨s, a, d, t, b, e, s2, a2, d2, lV, b2, e2, h1, h2.up2 k, h3.up2 k⟩
theorem re_of {c d : CT} {n m : Nat} {p q : P2} [h1 : CP c n p] [h2 : CP d m q] {M : Nat → Prop} {w : World} {us : List Value} (h : (st [c, d]).p M w us) : RE (max n m) M w (p, q) us := by
 obtain ⟨x, y, e1, k1, z, o, e2, k2, e3⟩ := h
 obtain ⟨s, a, d, t, b, f, rfl, g⟩ := h1.h k1
 obtain ⟨s2, a2, d2, lV, b2, f2, rfl, g2⟩ := h2.h k2
 obtain rfl : o = [] := e3
 exact ⟨s, a, d, t, b, f, s2, a2, d2, lV, b2, f2, by rw [e1, e2]; rfl, g.up2 (by omega), g2.up2 (by omega)⟩
theorem csE_one {c d : CT} {n m N : Nat} {p q : P2} [h1 : CP c n p] [h2 : CP d m q] (hsz : c.sz + d.sz = 12) (hn : max n m ≤ N) : CsE [st [c, d]] N [(p, q)] :=
 ⟨fun x hx => by rw [List.mem_singleton.1 hx]; show c.sz + (d.sz + 0) = 12; omega, rfl, fun i r hi => by
  cases i with
  | zero => simp at hi; subst hi; exact ⟨_, rfl, fun k => (re_of k).up hn⟩
  | succ i => simp at hi⟩
class VE (Ψ : PV) (n : outParam Nat) (l : outParam (List (P2 × P2))) : Prop where
 h : ∀ {M w v}, Ψ.p M w v → EL M w n l v
instance {cs : List CT} {n : Nat} {l : List (P2 × P2)} [h : CsE cs n l] : VE (sv (sl 12 cs)) n l := ⟨fun k => ⟨row_each h.l h.h (fun i a ha => let ⟨c, g1, g2⟩ := h.e i a ha; ⟨c, g1, fun us hu => g2 hu⟩) k⟩⟩
noncomputable def lvOf (lo hi yl yh : Rat) (es : List (P2 × P2)) : List P2 := Classical.epsilon fun l => if lo < hi then IsLv lo hi yl yh es l else l = []
theorem lvOf_eq {lo hi yl yh : Rat} {es : List (P2 × P2)} {l : List P2} (h : if lo < hi then IsLv lo hi yl yh es l else l = []) : l = lvOf lo hi yl yh es := by
 have h2 := Classical.epsilon_spec (p := fun l => if lo < hi then IsLv lo hi yl yh es l else l = []) ⟨l, h⟩
 show l = Classical.epsilon _
 split at h
 ·rename_i c; simp only [if_pos c] at h2 ⊢; exact lv_uniq h h2
 ·rename_i c; simp only [if_neg c] at h2 ⊢; exact h.trans h2.symm
theorem rlen_heightP {a b : P2} {x : Rat} {A B : Nat} (ha : plen a A) (hb : plen b A) (hx : jZ x B) : jZ (bV a b x) (6 * A + B + 5) := by
 unfold bV
 split
 ·exact jC rlen_zero' (by omega)
 ·exact jC (ha.at_ hb (rlen_quo (rlen_sub hx ha.x) (rlen_sub hb.x ha.x))).y (by omega)
theorem thru_mem {lo hi : Rat} {es : List (P2 × P2)} {x : P2} : ∀ {s : Nat}, s ≤ es.length → (x ∈ qD lo hi es s ↔ ∃ e ∈ es.take s, fN lo hi e ∧ x = fH lo hi e)
 | 0, _ => by simp [qD]
 | s + 1, h => by
  have hg : es.getD s ((0, 0), (0, 0)) = es[s] := by simp [List.getD_eq_getElem?_getD, List.getElem?_eq_getElem (show s < es.length by omega)]
  rw [qD, List.mem_append, thru_mem (s := s) (by omega), hg, List.take_succ_eq_append_getElem (show s < es.length by omega)]
  simp only [List.mem_append, List.mem_singleton]
  constructor
  ·rintro (⟨e, h1, h2⟩ | h1)
   ·exact ⟨e, .inl h1, h2⟩
   ·split at h1
    ·rename_i c; exact ⟨_, .inr rfl, c, List.mem_singleton.1 h1⟩
    ·cases h1
  ·rintro ⟨e, h1 | rfl, h2, h3⟩
   ·exact .inl ⟨e, h1, h2, h3⟩
   ·exact .inr (by rw [if_pos h2]; exact List.mem_singleton.2 h3)
theorem thru_all {lo hi : Rat} {es : List (P2 × P2)} {x : P2} : x ∈ qD lo hi es es.length ↔ ∃ e ∈ es, fN lo hi e ∧ x = fH lo hi e := by
 rw [thru_mem (Nat.le_refl _), List.take_length]
theorem EL.pl {M : Nat → Prop} {w : World} {n : Nat} {l : List (P2 × P2)} {v : Value} (h : EL M w n l v) : ∀ x ∈ l, plen x.1 (n + 1) ∧ plen x.2 (n + 1) := fun x hx => by
 obtain ⟨cs, h1, h2⟩ := h.row
 obtain ⟨i, hi, rfl⟩ := List.mem_iff_getElem.1 hx
 obtain ⟨us, h3, h4, s, a, d, t, b, e, s2, a2, d2, lV, b2, e2, e0, g1, g2⟩ := h2 i _ (List.getElem?_eq_getElem hi)
 exact ⟨g1.plen (Nat.le_refl _), g2.plen (Nat.le_refl _)⟩
theorem klof {Ψ Φ Θ Ξ : PV} {n0 n1 n2 n3 n4 : Nat} {lo hi : Rat} {bl bh : P2} {es : List (P2 × P2)} [h1 : QR Ψ n1 lo] [h2 : QR Φ n2 hi] [h3 : QB Θ n3 bl n4 bh] [h0 : VE Ξ n0 es] (hl1 : n1 ≤ 40) (hl2 : n2 ≤ 40) (hl3 : n3 ≤ 6) (hl4 : n4 ≤ 6) (hl0 : n0 ≤ 40) (hlen : es.length ≤ 1000) :
  CTy prog 55 [Ψ, Φ, Θ, Ξ] (sv (sl 6 ((lvOf lo hi bl.2 bh.2 es).map (ptc 300)))) :=
 ⟨(bo func55), fun M w vs hM hT hv => by
  obtain ⟨v0, v1, v2, v3, rfl, k1, k2, k3, k0⟩ := fa4 hv
  obtain ⟨s1, a1, d1, rfl, g1⟩ := h1.h k1
  obtain ⟨s2, a2, d2, rfl, g2⟩ := h2.h k2
  obtain ⟨s3, a3, d3, t3, b3, e3, s4, a4, d4, t4, b4, e4, rfl, g3, g4⟩ := h3.h k3
  have g0 := h0.h k0
  refine (levelsof_c hT g1 g2 g3 g4 g0 (by omega) (by omega) (by omega) (by omega) (by omega) hlen hM).mono fun r w' ⟨hB, l, hl, g⟩ => ⟨hB, ?_⟩
  rw [← lvOf_eq hl]
  have hpl := g0.pl
  have hr : ∀ x ∈ l, plen x 300 := fun x hx => by
   by_cases c : lo < hi
   ·rw [if_pos c] at hl
    rcases List.mem_append.1 ((hl.mem x).1 hx) with h | h
    ·obtain ⟨e, he, _, rfl⟩ := thru_all.1 h
     have := hpl e he
     exact ⟨jC (rlen_heightP this.1 this.2 g1.rlen) (by omega), jC (rlen_heightP this.1 this.2 g2.rlen) (by omega)⟩
    ·have e3 := jC g3.y.rlen (show n3 + 1 ≤ 300 by omega)
     have e4 := jC g4.y.rlen (show n4 + 1 ≤ 300 by omega)
     simp only [List.mem_cons, List.not_mem_nil, or_false] at h
     rcases h with rfl | rfl
     ·exact ⟨e3, e3⟩
     ·exact ⟨e4, e4⟩
   ·rw [if_neg c] at hl; subst hl; cases hx
  obtain ⟨cs, f1, f2⟩ := g.row
  refine dK (R := fun M w (a : P2) us => ∃ s x d t b e, us = [.bool s, x, d, .bool t, b, e] ∧ PC M w 300 a s x d t b e) (fun _ => rfl) (fun a us _ ⟨s, x, d, t, b, e, e0, f⟩ => ⟨[.bool s, x, d], [.bool t, b, e], e0, ⟨s, x, d, rfl, f.x⟩, [.bool t, b, e], [], rfl, ⟨t, b, e, rfl, f.y⟩, rfl⟩) ⟨cs, f1, fun i a ha => ?_⟩
  obtain ⟨us, f3, f4, s, x, d, t, b, e, f5, f6⟩ := f2 i a ha
  have := hr a (List.mem_of_getElem? ha)
  exact ⟨us, f3, f4, s, x, d, t, b, e, f5, ⟨f6.x.relen this.x, f6.y.relen this.y⟩⟩⟩
section
variable {Ψ Φ Θ Ξ : PV} {n0 n1 n2 n3 : Nat} {lo hi x : Rat} {l : List P2} [h0 : QR Ψ n0 lo] [h1 : QR Φ n1 hi] [h2 : QR Θ n2 x] [h3 : VPt Ξ n3 l]
theorem hts_k {P : Program} {f : FuncId} {N : Nat} (hq : lo < hi) (h : CTy P f [ag (rtq n0 lo), ag (rtq n1 hi), ag (rtq n2 x), sv (sl 6 (l.map (ptq n3)))] (sv (sl 3 ((hsL lo hi x l).map (rtc N))))) :
  CTy P f [Ψ, Φ, Θ, Ξ] (sv (sl 3 ((hsL lo hi x l).map (rtc (2 * n0 + n1 + n2 + 3 * n3 + 12))))) :=
 ⟨h.bod, fun M w vs hM hT hv => by
  refine (h.run M w vs hM hT ((fs1 cA (fs1 cA (fs1 cA (fs1 fY fs0)))) _ _ _ hv)).mono fun r w' ⟨hB, y⟩ => ⟨hB, ?_⟩
  obtain ⟨v0, v1, v2, v3, rfl, k0, k1, k2, k3⟩ := fa4 hv
  obtain ⟨s0, a0, d0, rfl, g0⟩ := h0.h k0
  obtain ⟨s1, a1, d1, rfl, g1⟩ := h1.h k1
  obtain ⟨s2, a2, d2, rfl, g2⟩ := h2.h k2
  have hr := (h3.h k3).rl
  obtain ⟨cs, f1, f2⟩ := iD (R := RQc N) (f := rtc N) (fun _ => rfl) (fun a us h => h) y
  refine dK (R := RQc (2 * n0 + n1 + n2 + 3 * n3 + 12)) (fun _ => rfl) (fun a us _ ⟨s, b, c, e, f⟩ => ⟨s, b, c, e, f⟩) ⟨cs, f1, fun i a ha => ?_⟩
  obtain ⟨us, f3, f4, s, b, c, f5, f6⟩ := f2 i a ha
  refine ⟨us, f3, f4, s, b, c, f5, f6.relen ?_⟩
  have ham := List.mem_of_getElem? ha
  unfold hsL at ham
  obtain ⟨p, hp, rfl⟩ := List.mem_map.1 ham
  exact jC (rlen_height g0.rlen g1.rlen g2.rlen (hr p hp).1 (hr p hp).2 hq) (by omega)⟩
theorem k23heights (hl0 : n0 ≤ 100) (hl1 : n1 ≤ 100) (hl2 : n2 ≤ 100) (hl3 : n3 ≤ 100) (hlen : l.length ≤ 1000) (hq : lo < hi) : CTy prog 50 [Ψ, Φ, Θ, Ξ] (sv (sl 3 ((hsL lo hi x l).map (rtc (2 * n0 + n1 + n2 + 3 * n3 + 12))))) :=
 hts_k hq (w23heights (by omega) (by omega) (by omega) (by omega) (by omega) hq)
end
theorem qrr_q {Ψ : PV} {n m : Nat} {p q : Rat} [h : QRR Ψ n p m q] : PSub Ψ (ag (st [rtq n p, rtq m q])) := fun M w v k => by
 obtain ⟨s, a, d, t, b, e, rfl, g1, g2⟩ := h.h k
 exact ⟨_, rfl, [.bool s, a, d], [.bool t, b, e], rfl, ⟨s, a, d, rfl, g1⟩, [.bool t, b, e], [], rfl, ⟨t, b, e, rfl, g2⟩, rfl⟩
theorem iP {Ψ Φ Θ Ξ : PV} {n0 n1 n2 m2 n3 : Nat} {lo hi x y : Rat} {l : List P2} [h0 : QR Ψ n0 lo] [h1 : QR Φ n1 hi] [h2 : QRR Θ n2 x m2 y] [h3 : VPt Ξ n3 l] (hl0 : n0 ≤ 300) (hl1 : n1 ≤ 300) (hl2 : n2 ≤ 300) (hm2 : m2 ≤ 19000) (hl3 : n3 ≤ 300) (hlen : l.length ≤ 1000) (hq : lo < hi) :
  CTy prog 51 [Ψ, Φ, Θ, Ξ] (tu [exP (.int .i64 (fU lo hi (x, y) l).1), exP (.bool (fU lo hi (x, y) l).2)]) :=
 dP (wlfind hl3 hl0 hl1 hl2 hm2 (by omega) hq) (fs1 cA (fs1 cA (fs1 qrr_q (fs1 fY fs0))))
theorem k23rises {Ψ : PV} {n : Nat} {l : List P2} [h : VPt Ψ n l] (hn : n ≤ 1990) (hl : l.length ≤ 1000) : CTy prog 47 [Ψ] (exP (.bool (decide (aN l)))) := dP (w23rises hn) (fs1 fY fs0)
theorem klrises {Ψ : PV} {n : Nat} {l : List P2} [h : VPt Ψ n l] (hn : n ≤ 90000) (hl : l.length ≤ 1000) : CTy prog 64 [Ψ] (exP (.bool (decide (aN l)))) := dP (wlrises hn (by omega)) (fs1 fY fs0)
theorem k23same {Ψ Φ : PV} {n m : Nat} {l k : List P2} [h : VPt Ψ n l] [h' : VPt Φ m k] (hn : n ≤ 1990) (hm : m ≤ 1990) : CTy prog 105 [Ψ, Φ] (exP (.bool (decide (l = k)))) := dP (w23same hn hm) (fs1 fY (fs1 fY fs0))
theorem k23m1 : CTy prog 48 [exP (.int .i64 (-1))] (ag (rtc 2 ((-1 : Int) : Rat))) :=
 ⟨(bo func48), fun M w vs hM hT hv => by
  obtain ⟨v, rfl, h1⟩ := fa1 hv
  obtain rfl : v = _ := h1
  exact (l23m1_c hM).mono fun r w' ⟨hB, x, y, z, e, g⟩ => ⟨hB, e ▸ bC g⟩⟩
theorem k8m1 {k : Nat} (hk : k < 9223372036854775808) : CTy prog 85 [exP (.int .i64 ((k : Nat) : Int)), exP (.int .i64 (-1))] (ag (st [rtc 2 ((k : Nat) : Rat), rtc 2 ((-1 : Int) : Rat)])) :=
 ⟨(bo func85), fun M w vs hM hT hv => by
  obtain ⟨v, u, rfl, h1, h2⟩ := fa2 hv
  obtain rfl : v = _ := h1
  obtain rfl : u = _ := h2
  exact (r8m1_c hk hM).mono fun r w' ⟨hB, _, _, _, _, _, _, e, g⟩ => ⟨hB, e ▸ pc_ret g⟩⟩
def eK : List P2 := [(((-1 : Int) : Rat), ((-1 : Int) : Rat)), (((0 : Nat) : Rat), ((2 : Nat) : Rat)), (((3 : Nat) : Rat), ((3 : Nat) : Rat))]
abbrev iV : List (P2 × P2) := [((((0 : Nat) : Rat), ((0 : Nat) : Rat)), (((2 : Nat) : Rat), ((2 : Nat) : Rat)))]
theorem wake_t : qD ((0 : Nat) : Rat) ((2 : Nat) : Rat) iV 1 = [(((0 : Nat) : Rat), ((2 : Nat) : Rat))] := by decide +kernel
theorem wake_lv : IsLv ((0 : Nat) : Rat) ((2 : Nat) : Rat) ((-1 : Int) : Rat) ((3 : Nat) : Rat) iV eK := ⟨by unfold eK; decide +kernel, fun x => by
 rw [show iV.length = 1 from rfl, wake_t]
 simp only [eK, List.mem_cons, List.mem_append, List.not_mem_nil, or_false]
 exact ⟨fun h => by rcases h with h | h | h; exact .inr (.inl h); exact .inl h; exact .inr (.inr h), fun h => by rcases h with h | h | h; exact .inr (.inl h); exact .inl h; exact .inr (.inr h)⟩⟩
theorem wake_rises : aN eK := fun i hi => by
 have h : ∀ j : Fin 2, qQ (eK.getD j.1 (0, 0)) (eK.getD (j.1 + 1) (0, 0)) := by unfold qQ; decide +kernel
 exact h ⟨i, by simp [eK] at hi; omega⟩
instance csE_w {a b c d : Rat} : CsE [st [st [rtc 2 a, rtc 2 b], st [rtc 2 c, rtc 2 d]]] 2 [((a, b), (c, d))] := csE_one rfl (by simp)
theorem kwof {Ψ Φ Θ Ξ : PV} {n0 n1 n2 n3 n4 : Nat} {a b : Rat} [h1 : QR Ψ n1 ((0 : Nat) : Rat)] [h2 : QR Φ n2 ((2 : Nat) : Rat)] [h3 : QB Θ n3 (a, ((-1 : Int) : Rat)) n4 (b, ((3 : Nat) : Rat))] [h0 : VE Ξ n0 iV] (hl1 : n1 ≤ 40) (hl2 : n2 ≤ 40) (hl3 : n3 ≤ 6) (hl4 : n4 ≤ 6) (hl0 : n0 ≤ 40) :
  CTy prog 55 [Ψ, Φ, Θ, Ξ] (sv (sl 6 (eK.map (ptc 300)))) := by
 have e : eK = lvOf ((0 : Nat) : Rat) ((2 : Nat) : Rat) ((-1 : Int) : Rat) ((3 : Nat) : Rat) iV := lvOf_eq (by rw [if_pos (show ((0 : Nat) : Rat) < ((2 : Nat) : Rat) by decide +kernel)]; exact wake_lv)
 have k := klof (h1 := h1) (h2 := h2) (h3 := h3) (h0 := h0) hl1 hl2 hl3 hl4 hl0 (Nat.le_add_left 1 999)
 rw [← e] at k
 exact k
set_option maxHeartbeats 4000000 in
theorem k23wakes : CTy prog 49 [] (exP (.bool true)) := by
 refine ct (rs := [0]) func49 rfl rfl rfl rfl rfl dL fun X => (yI (yX rfl (iM (oas rfl) (iE (yI (yX rfl (iM (oca rfl rfl fun _ => k8m1 (k := 0) (by omega)) ?_)))))))
 refine iM (oca rfl rfl fun _ => lR (k := 2) (l := 3) (by omega) (by omega)) (iM (obd rfl rfl rfl) ?_)
 refine tal fun b1 => ?_
 refine tst 0 rfl rfl rfl rfl rfl rfl (iE (yI (qP 9 mixed rfl rfl (d1 (oca rfl rfl fun _ => gY (k := 0) (by omega)) (d1 (oca rfl rfl fun _ => gY (k := 2) (by omega)) (d1 (cG 0 rfl rfl rfl rfl) (d1 (oca rfl rfl fun _ => lR (k := 0) (l := 0) (by omega) (by omega)) ?_)))))))
 refine d1 (oca rfl rfl fun _ => lR (k := 2) (l := 2) (by omega) (by omega)) (d1 (obd rfl rfl rfl) (d1 (obs rfl rfl rfl rfl rfl rfl) (d1 (oca rfl rfl fun _ => kwof (by omega) (by omega) (by omega) (by omega) (by omega)) (d1 (oas rfl) (d0 (iE (yI ?_)))))))
 refine yX rfl (iM (oca rfl rfl fun _ => k23m1) (iM (oca rfl rfl fun _ => k23m1) (iM (obd rfl rfl rfl) (iM (oca rfl rfl fun _ => gY (k := 0) (by omega)) (iM (oca rfl rfl fun _ => gY (k := 2) (by omega)) (iM (obd rfl rfl rfl) (iM (oca rfl rfl fun _ => gY (k := 3) (by omega)) ?_)))))))
 refine iM (oca rfl rfl fun _ => gY (k := 3) (by omega)) (iM (obd rfl rfl rfl) (iM (obs rfl rfl rfl rfl rfl rfl) (iM (oas rfl) (iE (eI (ts_as (s := 3) rfl (ps_p (show _ = sv (sl 6 (eK.map (ptc 2))) from rfl))) (yI (yX rfl ?_)))))))
 refine iM (oca rfl rfl fun _ => gY (k := 0) (by omega)) (iM (oca rfl rfl fun _ => gY (k := 2) (by omega)) (iM (oca rfl rfl fun _ => lR (k := 1) (l := 1) (by omega) (by omega)) (iM (omv rfl) (iM (oca rfl rfl fun _ => iP (by omega) (by omega) (by omega) (by omega) (by omega) (by decide) (by decide +kernel)) (iM (omv rfl) (iM (oex rfl rfl) (iM (oex rfl rfl) ?_)))))))
 refine iM (oas rfl) (iM (oas rfl) (iE (yI (yX rfl (iM (oca rfl rfl fun _ => gY (k := 0) (by omega)) (iM (oca rfl rfl fun _ => gY (k := 2) (by omega)) (iM (oca rfl rfl fun _ => lR (k := 1) (l := 2) (by omega) (by omega)) ?_)))))))
 refine iM (omv rfl) (iM (oca rfl rfl fun _ => iP (by omega) (by omega) (by omega) (by omega) (by omega) (by decide) (by decide +kernel)) (iM (omv rfl) (iM (oex rfl rfl) (iM (oex rfl rfl) (iM (oas rfl) (iM (oas rfl) (iE ?_)))))))
 refine yI ?_
 apply dW 1 12 11 [(10, 8, 0), (11, 1000011, 0)] rfl rfl mixed rfl rfl rfl
 refine cx1 (omv rfl) rfl (cx1 (oix 1 rfl rfl rfl (fun _ => by decide) (fun _ => by decide)) rfl (cx1 (old rfl rfl) rfl (cx1 (oca rfl rfl fun _ => gY (k := 0) (by omega)) rfl (cx1 (oca rfl rfl fun _ => gY (k := 2) (by omega)) rfl (cx1 (oca rfl rfl fun _ => gY (k := 1) (by omega)) rfl (cx1 (oca rfl rfl fun _ => klHeight (by omega) (by omega) (by omega) (by omega)) rfl (cx1 (omv rfl) rfl ?_)))))))
 refine cx1 (oex rfl rfl) rfl (cx1 (oex rfl rfl) rfl (cN rfl rfl (cal) (cS rfl rfl rfl (cst rfl rfl rfl) ?_)))
 refine cE (fun b8 => ?_)
 refine iM (oas rfl) (iE (yI (qP 32 mixed rfl rfl (d1 (omv rfl) (d1 (omv rfl) (d1 (oca rfl rfl fun _ => k23same (by omega) (by omega)) (d1 (omv rfl) ?_)))))))
 refine d1g rfl rfl (omv rfl) (d1g rfl rfl (oeq rfl rfl) (d1 (opk rfl rfl rfl) (d1 (omv rfl) (d1g rfl rfl (omv rfl) (d1 (opk rfl rfl rfl) (d1 (omv rfl) (d1g rfl rfl (omv rfl) ?_)))))))
 refine d1g rfl rfl (oeq rfl rfl) (d1 (opk rfl rfl rfl) (d1 (omv rfl) (d1g rfl rfl (omv rfl) (d1g rfl rfl (ont rfl) (d1 (opk rfl rfl rfl) (d1 (omv rfl) (d1g rfl rfl (omv rfl) ?_)))))))
 refine d1g rfl rfl (oca rfl rfl fun g => klrises (by omega) (by decide)) (d1 (opk rfl rfl rfl) (d1 (omv rfl) (d1g rfl rfl (omv rfl) (d1g rfl rfl (oeq rfl rfl) (d1 (opk rfl rfl rfl) (d1 (omv rfl) (d1g rfl rfl (cG 0 rfl rfl rfl rfl) ?_)))))))
 refine d1g rfl rfl (oca rfl rfl fun g => gY (k := 1) (by omega)) (d1g rfl rfl (oca rfl rfl fun g => k7same (by omega) (by omega)) (d1 (opk rfl rfl rfl) (d1 (oas rfl) (d0 (iE (gQ ?_))))))
 exact tr1 rfl (psb (by rw [decide_eq_true wake_rises]; decide +kernel))
theorem vpt_of {n : Nat} {l : List (N4 × P2)} (h : ∀ x ∈ l.map (·.1), m4 x ≤ n) : VPt (sv (sl 6 (l.map ptl))) n (l.map (·.2)) := ⟨fun k => pl_row (fun x hx => h _ (List.mem_map_of_mem hx)) k⟩
theorem lG {a b c d : N2} (h : dN [a, b, c, d] = false) : max a.1 a.2 + max b.1 b.2 + max c.1 c.2 + max d.1 d.2 ≤ 40 := by
 unfold dN at h
 rw [decide_eq_false_iff_not] at h
 simp only [List.length_cons, List.length_nil, iA, List.getD_cons_zero, List.getD_cons_succ] at h
 omega
theorem ix_k {a : Int} {n : Nat} (hn : 0 < n) (hs : n ≤ 20) : ∃ k : Nat, ((a.tmod (n : Int)) + (n : Int)).tmod (n : Int) = (k : Int) ∧ k < n ∧ -20 ≤ a.tmod (n : Int) ∧ a.tmod (n : Int) ≤ 20 := by
 have h1 : a.tmod n < n := Int.tmod_lt_of_pos a (by omega)
 have h2 : -(n : Int) < a.tmod n := Int.lt_tmod_of_pos a (by omega)
 have h3 : ((a.tmod (n : Int)) + (n : Int)).tmod (n : Int) = ((a.tmod (n : Int)) + (n : Int)) % (n : Int) := Int.tmod_eq_emod_of_nonneg (by omega)
 have h4 := Int.emod_nonneg ((a.tmod (n : Int)) + (n : Int)) (show (n : Int) ≠ 0 by omega)
 have h5 := Int.emod_lt_of_pos ((a.tmod (n : Int)) + (n : Int)) (show (0 : Int) < n by omega)
 exact ⟨_, h3.trans (Int.toNat_of_nonneg h4).symm, by omega, by omega, by omega⟩
theorem lf_at {lo hi x : Rat} {ls : List P2} {k : Nat} (h1 : lo < x) (h2 : x < hi) (h : aN ls) (hk : k < ls.length) : fU lo hi (x, (hsL lo hi x ls).getD k 0) ls = ((k : Int), true) := find_at (hs_up h1 h2 h) (by rw [bU]; exact hk)
theorem lf_low {lo hi x t : Rat} {ls : List P2} (h1 : lo < x) (h2 : x < hi) (h : aN ls) (hk : 0 < ls.length) (ht : 0 < t) : fU lo hi (x, (hsL lo hi x ls).getD 0 0 - t) ls = (-1, false) := find_low (hs_up h1 h2 h) (by rw [bU]; exact hk) (by grind)
theorem lf_top {lo hi x t : Rat} {ls : List P2} {k : Nat} (h1 : lo < x) (h2 : x < hi) (h : aN ls) (hk : k < ls.length) (hn : ¬ k + 1 < ls.length) (ht : 0 < t) : fU lo hi (x, (hsL lo hi x ls).getD k 0 + t) ls = ((k : Int), false) :=
 find_btw (hs_up h1 h2 h) (show k < (hsL lo hi x ls).length by rw [bU]; exact hk) (by grind) (fun j hj hl => by rw [bU] at hl; omega)
theorem lf_btw {lo hi x t : Rat} {ls : List P2} {k : Nat} (h1 : lo < x) (h2 : x < hi) (h : aN ls) (hn : k + 1 < ls.length) (ht : 0 < t) (ht1 : t < 1) : fU lo hi (x, (hsL lo hi x ls).getD k 0 + t * ((hsL lo hi x ls).getD (k + 1) 0 - (hsL lo hi x ls).getD k 0)) ls = ((k : Int), false) := by
 have up := hs_up h1 h2 h
 have hl : k + 1 < (hsL lo hi x ls).length := by rw [bU]; exact hn
 have hd : 0 < (hsL lo hi x ls).getD (k + 1) 0 - (hsL lo hi x ls).getD k 0 := by have := up k (k + 1) (by omega) hl; grind
 have h3 : 0 < t * ((hsL lo hi x ls).getD (k + 1) 0 - (hsL lo hi x ls).getD k 0) := Rat.mul_pos ht hd
 have h4 : t * ((hsL lo hi x ls).getD (k + 1) 0 - (hsL lo hi x ls).getD k 0) < (hsL lo hi x ls).getD (k + 1) 0 - (hsL lo hi x ls).getD k 0 := by
  have := Rat.mul_lt_mul_of_pos_right ht1 hd
  rwa [Rat.one_mul] at this
 exact find_btw up (show k < (hsL lo hi x ls).length by omega) (by grind) (fun j hj _ => by subst hj; grind)
theorem lf_no1 {f : Int × Bool} {k a : Int} (e : f = (k, true)) (hk : a = k) (h : (decide (f.1 ≠ a) || !f.2) = true) : False := by subst e; subst hk; simp at h
theorem lf_no2 {f : Int × Bool} (e : f = (-1, false)) (h : (decide (f.1 ≠ -1) || f.2) = true) : False := by subst e; simp at h
theorem lf_yes {f : Int × Bool} {k a : Int} (e : f = (k, false)) (hk : a = k) : ((decide (f.1 = a) && !f.2) || false) = true := by subst e; subst hk; simp
set_option maxHeartbeats 4000000 in
theorem law_LevelsFind {lo hi x t : Rat} {L0 L1 L2 L3 : N2} {l : List (N4 × P2)} {at' : Int} (hb : ∀ y ∈ [L0, L1, L2, L3], y.1 + y.2 ≤ 1000000000000000000) (hbl : ∀ y ∈ l.map (·.1), y.1 + y.2.1 + y.2.2.1 + y.2.2.2 ≤ 1000000000000000000) : CTy prog 8 [ag (rtl L0 lo), ag (rtl L1 hi), ag (rtl L2 x), ag (rtl L3 t), sv (sl 6 (l.map ptl)), exP (.int .i64 at')] (exP (.bool true)) := by
 refine ct (rs := [12]) func8 rfl rfl rfl rfl rfl dL fun X => (yI (yX rfl (iM (obx rfl) (iM (obx rfl) (iM (obx rfl) (iM (obx rfl) (iM (oas rfl) ?_)))))))
 refine iE (yI (yI (qP 43 mixed rfl rfl (d1 (old rfl rfl) (d1 (old rfl rfl) (d1 (old rfl rfl) (d1 (old rfl rfl) ?_)))))))
 refine d1 (obs rfl rfl rfl rfl rfl rfl) (d1 (oca rfl rfl fun _ => k7great (ls := [L0, L1, L2, L3]) (l := [(L0, lo), (L1, hi), (L2, x), (L3, t)]) rfl rfl hb) (d1 (omv rfl) (d1g rfl rfl (omv rfl) (d1g rfl rfl (oca rfl rfl fun g => k23great hbl) (d1 (opk rfl rfl rfl) (d1 (omv rfl) (d1g rfl rfl (omv rfl) ?_)))))))
 refine d1g rfl rfl (oln rfl) (d1g rfl rfl (oeq rfl rfl) (d1 (opk rfl rfl rfl) (d1 (omv rfl) (d1g rfl rfl (old rfl rfl) (d1g rfl rfl (old rfl rfl) (d1g rfl rfl (oca rfl rfl fun g => iI (by have h7 := lG (by have h := g.2; repeat (first | exact h | replace h := orl h)); omega) (by have h7 := lG (by have h := g.2; repeat (first | exact h | replace h := orl h)); omega)) (d1g rfl rfl (oge rfl rfl) ?_)))))))
 refine d1 (opk rfl rfl rfl) (d1 (omv rfl) (d1g rfl rfl (old rfl rfl) (d1g rfl rfl (old rfl rfl) (d1g rfl rfl (oca rfl rfl fun g => iI (by have h7 := lG (by have h := g.2; repeat (first | exact h | replace h := orl h)); omega) (by have h7 := lG (by have h := g.2; repeat (first | exact h | replace h := orl h)); omega)) (d1g rfl rfl (oge rfl rfl) (d1 (opk rfl rfl rfl) (d1 (omv rfl) ?_)))))))
 refine d1g rfl rfl (omv rfl) (d1g rfl rfl (oca rfl rfl fun g => (have h8 := great23_not (l := l.map (·.1)) (by have h := g.2; repeat (first | exact orr h | replace h := orl h)); haveI := vpt_of h8.2; k23rises (by omega) (by have := h8.1; simp only [List.length_map] at this ⊢; omega))) (d1g rfl rfl (ont rfl) (d1 (opk rfl rfl rfl) (d1 (omv rfl) (d1g rfl rfl (old rfl rfl) (d1g rfl rfl (oca rfl rfl fun g => k7sign (by have h7 := lG (by have h := g.2; repeat (first | exact h | replace h := orl h)); omega)) (d1g rfl rfl (ole rfl rfl) ?_)))))))
 refine d1 (opk rfl rfl rfl) (d1 (omv rfl) (d1g rfl rfl (old rfl rfl) (d1g rfl rfl (oca rfl rfl fun g => gY (k := 1) (by omega)) (d1g rfl rfl (oca rfl rfl fun g => iI (by have h7 := lG (by have h := g.2; repeat (first | exact h | replace h := orl h)); omega) (by omega)) (d1g rfl rfl (oge rfl rfl) (d1 (opk rfl rfl rfl) (d0 ?_)))))))
 refine iE ?_
 refine aM rfl (fun c0 => ?_) (fun c0 => ?_)
 ·refine yI ?_
  refine yX rfl (iM (oca rfl rfl fun _ => k23wakes) (iM (oas rfl) (iE (gQ ?_))))
  exact tr1 rfl (psb rfl)
 ·have hx := c0.h
  have f8 := orr hx; have f7 := orr (orl hx); have f6 := orr (orl (orl hx)); have f5 := orr (orl (orl (orl hx))); have f4 := orr (orl (orl (orl (orl hx)))); have f3 := orr (orl (orl (orl (orl (orl hx))))); have f2 := orr (orl (orl (orl (orl (orl (orl hx)))))); have f1 := orl (orl (orl (orl (orl (orl (orl hx))))))
  have h7 := lG f1
  have h8 := great23_not f2
  haveI := vpt_of h8.2
  have hll : (l.map (·.2)).length ≤ 1000 := by have := h8.1; simp only [List.length_map] at this ⊢; omega
  have hl20 : l.length ≤ 20 := by have := h8.1; simpa using this
  simp only [decide_eq_false_iff_not, Bool.not_eq_false', decide_eq_true_eq] at f3 f4 f5 f6 f7 f8
  have hln : 0 < l.length := by omega
  have hlx : lo < x := by rw [aV] at f4; grind
  have hxh : x < hi := by rw [aV] at f5; grind
  have hlo : lo < hi := by grind
  obtain ⟨k, hk, hkl, ht1, ht2⟩ := ix_k (a := at') hln hl20
  have hlm : (hsL lo hi x (l.map (·.2))).length = l.length := by rw [bU, List.length_map]
  have hkm : k < (l.map (·.2)).length := by rw [List.length_map]; exact hkl
  have h0m : 0 < (l.map (·.2)).length := by rw [List.length_map]; exact hln
  have ht0 : 0 < t := by rw [sgnR_le] at f7; grind
  have ht3 : t < 1 := by rw [aV] at f8; grind
  refine gX (yI (yX rfl (iM (omv rfl) (iM (omv rfl) (iM (oln rfl) (iM (ort rfl rfl (by omega)) (iM (omv rfl) ?_)))))))
  refine iM (oln rfl) (iM (oad rfl rfl (by omega)) (iM (omv rfl) (iM (oln rfl) (iM (ort rfl rfl (by omega)) (iM (oas rfl) (iE (yI ?_)))))))
  refine yX rfl (iM (old rfl rfl) (iM (old rfl rfl) (iM (old rfl rfl) (iM (omv rfl) (iM (oca rfl rfl fun _ => k23heights (by omega) (by omega) (by omega) (by omega) hll hlo) (iM (oas rfl) (iE ?_)))))))
  refine yI (qP 15 mixed rfl rfl (d1 (old rfl rfl) (d1 (old rfl rfl) (d1 (old rfl rfl) (d1 (omv rfl) (d1 (omv rfl) (d1 (oix k rfl rfl rfl (fun _ => hk) (fun _ => by omega)) ?_)))))))
  refine d1 (old rfl rfl) (d1 (obd rfl rfl rfl) (d1 (omv rfl) (d1 (oca rfl rfl fun _ => iP (by omega) (by omega) (by omega) (by omega) (by omega) hll hlo) (d1 (omv rfl) (d1 (oex rfl rfl) (d1 (oex rfl rfl) (d1 (oas rfl) ?_)))))))
  refine d1 (oas rfl) (d0 (iE (yI (yI (yX rfl (iM (omv rfl) (iM (omv rfl) ?_)))))))
  refine iM (oni rfl rfl) (iM (omv rfl) (t1g rfl rfl (omv rfl) (t1g rfl rfl (ont rfl) (iM (opk rfl rfl rfl) (iE ?_)))))
  refine aM rfl (fun c1 => ?_) (fun c1 => ?_)
  ·exact (lf_no1 (lf_at hlx hxh f6 hkm) hk c1.h).elim
  ·refine gX ?_
   refine yI (qP 16 mixed rfl rfl (d1 (old rfl rfl) (d1 (old rfl rfl) (d1 (old rfl rfl) (d1 (omv rfl) (d1 (oix 0 rfl rfl rfl (fun _ => rfl) (fun _ => by omega)) (d1 (old rfl rfl) ?_)))))))
   refine d1 (old rfl rfl) (d1 (oca rfl rfl fun _ => lA (by omega) (by omega)) (d1 (obd rfl rfl rfl) (d1 (omv rfl) (d1 (oca rfl rfl fun _ => iP (by omega) (by omega) (by omega) (by omega) (by omega) hll hlo) (d1 (omv rfl) (d1 (oex rfl rfl) (d1 (oex rfl rfl) ?_)))))))
   refine d1 (oas rfl) (d1 (oas rfl) (d0 (iE (yI (yI (yX rfl (iM (omv rfl) ?_)))))))
   refine iM (oni rfl rfl) (iM (omv rfl) (t1g rfl rfl (omv rfl) (iM (opk rfl rfl rfl) (iE ?_))))
   refine aM rfl (fun c2 => ?_) (fun c2 => ?_)
   ·exact (lf_no2 (lf_low hlx hxh f6 h0m ht0) c2.h).elim
   ·refine gX ?_
    refine yI (t_drawC 1 8 [(7, 18, 0)] rfl rfl mixed rfl rfl (cx1 (omv rfl) rfl (cx1 (omv rfl) rfl (cx1 (oix k rfl rfl rfl (fun _ => hk) (fun _ => by omega)) rfl (cx1 (old rfl rfl) rfl (cx1 (old rfl rfl) rfl (cx1 (obs rfl rfl rfl rfl rfl rfl) rfl ?_)))))))
    refine cx1 (oca rfl rfl fun _ => k7add (by omega)) rfl (cN rfl rfl (cal) ?_)
    refine cE (fun b18 => ?_)
    refine tst 0 rfl rfl rfl rfl rfl rfl (iE (yI (yI (yX rfl (iM (omv rfl) (iM (oad rfl rfl (by omega)) (iM (omv rfl) ?_)))))))
    refine iM (oln rfl) (iM (olt rfl rfl) (iE ?_))
    refine aM rfl (fun c3 => ?_) (fun c3 => ?_)
    ·have hk1 : k + 1 < l.length := by have := of_decide_eq_true c3.h; omega
     refine qP 19 mixed rfl rfl (d1 (omv rfl) (d1 (omv rfl) (d1 (oix k rfl rfl rfl (fun _ => hk) (fun _ => by omega)) (d1 (old rfl rfl) (d1 (old rfl rfl) (d1 (omv rfl) (d1 (omv rfl) ?_)))))))
     refine d1 (oad rfl rfl (by omega)) (d1 (oix (k + 1) rfl rfl rfl (fun _ => by omega) (fun _ => by omega)) (d1 (old rfl rfl) (d1 (omv rfl) (d1 (omv rfl) (d1 (oix k rfl rfl rfl (fun _ => hk) (fun _ => by omega)) (d1 (old rfl rfl) (d1 (oca rfl rfl fun _ => lA (by omega) (by omega)) ?_)))))))
     refine d1 (obs rfl rfl rfl rfl rfl rfl) (d1 (oca rfl rfl fun _ => k7mul (by omega)) (d1 (obs rfl rfl rfl rfl rfl rfl) (d1 (oca rfl rfl fun _ => k7add (by omega)) (d0 (tst 0 rfl rfl rfl rfl rfl rfl (iE (yI ?_)))))))
     refine yX rfl (iM (old rfl rfl) (iM (old rfl rfl) (iM (old rfl rfl) (iM (cG 0 rfl rfl rfl rfl) (iM (obd rfl rfl rfl) (iM (omv rfl) (iM (oca rfl rfl fun _ => iP (by omega) (by omega) (by omega) (by omega) (by omega) hll hlo) ?_)))))))
     refine iM (omv rfl) (iM (oex rfl rfl) (iM (oex rfl rfl) (iM (oas rfl) (iM (oas rfl) (iE (yI (yX rfl ?_)))))))
     refine iM (omv rfl) (iM (omv rfl) (iM (oeq rfl rfl) (iM (omv rfl) (t1g rfl rfl (omv rfl) (t1g rfl rfl (ont rfl) (iM (opk rfl rfl rfl) (iM (omv rfl) ?_)))))))
     refine t1g rfl rfl (oca rfl rfl fun g => k23wakes) (iM (opk rfl rfl rfl) (iM (oas rfl) (iE (gQ ?_))))
     exact tr1 rfl (psb (lf_yes (lf_btw hlx hxh f6 (by rw [List.length_map]; exact hk1) ht0 ht3) hk))
    ·have hk1 : ¬ k + 1 < l.length := by have := of_decide_eq_false c3.h; omega
     refine gX (yI (yX rfl (iM (old rfl rfl) (iM (old rfl rfl) (iM (old rfl rfl) (iM (cG 0 rfl rfl rfl rfl) (iM (obd rfl rfl rfl) ?_)))))))
     refine iM (omv rfl) (iM (oca rfl rfl fun _ => iP (by omega) (by omega) (by omega) (by omega) (by omega) hll hlo) (iM (omv rfl) (iM (oex rfl rfl) (iM (oex rfl rfl) (iM (oas rfl) (iM (oas rfl) (iE ?_)))))))
     refine yI (yX rfl (iM (omv rfl) (iM (omv rfl) (iM (oeq rfl rfl) (iM (omv rfl) (t1g rfl rfl (omv rfl) (t1g rfl rfl (ont rfl) ?_)))))))
     refine iM (opk rfl rfl rfl) (iM (omv rfl) (t1g rfl rfl (oca rfl rfl fun g => k23wakes) (iM (opk rfl rfl rfl) (iM (oas rfl) (iE (gQ ?_))))))
     exact tr1 rfl (psb (lf_yes (lf_top hlx hxh f6 hkm (by rw [List.length_map]; exact hk1) ht0) hk))
end Go.Proofs.YtfkejnlohkgbgaaGreatDoor
namespace Go.Proofs.YtfkejnlohkgbgaaGreatDoor
open Go Go.SL Go.RowKit Go.Proofs Go.ChangeShapes Go.WideShapes Go.ChangeAt Go.Deep Tryz
abbrev F0 : Nat → Prop := fun _ => False
structure Opn {H : Type} (enc : TypeId × Value → H) (P : Program) (W : World) (B : Nat) (t : TypeId) {α : Type} (sz : Nat) (f : α → CT) (Bd : α → Prop) : Prop where
 c : P.cellsOf t = sz
 s : ∀ a, (f a).sz = sz
 o : ∀ {fuel : Nat} {cs : List Value} {x : DataW H × List MemPlace}, (∀ m ∈ x.1.weights P t, m ≤ B) → DataW.trod enc P W 0 (fun _ => true) true fuel t cs = some x → ∃ a, (f a).p F0 W cs ∧ Bd a
def Two (P : Program) (t iE iM : TypeId) (k0 k1 : Nat) : Prop := ∃ fs f0 f1, P.underlying t = some (.struct fs) ∧ fs[0]? = some f0 ∧ fs[1]? = some f1 ∧ f0.type = iE ∧ f1.type = iM ∧ f0.offset = 0 ∧ f1.offset = k0 ∧ P.cellsOf t = k0 + k1
def ntx (xs : List Nat) : CT where
 sz := 1
 p M w cs := ∃ v, cs = [v] ∧ IsNat M w v xs
 len h := by obtain ⟨_, rfl, _⟩ := h; rfl
 one h u hu := by obtain ⟨v, rfl, h⟩ := h; rw [List.mem_singleton.1 hu]; exact yM h
 mono h k := by obtain ⟨v, rfl, h⟩ := h; exact ⟨v, rfl, h.cl k⟩
section
variable {H : Type} {enc : TypeId × Value → H} {P : Program} {W : World} {B : Nat}
theorem weights_all {e : TypeId} {m : Nat} {d : DataW H} (hm : m ∈ d.weights P e) : ∀ {l : List (DataW H)}, d ∈ l → m ∈ DataW.weightsAll P e l
 | c :: l, h => by
  simp only [DataW.weightsAll, List.mem_append]
  rcases List.mem_cons.1 h with rfl | h
  ·exact .inl hm
  ·exact .inr (weights_all hm h)
theorem opn_two {α β : Type} {t iE iM : TypeId} {k0 k1 : Nat} {f : α → CT} {g : β → CT} {Bf : α → Prop} {Bg : β → Prop} (ht : Two P t iE iM k0 k1) (h0 : Opn enc P W B iE k0 f Bf) (h1 : Opn enc P W B iM k1 g Bg) :
  Opn enc P W B t (k0 + k1) (fun a : α × β => st [f a.1, g a.2]) (fun a => Bf a.1 ∧ Bg a.2) := by
 obtain ⟨fs, f0, f1, u1, u2, u3, u4, u5, u6, u7, u8⟩ := ht
 refine ⟨u8, fun a => by show (f a.1).sz + ((g a.2).sz + 0) = _; rw [h0.s, h1.s]; rfl, fun {fuel cs x} hw h => ?_⟩
 obtain ⟨xs, n, _, hxe, hl, hx, hall⟩ := DataW.trod_struct u1 h
 have l0 := (Array.getElem?_eq_some_iff.1 u2).1
 have l1 := (Array.getElem?_eq_some_iff.1 u3).1
 have e0 := hall 0 f0 u2
 have e1 := hall 1 f1 u3
 have n0 : P.cellsOf f0.type = k0 := by rw [u4]; exact h0.c
 have n1 : P.cellsOf f1.type = k1 := by rw [u5]; exact h1.c
 rw [u6, n0, List.drop_zero] at e0
 rw [u7, n1] at e1
 have hd : (cs.drop k0).length = k1 := by rw [List.length_drop]; omega
 rw [List.take_of_length_le (by omega)] at e1
 have hwe : ∀ m ∈ DataW.weightsEach P (fs.toList.map (·.type)) (xs.map (·.1)), m ≤ B := fun m hm => hw m (by rw [hxe]; simpa [DataW.weights, u1] using hm)
 have hwi : ∀ (i : Nat) (f : Field) (hi : i < xs.length), fs[i]? = some f → ∀ m ∈ (xs[i]'hi).1.weights P f.type, m ≤ B := fun i f hi hf m hm =>
  hwe m (DataW.weights_mem_each (j := i) (by rw [List.getElem?_map]; simp [hf]) (by rw [List.getElem?_map, List.getElem?_eq_getElem hi]; rfl) m hm)
 have w0 := hwi 0 f0 (by omega) u2
 have w1 := hwi 1 f1 (by omega) u3
 rw [List.getElem?_eq_getElem (show 0 < xs.length by omega)] at e0
 rw [List.getElem?_eq_getElem (show 1 < xs.length by omega)] at e1
 rw [u4] at w0 e0; rw [u5] at w1 e1
 obtain ⟨a, p0, b0⟩ := h0.o w0 e0
 obtain ⟨b, p1, b1⟩ := h1.o w1 e1
 exact ⟨(a, b), ⟨cs.take k0, cs.drop k0, (List.take_append_drop _ _).symm, p0, cs.drop k0, [], by simp, p1, rfl⟩, b0, b1⟩
theorem opn_map {α β : Type} {t : TypeId} {k : Nat} {f : α → CT} {g : β → CT} {Bf : α → Prop} {Bg : β → Prop} (h : Opn enc P W B t k f Bf) (hs : ∀ b, (g b).sz = k) (hm : ∀ a, ∃ b, (∀ cs, (f a).p F0 W cs → (g b).p F0 W cs) ∧ (Bf a → Bg b)) : Opn enc P W B t k g Bg :=
 ⟨h.c, hs, fun hw ht => let ⟨a, p, b⟩ := h.o hw ht; let ⟨c, h1, h2⟩ := hm a; ⟨c, h1 _ p, h2 b⟩⟩
theorem opn_nat {t e : TypeId} (ht : P.underlying t = some (.slice e)) (he : P.underlying e = some (.int .u32)) (ce : P.cellsOf e = 1) (c : P.cellsOf t = 1) (hb : 0 < P.bytesOf e) : Opn enc P W B t 1 ntx (fun xs => xs.length ≤ B) := by
 refine ⟨c, fun _ => rfl, fun {fuel cs x} hw h => ?_⟩
 rcases open_ints ht he ce h with ⟨h1, _⟩ | ⟨a, l, c, zs, h1, _, h3, h4, h5, h6, h7, h8⟩
 ·exact ⟨[], ⟨_, h1, kZ⟩, Nat.zero_le _⟩
 ·simp only [if_true] at h5
  have hn := nat_of_cells h3 h4 (by omega) h8 (fun i hi => h7 i (by omega))
  refine ⟨_, ⟨_, h1, hn⟩, ?_⟩
  obtain ⟨_, _, ad, cap, e1, _⟩ := hn.slc
  have e2 : l = _ := (Value.slice.inj e1).2.1
  rw [← e2]
  have h9 := hw (((lits .u32 (zs.take l)).length + (lits (H := H) .u32 (zs.drop l)).length) * P.bytesOf e) (by rw [h6]; simp only [DataW.weights, ht]; exact List.mem_cons_self)
  have h10 : (lits (H := H) .u32 (zs.take l)).length = l := by simp [lits]; omega
  rw [h10] at h9
  exact Nat.le_trans (Nat.le_add_right l _) (Nat.le_trans (Nat.le_mul_of_pos_right _ hb) h9)
theorem opn_bool {t : TypeId} (ht : P.underlying t = some .bool) (hc : P.cellsOf t = 1) : Opn enc P W B t 1 (fun b => xc (.bool b)) (fun _ => True) := by
 refine ⟨hc, fun _ => rfl, fun {fuel cs x} hw h => ?_⟩
 cases fuel with
 | zero => simp [DataW.trod] at h
 | succ n =>
  unfold DataW.trod at h
  rw [ht] at h
  split at h <;> simp_all [xc, Value.oneCell']
theorem addr_add2 (a : Addr) (i j : Nat) : (a.add i).add j = a.add (i + j) := by
 unfold Addr.add
 split <;> split <;> simp_all <;> omega
theorem slc_argk {w : World} {a : Addr} {n cap k : Nat} {f : Nat → Value} (hk : 0 < k) (hn : n ≤ cap) (hc : cap ≤ 9223372036854775807) (h : ∀ i, i < n * k → w.cell? (a.add i) = some (f i)) :
  Slc (fun _ => False) w k (.slice (some a) n cap) n ((List.range (n * k)).map f) := by
 refine ⟨by simp, by omega, _, _, rfl, hn, ?_⟩
 rcases Nat.eq_zero_or_pos n with h0 | h0
 ·exact .inl h0
 right
 have ha := h 0 (Nat.mul_pos h0 hk)
 obtain ⟨b, off, spot⟩ := a
 have e0 : (⟨b, off, spot⟩ : Addr).add 0 = ⟨b, off, spot⟩ := rfl
 rw [e0] at ha
 unfold World.cell? at ha
 split at ha
 case h_2 => cases ha
 case h_1 cur t fz hb =>
  dsimp only at hb
  cases spot with
  | some s => simp at ha
  | none =>
   refine ⟨b, off, rfl, fun h => h, cur, t, fz, hb, fun j u hj => ?_⟩
   obtain ⟨hlt, rfl⟩ := List.getElem?_eq_some_iff.1 hj
   have hlt' : j < n * k := by simpa using hlt
   have := h j hlt'
   rw [gZ] at this
   simp only [World.cell?, hb] at this
   simpa using this
theorem opn_slice {α : Type} {t te : TypeId} {k : Nat} {f : α → CT} {Bf : α → Prop} (ht : P.underlying t = some (.slice te)) (c : P.cellsOf t = 1) (he : Opn enc P W B te k f Bf) (hk : 0 < k) : Opn enc P W B t 1 (fun l : List α => sl k (l.map f)) (fun l => ∀ a ∈ l, Bf a) := by
 refine ⟨c, fun _ => rfl, fun {fuel cs x} hw h => ?_⟩
 rcases open_slice ht h with ⟨h1, _⟩ | ⟨a, len, cap, m, n, D, Pl, h1, hb, hl, hm, hmm, hxe, hx⟩
 ·exact ⟨[], ⟨_, [], h1, slc_nil, rfl, by simp [eZ]⟩, by simp⟩
 ·simp only [if_true] at hmm
  have hde : x.1 = .slice ((List.range len).map D) ((List.range (m - len)).map fun j => D (len + j)) := congrArg Prod.fst hxe
  have hwd : ∀ i, i < len → ∀ q ∈ (D i).weights P te, q ≤ B := fun i hi q hq => hw q (by
   rw [hde]
   simp only [DataW.weights, ht, List.mem_cons, List.mem_append]
   exact .inr (.inl (weights_all hq (List.mem_map_of_mem (List.mem_range.2 hi)))))
  have hx' : ∀ i, i < len → ∃ y : α × List Value, (∀ q, q < k → W.cell? (a.add (i * k + q)) = some (y.2.getD q default)) ∧ y.2.length = k ∧ (f y.1).p F0 W y.2 ∧ Bf y.1 := fun i hi => by
   obtain ⟨cs', e1, e2⟩ := hx i (by omega)
   rw [he.c] at e1
   obtain ⟨b, g1, g2⟩ := he.o (hwd i hi) e2
   have hl := (f b).len g1
   rw [he.s] at hl
   obtain ⟨_, _, e3⟩ := World.cells?_some e1
   refine ⟨(b, cs'), fun q hq => ?_, hl, g1, g2⟩
   have := e3 q hq
   rw [addr_add2] at this
   rw [this, List.getD_eq_getElem?_getD, List.getElem?_eq_getElem (show q < cs'.length by omega)]; rfl
  rcases Nat.eq_zero_or_pos len with h0 | h0
  ·subst h0
   exact ⟨[], ⟨_, [], h1, slc_zero, rfl, by simp [eZ]⟩, by simp⟩
  haveI : Inhabited (α × List Value) := ⟨Classical.choose (hx' 0 h0)⟩
  obtain ⟨Y, hY⟩ := choose_lt hx'
  rw [maxLen_is] at hm
  refine ⟨(List.range len).map fun i => (Y i).1, ?_, fun b hb => by obtain ⟨i, hi, rfl⟩ := List.mem_map.1 hb; exact (hY i (List.mem_range.1 hi)).2.2.2⟩
  rw [h1]
  refine dK (R := fun M w (b : α) us => (f b).p M w us) he.s (fun _ _ _ h => h) ⟨(List.range (len * k)).map fun j => (Y (j / k)).2.getD (j % k) default, ?_, fun i b hi => ?_⟩
  ·have := slc_argk (k := k) (f := fun j => (Y (j / k)).2.getD (j % k) default) hk hl hm (fun j hj => by
    have h2 := (hY (j / k) (Nat.div_lt_of_lt_mul (by rw [Nat.mul_comm]; exact hj))).1 (j % k) (Nat.mod_lt _ hk)
    rw [Nat.mul_comm, Nat.div_add_mod] at h2
    exact h2)
   simpa using this
  ·obtain ⟨hlt, rfl⟩ := List.getElem?_eq_some_iff.1 hi
   have hlt' : i < len := by simpa using hlt
   obtain ⟨y1, y2, y3, _⟩ := hY i hlt'
   refine ⟨(Y i).2, y2, fun q u hq => ?_, by simpa using y3⟩
   have hq3 : q < k := y2 ▸ (List.getElem?_eq_some_iff.1 hq).1
   have hlt2 : i * k + q < len * k := by have := Nat.mul_le_mul_right k (show i + 1 ≤ len from hlt'); rw [Nat.add_mul, Nat.one_mul] at this; omega
   rw [List.getElem?_map, List.getElem?_range hlt2]
   simp only [Option.map_some]
   rw [show (i * k + q) / k = i by rw [Nat.mul_comm, Nat.mul_add_div hk, Nat.div_eq_of_lt hq3, Nat.add_zero], show (i * k + q) % k = q by rw [Nat.mul_comm, Nat.mul_add_mod, Nat.mod_eq_of_lt hq3], List.getD_eq_getElem?_getD, hq]; rfl
theorem top_struct {α : Type} {t : TypeId} {k : Nat} {f : α → CT} {Bf : α → Prop} {r : Reach} {b0 : Nat} {v : Value} {d : DataW H} {ps : List MemPlace} {fs : Array Field} (ho : Opn enc P W B t k f Bf) (ht : P.underlying t = some (.struct fs)) (hval : Value.okWide P W r b0 t v) (hw : ∀ m ∈ d.weights P t, m ≤ B) (h : DataW.Trod enc P W 0 (fun _ => true) true t v d ps) :
  ∃ a, (ag (f a)).p F0 W v ∧ Bf a := by
 obtain ⟨cs, rfl, _⟩ := okWide_struct ht hval
 obtain ⟨fuel, hf⟩ := h
 obtain ⟨a, h1, h2⟩ := ho.o (x := (d, ps)) hw hf
 exact ⟨a, ⟨_, by simp [Value.cells], h1⟩, h2⟩
theorem top_slice {α : Type} {t te : TypeId} {f : α → CT} {Bf : α → Prop} {r : Reach} {b0 : Nat} {v : Value} {d : DataW H} {ps : List MemPlace} (ho : Opn enc P W B t 1 f Bf) (ht : P.underlying t = some (.slice te)) (hval : Value.okWide P W r b0 t v) (hw : ∀ m ∈ d.weights P t, m ≤ B) (h : DataW.Trod enc P W 0 (fun _ => true) true t v d ps) :
  ∃ a, (sv (f a)).p F0 W v ∧ Bf a := by
 obtain ⟨a0, len, cap, rfl⟩ := okWide_slice ht hval
 obtain ⟨fuel, hf⟩ := h
 obtain ⟨a, h1, h2⟩ := ho.o (x := (d, ps)) hw hf
 exact ⟨a, by have h3 : (f a).p F0 W (Value.cells (.slice a0 len cap)).toList := h1; show (f a).p F0 W [_]; simpa [Value.cells] using h3, h2⟩
theorem top_int {t : TypeId} {k : IntKind} {r : Reach} {b0 : Nat} {v : Value} (ht : P.underlying t = some (.int k)) (hval : Value.okWide P W r b0 t v) : ∃ a, (exP (.int k a)).p F0 W v ∧ k.has a := by
 simp only [Value.okWide, ht, Cell.okWide, Cell.ok] at hval
 cases v <;> simp at hval
 exact ⟨_, by rw [hval.1]; rfl, hval.2⟩
structure NumTypes (P : Program) (tp tr ti tn tb tw : TypeId) : Prop where
 p : Two P tp tr tr 3 3
 r : Two P tr ti tn 2 1
 i : Two P ti tb tn 1 1
 n : P.underlying tn = some (.slice tw)
 w : P.underlying tw = some (.int .u32)
 b : P.underlying tb = some .bool
 cn : P.cellsOf tn = 1
 cw : P.cellsOf tw = 1
 cb : P.cellsOf tb = 1
 hb : 0 < P.bytesOf tw
variable {tp tr ti tn tb tw : TypeId}
theorem opn_rat (T : NumTypes P tp tr ti tn tb tw) : Opn enc P W B tr 3 (fun a : N2 × Rat => rtl a.1 a.2) (fun a => a.1.1 ≤ B ∧ a.1.2 ≤ B) := by
 have hn : Opn enc P W B tn 1 ntx (fun xs => xs.length ≤ B) := opn_nat T.n T.w T.cw T.cn T.hb
 refine opn_map (opn_two T.r (opn_two T.i (opn_bool T.b T.cb) hn) hn) (fun _ => rfl) fun ⟨⟨s, xs⟩, ds⟩ => ⟨((xs.length, ds.length), mkRat (zv s xs) (val ds)), ?_, fun h => ⟨h.1.2, h.2⟩⟩
 rintro cs ⟨x, y, rfl, ⟨x1, y1, rfl, ⟨rfl, _⟩, x2, y2, rfl, ⟨a, rfl, h1⟩, h2⟩, y3, y4, rfl, ⟨d, rfl, h3⟩, h4⟩
 obtain rfl : y2 = [] := h2
 obtain rfl : y4 = [] := h4
 refine ⟨s, a, d, rfl, ⟨xs, ds, h1, h3, Nat.le_max_left _ _, Nat.le_max_right _ _, rfl⟩, ?_, ?_⟩
 ·obtain ⟨_, _, ad, cap, e, _⟩ := h1.slc; exact ⟨ad, cap, by simpa using e⟩
 ·obtain ⟨_, _, ad, cap, e, _⟩ := h3.slc; exact ⟨ad, cap, by simpa using e⟩
abbrev BdP (B : Nat) (a : N4 × P2) : Prop := a.1.1 ≤ B ∧ a.1.2.1 ≤ B ∧ a.1.2.2.1 ≤ B ∧ a.1.2.2.2 ≤ B
theorem opn_pts {tl : TypeId} (hr : Opn enc P W B tr 3 (fun a : N2 × Rat => rtl a.1 a.2) (fun a => a.1.1 ≤ B ∧ a.1.2 ≤ B)) (h : Two P tl tr tr 3 3) : Opn enc P W B tl 6 ptl (BdP B) :=
 opn_map (opn_two h hr hr) (fun _ => rfl) fun ⟨⟨L, q⟩, ⟨K, p⟩⟩ => ⟨((L.1, L.2, K.1, K.2), (q, p)), fun _ h => h, fun h => ⟨h.1.1, h.1.2, h.2.1, h.2.2⟩⟩
theorem reach_le : reachBytes ≤ 200000000000000 := by decide
end
end Go.Proofs.YtfkejnlohkgbgaaGreatDoor
