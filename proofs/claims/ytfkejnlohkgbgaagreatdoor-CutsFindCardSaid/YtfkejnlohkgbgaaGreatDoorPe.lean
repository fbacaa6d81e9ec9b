/- Walks of the functions that the statement reaches, and the lemmas they stand on; no statement of the seat is proved here. -/
import Derived.Test.YtfkejnlohkgbgaaGreatDoorPd
set_option linter.unusedVariables false
set_option linter.unusedSimpArgs false
set_option maxRecDepth 100000
namespace Go.Proofs.YtfkejnlohkgbgaaGreatDoor
open Go.SL Go.RowKit Go.Proofs Tryz
variable {M : Nat → Prop} {w : World}
abbrev N2 := Nat × Nat
structure Q2 (M : Nat → Prop) (w : World) (n : Nat) (q : N2) (s : Bool) (a d : Value) : Prop where
  a : ∃ p c, a = .slice p q.1 c
  d : ∃ p c, d = .slice p q.2 c
theorem Q2.mono {M M' : Nat → Prop} {w w' : World} {n : Nat} {q : N2} {s : Bool} {a d : Value} {Fz : Nat → Prop} (h : Q2 M w n q s a d) (l : Le Fz M w M' w') : Q2 M' w' n q s a d := ⟨h.a, h.d⟩
theorem Q2.one {n : Nat} {q : N2} {s : Bool} {a d : Value} (h : Q2 M w n q s a d) : a.oneCell' = true ∧ d.oneCell' = true ∧ True := by
  obtain ⟨⟨_, _, rfl⟩, ⟨_, _, rfl⟩⟩ := h; exact ⟨rfl, rfl, trivial⟩
def RQ2 (n : Nat) : bT N2 := fun M w q us => ∃ s a d, us = [.bool s, a, d] ∧ Q2 M w n q s a d
structure Q2L (M : Nat → Prop) (w : World) (n : Nat) (q : List N2) (v : Value) : Prop where
  row : RowOf (RQ2 n) 3 M w v q
theorem Q2L.mono {M M' : Nat → Prop} {w w' : World} {n : Nat} {q : List N2} {v : Value} {Fz : Nat → Prop} (h : Q2L M w n q v) (l : Le Fz M w M' w') : Q2L M' w' n q v := ⟨h.row.mono l (fun _ _ ⟨a, b, c, e0, h0⟩ => ⟨a, b, c, e0, h0.mono l⟩)⟩
theorem Q2L.one {n : Nat} {q : List N2} {v : Value} (h : Q2L M w n q v) : v.oneCell' = true ∧ True := by obtain ⟨_, ⟨_, _, ad, cap, rfl, _⟩, _⟩ := h.row; exact ⟨rfl, trivial⟩
theorem Q2L.len {n : Nat} {q : List N2} {v : Value} (h : Q2L M w n q v) : q.length ≤ 9223372036854775807 := by obtain ⟨cs, h1, _⟩ := h.row; exact h1.len
def bQ (l : List N2) : Bool := decide (20 < l.length ∨ ∃ x ∈ l, 2 < max x.1 x.2)
theorem great_take {l : List N2} {s : Nat} (h : s < l.length) (hs : ∀ x ∈ l.take s, ¬ 2 < max x.1 x.2) (hx : ¬ 2 < max (l.getD s (0, 0)).1 (l.getD s (0, 0)).2) : ∀ x ∈ l.take (s + 1), ¬ 2 < max x.1 x.2 := by
  rw [(qL (0, 0) h).1]
  intro x hx2
  rcases List.mem_append.1 hx2 with c | c
  · exact hs x c
  · rw [List.mem_singleton.1 c]; exact hx
theorem great22_c {l : List N2} {n0 : Nat} {xa0 : Value} (h0 : Q2L M w n0 l xa0) (hl0 : n0 ≤ 20000) (hM : OkM M w) :
    CallsV prog 15 [xa0] w fun r w' => Below w.heap.size w w' ∧ r = .bool (bQ l) := by
 obtain ⟨Fz, hFz, hF, LL⟩ := fz0 M w
 obtain ⟨oxa0, _⟩ := h0.one
 have hlen := h0.len
 have hM0 := hM
 refine zQ func15 rfl ntmps15 rfl ?_
 refine zF (zC (zD rfl rfl (zB (zF (zF (zC (zD rfl rfl (zB (yA ?_)))))))))
 refine xN (σ := Nat) [(0, _)] (fun s => [(3, .int .i64 ((s : Nat) : Int))]) (fun s w1 => Le Fz M w M w1 ∧ s ≤ l.length ∧ s ≤ 21 ∧ ∀ x ∈ l.take s, ¬ 2 < max x.1 x.2) (fun s => l.length - s) (0) (zG rfl (zG rfl yF)) ?_ (fun s w1 hJ => ?_)
 · exact ⟨Le.refl _ _ _, by omega, by omega, by simp⟩
 ·obtain ⟨LR, hk, hk21, hs⟩ := hJ
  replace LL := LL.trans LR
  replace hM := hM.mono LR
  replace hF := hF.mono LR
  replace h0 := h0.mono LR
  refine zF (zF (zC (zA rfl rfl (zA rfl rfl (gB rfl yu22 rfl h0.row (jG rfl rfl rfl (zA rfl rfl (gZ (d := 8) rfl (fun hg2_4 => ?_) (fun hg2_4 => ?_)))))))))
  ·refine zM rfl rfl (zA rfl rfl (zM rfl rfl (dY rfl rfl rfl (xA rfl rfl rfl (zB ?_)))))
   refine zX rfl (fun hc0 => ?_) (fun hc0 => ?_)
   ·refine yH (zF (yA (zF ?_)))
    refine xQ (R := Rb) (R' := Rb) (st := none) jR 13 [0, 3, 4, 5, 6, 7, 8, 9, 10, 11, 14, 15, 16, 17, 18, 19, 20, 21, 22, 23, 24, 25, 26] (by decide +kernel) xO xY (xX _) (fun _ _ _ h => by cases h) ?_
    refine zP (fun v w => ∃ xa14, v = xa14 ∧ Q2L M w (n0) (l) xa14) (fun _ _ _ ⟨xa14, e, h0⟩ r => ⟨xa14, e, h0.mono (Fz := fun _ => False) (Le.of_below r)⟩) (fun wq hR hst => ?_) ?_
    ·refine zJ rfl rfl (zE ?_)
     have Lq := Le.of_below (Fz := Fz) (M := M) hR
     replace h0 := h0.mono Lq
     refine zA rfl rfl ?_
     exact zB ⟨rfl, yB _, _, rfl, ⟨_, rfl, h0⟩⟩
    refine zK (fun _ _ _ => zJ rfl rfl (zE (zA rfl rfl (zB ⟨rfl, yB _, _, rfl, rfl⟩)))) ?_
    refine zP (fun v w => ∃ b o xs16 xa16 xd16, v = .pointer (some ⟨b, o, none⟩) ∧ (∀ (q : Nat) (u : Value), [.bool xs16, xa16, xd16][q]? = some u → w.cell? ⟨b, o + q, none⟩ = some u) ∧ Q2 M w (n0) (l.getD s (0, 0)) xs16 xa16 xd16) (fun _ _ _ ⟨b, o, xs16, xa16, xd16, e, hc, h⟩ r => ⟨b, o, xs16, xa16, xd16, e, fun q u hq => jH r (hc q u hq), h.mono (Fz := fun _ => False) (Le.of_below r)⟩) (fun wq hR hst => ?_) ?_
    ·refine yC rfl (fun v14 hp14 => ?_)
     obtain ⟨xa14, rfl, hn14⟩ := hp14
     refine zH rfl (zE ?_)
     refine gG (dflt := ((0, 0) : N2)) (s) rfl yu22 yY rfl rfl hn14.row (by first | rfl | omega) (by first | omega | (simp; omega) | simp) (fun b16 o16 us16 hul16 hu16 hc16 => ?_)
     obtain ⟨xs16, xa16, xd16, rfl, hn16⟩ := hu16
     exact zB ⟨rfl, yB _, _, rfl, ⟨b16, o16, _, _, _, rfl, hc16, hn16⟩⟩
    refine zP (fun v w => ∃ b o xs17 xa17 xd17, v = .pointer (some ⟨b, o, none⟩) ∧ (∀ (q : Nat) (u : Value), [.bool xs17, xa17, xd17][q]? = some u → w.cell? ⟨b, o + q, none⟩ = some u) ∧ Q2 M w (n0) (l.getD s (0, 0)) xs17 xa17 xd17) (fun _ _ _ ⟨b, o, xs17, xa17, xd17, e, hc, h⟩ r => ⟨b, o, xs17, xa17, xd17, e, fun q u hq => jH r (hc q u hq), h.mono (Fz := fun _ => False) (Le.of_below r)⟩) (fun wq hR hst => ?_) ?_
    ·refine yC rfl (fun v16 hp16 => ?_)
     obtain ⟨b16, o16, xs16, xa16, xd16, rfl, hc16, hn16⟩ := hp16
     refine zE ?_
     refine yT 0 rfl yu33 rfl rfl yX rfl rfl ?_
     exact zB ⟨rfl, yB _, _, rfl, ⟨_, _, _, _, _, rfl, hc16, hn16⟩⟩
    refine zP (fun v w => ∃ b o xs18 xa18 xd18, v = .pointer (some ⟨b, o + 1, none⟩) ∧ (∀ (q : Nat) (u : Value), [.bool xs18, xa18, xd18][q]? = some u → w.cell? ⟨b, o + q, none⟩ = some u) ∧ Q2 M w (n0) (l.getD s (0, 0)) xs18 xa18 xd18) (fun _ _ _ ⟨b, o, xs18, xa18, xd18, e, hc, h⟩ r => ⟨b, o, xs18, xa18, xd18, e, fun q u hq => jH r (hc q u hq), h.mono (Fz := fun _ => False) (Le.of_below r)⟩) (fun wq hR hst => ?_) ?_
    ·refine yC rfl (fun v17 hp17 => ?_)
     obtain ⟨b17, o17, xs17, xa17, xd17, rfl, hc17, hn17⟩ := hp17
     refine zE ?_
     refine yT 1 rfl yu31 rfl rfl xU rfl rfl ?_
     exact zB ⟨rfl, yB _, _, rfl, ⟨_, _, _, _, _, rfl, hc17, hn17⟩⟩
    refine zP (fun v w => ∃ p c, v = .slice p (l.getD s (0, 0)).1 c) (fun _ _ _ h _ => h) (fun wq hR hst => ?_) ?_
    ·refine yC rfl (fun v18 hp18 => ?_)
     obtain ⟨b18, o18, xs18, xa18, xd18, rfl, hc18, hn18⟩ := hp18
     refine zE ?_
     refine xM rfl yS rfl (hc18 1 _ rfl) ?_
     exact zB ⟨rfl, yB _, _, rfl, hn18.a⟩
    refine zP (Ex (.int .i64 (((l.getD s (0, 0)).1 : Nat) : Int))) xB (fun wq hR hst => ?_) ?_
    ·refine yC rfl (fun v19 hp19 => ?_)
     obtain ⟨p19, c19, rfl⟩ := hp19
     refine zE ?_
     have Lq := Le.of_below (Fz := Fz) (M := M) hR
     replace LL := LL.trans Lq
     replace LR := LR.trans Lq
     replace hM := hM.mono Lq
     replace hF := hF.mono Lq
     replace h0 := h0.mono Lq
     first | refine yQ rfl yu29 rfl ?_ | refine yM rfl yu29 rfl (IsNat.slc (by assumption)) ?_ | refine qP rfl yu29 rfl (by assumption) ?_ | refine qO rfl yu29 rfl (by assumption) ?_
     exact zB ⟨rfl, yB _, _, rfl, rfl⟩
    refine zP (fun v w => ∃ xa21, v = xa21 ∧ Q2L M w (n0) (l) xa21) (fun _ _ _ ⟨xa21, e, h0⟩ r => ⟨xa21, e, h0.mono (Fz := fun _ => False) (Le.of_below r)⟩) (fun wq hR hst => ?_) ?_
    ·refine zJ rfl rfl (zE ?_)
     have Lq := Le.of_below (Fz := Fz) (M := M) hR
     replace h0 := h0.mono Lq
     refine zA rfl rfl ?_
     exact zB ⟨rfl, yB _, _, rfl, ⟨_, rfl, h0⟩⟩
    refine zK (fun _ _ _ => zJ rfl rfl (zE (zA rfl rfl (zB ⟨rfl, yB _, _, rfl, rfl⟩)))) ?_
    refine zP (fun v w => ∃ b o xs23 xa23 xd23, v = .pointer (some ⟨b, o, none⟩) ∧ (∀ (q : Nat) (u : Value), [.bool xs23, xa23, xd23][q]? = some u → w.cell? ⟨b, o + q, none⟩ = some u) ∧ Q2 M w (n0) (l.getD s (0, 0)) xs23 xa23 xd23) (fun _ _ _ ⟨b, o, xs23, xa23, xd23, e, hc, h⟩ r => ⟨b, o, xs23, xa23, xd23, e, fun q u hq => jH r (hc q u hq), h.mono (Fz := fun _ => False) (Le.of_below r)⟩) (fun wq hR hst => ?_) ?_
    ·refine yC rfl (fun v21 hp21 => ?_)
     obtain ⟨xa21, rfl, hn21⟩ := hp21
     refine zH rfl (zE ?_)
     refine gG (dflt := ((0, 0) : N2)) (s) rfl yu22 yY rfl rfl hn21.row (by first | rfl | omega) (by first | omega | (simp; omega) | simp) (fun b23 o23 us23 hul23 hu23 hc23 => ?_)
     obtain ⟨xs23, xa23, xd23, rfl, hn23⟩ := hu23
     exact zB ⟨rfl, yB _, _, rfl, ⟨b23, o23, _, _, _, rfl, hc23, hn23⟩⟩
    refine zP (fun v w => ∃ b o xs24 xa24 xd24, v = .pointer (some ⟨b, o + 2, none⟩) ∧ (∀ (q : Nat) (u : Value), [.bool xs24, xa24, xd24][q]? = some u → w.cell? ⟨b, o + q, none⟩ = some u) ∧ Q2 M w (n0) (l.getD s (0, 0)) xs24 xa24 xd24) (fun _ _ _ ⟨b, o, xs24, xa24, xd24, e, hc, h⟩ r => ⟨b, o, xs24, xa24, xd24, e, fun q u hq => jH r (hc q u hq), h.mono (Fz := fun _ => False) (Le.of_below r)⟩) (fun wq hR hst => ?_) ?_
    ·refine yC rfl (fun v23 hp23 => ?_)
     obtain ⟨b23, o23, xs23, xa23, xd23, rfl, hc23, hn23⟩ := hp23
     refine zE ?_
     refine yT 2 rfl yu33 rfl rfl xU rfl rfl ?_
     exact zB ⟨rfl, yB _, _, rfl, ⟨_, _, _, _, _, rfl, hc23, hn23⟩⟩
    refine zP (fun v w => ∃ p c, v = .slice p (l.getD s (0, 0)).2 c) (fun _ _ _ h _ => h) (fun wq hR hst => ?_) ?_
    ·refine yC rfl (fun v24 hp24 => ?_)
     obtain ⟨b24, o24, xs24, xa24, xd24, rfl, hc24, hn24⟩ := hp24
     refine zE ?_
     refine xM rfl yS rfl (hc24 2 _ rfl) ?_
     exact zB ⟨rfl, yB _, _, rfl, hn24.d⟩
    refine zP (Ex (.int .i64 (((l.getD s (0, 0)).2 : Nat) : Int))) xB (fun wq hR hst => ?_) ?_
    ·refine yC rfl (fun v25 hp25 => ?_)
     obtain ⟨p25, c25, rfl⟩ := hp25
     refine zE ?_
     have Lq := Le.of_below (Fz := Fz) (M := M) hR
     replace LL := LL.trans Lq
     replace LR := LR.trans Lq
     replace hM := hM.mono Lq
     replace hF := hF.mono Lq
     replace h0 := h0.mono Lq
     first | refine yQ rfl yu29 rfl ?_ | refine yM rfl yu29 rfl (IsNat.slc (by assumption)) ?_ | refine qP rfl yu29 rfl (by assumption) ?_ | refine qO rfl yu29 rfl (by assumption) ?_
     exact zB ⟨rfl, yB _, _, rfl, rfl⟩
    refine xR (fun wq4 hR4 hpost4 => ?_)
    refine zJ rfl rfl (zJ rfl rfl (zJ rfl rfl (zJ rfl rfl (zJ rfl rfl (zJ rfl rfl (zJ rfl rfl (zJ rfl rfl (zJ rfl rfl (zJ rfl rfl (yC rfl (fun v14 hp14 => ?_)))))))))))
    obtain ⟨xa14, rfl, hn14⟩ := hp14
    refine zH rfl (yC rfl (fun v16 hp16 => ?_))
    obtain ⟨b16, o16, xs16, xa16, xd16, rfl, hc16, hn16⟩ := hp16
    refine yC rfl (fun v17 hp17 => ?_)
    obtain ⟨b17, o17, xs17, xa17, xd17, rfl, hc17, hn17⟩ := hp17
    refine yC rfl (fun v18 hp18 => ?_)
    obtain ⟨b18, o18, xs18, xa18, xd18, rfl, hc18, hn18⟩ := hp18
    refine yC rfl (fun v19 hp19 => ?_)
    obtain ⟨p19, c19, rfl⟩ := hp19
    refine zH rfl (yC rfl (fun v21 hp21 => ?_))
    obtain ⟨xa21, rfl, hn21⟩ := hp21
    refine zH rfl (yC rfl (fun v23 hp23 => ?_))
    obtain ⟨b23, o23, xs23, xa23, xd23, rfl, hc23, hn23⟩ := hp23
    refine yC rfl (fun v24 hp24 => ?_)
    obtain ⟨b24, o24, xs24, xa24, xd24, rfl, hc24, hn24⟩ := hp24
    refine yC rfl (fun v25 hp25 => ?_)
    obtain ⟨p25, c25, rfl⟩ := hp25
    refine zH rfl (zE ?_)
    simp only [List.drop_succ_cons, List.drop_zero, List.drop_nil, List.toList_toArray]
    have Lwq4 := Le.of_below (Fz := Fz) (M := M) hR4
    replace LL := LL.trans Lwq4
    replace LR := LR.trans Lwq4
    refine qZ rfl rfl rfl (qV rfl rfl rfl (zB ?_))
    refine zX rfl (fun hc1 => ?_) (fun hc1 => ?_)
    ·refine zF (zC (zD rfl rfl (zB (zZ ?_))))
     refine zN ⟨[_], ⟨rfl, trivial⟩, ?_⟩
     dsimp only [zW]
     rw [show bQ l = true from decide_eq_true (.inr ⟨_, getD_mem (0, 0) (show s < l.length by omega), by omega⟩)]
     subst hFz
     exact ⟨LL.below (Nat.le_refl _), rfl⟩
    ·refine yH (zC (zA rfl rfl (yR rfl rfl rfl (by omega) (zD rfl rfl (zB ?_)))))
     refine ⟨rfl, s + 1, (zV rfl (by rw [Int.natCast_add]; rfl) (zG rfl yF)), ?_, ?_⟩
     exact ⟨LR, by omega, by omega, great_take (by omega) hs (by omega)⟩
     omega
   ·refine xF (xG (zF (zC (zA rfl rfl (gB rfl yu22 rfl h0.row (qV rfl rfl rfl (zD rfl rfl (zB (zZ ?_)))))))))
    refine zN ⟨[_], ⟨rfl, trivial⟩, ?_⟩
    dsimp only [zW]
    rw [show bQ l = decide ((20 : Int) < (l.length : Int)) from decide_eq_decide.2 ⟨fun _ => by omega, fun c => .inl (by omega)⟩]
    subst hFz
    exact ⟨LL.below (Nat.le_refl _), rfl⟩
  ·refine zU rfl rfl rfl rfl (zU rfl rfl rfl rfl (xA rfl rfl rfl (zB (gQ rfl (xF (xG (zF (zC (zA rfl rfl (gB rfl yu22 rfl h0.row (qV rfl rfl rfl (zD rfl rfl (zB (zZ ?_))))))))))))))
   refine zN ⟨[_], ⟨rfl, trivial⟩, ?_⟩
   dsimp only [zW]
   obtain rfl : s = l.length := by omega
   rw [List.take_length] at hs
   rw [show bQ l = decide ((20 : Int) < (l.length : Int)) from decide_eq_decide.2 ⟨fun c => c.elim (fun c => by omega) (fun ⟨x, hx, h2⟩ => absurd h2 (hs x hx)), fun c => .inl (by omega)⟩]
   subst hFz
   exact ⟨LL.below (Nat.le_refl _), rfl⟩
theorem rises_step {l : List Rat} {s : Nat} (h : ∀ i, i < s → l.getD i 0 < l.getD (i + 1) 0) (hx : l.getD s 0 < l.getD (s + 1) 0) : ∀ i, i < s + 1 → l.getD i 0 < l.getD (i + 1) 0 := fun i hi => by
  rcases Nat.lt_or_ge i s with h1 | h1
  · exact h i h1
  · obtain rfl : i = s := by omega
    exact hx
theorem rises_all {l : List Rat} {s : Nat} (h : ∀ i, i < s → l.getD i 0 < l.getD (i + 1) 0) (hs : l.length ≤ s + 1) : gT l := fun i hi => h i (by omega)
theorem rises22_c {l : List Rat} {n0 : Nat} {xa0 : Value} (h0 : QL M w n0 l xa0) (hl0 : n0 ≤ 1990) (hlen : l.length ≤ 1000) (hM : OkM M w) :
    CallsV prog 16 [xa0] w fun r w' => Below w.heap.size w w' ∧ r = .bool (decide (gT l)) := by
 obtain ⟨Fz, hFz, hF, LL⟩ := fz0 M w
 have hM0 := hM
 refine zQ func16 rfl ntmps16 rfl ?_
 refine zF (zC (zD rfl rfl (zB (zF (zF (zC (zD rfl rfl (zB (yA ?_)))))))))
 refine xN (σ := Nat) [(0, _)] (fun s => [(3, .int .i64 ((s : Nat) : Int))]) (fun s w1 => Le Fz M w M w1 ∧ s ≤ l.length ∧ ∀ i, i < s → l.getD i 0 < l.getD (i + 1) 0) (fun s => l.length - s) (0) (zG rfl (zG rfl yF)) ?_ (fun s w1 hJ => ?_)
 · exact ⟨Le.refl _ _ _, by omega, fun i hi => by omega⟩
 ·obtain ⟨LR, hk, hs⟩ := hJ
  obtain ⟨LL, hM, h0⟩ := up3 LR LL hM h0
  refine zF (zF (zC (zA rfl rfl (yR rfl rfl rfl (by omega) (zA rfl rfl (gB rfl yu22 rfl h0.row (jG rfl rfl rfl (zB ?_))))))))
  refine zX rfl (fun hc0 => ?_) (fun hc0 => ?_)
  ·refine yH (zF (yA (zF ?_)))
   refine xQ (R := Rb) (R' := Rb) (st := none) jR 9 [0, 3, 4, 5, 6, 7, 8, 11, 12, 13, 14, 15, 16, 17, 18, 19] (by decide +kernel) xO xY (xX _) (fun _ _ _ h => by cases h) ?_
   refine zP (fun v w => ∃ xa11, v = xa11 ∧ QL M w (n0) (l) xa11) (fun _ _ _ ⟨xa11, e, h0⟩ r => ⟨xa11, e, h0.mono (Fz := fun _ => False) (Le.of_below r)⟩) (fun wq hR hst => ?_) ?_
   ·refine zJ rfl rfl (zE ?_)
    replace h0 := ub1 hR h0
    exact zA rfl rfl (zB ⟨rfl, yB _, _, rfl, ⟨_, rfl, h0⟩⟩)
   refine zK (fun _ _ _ => zJ rfl rfl (zE (zA rfl rfl (on0 rfl)))) ?_
   refine zP (fun v w => ∃ b o xs13 xa13 xd13, v = .pointer (some ⟨b, o, none⟩) ∧ (∀ (q : Nat) (u : Value), [.bool xs13, xa13, xd13][q]? = some u → w.cell? ⟨b, o + q, none⟩ = some u) ∧ QC M w (n0) (l.getD s 0) xs13 xa13 xd13) (fun _ _ _ ⟨b, o, xs13, xa13, xd13, e, hc, h⟩ r => ⟨b, o, xs13, xa13, xd13, e, fun q u hq => jH r (hc q u hq), h.mono (Fz := fun _ => False) (Le.of_below r)⟩) (fun wq hR hst => ?_) ?_
   ·refine yC rfl (fun v11 hp11 => ?_)
    obtain ⟨xa11, rfl, hn11⟩ := hp11
    refine zH rfl (zE ?_)
    refine gG (dflt := (0 : Rat)) (s) rfl yu22 yY rfl rfl hn11.row (by first | rfl | omega) (by first | omega | (simp; omega) | simp) (fun b13 o13 us13 hul13 hu13 hc13 => ?_)
    obtain ⟨xs13, xa13, xd13, rfl, hn13⟩ := hu13
    exact zB ⟨rfl, yB _, _, rfl, ⟨b13, o13, _, _, _, rfl, hc13, hn13⟩⟩
   refine zP (vQC M (n0) (l.getD s 0)) cM (fun wq hR hst => ?_) ?_
   ·refine yC rfl (fun v13 hp13 => ?_)
    obtain ⟨b13, o13, xs13, xa13, xd13, rfl, hc13, hn13⟩ := hp13
    refine zE ?_
    exact jZ rfl xE yY rfl hc13 rfl (zB ⟨rfl, yB _, _, rfl, ⟨_, _, _, rfl, hn13⟩⟩)
   refine zP (fun v w => ∃ xa15, v = xa15 ∧ QL M w (n0) (l) xa15) (fun _ _ _ ⟨xa15, e, h0⟩ r => ⟨xa15, e, h0.mono (Fz := fun _ => False) (Le.of_below r)⟩) (fun wq hR hst => ?_) ?_
   ·refine zJ rfl rfl (zE ?_)
    replace h0 := ub1 hR h0
    exact zA rfl rfl (zB ⟨rfl, yB _, _, rfl, ⟨_, rfl, h0⟩⟩)
   refine zK (fun _ _ _ => zJ rfl rfl (zE (zA rfl rfl (on0 rfl)))) ?_
   apply zK
   ·intro wq hR hst
    refine zH rfl (zE ?_)
    exact yR rfl rfl rfl (by omega) (on0 rfl)
   refine zP (fun v w => ∃ b o xs18 xa18 xd18, v = .pointer (some ⟨b, o, none⟩) ∧ (∀ (q : Nat) (u : Value), [.bool xs18, xa18, xd18][q]? = some u → w.cell? ⟨b, o + q, none⟩ = some u) ∧ QC M w (n0) (l.getD (s + 1) 0) xs18 xa18 xd18) (fun _ _ _ ⟨b, o, xs18, xa18, xd18, e, hc, h⟩ r => ⟨b, o, xs18, xa18, xd18, e, fun q u hq => jH r (hc q u hq), h.mono (Fz := fun _ => False) (Le.of_below r)⟩) (fun wq hR hst => ?_) ?_
   ·refine yC rfl (fun v15 hp15 => ?_)
    obtain ⟨xa15, rfl, hn15⟩ := hp15
    refine zH rfl (zE ?_)
    refine gG (dflt := (0 : Rat)) (s + 1) rfl yu22 yY rfl rfl hn15.row (by first | rfl | omega) (by first | omega | (simp; omega) | simp) (fun b18 o18 us18 hul18 hu18 hc18 => ?_)
    obtain ⟨xs18, xa18, xd18, rfl, hn18⟩ := hu18
    exact zB ⟨rfl, yB _, _, rfl, ⟨b18, o18, _, _, _, rfl, hc18, hn18⟩⟩
   refine zP (vQC M (n0) (l.getD (s + 1) 0)) cM (fun wq hR hst => ?_) ?_
   ·refine yC rfl (fun v18 hp18 => ?_)
    obtain ⟨b18, o18, xs18, xa18, xd18, rfl, hc18, hn18⟩ := hp18
    refine zE ?_
    exact jZ rfl xE yY rfl hc18 rfl (zB ⟨rfl, yB _, _, rfl, ⟨_, _, _, rfl, hn18⟩⟩)
   refine xR (fun wq4 hR4 hpost4 => ?_)
   refine zJ rfl rfl (zJ rfl rfl (zJ rfl rfl (zJ rfl rfl (zJ rfl rfl (zJ rfl rfl (zJ rfl rfl (yC rfl (fun v11 hp11 => ?_))))))))
   obtain ⟨xa11, rfl, hn11⟩ := hp11
   refine zH rfl (yC rfl (fun v13 hp13 => ?_))
   obtain ⟨b13, o13, xs13, xa13, xd13, rfl, hc13, hn13⟩ := hp13
   refine yC rfl (fun v14 hp14 => ?_)
   obtain ⟨xs14, xa14, xd14, rfl, hn14⟩ := hp14
   refine yC rfl (fun v15 hp15 => ?_)
   obtain ⟨xa15, rfl, hn15⟩ := hp15
   refine zH rfl (zH rfl (yC rfl (fun v18 hp18 => ?_)))
   obtain ⟨b18, o18, xs18, xa18, xd18, rfl, hc18, hn18⟩ := hp18
   refine yC rfl (fun v19 hp19 => ?_)
   obtain ⟨xs19, xa19, xd19, rfl, hn19⟩ := hp19
   refine zE ?_
   simp only [List.drop_succ_cons, List.drop_zero, List.drop_nil, List.toList_toArray]
   obtain ⟨LL, LR, hM⟩ := ub3 hR4 LL LR hM
   refine zI rfl bod33 rfl rfl ?_
   refine (r7cmp_c hn14 hn19 (by omega) (by omega) hM).mono ?_
   rintro v20 w2 ⟨hB20, rfl⟩
   obtain ⟨LL, LR⟩ := ub2 hB20 LL LR
   refine gU rfl rfl rfl (zB ?_)
   refine zX rfl (fun hc1 => ?_) (fun hc1 => ?_)
   ·refine zF (zC (zD rfl rfl (zB (zZ ?_))))
    refine zN ⟨[_], ⟨rfl, trivial⟩, ?_⟩
    dsimp only [zW]
    rw [show decide (gT l) = false from decide_eq_false fun c => by have h1 := c s (by omega); have h2 := kW.1 hc1; grind]
    subst hFz
    exact ⟨LL.below (Nat.le_refl _), rfl⟩
   ·refine yH (zC (zA rfl rfl (yR rfl rfl rfl (by omega) (zD rfl rfl (zB ?_)))))
    refine ⟨rfl, s + 1, (zV rfl (by rw [Int.natCast_add]; rfl) (zG rfl yF)), ?_, ?_⟩
    exact ⟨LR, by omega, rises_step hs (by have := mt kW.2 (by omega : ¬ 0 ≤ kK (l.getD s 0) (l.getD (s + 1) 0)); grind)⟩
    omega
  ·refine xF (xG (zF (zC (zD rfl rfl (zB (zZ ?_))))))
   refine zN ⟨[_], ⟨rfl, trivial⟩, ?_⟩
   dsimp only [zW]
   rw [show decide (gT l) = true from decide_eq_true (rises_all hs (by omega))]
   subst hFz
   exact ⟨LL.below (Nat.le_refl _), rfl⟩
theorem crises_c {l : List Rat} {n0 : Nat} {xa0 : Value} (hT : Tab M w) (h0 : QL M w n0 l xa0) (hl0 : n0 ≤ 20000) (hlen : l.length ≤ 1000) (hM : OkM M w) :
    CallsV prog 19 [xa0] w fun r w' => Below w.heap.size w w' ∧ r = .bool (decide (gT l)) := by
 obtain ⟨Fz, hFz, hF, LL⟩ := fz0 M w
 have hM0 := hM
 refine zQ func19 rfl ntmps19 rfl ?_
 refine zF (zC (zD rfl rfl (zB (zF (zF (zC (zA rfl rfl (gB rfl yu22 rfl h0.row (jL rfl rfl rfl (by omega) (qZ rfl rfl rfl (zA rfl rfl (zB (yA ?_)))))))))))))
 refine xN (σ := Nat) [(0, _), (7, _)] (fun s => [(8, .int .i64 ((s : Nat) : Int))]) (fun s w1 => Le Fz M w M w1 ∧ s ≤ l.length ∧ ∀ i, i < s → l.getD i 0 < l.getD (i + 1) 0) (fun s => l.length - s) (0) (zG rfl (zG rfl (zG rfl yF))) ?_ (fun s w1 hJ => ?_)
 · exact ⟨Le.refl _ _ _, by omega, fun i hi => by omega⟩
 ·obtain ⟨LR, hk, hs⟩ := hJ
  obtain ⟨LL, hM, hT, h0⟩ := up4 LR LL hM hT h0
  refine zF (zC (jG rfl rfl rfl (zB (zF ?_))))
  refine zX rfl (fun hc0 => ?_) (fun hc0 => ?_)
  ·refine yH (zF (yA (zF (zC (zA rfl rfl (zD rfl rfl (zB (zF ?_))))))))
   refine xQ (R := Rb) (R' := Rb) (st := none) jR 9 [0, 3, 7, 8, 9, 10, 11, 12, 13, 14, 15, 16, 17, 18, 19] (by decide +kernel) xO xY (xX _) (fun _ _ _ h => by cases h) ?_
   refine zP (fun v w => ∃ xa11, v = xa11 ∧ QL M w (n0) (l) xa11) (fun _ _ _ ⟨xa11, e, h0⟩ r => ⟨xa11, e, h0.mono (Fz := fun _ => False) (Le.of_below r)⟩) (fun wq hR hst => ?_) ?_
   ·refine zJ rfl rfl (zE ?_)
    replace h0 := ub1 hR h0
    exact zA rfl rfl (zB ⟨rfl, yB _, _, rfl, ⟨_, rfl, h0⟩⟩)
   refine zK (fun _ _ _ => zJ rfl rfl (zE (zA rfl rfl (on0 rfl)))) ?_
   refine zP (fun v w => ∃ b o xs13 xa13 xd13, v = .pointer (some ⟨b, o, none⟩) ∧ (∀ (q : Nat) (u : Value), [.bool xs13, xa13, xd13][q]? = some u → w.cell? ⟨b, o + q, none⟩ = some u) ∧ QC M w (n0) (l.getD s 0) xs13 xa13 xd13) (fun _ _ _ ⟨b, o, xs13, xa13, xd13, e, hc, h⟩ r => ⟨b, o, xs13, xa13, xd13, e, fun q u hq => jH r (hc q u hq), h.mono (Fz := fun _ => False) (Le.of_below r)⟩) (fun wq hR hst => ?_) ?_
   ·refine yC rfl (fun v11 hp11 => ?_)
    obtain ⟨xa11, rfl, hn11⟩ := hp11
    refine zH rfl (zE ?_)
    refine gG (dflt := (0 : Rat)) (s) rfl yu22 yY rfl rfl hn11.row (by first | rfl | omega) (by first | omega | (simp; omega) | simp) (fun b13 o13 us13 hul13 hu13 hc13 => ?_)
    obtain ⟨xs13, xa13, xd13, rfl, hn13⟩ := hu13
    exact zB ⟨rfl, yB _, _, rfl, ⟨b13, o13, _, _, _, rfl, hc13, hn13⟩⟩
   refine zP (vQC M (n0) (l.getD s 0)) cM (fun wq hR hst => ?_) ?_
   ·refine yC rfl (fun v13 hp13 => ?_)
    obtain ⟨b13, o13, xs13, xa13, xd13, rfl, hc13, hn13⟩ := hp13
    refine zE ?_
    exact jZ rfl xE yY rfl hc13 rfl (zB ⟨rfl, yB _, _, rfl, ⟨_, _, _, rfl, hn13⟩⟩)
   refine zP (fun v w => ∃ xa15, v = xa15 ∧ QL M w (n0) (l) xa15) (fun _ _ _ ⟨xa15, e, h0⟩ r => ⟨xa15, e, h0.mono (Fz := fun _ => False) (Le.of_below r)⟩) (fun wq hR hst => ?_) ?_
   ·refine zJ rfl rfl (zE ?_)
    replace h0 := ub1 hR h0
    exact zA rfl rfl (zB ⟨rfl, yB _, _, rfl, ⟨_, rfl, h0⟩⟩)
   refine zK (fun _ _ _ => zJ rfl rfl (zE (zA rfl rfl (on0 rfl)))) ?_
   apply zK
   ·intro wq hR hst
    refine zH rfl (zE ?_)
    exact yR rfl rfl rfl (by omega) (on0 rfl)
   refine zP (fun v w => ∃ b o xs18 xa18 xd18, v = .pointer (some ⟨b, o, none⟩) ∧ (∀ (q : Nat) (u : Value), [.bool xs18, xa18, xd18][q]? = some u → w.cell? ⟨b, o + q, none⟩ = some u) ∧ QC M w (n0) (l.getD (s + 1) 0) xs18 xa18 xd18) (fun _ _ _ ⟨b, o, xs18, xa18, xd18, e, hc, h⟩ r => ⟨b, o, xs18, xa18, xd18, e, fun q u hq => jH r (hc q u hq), h.mono (Fz := fun _ => False) (Le.of_below r)⟩) (fun wq hR hst => ?_) ?_
   ·refine yC rfl (fun v15 hp15 => ?_)
    obtain ⟨xa15, rfl, hn15⟩ := hp15
    refine zH rfl (zE ?_)
    refine gG (dflt := (0 : Rat)) (s + 1) rfl yu22 yY rfl rfl hn15.row (by first | rfl | omega) (by first | omega | (simp; omega) | simp) (fun b18 o18 us18 hul18 hu18 hc18 => ?_)
    obtain ⟨xs18, xa18, xd18, rfl, hn18⟩ := hu18
    exact zB ⟨rfl, yB _, _, rfl, ⟨b18, o18, _, _, _, rfl, hc18, hn18⟩⟩
   refine zP (vQC M (n0) (l.getD (s + 1) 0)) cM (fun wq hR hst => ?_) ?_
   ·refine yC rfl (fun v18 hp18 => ?_)
    obtain ⟨b18, o18, xs18, xa18, xd18, rfl, hc18, hn18⟩ := hp18
    refine zE ?_
    exact jZ rfl xE yY rfl hc18 rfl (zB ⟨rfl, yB _, _, rfl, ⟨_, _, _, rfl, hn18⟩⟩)
   refine xR (fun wq4 hR4 hpost4 => ?_)
   refine zJ rfl rfl (zJ rfl rfl (zJ rfl rfl (zJ rfl rfl (zJ rfl rfl (zJ rfl rfl (yC rfl (fun v11 hp11 => ?_)))))))
   obtain ⟨xa11, rfl, hn11⟩ := hp11
   refine zH rfl (yC rfl (fun v13 hp13 => ?_))
   obtain ⟨b13, o13, xs13, xa13, xd13, rfl, hc13, hn13⟩ := hp13
   refine yC rfl (fun v14 hp14 => ?_)
   obtain ⟨xs14, xa14, xd14, rfl, hn14⟩ := hp14
   refine yC rfl (fun v15 hp15 => ?_)
   obtain ⟨xa15, rfl, hn15⟩ := hp15
   refine zH rfl (zH rfl (yC rfl (fun v18 hp18 => ?_)))
   obtain ⟨b18, o18, xs18, xa18, xd18, rfl, hc18, hn18⟩ := hp18
   refine yC rfl (fun v19 hp19 => ?_)
   obtain ⟨xs19, xa19, xd19, rfl, hn19⟩ := hp19
   refine zE ?_
   simp only [List.drop_succ_cons, List.drop_zero, List.drop_nil, List.toList_toArray]
   obtain ⟨LL, LR, hM, hT⟩ := ub4 hR4 LL LR hM hT
   refine zI rfl eL rfl rfl ?_
   refine (dL hT hn14 hn19 (by omega) (by omega) hM).mono ?_
   rintro v20 w2 ⟨hB20, rfl⟩
   obtain ⟨LL, LR⟩ := ub2 hB20 LL LR
   refine gU rfl rfl rfl (zB ?_)
   refine zX rfl (fun hc1 => ?_) (fun hc1 => ?_)
   ·refine zF (zC (zD rfl rfl (zB (zZ ?_))))
    refine zN ⟨[_], ⟨rfl, trivial⟩, ?_⟩
    dsimp only [zW]
    rw [show decide (gT l) = false from decide_eq_false fun c => by have h1 := c s (by omega); have h2 := kW.1 hc1; grind]
    subst hFz
    exact ⟨LL.below (Nat.le_refl _), rfl⟩
   ·refine yH (zC (yR rfl rfl rfl (by omega) (zA rfl rfl (zB ?_))))
    refine ⟨rfl, s + 1, (zV rfl (by rw [Int.natCast_add]; rfl) (zG rfl (zG rfl yF))), ?_, ?_⟩
    exact ⟨LR, by omega, rises_step hs (by have := mt kW.2 (by omega : ¬ 0 ≤ kK (l.getD s 0) (l.getD (s + 1) 0)); grind)⟩
    omega
  ·refine xF (xG (zF (zC (zD rfl rfl (zB (zZ ?_))))))
   refine zN ⟨[_], ⟨rfl, trivial⟩, ?_⟩
   dsimp only [zW]
   rw [show decide (gT l) = true from decide_eq_true (rises_all hs (by omega))]
   subst hFz
   exact ⟨LL.below (Nat.le_refl _), rfl⟩
end Go.Proofs.YtfkejnlohkgbgaaGreatDoor
set_option maxRecDepth 100000
namespace Go.Proofs.YtfkejnlohkgbgaaGreatDoor
open Go.SL Go.RowKit Go.Proofs Tryz
variable {M : Nat → Prop} {w : World}
def FS (l : List Rat) (x : Rat) (s : Nat) (a : Int) : Prop :=
  (a = -1 ∧ ∀ j, j < s → ¬ aU l x j = true) ∨ ∃ k : Nat, a = (k : Int) ∧ k < s ∧ aU l x k = true ∧ ∀ j, j < k → ¬ aU l x j = true
theorem bF {l : List Rat} {x : Rat} {s : Nat} : aU l x s = true ↔ s + 1 < l.length ∧ l.getD s 0 < x ∧ x < l.getD (s + 1) 0 := by
  unfold aU; simp only [Bool.and_eq_true, decide_eq_true_eq, and_assoc]
theorem fs_next {l : List Rat} {x : Rat} {s : Nat} {a : Int} (h : FS l x s a) (hn : 0 ≤ a ∨ ¬ aU l x s = true) : FS l x (s + 1) a := by
  rcases h with ⟨h1, h2⟩ | ⟨k, h1, h2, h3, h4⟩
  · refine .inl ⟨h1, fun j hj => ?_⟩
    rcases Nat.lt_or_ge j s with c | c
    · exact h2 j c
    · obtain rfl : j = s := by omega
      rcases hn with hn | hn
      · omega
      · exact hn
  · exact .inr ⟨k, h1, by omega, h3, h4⟩
theorem fs_hit {l : List Rat} {x : Rat} {s : Nat} {a : Int} (h : FS l x s a) (ha : ¬ 0 ≤ a) (hs : aU l x s = true) : FS l x (s + 1) (s : Int) := by
  rcases h with ⟨h1, h2⟩ | ⟨k, h1, h2, h3, h4⟩
  · exact .inr ⟨s, rfl, by omega, hs, h2⟩
  · omega
theorem fs_wall {l : List Rat} {x : Rat} {s : Nat} (hs : s < l.length) (hx : l.getD s 0 = x) (hn : ∀ j, j < s → l.getD j 0 ≠ x) : jJ l x = (s, true, true) := by
  unfold jJ; rw [wall_some hs hx hn]
theorem fs_none {l : List Rat} {x : Rat} {a : Int} (h : FS l x l.length a) (ha : a < 0) (hn : ∀ j, j < l.length → l.getD j 0 ≠ x) : jJ l x = (0, false, false) := by
  rcases h with ⟨h1, h2⟩ | ⟨k, h1, h2, h3, h4⟩
  · unfold jJ; rw [bC hn, slab_none h2]
  · omega
theorem fs_slab {l : List Rat} {x : Rat} {a : Int} (h : FS l x l.length a) (ha : ¬ a < 0) (hn : ∀ j, j < l.length → l.getD j 0 ≠ x) : ∃ k : Nat, a = (k : Int) ∧ jJ l x = (k, false, true) := by
  rcases h with ⟨h1, h2⟩ | ⟨k, h1, h2, h3, h4⟩
  · omega
  · obtain ⟨i1, i2, i3⟩ := bF.1 h3
    refine ⟨k, h1, ?_⟩
    unfold jJ; rw [bC hn, slab_some i1 i2 i3 h4]
theorem cU {l : List Rat} {x : Rat} {s : Nat} (h : ∀ j, j < s → l.getD j 0 ≠ x) (hs : l.getD s 0 ≠ x) : ∀ j, j < s + 1 → l.getD j 0 ≠ x := fun j hj => by
  rcases Nat.lt_or_ge j s with c | c
  · exact h j c
  · obtain rfl : j = s := by omega
    exact hs
theorem bS {l : List Rat} {n0 : Nat} {xa0 : Value} {x : Rat} {n1 : Nat} {xs1 : Bool} {xa1 xd1 : Value} (hT : Tab M w) (h0 : QL M w n0 l xa0) (h1 : QC M w n1 x xs1 xa1 xd1) (hl0 : n0 ≤ 20000) (hl1 : n1 ≤ 20000) (hlen : l.length ≤ 1000) (hM : OkM M w) :
    CallsV prog 20 [xa0, .agg #[.bool xs1, xa1, xd1]] w fun r w' => Below w.heap.size w w' ∧ r = .tuple #[.int .i64 (((jJ l x).1 : Nat) : Int), .bool (jJ l x).2.1, .bool (jJ l x).2.2] := by
 obtain ⟨Fz, hFz, hF, LL⟩ := fz0 M w
 obtain ⟨oxa0, _⟩ := h0.one
 obtain ⟨oxa1, oxd1, _⟩ := h1.one
 have hM0 := hM
 refine zQ func20 rfl ntmps20 rfl ?_
 refine zF (zC (xL rfl rfl (fun w1 b3 N3 => ?_)))
 obtain ⟨_, nF3, nM3, Lw1, B3⟩ := nza hF hM N3
 obtain ⟨LL, hM, hF, hT, h0, h1⟩ := up6 Lw1 LL hM hF hT h0 h1
 refine zD rfl rfl (zD rfl rfl (zD rfl rfl (zB (aM (zF (zC (zD rfl rfl (zB (zF (bB (zF (zF (zC (zA rfl rfl ?_))))))))))))))
 refine gB rfl yu22 rfl h0.row (zA rfl rfl (zB (yA ?_)))
 refine xN (σ := Nat × Int) [(0, _), (3, _), (10, _), (11, _)] (fun s => [(4, .int .i64 s.2), (12, .int .i64 ((s.1 : Nat) : Int))]) (fun s w2 => Le Fz (Ins b3 M) w1 (Ins b3 M) w2 ∧ s.1 ≤ l.length ∧ (∀ j, j < s.1 → l.getD j 0 ≠ x) ∧ FS l x s.1 s.2 ∧ Blk w2 b3 33 [.bool xs1, xa1, xd1]) (fun s => l.length - s.1) ((0, -1)) (zG rfl (zG rfl (zG rfl (zG rfl (zG rfl (zG rfl yF)))))) ?_ (fun s w2 hJ => ?_)
 · exact ⟨Le.refl _ _ _, by omega, fun j hj => by omega, .inl ⟨rfl, fun j hj => by omega⟩, B3⟩
 ·clear B3; obtain ⟨LR, hk, hnw, hfs, B3⟩ := hJ
  obtain ⟨LL, hM, hF, hT, h0, h1⟩ := up6 LR LL hM hF hT h0 h1
  refine zF (zC (jG rfl rfl rfl (zB (zF ?_))))
  refine zX rfl (fun hc0 => ?_) (fun hc0 => ?_)
  ·refine yH (zF (yA (zF (zC (zA rfl rfl (gG (dflt := (0 : Rat)) (s.1) rfl yu22 yY rfl rfl h0.row (by first | rfl | omega) (by first | omega | (simp; omega) | simp) (fun b15 o15 us15 hul15 hu15 hc15 => ?_)))))))
   obtain ⟨xs15, xa15, xd15, rfl, hn15⟩ := hu15
   obtain ⟨oxa15, oxd15, _⟩ := hn15.one
   refine jZ rfl xE yY rfl hc15 rfl (yU rfl yY (fun w3 b8 N8 => ?_))
   obtain ⟨hBw3, nF8, nM8, Lw3, B8⟩ := nza hF hM N8
   obtain ⟨B3, ne3_8⟩ := bn B3 N8
   obtain ⟨LL, LR, hM, hT, h0, h1, hn15⟩ := up7 Lw3 LL LR hM hT h0 h1 hn15
   refine zD rfl rfl (yK rfl rfl yY B8 rfl rfl (xC rfl (xC (by first | rfl | assumption) (xC (by first | rfl | assumption) gD))) rfl (fun w4 Cw4 B8 => ?_))
   have Lw4 := Le.of_chg (M := (Ins b8 (Ins b3 M))) Cw4 zS nF8
   obtain ⟨LL, LR, hM, hT, h0, h1, hn15⟩ := up7 Lw4 LL LR hM hT h0 h1 hn15
   replace B3 := B3.other Cw4 ne3_8
   refine zB (zF (zF (zC (yE rfl xE yY rfl B8 rfl rfl (yE rfl xE yY rfl B3 rfl rfl (zI rfl eL rfl rfl ?_))))))
   refine (dL hT hn15 h1 (by omega) (by omega) hM).mono ?_
   rintro v19 w5 ⟨hB19, rfl⟩
   obtain ⟨LL, LR, hM, hT, h0, h1, B3⟩ := ub7 hB19 LL LR hM hT h0 h1 B3
   refine zD rfl rfl (zB (yA (zF (zC (zA rfl rfl (gI rfl rfl rfl (zD rfl rfl (zB ?_))))))))
   refine zX rfl (fun hc1 => ?_) (fun hc1 => ?_)
   ·refine zF (zC (zA rfl rfl (zD rfl rfl (zD rfl rfl (zD rfl rfl (zB (zZ ?_)))))))
    refine zN ⟨[_, _, _], ⟨rfl, rfl, rfl, trivial⟩, ?_⟩
    dsimp only [zW]
    rw [fs_wall (by omega) (kS.1 hc1) hnw]
    subst hFz
    exact ⟨LL.below (Nat.le_refl _), rfl⟩
   ·refine zF ?_
    by_cases hg8_2 : (0 : Int) ≤ s.2
    ·skip
     refine xQ (R := Rb) (R' := Rb) (st := none) jR 20 [0, 3, 4, 7, 8, 9, 10, 11, 12, 13, 14, 15, 16, 17, 18, 19, 20, 21, 22, 25, 26, 27, 28, 29, 30, 31, 32, 33, 34, 35, 36, 37, 38, 39, 40, 41, 42, 43, 44] (by decide +kernel) xO xY (xX _) (fun _ _ _ h => by cases h) ?_
     refine zK (fun _ _ _ => zJ rfl rfl (zE (zA rfl rfl (on0 rfl)))) ?_
     refine zK (fun _ _ _ => zH rfl (zE (gU rfl rfl rfl (on0 rfl)))) ?_
     refine zP (Ex (.bool true)) xB (fun wq hR hst => ?_) ?_
     ·refine zH rfl (zE ?_)
      exact zA rfl rfl (zB ⟨rfl, yB _, _, rfl, congrArg Value.bool (decide_eq_true hg8_2)⟩)
     refine zK (fun _ _ _ => zJ rfl rfl (zH rfl (zE (zU rfl rfl rfl rfl (on0 rfl))))) ?_
     refine zK (fun _ _ _ => zH rfl (zH rfl (zE (zU rfl rfl rfl rfl (on0 rfl))))) ?_
     refine zK (fun _ _ _ => zJ rfl rfl (zH rfl (zE (zU rfl rfl rfl rfl (on0 rfl))))) ?_
     refine zK (fun _ _ _ => zH rfl (zH rfl (zE (zU rfl rfl rfl rfl (on0 rfl))))) ?_
     refine zK (fun _ _ _ => zH rfl (zH rfl (zH rfl (zE (zU rfl rfl rfl rfl (on0 rfl)))))) ?_
     refine zP (Ex (.bool true)) xB (fun wq hR hst => ?_) ?_
     ·refine zH rfl (zH rfl (zE ?_))
      exact xA rfl rfl rfl (on0 rfl)
     refine zP (Ex (.bool true)) xB (fun wq hR hst => ?_) ?_
     ·refine zH rfl (zE ?_)
      exact zA rfl rfl (on0 rfl)
     refine zK (fun _ _ _ => zJ rfl rfl (zH rfl (zE (zU rfl rfl rfl rfl (on0 rfl))))) ?_
     refine zK (fun _ _ _ => zH rfl (zH rfl (zE (zU rfl rfl rfl rfl (on0 rfl))))) ?_
     refine zP (Ex (.bool true)) xB (fun wq hR hst => ?_) ?_
     ·refine zH rfl (zH rfl (zE ?_))
      exact xA rfl rfl rfl (on0 rfl)
     refine zP (Ex (.bool true)) xB (fun wq hR hst => ?_) ?_
     ·refine zH rfl (zE ?_)
      exact zA rfl rfl (on0 rfl)
     refine zK (fun _ _ _ => zJ rfl rfl (zH rfl (zE (zU rfl rfl rfl rfl (on0 rfl))))) ?_
     refine zK (fun _ _ _ => zJ rfl rfl (zH rfl (zE (zU rfl rfl rfl rfl (on0 rfl))))) ?_
     refine zK (fun _ _ _ => zJ rfl rfl (zH rfl (zE (zU rfl rfl rfl rfl (on0 rfl))))) ?_
     refine zK (fun _ _ _ => zH rfl (zH rfl (zE (zU rfl rfl rfl rfl (on0 rfl))))) ?_
     refine zK (fun _ _ _ => zH rfl (zH rfl (zH rfl (zE (zU rfl rfl rfl rfl (on0 rfl)))))) ?_
     refine zK (fun _ _ _ => zH rfl (zH rfl (zE (zU rfl rfl rfl rfl (on0 rfl))))) ?_
     refine xR (fun wq8 hR8 hpost8 => ?_)
     refine zJ rfl rfl (zJ rfl rfl (zJ rfl rfl (zJ rfl rfl (zJ rfl rfl (zJ rfl rfl (zJ rfl rfl (zJ rfl rfl (zJ rfl rfl (zJ rfl rfl (zJ rfl rfl (zJ rfl rfl (zJ rfl rfl (zJ rfl rfl (zJ rfl rfl ?_))))))))))))))
     refine zJ rfl rfl (zJ rfl rfl (zJ rfl rfl (zJ rfl rfl (zH rfl (zH rfl (zH rfl (zH rfl (zH rfl (zH rfl (zH rfl (zH rfl (zH rfl (zH rfl (zH rfl ?_))))))))))))))
     refine zH rfl (zH rfl (zH rfl (zH rfl (zH rfl (zH rfl (zH rfl (zH rfl (zH rfl (zE ?_)))))))))
     simp only [List.drop_succ_cons, List.drop_zero, List.drop_nil, List.toList_toArray]
     obtain ⟨LR, B3⟩ := ub2 hR8 LR B3
     refine zU rfl rfl rfl rfl (zU rfl rfl rfl rfl (xA rfl rfl rfl (zD rfl rfl (zB (uF rfl (xF (uR rfl (xG (zC (yR rfl rfl rfl (by omega) (zA rfl rfl (zB ?_))))))))))))
     replace LR := LR.trans (Le.less (fun k c => (zO c)))
     refine ⟨rfl, (s.1 + 1, s.2), (zG rfl (zV rfl (by rw [Int.natCast_add]; rfl) (zG rfl (zG rfl (zG rfl (zG rfl yF)))))), ?_, ?_⟩
     exact ⟨LR, by omega, cU hnw (fun c => hc1 (kS.2 c)), fs_next hfs (.inl hg8_2), B3⟩
     omega
    ·skip
     by_cases hg8_9 : (l.length : Int) ≤ (s.1 : Int) + 1
     ·skip
      refine xQ (R := Rb) (R' := Rb) (st := none) jR 20 [0, 3, 4, 7, 8, 9, 10, 11, 12, 13, 14, 15, 16, 17, 18, 19, 20, 21, 22, 25, 26, 27, 28, 29, 30, 31, 32, 33, 34, 35, 36, 37, 38, 39, 40, 41, 42, 43, 44] (by decide +kernel) xO xY (xX _) (fun _ _ _ h => by cases h) ?_
      refine zK (fun _ _ _ => zJ rfl rfl (zE (zA rfl rfl (on0 rfl)))) ?_
      refine zK (fun _ _ _ => zH rfl (zE (gU rfl rfl rfl (on0 rfl)))) ?_
      refine zP (Ex (.bool false)) xB (fun wq hR hst => ?_) ?_
      ·refine zH rfl (zE ?_)
       exact zA rfl rfl (zB ⟨rfl, yB _, _, rfl, congrArg Value.bool (decide_eq_false hg8_2)⟩)
      refine zK (fun _ _ _ => zJ rfl rfl (zH rfl (zE (zM rfl rfl (zA rfl rfl (on0 rfl)))))) ?_
      apply zK
      ·intro wq hR hst
       refine zH rfl (zH rfl (zE ?_))
       exact zM rfl rfl (yR rfl rfl rfl (by omega) (on0 rfl))
      refine zP (fun v w => ∃ xa30, v = xa30 ∧ QL (Ins b8 (Ins b3 M)) w (n0) (l) xa30) (fun _ _ _ ⟨xa30, e, h0⟩ r => ⟨xa30, e, h0.mono (Fz := fun _ => False) (Le.of_below r)⟩) (fun wq hR hst => ?_) ?_
      ·refine zJ rfl rfl (zH rfl (zE ?_))
       replace h0 := ub1 hR h0
       exact zM rfl rfl (zA rfl rfl (zB ⟨rfl, yB _, _, rfl, ⟨_, rfl, h0⟩⟩))
      refine zP (Ex (.int .i64 ((l.length : Nat) : Int))) xB (fun wq hR hst => ?_) ?_
      ·refine yC rfl (fun v30 hp30 => ?_)
       obtain ⟨xa30, rfl, hn30⟩ := hp30
       refine zH rfl (zE ?_)
       exact zM rfl rfl (gB rfl yu22 rfl hn30.row (on0 rfl))
      refine zK (fun _ _ _ => zH rfl (zH rfl (zH rfl (zE (zM rfl rfl (gU rfl rfl rfl (on0 rfl))))))) ?_
      refine zK (fun _ _ _ => zH rfl (zH rfl (zE (xA rfl rfl rfl (on0 rfl))))) ?_
      refine zP (Ex (.bool true)) xB (fun wq hR hst => ?_) ?_
      ·refine zH rfl (zE ?_)
       exact zA rfl rfl (zB ⟨rfl, yB _, _, rfl, congrArg Value.bool (decide_eq_true hg8_9)⟩)
      refine zK (fun _ _ _ => zJ rfl rfl (zH rfl (zE (zU rfl rfl rfl rfl (on0 rfl))))) ?_
      refine zK (fun _ _ _ => zH rfl (zH rfl (zE (zU rfl rfl rfl rfl (on0 rfl))))) ?_
      refine zP (Ex (.bool true)) xB (fun wq hR hst => ?_) ?_
      ·refine zH rfl (zH rfl (zE ?_))
       exact xA rfl rfl rfl (on0 rfl)
      refine zP (Ex (.bool true)) xB (fun wq hR hst => ?_) ?_
      ·refine zH rfl (zE ?_)
       exact zA rfl rfl (on0 rfl)
      refine zK (fun _ _ _ => zJ rfl rfl (zH rfl (zE (zU rfl rfl rfl rfl (on0 rfl))))) ?_
      refine zK (fun _ _ _ => zJ rfl rfl (zH rfl (zE (zU rfl rfl rfl rfl (on0 rfl))))) ?_
      refine zK (fun _ _ _ => zJ rfl rfl (zH rfl (zE (zU rfl rfl rfl rfl (on0 rfl))))) ?_
      refine zK (fun _ _ _ => zH rfl (zH rfl (zE (zU rfl rfl rfl rfl (on0 rfl))))) ?_
      refine zK (fun _ _ _ => zH rfl (zH rfl (zH rfl (zE (zU rfl rfl rfl rfl (on0 rfl)))))) ?_
      refine zK (fun _ _ _ => zH rfl (zH rfl (zE (zU rfl rfl rfl rfl (on0 rfl))))) ?_
      refine xR (fun wq8 hR8 hpost8 => ?_)
      refine zJ rfl rfl (zJ rfl rfl (zJ rfl rfl (zJ rfl rfl (zJ rfl rfl (zJ rfl rfl (zJ rfl rfl (zJ rfl rfl (zJ rfl rfl (zJ rfl rfl (zJ rfl rfl (zJ rfl rfl (zJ rfl rfl (zJ rfl rfl (zJ rfl rfl ?_))))))))))))))
      refine zJ rfl rfl (zJ rfl rfl (zJ rfl rfl (zJ rfl rfl (zH rfl (zH rfl (zH rfl (zH rfl (zH rfl (yC rfl (fun v30 hp30 => ?_))))))))))
      obtain ⟨xa30, rfl, hn30⟩ := hp30
      refine zH rfl (zH rfl (zH rfl (zH rfl (zH rfl (zH rfl (zH rfl (zH rfl (zH rfl (zH rfl (zH rfl (zH rfl (zH rfl (zH rfl (zE ?_))))))))))))))
      simp only [List.drop_succ_cons, List.drop_zero, List.drop_nil, List.toList_toArray]
      obtain ⟨LR, B3⟩ := ub2 hR8 LR B3
      refine zU rfl rfl rfl rfl (zU rfl rfl rfl rfl (xA rfl rfl rfl (zD rfl rfl (zB (uF rfl (xF (uR rfl (xG (zC (yR rfl rfl rfl (by omega) (zA rfl rfl (zB ?_))))))))))))
      replace LR := LR.trans (Le.less (fun k c => (zO c)))
      refine ⟨rfl, (s.1 + 1, s.2), (zG rfl (zV rfl (by rw [Int.natCast_add]; rfl) (zG rfl (zG rfl (zG rfl (zG rfl yF)))))), ?_, ?_⟩
      exact ⟨LR, by omega, cU hnw (fun c => hc1 (kS.2 c)), fs_next hfs (.inr fun c => by have := bF.1 c; omega), B3⟩
      omega
     ·skip
      by_cases hg8_13 : (0 : Int) < kK (l.getD s.1 0) x
      ·skip
       refine xQ (R := Rb) (R' := Rb) (st := none) jR 20 [0, 3, 4, 7, 8, 9, 10, 11, 12, 13, 14, 15, 16, 17, 18, 19, 20, 21, 22, 25, 26, 27, 28, 29, 30, 31, 32, 33, 34, 35, 36, 37, 38, 39, 40, 41, 42, 43, 44] (by decide +kernel) xO xY (xX _) (fun _ _ _ h => by cases h) ?_
       refine zK (fun _ _ _ => zJ rfl rfl (zE (zA rfl rfl (on0 rfl)))) ?_
       refine zK (fun _ _ _ => zH rfl (zE (gU rfl rfl rfl (on0 rfl)))) ?_
       refine zP (Ex (.bool false)) xB (fun wq hR hst => ?_) ?_
       ·refine zH rfl (zE ?_)
        exact zA rfl rfl (zB ⟨rfl, yB _, _, rfl, congrArg Value.bool (decide_eq_false hg8_2)⟩)
       refine zK (fun _ _ _ => zJ rfl rfl (zH rfl (zE (zM rfl rfl (zA rfl rfl (on0 rfl)))))) ?_
       apply zK
       ·intro wq hR hst
        refine zH rfl (zH rfl (zE ?_))
        exact zM rfl rfl (yR rfl rfl rfl (by omega) (on0 rfl))
       refine zP (fun v w => ∃ xa30, v = xa30 ∧ QL (Ins b8 (Ins b3 M)) w (n0) (l) xa30) (fun _ _ _ ⟨xa30, e, h0⟩ r => ⟨xa30, e, h0.mono (Fz := fun _ => False) (Le.of_below r)⟩) (fun wq hR hst => ?_) ?_
       ·refine zJ rfl rfl (zH rfl (zE ?_))
        replace h0 := ub1 hR h0
        exact zM rfl rfl (zA rfl rfl (zB ⟨rfl, yB _, _, rfl, ⟨_, rfl, h0⟩⟩))
       refine zP (Ex (.int .i64 ((l.length : Nat) : Int))) xB (fun wq hR hst => ?_) ?_
       ·refine yC rfl (fun v30 hp30 => ?_)
        obtain ⟨xa30, rfl, hn30⟩ := hp30
        refine zH rfl (zE ?_)
        exact zM rfl rfl (gB rfl yu22 rfl hn30.row (on0 rfl))
       refine zK (fun _ _ _ => zH rfl (zH rfl (zH rfl (zE (zM rfl rfl (gU rfl rfl rfl (on0 rfl))))))) ?_
       refine zK (fun _ _ _ => zH rfl (zH rfl (zE (xA rfl rfl rfl (on0 rfl))))) ?_
       refine zP (Ex (.bool false)) xB (fun wq hR hst => ?_) ?_
       ·refine zH rfl (zE ?_)
        exact zA rfl rfl (zB ⟨rfl, yB _, _, rfl, congrArg Value.bool (decide_eq_false hg8_9)⟩)
       refine zP (Ex (.int .i64 (kK (l.getD s.1 0) x))) xB (fun wq hR hst => ?_) ?_
       ·refine zJ rfl rfl (zH rfl (zE ?_))
        exact zM rfl rfl (zA rfl rfl (on0 rfl))
       refine zP (Ex (.bool (decide (0 < ((kK (l.getD s.1 0) x)))))) xB (fun wq hR hst => ?_) ?_
       ·refine zH rfl (zH rfl (zE ?_))
        exact zM rfl rfl (qV rfl rfl rfl (on0 rfl))
       refine zP (Ex (.bool (decide (0 < ((kK (l.getD s.1 0) x)))))) xB (fun wq hR hst => ?_) ?_
       ·refine zH rfl (zH rfl (zE ?_))
        exact xA rfl rfl rfl (on0 rfl)
       refine zP (Ex (.bool true)) xB (fun wq hR hst => ?_) ?_
       ·refine zH rfl (zE ?_)
        exact zA rfl rfl (zB ⟨rfl, yB _, _, rfl, congrArg Value.bool (decide_eq_true hg8_13)⟩)
       refine zK (fun _ _ _ => zJ rfl rfl (zH rfl (zE (zU rfl rfl rfl rfl (on0 rfl))))) ?_
       refine zK (fun _ _ _ => zJ rfl rfl (zH rfl (zE (zU rfl rfl rfl rfl (on0 rfl))))) ?_
       refine zK (fun _ _ _ => zJ rfl rfl (zH rfl (zE (zU rfl rfl rfl rfl (on0 rfl))))) ?_
       refine zK (fun _ _ _ => zH rfl (zH rfl (zE (zU rfl rfl rfl rfl (on0 rfl))))) ?_
       refine zK (fun _ _ _ => zH rfl (zH rfl (zH rfl (zE (zU rfl rfl rfl rfl (on0 rfl)))))) ?_
       refine zK (fun _ _ _ => zH rfl (zH rfl (zE (zU rfl rfl rfl rfl (on0 rfl))))) ?_
       refine xR (fun wq8 hR8 hpost8 => ?_)
       refine zJ rfl rfl (zJ rfl rfl (zJ rfl rfl (zJ rfl rfl (zJ rfl rfl (zJ rfl rfl (zJ rfl rfl (zJ rfl rfl (zJ rfl rfl (zJ rfl rfl (zJ rfl rfl (zJ rfl rfl (zJ rfl rfl (zJ rfl rfl (zJ rfl rfl ?_))))))))))))))
       refine zJ rfl rfl (zJ rfl rfl (zJ rfl rfl (zJ rfl rfl (zH rfl (zH rfl (zH rfl (zH rfl (zH rfl (yC rfl (fun v30 hp30 => ?_))))))))))
       obtain ⟨xa30, rfl, hn30⟩ := hp30
       refine zH rfl (zH rfl (zH rfl (zH rfl (zH rfl (zH rfl (zH rfl (zH rfl (zH rfl (zH rfl (zH rfl (zH rfl (zH rfl (zH rfl (zE ?_))))))))))))))
       simp only [List.drop_succ_cons, List.drop_zero, List.drop_nil, List.toList_toArray]
       obtain ⟨LR, B3⟩ := ub2 hR8 LR B3
       refine zU rfl rfl rfl rfl (zU rfl rfl rfl rfl (xA rfl rfl rfl (zD rfl rfl (zB (uF rfl (xF (uR rfl (xG (zC (yR rfl rfl rfl (by omega) (zA rfl rfl (zB ?_))))))))))))
       replace LR := LR.trans (Le.less (fun k c => (zO c)))
       refine ⟨rfl, (s.1 + 1, s.2), (zG rfl (zV rfl (by rw [Int.natCast_add]; rfl) (zG rfl (zG rfl (zG rfl (zG rfl yF)))))), ?_, ?_⟩
       exact ⟨LR, by omega, cU hnw (fun c => hc1 (kS.2 c)), fs_next hfs (.inr fun c => by have := bF.1 c; have := cmpR_gt.1 hg8_13; grind), B3⟩
       omega
      ·skip
       refine xQ (R := Rb) (R' := Rb) (st := none) jR 20 [0, 3, 4, 7, 8, 9, 10, 11, 12, 13, 14, 15, 16, 17, 18, 19, 20, 21, 22, 25, 26, 27, 28, 29, 30, 31, 32, 33, 34, 35, 36, 37, 38, 39, 40, 41, 42, 43, 44] (by decide +kernel) xO xY (xX _) (fun _ _ _ h => by cases h) ?_
       refine zK (fun _ _ _ => zJ rfl rfl (zE (zA rfl rfl (on0 rfl)))) ?_
       refine zK (fun _ _ _ => zH rfl (zE (gU rfl rfl rfl (on0 rfl)))) ?_
       refine zP (Ex (.bool false)) xB (fun wq hR hst => ?_) ?_
       ·refine zH rfl (zE ?_)
        exact zA rfl rfl (zB ⟨rfl, yB _, _, rfl, congrArg Value.bool (decide_eq_false hg8_2)⟩)
       refine zK (fun _ _ _ => zJ rfl rfl (zH rfl (zE (zM rfl rfl (zA rfl rfl (on0 rfl)))))) ?_
       apply zK
       ·intro wq hR hst
        refine zH rfl (zH rfl (zE ?_))
        exact zM rfl rfl (yR rfl rfl rfl (by omega) (on0 rfl))
       refine zP (fun v w => ∃ xa30, v = xa30 ∧ QL (Ins b8 (Ins b3 M)) w (n0) (l) xa30) (fun _ _ _ ⟨xa30, e, h0⟩ r => ⟨xa30, e, h0.mono (Fz := fun _ => False) (Le.of_below r)⟩) (fun wq hR hst => ?_) ?_
       ·refine zJ rfl rfl (zH rfl (zE ?_))
        replace h0 := ub1 hR h0
        exact zM rfl rfl (zA rfl rfl (zB ⟨rfl, yB _, _, rfl, ⟨_, rfl, h0⟩⟩))
       refine zP (Ex (.int .i64 ((l.length : Nat) : Int))) xB (fun wq hR hst => ?_) ?_
       ·refine yC rfl (fun v30 hp30 => ?_)
        obtain ⟨xa30, rfl, hn30⟩ := hp30
        refine zH rfl (zE ?_)
        exact zM rfl rfl (gB rfl yu22 rfl hn30.row (on0 rfl))
       refine zK (fun _ _ _ => zH rfl (zH rfl (zH rfl (zE (zM rfl rfl (gU rfl rfl rfl (on0 rfl))))))) ?_
       refine zK (fun _ _ _ => zH rfl (zH rfl (zE (xA rfl rfl rfl (on0 rfl))))) ?_
       refine zP (Ex (.bool false)) xB (fun wq hR hst => ?_) ?_
       ·refine zH rfl (zE ?_)
        exact zA rfl rfl (zB ⟨rfl, yB _, _, rfl, congrArg Value.bool (decide_eq_false hg8_9)⟩)
       refine zP (Ex (.int .i64 (kK (l.getD s.1 0) x))) xB (fun wq hR hst => ?_) ?_
       ·refine zJ rfl rfl (zH rfl (zE ?_))
        exact zM rfl rfl (zA rfl rfl (on0 rfl))
       refine zP (Ex (.bool (decide (0 < ((kK (l.getD s.1 0) x)))))) xB (fun wq hR hst => ?_) ?_
       ·refine zH rfl (zH rfl (zE ?_))
        exact zM rfl rfl (qV rfl rfl rfl (on0 rfl))
       refine zP (Ex (.bool (decide (0 < ((kK (l.getD s.1 0) x)))))) xB (fun wq hR hst => ?_) ?_
       ·refine zH rfl (zH rfl (zE ?_))
        exact xA rfl rfl rfl (on0 rfl)
       refine zP (Ex (.bool false)) xB (fun wq hR hst => ?_) ?_
       ·refine zH rfl (zE ?_)
        exact zA rfl rfl (zB ⟨rfl, yB _, _, rfl, congrArg Value.bool (decide_eq_false hg8_13)⟩)
       refine zK (fun _ hR _ => zJ rfl rfl (zH rfl (zE (zM rfl rfl (yE rfl xE yY rfl (B3.below hR) rfl rfl (on0 rfl)))))) ?_
       refine zP (fun v w => ∃ xa40, v = xa40 ∧ QL (Ins b8 (Ins b3 M)) w (n0) (l) xa40) (fun _ _ _ ⟨xa40, e, h0⟩ r => ⟨xa40, e, h0.mono (Fz := fun _ => False) (Le.of_below r)⟩) (fun wq hR hst => ?_) ?_
       ·refine zJ rfl rfl (zH rfl (zE ?_))
        replace h0 := ub1 hR h0
        exact zM rfl rfl (zA rfl rfl (zB ⟨rfl, yB _, _, rfl, ⟨_, rfl, h0⟩⟩))
       refine zK (fun _ _ _ => zJ rfl rfl (zH rfl (zE (zM rfl rfl (zA rfl rfl (on0 rfl)))))) ?_
       apply zK
       ·intro wq hR hst
        refine zH rfl (zH rfl (zE ?_))
        exact zM rfl rfl (yR rfl rfl rfl (by omega) (on0 rfl))
       refine zP (fun v w => ∃ b o xs43 xa43 xd43, v = .pointer (some ⟨b, o, none⟩) ∧ (∀ (q : Nat) (u : Value), [.bool xs43, xa43, xd43][q]? = some u → w.cell? ⟨b, o + q, none⟩ = some u) ∧ QC (Ins b8 (Ins b3 M)) w (n0) (l.getD (s.1 + 1) 0) xs43 xa43 xd43) (fun _ _ _ ⟨b, o, xs43, xa43, xd43, e, hc, h⟩ r => ⟨b, o, xs43, xa43, xd43, e, fun q u hq => jH r (hc q u hq), h.mono (Fz := fun _ => False) (Le.of_below r)⟩) (fun wq hR hst => ?_) ?_
       ·refine yC rfl (fun v40 hp40 => ?_)
        obtain ⟨xa40, rfl, hn40⟩ := hp40
        refine zH rfl (zH rfl (zE ?_))
        refine zM rfl rfl (gG (dflt := (0 : Rat)) (s.1 + 1) rfl yu22 yY rfl rfl hn40.row (by first | rfl | omega) (by first | omega | (simp; omega) | simp) (fun b43 o43 us43 hul43 hu43 hc43 => ?_))
        obtain ⟨xs43, xa43, xd43, rfl, hn43⟩ := hu43
        exact zB ⟨rfl, yB _, _, rfl, ⟨b43, o43, _, _, _, rfl, hc43, hn43⟩⟩
       refine zP (vQC (Ins b8 (Ins b3 M)) (n0) (l.getD (s.1 + 1) 0)) cM (fun wq hR hst => ?_) ?_
       ·refine yC rfl (fun v43 hp43 => ?_)
        obtain ⟨b43, o43, xs43, xa43, xd43, rfl, hc43, hn43⟩ := hp43
        refine zH rfl (zE ?_)
        exact zM rfl rfl (jZ rfl xE yY rfl hc43 rfl (zB ⟨rfl, yB _, _, rfl, ⟨_, _, _, rfl, hn43⟩⟩))
       refine xR (fun wq8 hR8 hpost8 => ?_)
       refine zJ rfl rfl (zJ rfl rfl (zJ rfl rfl (zJ rfl rfl (zJ rfl rfl (zJ rfl rfl (zJ rfl rfl (zJ rfl rfl (zJ rfl rfl (zJ rfl rfl (zJ rfl rfl (zJ rfl rfl (zJ rfl rfl (zJ rfl rfl (zJ rfl rfl ?_))))))))))))))
       refine zJ rfl rfl (zJ rfl rfl (zJ rfl rfl (zJ rfl rfl (zH rfl (zH rfl (zH rfl (zH rfl (zH rfl (yC rfl (fun v30 hp30 => ?_))))))))))
       obtain ⟨xa30, rfl, hn30⟩ := hp30
       refine zH rfl (zH rfl (zH rfl (zH rfl (zH rfl (zH rfl (zH rfl (zH rfl (zH rfl (yC rfl (fun v40 hp40 => ?_))))))))))
       obtain ⟨xa40, rfl, hn40⟩ := hp40
       refine zH rfl (zH rfl (yC rfl (fun v43 hp43 => ?_)))
       obtain ⟨b43, o43, xs43, xa43, xd43, rfl, hc43, hn43⟩ := hp43
       refine yC rfl (fun v44 hp44 => ?_)
       obtain ⟨xs44, xa44, xd44, rfl, hn44⟩ := hp44
       refine zE ?_
       simp only [List.drop_succ_cons, List.drop_zero, List.drop_nil, List.toList_toArray]
       obtain ⟨LR, hM, hT, h1, B3⟩ := ub5 hR8 LR hM hT h1 B3
       refine zM rfl rfl (zI rfl eL rfl rfl ?_)
       refine (dL hT h1 hn44 (by omega) (by omega) hM).mono ?_
       rintro v45 w6 ⟨hB45, rfl⟩
       obtain ⟨LR, h1, B3⟩ := ub3 hB45 LR h1 B3
       refine zM rfl rfl (gU rfl rfl rfl (xA rfl rfl rfl (zD rfl rfl (zB ?_))))
       refine zX rfl (fun hc2 => ?_) (fun hc2 => ?_)
       ·refine xF (uR rfl (xG (zC (yR rfl rfl rfl (by omega) (zA rfl rfl (zB ?_))))))
        replace LR := LR.trans (Le.less (fun k c => (zO c)))
        refine ⟨rfl, (s.1 + 1, s.2), (zG rfl (zV rfl (by rw [Int.natCast_add]; rfl) (zG rfl (zG rfl (zG rfl (zG rfl yF)))))), ?_, ?_⟩
        exact ⟨LR, by omega, cU hnw (fun c => hc1 (kS.2 c)), fs_next hfs (.inr fun c => by have := bF.1 c; have := kW.1 hc2; grind), B3⟩
        omega
       ·refine yH (zC (zA rfl rfl (zD rfl rfl (zB (zC (yR rfl rfl rfl (by omega) (zA rfl rfl (zB ?_))))))))
        replace LR := LR.trans (Le.less (fun k c => (zO c)))
        refine ⟨rfl, (s.1 + 1, (s.1 : Int)), (zG rfl (zV rfl (by rw [Int.natCast_add]; rfl) (zG rfl (zG rfl (zG rfl (zG rfl yF)))))), ?_, ?_⟩
        exact ⟨LR, by omega, cU hnw (fun c => hc1 (kS.2 c)), fs_hit hfs hg8_2 (bF.2 ⟨by omega, by have h1 := mt cmpR_gt.2 hg8_13; have h2 := mt kS.2 hc1; grind, by have h1 := mt kW.2 hc2; grind⟩), B3⟩
        omega
  ·refine xF (xG (zF (zF (zC (zA rfl rfl (jG rfl rfl rfl (zB ?_)))))))
   refine zX rfl (fun hc3 => ?_) (fun hc3 => ?_)
   ·refine zF (zC (zD rfl rfl (zD rfl rfl (zD rfl rfl (zB (zZ ?_))))))
    refine zN ⟨[_, _, _], ⟨rfl, rfl, rfl, trivial⟩, ?_⟩
    dsimp only [zW]
    obtain ⟨s, t⟩ := s
    obtain rfl : s = l.length := by simp only at *; omega
    rw [fs_none hfs (by omega) hnw]
    subst hFz
    exact ⟨LL.below (Nat.le_refl _), rfl⟩
   ·refine yH (zF (zC (zA rfl rfl (zD rfl rfl (zD rfl rfl (zD rfl rfl (zB (zZ ?_))))))))
    refine zN ⟨[_, _, _], ⟨rfl, rfl, rfl, trivial⟩, ?_⟩
    dsimp only [zW]
    obtain ⟨s, t⟩ := s
    obtain rfl : s = l.length := by simp only at *; omega
    obtain ⟨kk, hkk, hfq⟩ := fs_slab hfs (by assumption) hnw
    simp only at hkk
    subst hkk
    rw [hfq]
    subst hFz
    exact ⟨LL.below (Nat.le_refl _), rfl⟩
end Go.Proofs.YtfkejnlohkgbgaaGreatDoor
set_option maxRecDepth 100000
namespace Go.Proofs.YtfkejnlohkgbgaaGreatDoor
open Go.SL Go.RowKit Go.Proofs Tryz
variable {M : Nat → Prop} {w : World}
def jQ (ns : List Nat) : List Rat := ns.map fun n => ((n : Nat) : Rat)
theorem natsQ_len (ns : List Nat) : (jQ ns).length = ns.length := by simp [jQ]
theorem natsQ_getD {ns : List Nat} {s : Nat} (h : s < ns.length) : (jQ ns).getD s 0 = ((ns.getD s 0 : Nat) : Rat) := by
  unfold jQ
  simp [List.getD_eq_getElem?_getD, List.getElem?_eq_getElem h]
def intCells (ns : List Nat) : List Value := ns.map fun n => .int .i64 ((n : Nat) : Int)
theorem of22_c {v : Value} {ns : List Nat} (hv : Slc M w 1 v ns.length (intCells ns)) (hsm : ∀ n ∈ ns, n < 1000) (hlen : ns.length ≤ 100) (hM : OkM M w) :
    CallsV prog 75 [v] w fun r w' => Below w.heap.size w w' ∧ ∃ xar, r = xar ∧ QLc M w' (2) (jQ ns) xar := by
 obtain ⟨Fz, hFz, hF, LL⟩ := fz0 M w
 have hM0 := hM
 refine zQ func75 rfl ntmps75 rfl ?_
 refine zF (zC (zD rfl rfl (zB (zF (zC ?_)))))
 have Ow := own_nilk (w := w) 3 (e := 33)
 have Of : ∀ k, (Value.slice none 0 0).ownBlock = some k → ¬ Fz k := qM
 have Om : ∀ k, (Value.slice none 0 0).ownBlock = some k → ¬ M k := qM
 have He : ER (Mo (.slice none 0 0) M) w (2) [] [] := ⟨Elems.nil⟩
 have Ln := Le.mo_nil (Fz := Fz) (M := M) (w := w)
 replace LL := LL.trans Ln
 replace hM := hM.mono Ln
 replace hF := hF.mono Ln
 replace hv := hv.mono Ln
 clear Ln
 refine zD rfl rfl (zB (zF (zF (zC (zD rfl rfl (zB (yA ?_)))))))
 refine xN (σ := Nat × Value) [(0, _)] (fun s => [(3, s.2), (4, .int .i64 ((s.1 : Nat) : Int))]) (fun s w1 => Le Fz (Mo (.slice none 0 0) M) w (Mo s.2 M) w1 ∧ s.1 ≤ ns.length ∧ (∀ k, s.2.ownBlock = some k → ¬ Fz k) ∧ (∀ k, s.2.ownBlock = some k → ¬ M k) ∧ ∃ cs, w1.ownsRow 0 33 3 s.2 s.1 cs ∧ ER (Mo s.2 M) w1 (2) cs ((jQ ns).take s.1)) (fun s => ns.length - s.1) ((0, .slice none 0 0)) (zG rfl (zG rfl (zG rfl yF))) ?_ (fun s w1 hJ => ?_)
 · dsimp only
   exact ⟨Le.refl _ _ _, by omega, Of, Om, [], Ow, by simpa using He⟩
 ·obtain ⟨k, q⟩ := s
  dsimp only at hJ ⊢
  obtain ⟨LR, hk, Of, Om, cs, Ow, He⟩ := hJ
  replace LL := LL.trans LR
  replace hM := hM.mono LR
  replace hF := hF.mono LR
  replace hv := hv.mono LR
  refine zF (zF (zC (zA rfl rfl (zA rfl rfl (yM rfl underlying158 rfl hv (jG rfl rfl rfl (zB ?_)))))))
  refine zX rfl (fun hc0 => ?_) (fun hc0 => ?_)
  ·refine yH (zF (yA (zC (zA rfl rfl (zA rfl rfl (zA rfl rfl (cT k rfl underlying158 sz3 rfl rfl hv (by first | rfl | omega) (by omega) (fun b14 o14 hm14 hc14 => ?_))))))))
   have hgi : (intCells ns)[k]? = some (.int .i64 ((ns.getD k 0 : Nat) : Int)) := by unfold intCells; simp [List.getD_eq_getElem?_getD, List.getElem?_eq_getElem (show k < ns.length by omega)]
   have hsn := hsm _ (getD_mem 0 (show k < ns.length by omega))
   refine xM rfl flat3 rfl (hc14 0 _ (by simpa using hgi)) ?_
   refine zI rfl dD rfl rfl ?_
   refine (bM (k := (ns.getD k 0))  (by omega) hM).mono ?_
   rintro v16 w2 ⟨hB16, xs16, xa16, xd16, rfl, hn16⟩
   have Lw2 := Le.of_below (Fz := Fz) (M := (Mo q M)) hB16
   replace LL := LL.trans Lw2
   replace LR := LR.trans Lw2
   replace hM := hM.mono Lw2
   replace hF := hF.mono Lw2
   replace hv := hv.mono Lw2
   replace He := He.mono Lw2
   replace Ow := xK Ow hB16
   obtain ⟨oxa16, oxd16, _⟩ := hn16.one
   refine jA rfl yu22 yY rfl rfl rfl rfl (yO rfl xS) rfl rfl rfl (fun w3 b17 N17 => ?_)
   have hBw3 := N17.below
   have nM17 := hM.new N17
   have B17 := N17.blk
   have Lw3 := Le.of_below (Fz := Fz) (M := (Mo q M)) hBw3
   replace LL := LL.trans Lw3
   replace LR := LR.trans Lw3
   replace hM := hM.mono Lw3
   replace hF := hF.mono Lw3
   replace hv := hv.mono Lw3
   replace He := He.mono Lw3
   replace hn16 := hn16.mono Lw3
   replace Ow := xK Ow hBw3
   refine ops_appendk rfl yu22 yY rfl rfl rfl rfl Ow (((KBlk.mk B17 nM17)).blk.slc ((KBlk.mk B17 nM17)).not (sz := 3) (n := 1) rfl (fun _ _ h => h) (by omega) (Nat.le_refl _)) (ones3 (by assumption) (by assumption)) (by omega) (by omega) (fun v18 w4 A18 G18 S18 => ?_)
   have Lw4 := Le.of_grown (Fz := Fz) (M := M) G18 S18 A18 Of
   have Omo18 := Om
   replace Of := jP (w' := w4) Of hF S18
   replace Om := jO (w' := w4) Om (fun k hk => hM k (.inr hk)) S18
   replace LR := LR.trans Lw4
   replace He := He.mono Lw4
   replace hn16 := hn16.mono Lw4
   clear Ow; have Ow := A18
   replace He := He.snoc (hn16.up (by omega))
   refine zD rfl rfl (zB (zC (zA rfl rfl (yR rfl rfl rfl (by omega) (zD rfl rfl (zB ?_))))))
   refine ⟨rfl, (k + 1, v18), (zV rfl (rfl) (zV rfl (by rw [Int.natCast_add]; rfl) (zG rfl yF))), ?_, ?_⟩
   dsimp only
   refine ⟨LR, by omega, Of, Om, _, Ow, ?_⟩
   rw [(qL 0 (show k < (jQ ns).length by rw [natsQ_len]; omega)).1, natsQ_getD (show k < ns.length by omega)]
   exact He
   dsimp only
   omega
  ·refine xF (xG (zF (zC (zA rfl rfl (zD rfl rfl (zB (zZ ?_)))))))
   refine zN ⟨[_], ⟨rfl, trivial⟩, ?_⟩
   dsimp only [zW]
   obtain rfl : k = ns.length := by omega
   rw [← natsQ_len ns, List.take_length] at He
   rw [← natsQ_len ns] at Ow
   subst hFz
   exact ⟨LL.below (Nat.le_refl _), _, rfl, ⟨row_own Ow Om (by rw [natsQ_len]; omega) (Elems.mono He.e fun _ _ ⟨a, b, c, e0, h0⟩ => ⟨a, b, c, e0, h0.less fun k c => .inr c⟩)⟩⟩
end Go.Proofs.YtfkejnlohkgbgaaGreatDoor
set_option maxRecDepth 100000
namespace Go.Proofs.YtfkejnlohkgbgaaGreatDoor
open Go.SL Go.RowKit Go.Proofs Tryz
variable {M : Nat → Prop} {w : World}
def dyS (lo hi : Rat) : Nat := ((List.range (lo.den * hi.den + 1)).find? fun s => decide (dA lo hi s)).getD 0
def eN (lo hi : Rat) : Rat := if lo < 0 then 0 else dS lo (dyS lo hi)
def qJ (lo hi : Rat) : Rat := if lo < hi then (if 0 < hi then eN lo hi else -(eN (-hi) (-lo))) else 0
theorem dy_some {lo hi : Rat} (h : lo < hi) : dA lo hi (lo.den * hi.den) := by
  apply dyOk_of
  have hx : (lo.num * hi.den : Int) < hi.num * lo.den := (Rat.lt_iff lo hi).1 h
  have d1 := lo.den_nz
  have d2 := hi.den_nz
  have hD : (0 : Rat) < ((lo.den * hi.den : Nat) : Rat) := by
    exact (show ((0 : Nat) : Rat) = 0 from rfl) ▸ Rat.natCast_lt_natCast.2 (Nat.mul_pos (by omega) (by omega))
  have e : (hi - lo) * ((lo.den * hi.den : Nat) : Rat) = ((hi.num * lo.den - lo.num * hi.den : Int) : Rat) := by
    have a1 : hi * (hi.den : Rat) = (hi.num : Rat) := den_self hi
    have a2 : lo * (lo.den : Rat) = (lo.num : Rat) := den_self lo
    rw [Rat.natCast_mul, Rat.intCast_sub, Rat.intCast_mul, Rat.intCast_mul]
    have b1 : ((lo.den : Int) : Rat) = (lo.den : Rat) := rfl
    have b2 : ((hi.den : Int) : Rat) = (hi.den : Rat) := rfl
    rw [b1, b2]; grind
  have h1 : (1 : Rat) ≤ (hi - lo) * ((lo.den * hi.den : Nat) : Rat) := by
    rw [e]
    exact (show ((1 : Int) : Rat) = 1 from rfl) ▸ Rat.intCast_le_intCast.2 (by omega)
  have h2 : ((lo.den * hi.den : Nat) : Rat) < p2 (lo.den * hi.den) := Rat.natCast_lt_natCast.2 Nat.lt_two_pow_self
  have hpos : 0 < hi - lo := by grind
  have h3 : ((lo.den * hi.den : Nat) : Rat) * (hi - lo) < p2 (lo.den * hi.den) * (hi - lo) := (mul_lt_r hpos).2 h2
  grind
theorem dyS_spec {lo hi : Rat} (h : lo < hi) : dA lo hi (dyS lo hi) ∧ ∀ r, r < dyS lo hi → ¬ dA lo hi r := by
  unfold dyS
  cases hf : (List.range (lo.den * hi.den + 1)).find? fun s => decide (dA lo hi s) with
  | none =>
    rw [List.find?_eq_none] at hf
    have := hf (lo.den * hi.den) (by simp)
    simp [dy_some h] at this
  | some s =>
    rw [List.find?_range_eq_some] at hf
    obtain ⟨h1, _, h3⟩ := hf
    simp only [decide_eq_true_eq] at h1
    refine ⟨h1, fun r hr => ?_⟩
    have := h3 r hr
    simpa using this
theorem betw_ok {lo hi : Rat} (h : lo < hi) : lo < qJ lo hi ∧ qJ lo hi < hi := by
  unfold qJ
  rw [if_pos h]
  split
  · rename_i h0
    unfold eN
    split
    · rename_i h1; exact ⟨h1, h0⟩
    · exact dy_between (dyS_spec h).1
  · rename_i h0
    unfold eN
    split
    · rename_i h1; grind
    · have h2 : -hi < -lo := by grind
      have := dy_between (dyS_spec h2).1
      grind
def uA (l : List Rat) : List Rat := (List.range (l.length - 1)).map fun i => qJ (l.getD i 0) (l.getD (i + 1) 0)
theorem kB (l : List Rat) : (uA l).length = l.length - 1 := by simp [uA]
theorem midsQ_getD {l : List Rat} {s : Nat} (h : s < l.length - 1) : (uA l).getD s 0 = qJ (l.getD s 0) (l.getD (s + 1) 0) := by
  unfold uA
  simp [List.getD_eq_getElem?_getD, List.getElem?_map, h]
structure RpG (M : Nat → Prop) (w : World × Gb) (b o : Nat) (cl : List Value) : Prop where
  not : ¬ Mg M w.2 b
  at_ : ∀ (q : Nat) (u : Value), cl[q]? = some u → w.1.cell? ⟨b, o + q, none⟩ = some u
  lt : b < w.1.heap.size
theorem RpG.rg {M : Nat → Prop} {ka : Nat} {x y : World × Gb} {b o : Nat} {cl : List Value} (h : RpG M x b o cl) (r : Rg ka x y) : RpG M y b o cl := by
  have hk := (r.le (M := M)).kept h.lt h.not
  exact ⟨hk.1, fun q u hq => (World.cell?_of_block (w := x.1) (a := ⟨b, o + q, none⟩) hk.2).trans (h.at_ q u hq), Nat.lt_of_lt_of_le h.lt r.size⟩
theorem own_ins {sz : Nat} {e : TypeId} {v : Value} {m b : Nat} {xs : List Value} {w : World} {M : Nat → Prop} (h : w.ownsRow 0 e sz v m xs) (hb : w.heap.size ≤ b) (Om : ∀ k, v.ownBlock = some k → ¬ M k) : ∀ k, v.ownBlock = some k → ¬ Ins b M k := fun k hk hi => by
  rcases hi with rfl | hi
  · obtain ⟨_, ⟨rfl, _⟩ | ⟨g, cap, cur, rfl, _, h5, _⟩⟩ := h
    · simp [Value.ownBlock] at hk
    · simp [Value.ownBlock] at hk
      have := (Array.getElem?_eq_some_iff.1 h5).1
      omega
  · exact Om k hk hi
theorem ops_idxrm {P : Program} {r : Option Nat} {N : Nat} {all : Array Oper} {K : Pd} {D : List Deferred} {E : Env} {w : World} {rest : List Oper} {M : Nat → Prop} {α : Type} {R : bT α} {dflt : α} {d : Nat} {x ix : Operand} {t e t' : TypeId} {pos : String} {af : Array Edge} {sz bytes : Nat} {z : Value} {v : Value} {l : List α} {k : IntKind} {i : Int} (j : Nat) (hd : Nat.blt d N = true)
    (ht : P.underlying t = some (.slice e)) (he : Sz P e sz bytes z) (hx : ev E x = some v) (hi : ev E ix = some (.int k i)) (hv : RowOf R sz M w v l) (hij : i = (j : Int)) (hj : j < l.length)
    (h : ∀ b off us, us.length = sz → R M w (l.getD j dflt) us → (∀ (q : Nat) (u : Value), us[q]? = some u → w.cell? ⟨b, off + q, none⟩ = some u) → ¬ M b → Ops P r N all K rest D ((d, .pointer (some ⟨b, off, none⟩)) :: E) w) :
    Ops P r N all K (⟨some d, .indexAddr t x ix, t', pos, af, none⟩ :: rest) D E w := by
  obtain ⟨cs, h1, h2⟩ := hv
  obtain ⟨us, h3, h4, h5⟩ := h2 j (l.getD j dflt) (by simp [List.getElem?_eq_getElem hj])
  exact cT j hd ht he hx hi h1 hij hj fun b off hb hc => h b off us h3 h5 (fun q u hq => hc q u (h4 q u hq)) hb
end Go.Proofs.YtfkejnlohkgbgaaGreatDoor
set_option maxRecDepth 100000
namespace Go.Proofs.YtfkejnlohkgbgaaGreatDoor
open Go.SL Go.RowKit Go.Proofs Tryz
variable {M : Nat → Prop} {w : World}
def RLD (M : Nat → Prop) (p : Rat) (m : Nat) : Nat → List Value → World → Prop := fun s vs w => ∃ sb a d, vs = [.int .i64 ((s : Nat) : Int), .agg #[.bool sb, a, d]] ∧ RC M w m (p * p2 s) sb a d
theorem p2_succ (s : Nat) : p2 (s + 1) = p2 s * 2 := by
  unfold p2; rw [Nat.pow_succ, Rat.natCast_mul]; rfl
theorem p2_zero : p2 0 = 1 := rfl
theorem dbl_mk (q : Rat) : mkRat (zv (decide (q.num < 0)) (limbs (val (limbs q.num.natAbs) * 2 ^ 1))) (val (limbs q.den)) = q * 2 := by
  have e : zv (decide (q.num < 0)) (limbs (val (limbs q.num.natAbs) * 2 ^ 1)) = q.num * 2 := by
    rw [zv, zY, zY]
    by_cases h : q.num < 0
    · rw [if_pos (by simpa using h)]; omega
    · rw [if_neg (by simpa using h)]; omega
  rw [e, zY]
  have h1 : mkRat (q.num * 2) q.den = mkRat q.num q.den * mkRat 2 1 := by rw [Rat.mkRat_mul_mkRat]; simp
  rw [h1, Rat.mkRat_self]; rfl
theorem p2_len {p : Rat} {n s : Nat} (h1 : (limbs p.num.natAbs).length ≤ n) (h2 : (limbs p.den).length ≤ n) : (limbs (p * p2 s).num.natAbs).length ≤ n + (s / 32 + 1) ∧ (limbs (p * p2 s).den).length ≤ n := by
  have e : p * p2 s = mkRat (p.num * (2 ^ s : Nat)) p.den := by
    have : mkRat (p.num * ((2 ^ s : Nat) : Int)) p.den = mkRat p.num p.den * mkRat ((2 ^ s : Nat) : Int) 1 := by rw [Rat.mkRat_mul_mkRat]; simp
    rw [this, Rat.mkRat_self, Rat.mkRat_one]; rfl
  have hm := cJ (z := p.num * (2 ^ s : Nat)) p.den_nz
  rw [e, hm.2.1, hm.2.2]
  have hs : 2 ^ s < 4294967296 ^ (s / 32 + 1) := by
    rw [show 4294967296 = 2 ^ 32 by decide, ← Nat.pow_mul]
    exact Nat.pow_lt_pow_right (by omega) (by omega)
  refine ⟨yZ (Nat.lt_of_le_of_lt (Nat.div_le_self _ _) ?_), Nat.le_trans (yZ (Nat.lt_of_le_of_lt (Nat.div_le_self _ _) (xT h2))) (Nat.le_refl _)⟩
  rw [Int.natAbs_mul, Int.natAbs_natCast]
  exact gV (xT h1) hs
theorem nat_kept {M Mt : Nat → Prop} {w0 w w' : World} {n : Nat} {v : Value} {xs : List Nat} (h : IsNat Mt w v xs) (hMt : ∀ k, ¬ Mt k → ¬ M k ∧ (k < w0.heap.size ∨ n ≤ k)) (k1 : Keep M w0 w) (k2 : Keep M w0 w') (kc : KeptC n w w') : IsNat Mt w' v xs := by
  obtain ⟨⟨h1, h2, ad, cap, h3, h4, h5⟩, hlt⟩ := h
  refine ⟨⟨h1, h2, ad, cap, h3, h4, ?_⟩, hlt⟩
  rcases h5 with h5 | ⟨b, off, h5, h6, cur, t, fz, h7, h8⟩
  · exact .inl h5
  · refine .inr ⟨b, off, h5, h6, cur, t, fz, ?_, h8⟩
    obtain ⟨g1, g2⟩ := hMt b h6
    rcases g2 with g2 | g2
    · exact (k2.2 b g2 g1).trans ((k1.2 b g2 g1).symm.trans h7)
    · exact kc b cur t fz g2 h7
theorem Le.lowd {n : Nat} {M M' : Nat → Prop} {w w' : World} (l : Le (· < n) M w M' w') (hn : n ≤ w.heap.size) : LowD n w w' := ⟨l.os, l.tape, l.output, l.size, fun k hk => l.frz k (by omega) hk⟩
theorem range_split {S s : Nat} (h : s < S + 1) : List.range (S + 1) = (List.range (S + 1)).take s ++ s :: (List.range (S + 1)).drop (s + 1) ∧ (List.range (S + 1)).take (s + 1) = (List.range (S + 1)).take s ++ [s] := by
  have h1 := qL (l := List.range (S + 1)) 0 (s := s) (by simpa using h)
  have h2 : (List.range (S + 1)).getD s 0 = s := by simp [List.getD_eq_getElem?_getD, h]
  rw [h2] at h1; exact ⟨h1.2, h1.1⟩
theorem nat_start {M M0 : Nat → Prop} {w0 w : World} {v : Value} {xs : List Nat} (h : IsNat M0 w0 v xs) (hM : ∀ k, M k → M0 k ∨ w0.heap.size ≤ k) (k0 : Keep M0 w0 w) : IsNat M w v xs := by
  obtain ⟨⟨h1, h2, ad, cap, h3, h4, h5⟩, hlt⟩ := h
  refine ⟨⟨h1, h2, ad, cap, h3, h4, ?_⟩, hlt⟩
  rcases h5 with h5 | ⟨b, off, h5, h6, cur, t, fz, h7, h8⟩
  · exact .inl h5
  · have hb := (Array.getElem?_eq_some_iff.1 h7).1
    exact .inr ⟨b, off, h5, fun c => (hM b c).elim h6 (fun c => by omega), cur, t, fz, (k0.2 b hb h6).trans h7, h8⟩
theorem tab_start {M M0 : Nat → Prop} {w0 w : World} (h : Tab M0 w0) (hM : ∀ k, M k → M0 k ∨ w0.heap.size ≤ k) (k0 : Keep M0 w0 w) : Tab M w := by
  obtain ⟨h1, cur, t, fz, h7, h8⟩ := h
  have hb := (Array.getElem?_eq_some_iff.1 h7).1
  exact ⟨fun c => (hM 0 c).elim h1 (fun c => by omega), cur, t, fz, (k0.2 0 hb h1).trans h7, h8⟩
theorem up1_len (q : Nat) : (limbs (val (limbs q) * 2 ^ 1)).length ≤ (limbs q).length + 1 := by
  rw [zY]
  have h := xT (Nat.le_refl (limbs q).length)
  exact yZ (by rw [Nat.pow_succ]; omega)
theorem doubled1_c {M0 : Nat → Prop} {w0 : World} {b1 S m : Nat} {p : Rat} {s0 : Bool} {v u : Value} {xs ds : List Nat} (hT0 : Tab M0 w0) (B10 : Blk w0 b1 33 [.bool s0, v, u]) (n1 : ¬ M0 b1) (hv0 : IsNat M0 w0 v xs) (hu0 : IsNat M0 w0 u ds) (hl1 : xs.length ≤ 301) (hl2 : ds.length ≤ 301) (hp : mkRat (zv s0 xs) (val ds) = p) (hm : m ≤ 10000) (hSb : S ≤ 100000) (hlen : ∀ s, s ≤ S → aY (p * p2 s) m) (hM00 : OkM M0 w0) :
    IterL False prog 192 [.pointer (some ⟨b1, 0, none⟩)] M0 w0 (List.range (S + 1)) (RLD M0 p m) := by
 intro n l w J X hfin hn0 hn hdr hJ hkeep hJd hXd hy
 have hJn : ∀ w, ¬ J (List.range (S + 1)) w := hfin.resolve_left (fun h => h)
 obtain ⟨M, hMe⟩ : ∃ M : Nat → Prop, M = fun k => M0 k ∨ (w0.heap.size ≤ k ∧ k < n) := ⟨_, rfl⟩
 have hMt1 : ∀ k, ¬ M k → ¬ M0 k ∧ (k < w0.heap.size ∨ n ≤ k) := fun k hk => by
   subst hMe
   refine ⟨fun c => hk (.inl c), ?_⟩
   rcases Nat.lt_or_ge k w0.heap.size with h | h
   · exact .inl h
   · rcases Nat.lt_or_ge k n with h2 | h2
     · exact absurd (.inr ⟨h, h2⟩) hk
     · exact .inr h2
 have hMn : ∀ k, M k → k < n := fun k hk => by
   subst hMe
   rcases hk with h | h
   · exact Nat.lt_of_lt_of_le (hM00 k h) hn0
   · exact h.2
 have hM0i : ∀ k, M k → M0 k ∨ w0.heap.size ≤ k := fun k hk => by subst hMe; exact hk.imp id (fun h => h.1)
 have hsub0 : ∀ k, M0 k → M k := fun k hk => by subst hMe; exact .inl hk
 have hk0 := hkeep _ _ hJ
 have hM : OkM M w := fun k hk => Nat.lt_of_lt_of_le (hMn k hk) hn
 have hT : Tab M w := tab_start hT0 hM0i hk0
 have hv : IsNat M w v xs := nat_start hv0 hM0i hk0
 have hu : IsNat M w u ds := nat_start hu0 hM0i hk0
 have B1 : Blk w b1 33 [.bool s0, v, u] := hk0.blk B10 n1
 obtain ⟨Fz, hFz⟩ : ∃ Fz : Nat → Prop, Fz = (· < n) := ⟨_, rfl⟩
 have hF : FOk Fz w := by subst hFz; exact fun k h => Nat.lt_of_lt_of_le h hn
 have hpp : p * p2 0 = p := by rw [p2_zero]; exact Rat.mul_one p
 have LL := Le.refl Fz M w
 have hM0 := hM
 refine zQ func192 rfl ntmps192 rfl ?_
 refine zF (zC (yE rfl xE yY rfl B1 rfl rfl (zI rfl bY rfl rfl ?_)))
 refine (aW (s := s0) hT hv hu (by omega) (by omega) hM).mono ?_
 rintro v6 w1 ⟨hB6, b6, a6, d6, rfl, hz6, B6, hn6, hm6⟩
 have nF6 : ¬ Fz b6 := fun c => by have := hF _ c; omega
 have nM6 : ¬ M b6 := fun c => by have := hM _ c; omega
 have Lw1 := Le.of_below_ins (Fz := Fz) (M := M) (b := b6) hB6 hz6 B6.lt
 have ne1_6 : b1 ≠ b6 := by have := B1.lt; omega
 obtain ⟨LL, hM, hF, hT⟩ := up4 Lw1 LL hM hF hT
 have hx6 := cE hn6 hn6 hm6 B6
 replace hm6 := cE hm6 hn6 hm6 B6
 replace hn6 := hx6
 clear hx6
 rw [hp, ← hpp] at B6 hn6 hm6
 have hb6 : n ≤ b6 := Nat.le_trans hn hz6
 have hMi : ∀ k, Ins b6 M k → M0 k ∨ w0.heap.size ≤ k := fun k hk => hk.elim (fun e => .inr (by omega)) (hM0i k)
 have hsub : ∀ k, M0 k → Ins b6 M k := fun k hk => .inr (hsub0 k hk)
 refine zD rfl rfl (zB (zF (zC (zD rfl rfl (zB (yA ?_))))))
 refine xN (σ := Nat) [(0, _), (3, _)] (fun s => [(4, .int .i64 ((s : Nat) : Int))]) (fun s w2 => J ((List.range (S + 1)).take s) w2 ∧ n ≤ w2.heap.size ∧ s ≤ S ∧ OkM (Ins b6 M) w2 ∧ Tab (Ins b6 M) w2 ∧ ∃ a d, Blk w2 b6 167 [.bool (decide ((p * p2 s).num < 0)), a, d] ∧ IsNat (Ins b6 M) w2 a (limbs (p * p2 s).num.natAbs) ∧ IsNat (Ins b6 M) w2 d (limbs (p * p2 s).den)) (fun s => S + 1 - s) (0) (zG rfl (zG rfl (zG rfl yF))) ?_ (fun s w2 hJ => ?_)
 · exact ⟨hJd _ _ _ hJ (Le.lowd (by subst hFz; exact LL) hn), Nat.le_trans hn LL.size, by omega, hM, hT, _, _, B6, hn6, hm6⟩
 ·clear B6 hn6 hm6 hT hM hF LL; obtain ⟨hJ1, hn1, hs, hM, hT, a6, d6, B6, hnq, hmq⟩ := hJ
  have hF : FOk Fz w2 := by subst hFz; exact fun k h => Nat.lt_of_lt_of_le h hn1
  have LL := Le.refl Fz (Ins b6 M) w2
  refine zF (zF (zC (zA rfl rfl (zA rfl rfl (zA rfl rfl (yJ rfl rfl (zL 0 rfl yu167 rfl rfl yY rfl rfl (yE rfl xE yY rfl B6 rfl rfl (kO rfl rfl rfl ?_)))))))))
  refine (hy _ _ _ _ _ (range_split (Nat.lt_succ_of_le hs)).1 hJ1 ⟨_, _, _, rfl, rfl, hnq.less hsub, hmq.less hsub, hlen s hs⟩ hn1).mono ?_
  rintro v13 w3 ⟨hn2, hkc, hyn⟩
  refine zB ?_
  refine qX rfl (fun hc0 => ?_) (fun hc0 => ?_)
  ·refine yH (zF (yA (zF (zC ?_))))
   have hJ2 : J ((List.range (S + 1)).take s ++ [s]) w3 := by
     rcases hyn with ⟨_, h⟩ | ⟨e, _⟩
     · exact h
     · subst e; simp at hc0
   have hk3 := hkeep _ _ hJ2
   replace B6 := hkc b6 _ _ _ hb6 B6
   have hMt2 : ∀ k, ¬ Ins b6 M k → ¬ M0 k ∧ (k < w0.heap.size ∨ n ≤ k) := fun k hk => hMt1 k (fun c => hk (.inr c))
   replace hnq := nat_kept hnq hMt2 (hkeep _ _ hJ1) hk3 hkc
   replace hmq := nat_kept hmq hMt2 (hkeep _ _ hJ1) hk3 hkc
   replace hM : OkM (Ins b6 M) w3 := fun k hk => hk.elim (fun e => by rw [e]; exact Blk.lt B6) (fun h => Nat.lt_of_lt_of_le (hMn k h) hn2)
   replace hT : Tab (Ins b6 M) w3 := tab_start hT0 hMi hk3
   replace B6 : Blk w3 b6 167 _ := B6
   have hF : FOk Fz w3 := by subst hFz; exact fun k h => Nat.lt_of_lt_of_le h hn2
   have LL := Le.refl Fz (Ins b6 M) w3
   refine zA rfl rfl (zA rfl rfl (yJ rfl rfl (zL 0 rfl yu167 rfl rfl yY rfl rfl (zL 0 rfl yu33 rfl rfl yX rfl rfl (zL 1 rfl yu31 rfl rfl xU rfl rfl (zR rfl yS rfl B6 rfl (zI rfl eG rfl rfl ?_)))))))
   refine (up_c (j := 1) hnq (by have := (hlen s hs).1; omega) hM).mono ?_
   rintro v23 w4 ⟨hB23, hf23⟩
   have hM23 := hM
   have hS23 := LL.size
   obtain ⟨LL, hM, hT, hmq, B6⟩ := ub5 hB23 LL hM hT hmq B6
   rw [show kR 1 65536 = 1 by decide] at hf23
   have hn23 := hf23.nat hM23
   refine yJ rfl rfl (zL 0 rfl yu167 rfl rfl yY rfl rfl (zL 0 rfl yu33 rfl rfl yX rfl rfl (zL 1 rfl yu31 rfl rfl xU rfl rfl (jM (i := 1) rfl rfl xU B6 (by first | rfl | exact yG (by assumption) | assumption | exact yD (by assumption)) (by simp) (fun w5 Cw5 B6 => ?_)))))
   have Lw5 := Le.of_chg (M := (Ins b6 M)) Cw5 zS nF6
   obtain ⟨LL, hM, hT, hmq, hn23⟩ := up5 Lw5 LL hM hT hmq hn23
   refine zB (zC (zA rfl rfl (zI rfl bod191 rfl rfl ?_)))
   refine (rnorm_c (Fz := NB _ b6) (M := (Ins b6 M)) hT B6 hn23 hmq (by have := (hlen s hs).1; have := up1_len (p * p2 s).num.natAbs; omega) (by have := (hlen s hs).2; omega) zS bP cV hM).mono ?_
   rintro v29 w6 ⟨rfl, Lqw6, a29, d29, B6b, hn29, hm29⟩
   have Lw6 := Lqw6.refz nF6
   obtain ⟨LL, hM, hT⟩ := up3 Lw6 LL hM hT
   clear B6; have B6 := B6b
   rw [dbl_mk, Rat.mul_assoc, ← p2_succ] at B6 hn29 hm29
   refine zB (zC (zA rfl rfl (yR rfl rfl rfl (by omega) (zD rfl rfl (zB ?_)))))
   refine ⟨rfl, s + 1, (zV rfl (by rw [Int.natCast_add]; rfl) (zG rfl (zG rfl yF))), ?_, ?_⟩
   have hJ3 := hJd _ _ _ hJ2 (Le.lowd (by subst hFz; exact LL) hn2)
   rw [← (range_split (Nat.lt_succ_of_le hs)).2] at hJ3
   have hs3 : s + 1 ≤ S := by
     rcases Nat.lt_or_ge s S with h | h
     · exact h
     · exact absurd (by rw [List.take_of_length_le (by simp; omega)] at hJ3; exact hJ3) (hJn _)
   exact ⟨hJ3, Nat.le_trans hn2 LL.size, hs3, hM, hT, _, _, B6, hn29, hm29⟩
   omega
  ·refine xF (xG ?_)
   refine zN ⟨[], trivial, ?_⟩
   dsimp only [zW]
   right
   rcases hyn with ⟨e, _⟩ | ⟨_, h⟩
   · subst e; simp at hc0
   · exact h
end Go.Proofs.YtfkejnlohkgbgaaGreatDoor
set_option maxRecDepth 100000
namespace Go.Proofs.YtfkejnlohkgbgaaGreatDoor
open Go.SL Go.RowKit Go.Proofs Tryz
variable {M : Nat → Prop} {w : World}
theorem above_q {n : Nat} {p : Rat} {s : Bool} {a d : Value} (hT : Tab M w) (h1 : QC M w n p s a d) (hn : n ≤ 90000) (hM : OkM M w) : CallsV prog 142 [.agg #[.bool s, a, d]] w fun r w' => Below w.heap.size w w' ∧ ∃ xsr xar, r = .agg #[.bool xsr, xar] ∧ ZC M w' (n + 3) (aS p) xsr xar := by
  have hl := h1.rlen
  obtain ⟨xs, ds, i1, i2, i3, i4, rfl⟩ := h1.ex
  refine (above_r hT i1 i2 (by omega) (by omega) hM).mono fun r w' ⟨hB, x, e, k1⟩ => ⟨hB, _, _, e, rfl, k1, ?_⟩
  obtain ⟨P, hP⟩ : ∃ P, P = mkRat (zv s xs) (val ds) := ⟨_, rfl⟩
  rw [← hP] at hl ⊢
  have h2 := floor_len hl.1
  have h3 := xT h2
  unfold aS
  refine yZ (Nat.lt_of_le_of_lt (Int.natAbs_add_le _ _) ?_)
  have h4 : (1 : Nat) < 4294967296 ^ (n + 1 + 1) := Nat.one_lt_pow (by omega) (by omega)
  exact uW h3 h4
theorem up_q {x n k : Nat} {a : Value} (h : NQ M w n x a) (hn : n ≤ 90000) (hk : k ≤ 65536) (hM : OkM M w) : CallsV prog 143 [a, .int .i64 ((k : Nat) : Int)] w fun r w' => Below w.heap.size w w' ∧ ∃ xar, r = xar ∧ NC M w' (n + (k / 32 + 1)) (x * 2 ^ k) xar := by
  obtain ⟨xs, h1, h2, rfl⟩ := h.ex
  refine (up_c h1 (by omega) hM).mono fun r w' ⟨hB, hf⟩ => ⟨hB, _, rfl, ?_⟩
  have hc : kR ((k : Nat) : Int) 65536 = k := by unfold kR; omega
  rw [hc] at hf
  refine ⟨hf.nat hM, ?_⟩
  have h3 : val xs < 4294967296 ^ n := Nat.lt_of_lt_of_le (xT (Nat.le_refl _)) (Nat.pow_le_pow_right (by omega) (Nat.le_trans (yI xs h1.lt) h2))
  have hs : 2 ^ k < 4294967296 ^ (k / 32 + 1) := by
    rw [show 4294967296 = 2 ^ 32 by decide, ← Nat.pow_mul]
    exact Nat.pow_lt_pow_right (by omega) (by omega)
  exact yZ (gV h3 hs)
theorem nat_lit1 {bb : Nat} {ty : TypeId} (hk : KBlk M w bb ty [.int .u32 1]) : IsNat M w (.slice (some ⟨bb, 0, none⟩) 1 1) [1] :=
  ⟨hk.blk.slc hk.not (sz := 1) (n := 1) rfl (fun _ _ h => h) (by omega) (Nat.le_refl _), by simp⟩
theorem nq_lit1 {bb : Nat} {ty : TypeId} (hk : KBlk M w bb ty [.int .u32 1]) : NQ M w 1 1 (.slice (some ⟨bb, 0, none⟩) 1 1) := ⟨[1], nat_lit1 hk, by simp, by decide⟩
theorem zq_n {n x : Nat} {a : Value} (h : NC M w n x a) : ZQ M w n ((x : Nat) : Int) false a := ⟨_, h.num, h.len, by rw [zv, zY]; rfl⟩
theorem qc_z1 {n : Nat} {z : Int} {s : Bool} {a d : Value} (h : ZC M w n z s a) (k : NQ M w 1 1 d) : QC M w (n + 1) ((z : Int) : Rat) s a d := by
  obtain ⟨ds, k1, k2, k3⟩ := k.ex
  exact ⟨_, ds, h.num, k1, by have := h.len; omega, by omega, by rw [h.sgn, gY, k3, Rat.mkRat_one]⟩
theorem qc_zd {n m : Nat} {z : Int} {k : Nat} {s : Bool} {a d : Value} (h : ZC M w n z s a) (hk : NC M w m k d) : QC M w (max n m) (mkRat z k) s a d :=
  ⟨_, _, h.num, hk.num, by have := h.len; omega, by have := hk.len; omega, by rw [h.sgn, gY, zY]⟩
theorem mk_p2 {q : Rat} {k : Nat} : mkRat (q.num * ((2 ^ k : Nat) : Int)) q.den = q * p2 k := by
  have : mkRat (q.num * ((2 ^ k : Nat) : Int)) q.den = mkRat q.num q.den * mkRat ((2 ^ k : Nat) : Int) 1 := by rw [Rat.mkRat_mul_mkRat]; simp
  rw [this, Rat.mkRat_self, Rat.mkRat_one]; rfl
theorem qc_top {n m k : Nat} {q : Rat} {s : Bool} {a d : Value} (h : ZQ M w n ((q.num.natAbs * 2 ^ k : Nat) : Int) s a) (hd : NC M w m q.den d) (h0 : 0 < q) : QC M w (max n m) (q * p2 k) s a d := by
  obtain ⟨xs, k1, k2, k3⟩ := h.ex
  refine ⟨xs, _, k1, hd.num, by omega, by have := hd.len; omega, ?_⟩
  have hq : 0 ≤ q.num := by have := Rat.num_nonneg.2 (Rat.le_of_lt h0); exact this
  rw [k3, zY, ← mk_p2, Int.natCast_mul, Int.natAbs_of_nonneg hq]
theorem dyS_eq {lo hi : Rat} {s : Nat} (h : lo < hi) (h1 : dA lo hi s) (h2 : ∀ r, r < s → ¬ dA lo hi r) : dyS lo hi = s := by
  obtain ⟨k1, k2⟩ := dyS_spec h
  rcases Nat.lt_trichotomy (dyS lo hi) s with c | c | c
  · exact absurd k1 (h2 _ c)
  · exact c
  · exact absurd h1 (k2 _ c)
end Go.Proofs.YtfkejnlohkgbgaaGreatDoor
set_option maxRecDepth 100000
namespace Go.Proofs.YtfkejnlohkgbgaaGreatDoor
open Go.SL Go.RowKit Go.Proofs Tryz
variable {M : Nat → Prop} {w : World}
theorem range_at {S x : Nat} {pre post : List Nat} (h : List.range (S + 1) = pre ++ x :: post) : x = pre.length ∧ x ≤ S := by
  have hl := congrArg List.length h
  have hg := congrArg (fun l => l[pre.length]?) h
  simp at hl hg
  have : pre.length < S + 1 := by omega
  rw [List.getElem?_range this] at hg
  injection hg with hg
  omega
theorem doubled_c {S m n0 : Nat} {p : Rat} {s0 : Bool} {v u : Value} (hT : Tab M w) (h0 : QC M w n0 p s0 v u) (hl0 : n0 ≤ 301) (hm : m ≤ 10000) (hSb : S ≤ 100000) (hlen : ∀ s, s ≤ S → aY (p * p2 s) m) (hM : OkM M w) :
    CallsV prog 141 [.agg #[.bool s0, v, u]] w fun r w' => Below w.heap.size w w' ∧ ∃ cap, r = .func (.func 192) #[] cap ∧ IterL False prog 192 cap.toList M w' (List.range (S + 1)) (RLD M p m) := by
 obtain ⟨Fz, hFz, hF, LL⟩ := fz0 M w
 have hM0 := hM
 refine zQ func141 rfl ntmps141 rfl ?_
 refine zF (zC (xL rfl rfl (fun w1 b1 N1 => ?_)))
 obtain ⟨_, nF1, nM1, Lw1, B1⟩ := nza hF hM N1
 obtain ⟨LL, hM, h0, hT⟩ := up4 Lw1 LL hM h0 hT
 refine zD rfl rfl (zB (zF (zC (qC rfl rfl (zD rfl rfl (zB (zZ ?_)))))))
 refine zN ⟨[_], ⟨rfl, trivial⟩, ?_⟩
 dsimp only [zW]
 subst hFz
 refine ⟨LL.below (Nat.le_refl _), _, rfl, ?_⟩
 obtain ⟨xs, ds, i, j, l1, l2, e⟩ := (h0.less fun k c => zO c).ex
 exact doubled1_c (hT.less fun k c => zO c) B1 (fun c => nM1 c) i j (by omega) (by omega) e hm hSb hlen (fun k c => hM k (zO c))
set_option maxHeartbeats 2000000 in
theorem betwp_c {p : Rat} {n0 : Nat} {xs0 : Bool} {xa0 xd0 : Value} {q : Rat} {n1 : Nat} {xs1 : Bool} {xa1 xd1 : Value} (hT : Tab M w) (h0 : QC M w n0 p xs0 xa0 xd0) (h1 : QC M w n1 q xs1 xa1 xd1) (hl0 : n0 ≤ 301) (hl1 : n1 ≤ 301) (hq : 0 < q) (hM : OkM M w) :
    CallsV prog 76 [.agg #[.bool xs0, xa0, xd0], .agg #[.bool xs1, xa1, xd1]] w fun r w' => Below w.heap.size w w' ∧ ∃ xsr xar xdr, r = .tuple #[.agg #[.bool xsr, xar, xdr], .bool (decide (p < q))] ∧ RC M w' (2 * (n0 + n1) + 40) (qJ p q) xsr xar xdr := by
 obtain ⟨Fz, hFz, hF, LL⟩ := fz0 M w
 obtain ⟨oxa0, oxd0, _⟩ := h0.one
 obtain ⟨oxa1, oxd1, _⟩ := h1.one
 have h1' := h1
 obtain ⟨ys, es, hv1, hu1, hy1, hy2, hqe⟩ := h1'.ex
 have hrp : aY p (n0 + 1) := h0.rlen
 have hrq : aY q (n1 + 1) := h1.rlen
 have hlen : ∀ s, s ≤ (32 * (n0 + 1 + (n1 + 1))) → aY (p * p2 s) (n0 + 1 + ((32 * (n0 + 1 + (n1 + 1))) / 32 + 1)) := fun s hs => by
   have := p2_len (s := s) hrp.1 hrp.2
   exact ⟨by omega, by omega⟩
 have hno := @dy_bound p q (n0 + 1) (n1 + 1)
 have hM0 := hM
 have Mk : Marks M w.heap.size [] w := kC
 refine zQ func76 rfl ntmps76 rfl ?_
 refine zF (zC (xL rfl rfl (fun w1 b2 N2 => ?_)))
 obtain ⟨_, nF2, nM2, Lw1, B2⟩ := nza hF hM N2
 obtain ⟨LL, hM, hF, hT, h0, h1, hv1, hu1, Mk⟩ := up9 Lw1 LL hM hF hT h0 h1 hv1 hu1 Mk
 refine xL rfl rfl (fun w2 b3 N3 => ?_)
 obtain ⟨hBw2, nF3, nM3, Lw2, B3⟩ := nza hF hM N3
 obtain ⟨B2, ne2_3⟩ := bn B2 N3
 obtain ⟨LL, hM, hF, hT, h0, h1, hv1, hu1, Mk⟩ := up9 Lw2 LL hM hF hT h0 h1 hv1 hu1 Mk
 refine yU rfl yY (fun w3 b4 N4 => ?_)
 obtain ⟨hBw3, nF4, nM4, Lw3, B4⟩ := nza hF hM N4
 obtain ⟨B2, ne2_4⟩ := bn B2 N4
 obtain ⟨B3, ne3_4⟩ := bn B3 N4
 obtain ⟨LL, hM, hF, hT, h0, h1, hv1, hu1, Mk⟩ := up9 Lw3 LL hM hF hT h0 h1 hv1 hu1 Mk
 refine zD rfl rfl (zB (aM (zF (zF (zC (yE rfl xE yY rfl B2 rfl rfl (yE rfl xE yY rfl B3 rfl rfl (zI rfl eL rfl rfl ?_))))))))
 refine (dL hT h0 h1 (by omega) (by omega) hM).mono ?_
 rintro v12 w4 ⟨hB12, rfl⟩
 obtain ⟨LL, hM, hF, hT, h0, h1, hv1, hu1, Mk, B2, B3, B4⟩ := eV hB12 LL hM hF hT h0 h1 hv1 hu1 Mk B2 B3 B4
 refine gU rfl rfl rfl (zB ?_)
 refine zX rfl (fun hc0 => ?_) (fun hc0 => ?_)
 ·have hlt : ¬ p < q := fun c => by have := kW.1 hc0; grind
  have hbq : qJ p q = ((0 : Nat) : Rat) := by unfold qJ; rw [if_neg hlt]; rfl
  refine zF (zC (zI rfl bod77 rfl rfl ?_))
  refine (rofn_q (n := 0)  (by omega) hM).mono ?_
  rintro v14 w5 ⟨hB14, xs14, xa14, xd14, rfl, hn14⟩
  obtain ⟨LL, Mk, B4⟩ := ub3 hB14 LL Mk B4
  obtain ⟨oxa14, oxd14, _⟩ := hn14.one
  refine yK rfl rfl yY B4 rfl rfl (xC rfl (xC (by first | rfl | assumption) (xC (by first | rfl | assumption) gD))) rfl (fun w6 Cw6 B4 => ?_)
  have Lw6 := Le.of_chg (M := (Ins b4 (Ins b3 (Ins b2 M)))) Cw6 zS nF4
  obtain ⟨LL, Mk, hn14⟩ := up3 Lw6 LL Mk hn14
  refine zD rfl rfl (zB (zZ ?_))
  refine jS Mk (fun wz hz => ⟨[_, _], ⟨⟨_, rfl, xI xE yY (B4.drift hz (fun c => c)) rfl rfl⟩, rfl, trivial⟩, ?_⟩)
  dsimp only [zW]
  rw [hbq, decide_eq_false hlt]
  subst hFz
  exact ⟨SL.Below.drift (LL.below (Nat.le_refl _)) hz (Nat.le_refl _), _, _, _, rfl, ((hn14.less fun k c => zO (zO (zO c))).up (by omega)).drift hz noT⟩
 ·have hlt : p < q := by have := mt kW.2 hc0; grind
  refine yH (zF (zF (zC (yE rfl xE yY rfl B3 rfl rfl (zI rfl bod138 rfl rfl ?_)))))
  refine (rsgn_q hT h1 (by omega) hM).mono ?_
  rintro v16 w7 ⟨hB16, rfl⟩
  obtain ⟨LL, hM, hF, hT, h0, h1, hv1, hu1, Mk, B2, B3, B4⟩ := eV hB16 LL hM hF hT h0 h1 hv1 hu1 Mk B2 B3 B4
  refine dY rfl rfl rfl (aO (d := 17) rfl (decide_eq_false fun c => by have := sgnR_le.1 c; grind) (zB (gQ rfl (yH (zF (zF (zC (yE rfl xE yY rfl B2 rfl rfl (zI rfl bod138 rfl rfl ?_)))))))))
  refine (rsgn_q hT h0 (by omega) hM).mono ?_
  rintro v30 w8 ⟨hB30, rfl⟩
  obtain ⟨LL, hM, hF, hT, h0, h1, hv1, hu1, Mk, B2, B3, B4⟩ := eV hB30 LL hM hF hT h0 h1 hv1 hu1 Mk B2 B3 B4
  refine jG rfl rfl rfl (zB ?_)
  refine zX rfl (fun hc1 => ?_) (fun hc1 => ?_)
  ·refine zF (zC (zI rfl bod77 rfl rfl ?_))
   refine (rofn_q (n := 0)  (by omega) hM).mono ?_
   rintro v32 w9 ⟨hB32, xs32, xa32, xd32, rfl, hn32⟩
   obtain ⟨LL, Mk, B4⟩ := ub3 hB32 LL Mk B4
   obtain ⟨oxa32, oxd32, _⟩ := hn32.one
   refine yK rfl rfl yY B4 rfl rfl (xC rfl (xC (by first | rfl | assumption) (xC (by first | rfl | assumption) gD))) rfl (fun w10 Cw10 B4 => ?_)
   have Lw10 := Le.of_chg (M := (Ins b4 (Ins b3 (Ins b2 M)))) Cw10 zS nF4
   obtain ⟨LL, Mk, hn32⟩ := up3 Lw10 LL Mk hn32
   refine zD rfl rfl (zB (zZ ?_))
   refine jS Mk (fun wz hz => ⟨[_, _], ⟨⟨_, rfl, xI xE yY (B4.drift hz (fun c => c)) rfl rfl⟩, rfl, trivial⟩, ?_⟩)
   dsimp only [zW]
   have hbq2 : qJ p q = ((0 : Nat) : Rat) := by unfold qJ eN; rw [if_pos hlt, if_pos hq, if_pos (sgnR_lt.1 (by assumption))]; rfl
   rw [hbq2, decide_eq_true hlt]
   subst hFz
   exact ⟨SL.Below.drift (LL.below (Nat.le_refl _)) hz (Nat.le_refl _), _, _, _, rfl, ((hn32.less fun k c => zO (zO (zO c))).up (by omega)).drift hz noT⟩
  ·refine yH (zF (zC (yE rfl xE yY rfl B3 rfl rfl (zI rfl bY rfl rfl ?_))))
   refine (aW (s := xs1) hT hv1 hu1 (by omega) (by omega) hM).mono ?_
   rintro v34 w11 ⟨hB34, b34, a34, d34, rfl, hz34, B34, hn34, hm34⟩
   have nF34 : ¬ Fz b34 := fun c => by have := hF _ c; omega
   have nM34 : ¬ (Ins b4 (Ins b3 (Ins b2 M))) b34 := fun c => by have := hM _ c; omega
   have Lw11 := Le.of_below_ins (Fz := Fz) (M := (Ins b4 (Ins b3 (Ins b2 M)))) (b := b34) hB34 hz34 B34.lt
   have ne2_34 : b2 ≠ b34 := by have := B2.lt; omega
   replace B2 := B2.below hB34
   have ne3_34 : b3 ≠ b34 := by have := B3.lt; omega
   replace B3 := B3.below hB34
   have ne4_34 : b4 ≠ b34 := by have := B4.lt; omega
   replace B4 := B4.below hB34
   obtain ⟨LL, hM, hF, hT, h0, h1, Mk⟩ := up7 Lw11 LL hM hF hT h0 h1 Mk
   have hx34 := cE hn34 hn34 hm34 B34
   replace hm34 := cE hm34 hn34 hm34 B34
   replace hn34 := hx34
   clear hx34
   rw [hqe] at B34 hn34 hm34
   have hr34 : RC _ _ (n1 + 1) q _ a34 d34 := ⟨rfl, hn34, hm34, hrq⟩
   obtain ⟨oa34, od34, _⟩ := hr34.one
   refine yU rfl sz159 (fun w12 b6 N6 => ?_)
   obtain ⟨hBw12, nF6, nM6, Lw12, B6⟩ := nz hF hM N6
   obtain ⟨B2, ne2_6⟩ := bn B2 N6
   obtain ⟨B3, ne3_6⟩ := bn B3 N6
   obtain ⟨B4, ne4_6⟩ := bn B4 N6
   have lt34_6 := B34.lt
   replace B34 := B34.below hBw12
   have ne6_34 : b6 ≠ b34 := by have := N6.at_; omega
   obtain ⟨LL, hM, hF, hT, h0, h1, Mk, hr34⟩ := up8 Lw12 LL hM hF hT h0 h1 Mk hr34
   refine jB rfl rfl sz159 B6 (by first | rfl | assumption) (fun w13 Cw13 B6 => ?_)
   have Lw13 := Le.of_chg (M := (Ins b6 (Ins b34 (Ins b4 (Ins b3 (Ins b2 M)))))) Cw13 zS nF6
   obtain ⟨LL, hM, hF, hT, h0, h1, Mk, hr34⟩ := up8 Lw13 LL hM hF hT h0 h1 Mk hr34
   replace B2 := B2.other Cw13 ne2_6
   replace B3 := B3.other Cw13 ne3_6
   replace B4 := B4.other Cw13 ne4_6
   replace B34 := B34.other Cw13 ne6_34.symm
   refine zB (zF (bB (zF (zF (zC (yE rfl xE yY rfl B2 rfl rfl (zI rfl bod141 rfl rfl ?_)))))))
   refine (doubled_c (S := (32 * (n0 + 1 + (n1 + 1)))) (m := (n0 + 1 + ((32 * (n0 + 1 + (n1 + 1))) / 32 + 1))) (M := (Ins b6 (Ins b34 (Ins b4 (Ins b3 (Ins b2 M)))))) hT h0 hl0 (by omega) (by omega) hlen hM).mono ?_
   rintro v36 w14 ⟨hB36, cap36, rfl, hit36⟩
   obtain ⟨LL, hM, hF, hT, h0, h1, Mk, hr34, B2, B3, B4, B34, B6⟩ := ub13 hB36 LL hM hF hT h0 h1 Mk hr34 B2 B3 B4 B34 B6
   refine zB (yA ?_)
   have hMS0 := hM
   have hszLL := LL.size
   have Mold0 := Mk.old (Nat.le_refl _)
   refine SL.wp_rangel (fin := False) (M := (Ins b6 (Ins b34 (Ins b4 (Ins b3 (Ins b2 M)))))) (List.range ((32 * (n0 + 1 + (n1 + 1))) + 1)) ((RLD (Ins b6 (Ins b34 (Ins b4 (Ins b3 (Ins b2 M))))) p (n0 + 1 + ((32 * (n0 + 1 + (n1 + 1))) / 32 + 1)))) rfl bod192 (hit36) (trivial) (fun _ _ _ ⟨_, _, _, h, _⟩ => by rw [h]; rfl) rfl [(4, _), (6, _)] (zG rfl (zG rfl yF)) (fun pre w15 => Le Fz (Ins b6 (Ins b34 (Ins b4 (Ins b3 (Ins b2 M))))) w14 (Ins b6 (Ins b34 (Ins b4 (Ins b3 (Ins b2 M))))) w15 ∧ Blk w15 b2 33 [.bool xs0, xa0, xd0] ∧ Blk w15 b3 33 [.bool xs1, xa1, xd1] ∧ Blk w15 b4 33 [.bool false, .slice none 0 0, .slice none 0 0] ∧ Blk w15 b6 159 [.pointer (some ⟨b34, 0, none⟩)] ∧ Blk w15 b34 167 [.bool (decide (q.num < 0)), a34, d34] ∧ ∀ r, r < pre.length → ¬ dA p q r) (fun id w => id = 0 ∧ Le Fz (Ins b6 (Ins b34 (Ins b4 (Ins b3 (Ins b2 M))))) w14 (Ins b6 (Ins b34 (Ins b4 (Ins b3 (Ins b2 M))))) w ∧ Blk w b2 33 [.bool xs0, xa0, xd0] ∧ Blk w b3 33 [.bool xs1, xa1, xd1] ∧ ∃ sx ax dx, Blk w b4 33 [.bool sx, ax, dx] ∧ RC (Ins b6 (Ins b34 (Ins b4 (Ins b3 (Ins b2 M))))) w (2 * (n0 + n1) + 40) (qJ p q) sx ax dx) (fun _ => False) (.inr fun w hJ => hJ.2.2.2.2.2.2 (32 * (n0 + 1 + (n1 + 1))) (by simp) (hno hlt (xT hrp.2) (xT hrq.2))) (⟨Le.refl _ _ _, B2, B3, B4, B6, B34, fun r hr => by simp at hr⟩) (fun pre w h => h.1.keep) (fun pre w1 w2 hJ hd => (by obtain ⟨h1, h2, h3, h4, h5, h6, h7⟩ := hJ; exact ⟨h1.low hd (Nat.le_refl _), h2.low hd B2.lt, h3.low hd B3.lt, h4.low hd B4.lt, h5.low hd B6.lt, h6.low hd B34.lt, h7⟩)) (fun _ _ _ ⟨hi, h⟩ hd => ⟨hi, h.1.drift0 hd (Nat.le_refl _), h.2.1.drift hd (fun c => c), h.2.2.1.drift hd (fun c => c), let ⟨a, b, c, h1, h2⟩ := h.2.2.2; ⟨a, b, c, h1.drift hd (fun c => c), h2.drift hd noT⟩⟩) (fun _ _ h _ => h) ?_ ?_ (?_) (fun _ h _ => h.elim)
   ·intro pre x vs post l b w15 ρ δ hx hJ hv hnl hnb hl hb hbc
    clear B2 B3 B4 B6 B34; obtain ⟨LS0, B2, B3, B4, B6, B34, hdy⟩ := hJ
    obtain ⟨hM, hF, hT, h0, Mk, hr34⟩ := up6 LS0 hM hF hT h0 Mk hr34
    have RL : Rec (Ins b6 (Ins b34 (Ins b4 (Ins b3 (Ins b2 M))))) w15 l (.loop ρ) := ⟨hl, (gE hMS0 hnl)⟩
    have RB : Rec (Ins b6 (Ins b34 (Ins b4 (Ins b3 (Ins b2 M))))) w15 b δ := ⟨hb, (gE hMS0 hnb)⟩
    have hs1 : w15.heap.size ≤ w15.heap.size := Nat.le_refl _
    have hk1 : KeptC w14.heap.size w15 w15 := KeptC.refl _ _
    have hMk : ∀ k, (Ins b6 (Ins b34 (Ins b4 (Ins b3 (Ins b2 M))))) k → k < w14.heap.size ∨ w15.heap.size ≤ k := fun k c => .inl (hMS0 k c)
    obtain ⟨sx, ax, dx, rfl, hvx⟩ := hv
    have hxl : x = pre.length ∧ x ≤ (32 * (n0 + 1 + (n1 + 1))) := range_at hx
    obtain ⟨hxp, hxS⟩ := hxl
    obtain ⟨oax, odx, _⟩ := hvx.one
    refine zF (zC (zD rfl rfl (zB (zC (yU rfl yY (fun w16 b8 N8 => ?_))))))
    obtain ⟨hBw16, nF8, nM8, Lw16, B8⟩ := nza hF hM N8
    obtain ⟨B2, ne2_8⟩ := bn B2 N8
    obtain ⟨B3, ne3_8⟩ := bn B3 N8
    obtain ⟨B4, ne4_8⟩ := bn B4 N8
    obtain ⟨B6, ne6_8⟩ := bn B6 N8
    have lt34_8 := B34.lt
    replace B34 := B34.below hBw16
    have ne8_34 : b8 ≠ b34 := by have := N8.at_; omega
    obtain ⟨LS0, hM, hF, hT, h0, hr34, RL, RB, hvx⟩ := up9 Lw16 LS0 hM hF hT h0 hr34 RL RB hvx
    replace hk1 := hk1.le hMk Lw16 hs1
    replace hMk := Le.mlow hMk Lw16 hs1
    replace hs1 := Nat.le_trans hs1 Lw16.size
    refine yK rfl rfl yY B8 rfl rfl (xC rfl (xC (by first | rfl | assumption) (xC (by first | rfl | assumption) gD))) rfl (fun w17 Cw17 B8 => ?_)
    have Lw17 := Le.of_chg (M := (Ins b8 (Ins b6 (Ins b34 (Ins b4 (Ins b3 (Ins b2 M))))))) Cw17 zS nF8
    obtain ⟨LS0, hM, hF, hT, h0, hr34, RL, RB, hvx⟩ := up9 Lw17 LS0 hM hF hT h0 hr34 RL RB hvx
    replace hk1 := hk1.le hMk Lw17 hs1
    replace hMk := Le.mlow hMk Lw17 hs1
    replace hs1 := Nat.le_trans hs1 Lw17.size
    replace B2 := B2.other Cw17 ne2_8
    replace B3 := B3.other Cw17 ne3_8
    replace B4 := B4.other Cw17 ne4_8
    replace B6 := B6.other Cw17 ne6_8
    replace B34 := B34.other Cw17 ne8_34.symm
    refine zB ?_
    refine ⟨RL.at_, RB.at_, rfl, fun w18 ρ' δ' hdr hl' hb' hbc' => ?_⟩
    replace LS0 := LS0.drift0 hdr (Nat.le_refl _)
    replace hM := hM.drift hdr
    replace hF := hF.drift hdr
    replace hs1 := Nat.le_trans hs1 hdr.size
    replace hk1 := hk1.drift hdr
    replace hT := hT.drift hdr noT
    replace h0 := h0.drift hdr noT
    replace hr34 := hr34.drift hdr noT
    replace hvx := hvx.drift hdr noT
    replace RL : Rec (Ins b8 (Ins b6 (Ins b34 (Ins b4 (Ins b3 (Ins b2 M)))))) w18 l (.loop ρ') := ⟨hl', RL.not⟩
    replace RB : Rec (Ins b8 (Ins b6 (Ins b34 (Ins b4 (Ins b3 (Ins b2 M)))))) w18 b δ' := ⟨hb', RB.not⟩
    replace B2 := B2.drift hdr (fun c => c)
    replace B3 := B3.drift hdr (fun c => c)
    replace B4 := B4.drift hdr (fun c => c)
    replace B6 := B6.drift hdr (fun c => c)
    replace B34 := B34.drift hdr (fun c => c)
    replace B8 := B8.drift hdr (fun c => c)
    refine yA (zF (zC (yE rfl xE yY rfl B8 rfl rfl (zI rfl bod142 rfl rfl ?_))))
    refine (above_q hT hvx.gen (by omega) hM).mono ?_
    rintro v40 w19 ⟨hB40, xs40, xa40, rfl, hn40⟩
    have Lw19 := Le.of_below (Fz := Fz) (M := (Ins b8 (Ins b6 (Ins b34 (Ins b4 (Ins b3 (Ins b2 M))))))) hB40
    obtain ⟨LS0, hM, hF, hT, h0, hr34, RL, RB⟩ := ub8 hB40 LS0 hM hF hT h0 hr34 RL RB
    replace hk1 := hk1.le hMk Lw19 hs1
    replace hMk := Le.mlow hMk Lw19 hs1
    replace hs1 := Nat.le_trans hs1 Lw19.size
    replace B2 := B2.below hB40
    replace B3 := B3.below hB40
    replace B4 := B4.below hB40
    replace B6 := B6.below hB40
    replace B34 := B34.below hB40
    replace B8 := B8.below hB40
    obtain ⟨oxa40, _⟩ := hn40.one
    refine yU rfl yX (fun w20 b9 N9 => ?_)
    obtain ⟨hBw20, nF9, nM9, Lw20, B9⟩ := nza hF hM N9
    obtain ⟨B2, ne2_9⟩ := bn B2 N9
    obtain ⟨B3, ne3_9⟩ := bn B3 N9
    obtain ⟨B4, ne4_9⟩ := bn B4 N9
    obtain ⟨B6, ne6_9⟩ := bn B6 N9
    have lt34_9 := B34.lt
    replace B34 := B34.below hBw20
    have ne9_34 : b9 ≠ b34 := by have := N9.at_; omega
    have lt8_9 := B8.lt
    have ne8_9 := N9.ne lt8_9
    obtain ⟨LS0, hM, hT, h0, hr34, RL, RB, hn40⟩ := up8 Lw20 LS0 hM hT h0 hr34 RL RB hn40
    replace hk1 := hk1.le hMk Lw20 hs1
    replace hMk := Le.mlow hMk Lw20 hs1
    replace hs1 := Nat.le_trans hs1 Lw20.size
    refine yK rfl rfl yX B9 rfl rfl (xC rfl (xC (by first | rfl | assumption) gD)) rfl (fun w21 Cw21 B9 => ?_)
    have Lw21 := Le.of_chg (M := (Ins b9 (Ins b8 (Ins b6 (Ins b34 (Ins b4 (Ins b3 (Ins b2 M)))))))) Cw21 zS nF9
    obtain ⟨LS0, hM, hT, h0, hr34, RL, RB, hn40⟩ := up8 Lw21 LS0 hM hT h0 hr34 RL RB hn40
    replace hk1 := hk1.le hMk Lw21 hs1
    replace hMk := Le.mlow hMk Lw21 hs1
    replace hs1 := Nat.le_trans hs1 Lw21.size
    replace B2 := B2.other Cw21 ne2_9
    replace B3 := B3.other Cw21 ne3_9
    replace B4 := B4.other Cw21 ne4_9
    replace B6 := B6.other Cw21 ne6_9
    replace B34 := B34.other Cw21 ne9_34.symm
    refine zB (zF ?_)
    refine xQ (R := Rb) (R' := Rb) (st := none) jR 18 [4, 6, 7, 8, 9, 37, 38, 39, 40, 41, 42, 43, 44, 45, 46, 47, 48, 49, 50, 51, 52, 53, 54, 55, 56, 57, 58] (by decide +kernel) xO xY (xX _) (fun _ _ _ h => by cases h) ?_
    apply zK
    ·intro wq hR hst
     refine zJ rfl rfl (zE ?_)
     have Lq := Le.of_below (Fz := Fz) (M := (Ins b9 (Ins b8 (Ins b6 (Ins b34 (Ins b4 (Ins b3 (Ins b2 M)))))))) hR
     obtain ⟨LS0, RL, RB⟩ := ub3 hR LS0 RL RB
     replace hMk := Le.mlow hMk Lq hs1
     replace B9 := B9.below hR
     exact yE rfl xV yX rfl B9 rfl rfl (on0 rfl)
    refine zP (fun v w => NQ (Ins b9 (Ins b8 (Ins b6 (Ins b34 (Ins b4 (Ins b3 (Ins b2 M))))))) w 1 1 v) (fun _ _ _ h r => h.mono (Fz := fun _ => False) (Le.of_below r)) (fun wq hR hst => ?_) ?_
    ·refine zE ?_
     have Lq := Le.of_below (Fz := Fz) (M := (Ins b9 (Ins b8 (Ins b6 (Ins b34 (Ins b4 (Ins b3 (Ins b2 M)))))))) hR
     obtain ⟨LS0, hM, RL, RB⟩ := ub4 hR LS0 hM RL RB
     replace hMk := Le.mlow hMk Lq hs1
     replace hs1 := Nat.le_trans hs1 Lq.size
     refine yP rfl yu29 yV rfl rfl rfl (by simp [Value.oneCell', lw]) rfl (fun w22 b42 N42 => ?_)
     have hBw22 := N42.below
     have nM42 := hM.new N42
     have B42 := N42.blk
     have Lw22 := Le.of_below (Fz := Fz) (M := (Ins b9 (Ins b8 (Ins b6 (Ins b34 (Ins b4 (Ins b3 (Ins b2 M)))))))) hBw22
     obtain ⟨LS0, RL, RB⟩ := ub3 hBw22 LS0 RL RB
     replace hMk := Le.mlow hMk Lw22 hs1
     have hn42 : IsNat (Ins b9 (Ins b8 (Ins b6 (Ins b34 (Ins b4 (Ins b3 (Ins b2 M))))))) w22 (.slice (some ⟨b42, 0, none⟩) 1 1) [1] := aI (xs := [1]) B42 nM42 rfl (by simp) (by simp)
     have hB42 := hBw22
     exact zB ⟨rfl, hB42, _, rfl, (nq_lit1 (KBlk.mk B42 nM42))⟩
    refine zP (vQC (Ins b9 (Ins b8 (Ins b6 (Ins b34 (Ins b4 (Ins b3 (Ins b2 M))))))) ((n0 + 1 + ((32 * (n0 + 1 + (n1 + 1))) / 32 + 1)) + 4) (((aS (p * p2 x) : Int) : Rat))) cM (fun wq hR hst => ?_) ?_
    ·refine zH rfl (yC rfl (fun v42 hp42 => ?_))
     have hn42 := hp42; obtain ⟨o42, _⟩ := hn42.one
     refine zE ?_
     have Lq := Le.of_below (Fz := Fz) (M := (Ins b9 (Ins b8 (Ins b6 (Ins b34 (Ins b4 (Ins b3 (Ins b2 M)))))))) hR
     obtain ⟨LS0, RL, RB, hn40⟩ := ub4 hR LS0 RL RB hn40
     replace hMk := Le.mlow hMk Lq hs1
     exact jF rfl cR rfl rfl (yO (rfl) (yO (gF (by first | rfl | assumption)) xS)) rfl (zB ⟨rfl, yB _, _, rfl, ⟨_, _, _, rfl, (qc_z1 hn40 hn42)⟩⟩)
    apply zK
    ·intro wq hR hst
     refine zJ rfl rfl (zE ?_)
     have Lq := Le.of_below (Fz := Fz) (M := (Ins b9 (Ins b8 (Ins b6 (Ins b34 (Ins b4 (Ins b3 (Ins b2 M)))))))) hR
     obtain ⟨LS0, RL, RB⟩ := ub3 hR LS0 RL RB
     replace hMk := Le.mlow hMk Lq hs1
     replace B6 := B6.below hR
     exact zR rfl flat159 rfl B6 rfl (on0 rfl)
    apply zK
    ·intro wq hR hst
     refine zH rfl (zE ?_)
     have Lq := Le.of_below (Fz := Fz) (M := (Ins b9 (Ins b8 (Ins b6 (Ins b34 (Ins b4 (Ins b3 (Ins b2 M)))))))) hR
     obtain ⟨LS0, RL, RB⟩ := ub3 hR LS0 RL RB
     replace hMk := Le.mlow hMk Lq hs1
     exact yJ rfl rfl (on0 rfl)
    apply zK
    ·intro wq hR hst
     refine zH rfl (zE ?_)
     have Lq := Le.of_below (Fz := Fz) (M := (Ins b9 (Ins b8 (Ins b6 (Ins b34 (Ins b4 (Ins b3 (Ins b2 M)))))))) hR
     obtain ⟨LS0, RL, RB⟩ := ub3 hR LS0 RL RB
     replace hMk := Le.mlow hMk Lq hs1
     exact zL 0 rfl yu167 rfl rfl yY rfl rfl (on0 rfl)
    apply zK
    ·intro wq hR hst
     refine zH rfl (zE ?_)
     have Lq := Le.of_below (Fz := Fz) (M := (Ins b9 (Ins b8 (Ins b6 (Ins b34 (Ins b4 (Ins b3 (Ins b2 M)))))))) hR
     obtain ⟨LS0, RL, RB⟩ := ub3 hR LS0 RL RB
     replace hMk := Le.mlow hMk Lq hs1
     exact zL 0 rfl yu33 rfl rfl yX rfl rfl (on0 rfl)
    apply zK
    ·intro wq hR hst
     refine zH rfl (zE ?_)
     have Lq := Le.of_below (Fz := Fz) (M := (Ins b9 (Ins b8 (Ins b6 (Ins b34 (Ins b4 (Ins b3 (Ins b2 M)))))))) hR
     obtain ⟨LS0, RL, RB⟩ := ub3 hR LS0 RL RB
     replace hMk := Le.mlow hMk Lq hs1
     exact zL 1 rfl yu31 rfl rfl xU rfl rfl (on0 rfl)
    apply zK
    ·intro wq hR hst
     refine zH rfl (zE ?_)
     have Lq := Le.of_below (Fz := Fz) (M := (Ins b9 (Ins b8 (Ins b6 (Ins b34 (Ins b4 (Ins b3 (Ins b2 M)))))))) hR
     obtain ⟨LS0, RL, RB⟩ := ub3 hR LS0 RL RB
     replace hMk := Le.mlow hMk Lq hs1
     replace B34 := B34.below hR
     exact zR rfl yS rfl B34 rfl (on0 rfl)
    refine zP (Ex (.int .i64 ((x : Nat) : Int))) xB (fun wq hR hst => ?_) ?_
    ·refine zJ rfl rfl (zE ?_)
     have Lq := Le.of_below (Fz := Fz) (M := (Ins b9 (Ins b8 (Ins b6 (Ins b34 (Ins b4 (Ins b3 (Ins b2 M)))))))) hR
     obtain ⟨LS0, RL, RB⟩ := ub3 hR LS0 RL RB
     replace hMk := Le.mlow hMk Lq hs1
     exact zA rfl rfl (on0 rfl)
    refine zP (fun v w => ∃ xa51, v = xa51 ∧ NC (Ins b9 (Ins b8 (Ins b6 (Ins b34 (Ins b4 (Ins b3 (Ins b2 M))))))) w ((n1 + 1) + (x / 32 + 1)) ((q.num.natAbs * 2 ^ x)) xa51) (fun _ _ _ ⟨xa51, e, h0⟩ r => ⟨xa51, e, h0.mono (Fz := fun _ => False) (Le.of_below r)⟩) (fun wq hR hst => ?_) ?_
    ·refine zH rfl (zH rfl (zE ?_))
     have Lq := Le.of_below (Fz := Fz) (M := (Ins b9 (Ins b8 (Ins b6 (Ins b34 (Ins b4 (Ins b3 (Ins b2 M)))))))) hR
     obtain ⟨LS0, hM, hr34, RL, RB⟩ := ub5 hR LS0 hM hr34 RL RB
     replace hMk := Le.mlow hMk Lq hs1
     replace hs1 := Nat.le_trans hs1 Lq.size
     refine zI rfl eG rfl rfl ?_
     refine (up_q hr34.z.n.gen (k := x) (by omega) (by omega) hM).mono ?_
     rintro v51 w23 ⟨hB51, xa51, rfl, hn51⟩
     have Lw23 := Le.of_below (Fz := Fz) (M := (Ins b9 (Ins b8 (Ins b6 (Ins b34 (Ins b4 (Ins b3 (Ins b2 M)))))))) hB51
     obtain ⟨LS0, RL, RB⟩ := ub3 hB51 LS0 RL RB
     replace hMk := Le.mlow hMk Lw23 hs1
     exact zB ⟨rfl, hB51, _, rfl, ⟨_, rfl, hn51⟩⟩
    refine zP (vZQ (Ins b9 (Ins b8 (Ins b6 (Ins b34 (Ins b4 (Ins b3 (Ins b2 M))))))) (n1 + 1 + (x / 32 + 1)) (((q.num.natAbs * 2 ^ x : Nat) : Int))) eQ (fun wq hR hst => ?_) ?_
    ·refine yC rfl (fun v51 hp51 => ?_)
     obtain ⟨xa51, rfl, hn51⟩ := hp51; obtain ⟨oxa51, _⟩ := hn51.one
     refine zE ?_
     have Lq := Le.of_below (Fz := Fz) (M := (Ins b9 (Ins b8 (Ins b6 (Ins b34 (Ins b4 (Ins b3 (Ins b2 M)))))))) hR
     obtain ⟨LS0, RL, RB⟩ := ub3 hR LS0 RL RB
     replace hMk := Le.mlow hMk Lq hs1
     exact kP rfl kG yX rfl (yO (gF (by first | rfl | assumption)) xS) rfl rfl (zB ⟨rfl, yB _, _, rfl, ⟨_, _, rfl, (zq_n hn51)⟩⟩)
    apply zK
    ·intro wq hR hst
     refine zJ rfl rfl (zE ?_)
     have Lq := Le.of_below (Fz := Fz) (M := (Ins b9 (Ins b8 (Ins b6 (Ins b34 (Ins b4 (Ins b3 (Ins b2 M)))))))) hR
     obtain ⟨LS0, RL, RB⟩ := ub3 hR LS0 RL RB
     replace hMk := Le.mlow hMk Lq hs1
     replace B6 := B6.below hR
     exact zR rfl flat159 rfl B6 rfl (on0 rfl)
    apply zK
    ·intro wq hR hst
     refine zH rfl (zE ?_)
     have Lq := Le.of_below (Fz := Fz) (M := (Ins b9 (Ins b8 (Ins b6 (Ins b34 (Ins b4 (Ins b3 (Ins b2 M)))))))) hR
     obtain ⟨LS0, RL, RB⟩ := ub3 hR LS0 RL RB
     replace hMk := Le.mlow hMk Lq hs1
     exact yJ rfl rfl (on0 rfl)
    apply zK
    ·intro wq hR hst
     refine zH rfl (zE ?_)
     have Lq := Le.of_below (Fz := Fz) (M := (Ins b9 (Ins b8 (Ins b6 (Ins b34 (Ins b4 (Ins b3 (Ins b2 M)))))))) hR
     obtain ⟨LS0, RL, RB⟩ := ub3 hR LS0 RL RB
     replace hMk := Le.mlow hMk Lq hs1
     exact zL 0 rfl yu167 rfl rfl yY rfl rfl (on0 rfl)
    apply zK
    ·intro wq hR hst
     refine zH rfl (zE ?_)
     have Lq := Le.of_below (Fz := Fz) (M := (Ins b9 (Ins b8 (Ins b6 (Ins b34 (Ins b4 (Ins b3 (Ins b2 M)))))))) hR
     obtain ⟨LS0, RL, RB⟩ := ub3 hR LS0 RL RB
     replace hMk := Le.mlow hMk Lq hs1
     exact zL 2 rfl yu33 rfl rfl xU rfl rfl (on0 rfl)
    apply zK
    ·intro wq hR hst
     refine zH rfl (zE ?_)
     have Lq := Le.of_below (Fz := Fz) (M := (Ins b9 (Ins b8 (Ins b6 (Ins b34 (Ins b4 (Ins b3 (Ins b2 M)))))))) hR
     obtain ⟨LS0, RL, RB⟩ := ub3 hR LS0 RL RB
     replace hMk := Le.mlow hMk Lq hs1
     replace B34 := B34.below hR
     exact zR rfl yS rfl B34 rfl (on0 rfl)
    refine zP (vQC (Ins b9 (Ins b8 (Ins b6 (Ins b34 (Ins b4 (Ins b3 (Ins b2 M))))))) (max (n1 + 1 + (x / 32 + 1)) (n1 + 1)) (q * p2 x)) cM (fun wq hR hst => ?_) ?_
    ·refine yC rfl (fun v52 hp52 => ?_)
     obtain ⟨xs52, xa52, rfl, hn52⟩ := hp52; obtain ⟨oxa52, _⟩ := hn52.one
     refine zH rfl (zE ?_)
     have Lq := Le.of_below (Fz := Fz) (M := (Ins b9 (Ins b8 (Ins b6 (Ins b34 (Ins b4 (Ins b3 (Ins b2 M)))))))) hR
     obtain ⟨LS0, hr34, RL, RB⟩ := ub4 hR LS0 hr34 RL RB
     replace hMk := Le.mlow hMk Lq hs1
     exact jF rfl cR rfl rfl (yO (rfl) (yO (gF (by first | rfl | assumption)) xS)) rfl (zB ⟨rfl, yB _, _, rfl, ⟨_, _, _, rfl, (qc_top hn52 hr34.d hq)⟩⟩)
    refine xR (fun wq13 hR13 hpost13 => ?_)
    refine zJ rfl rfl (zJ rfl rfl (zJ rfl rfl (zJ rfl rfl (zJ rfl rfl (zJ rfl rfl (zJ rfl rfl (zJ rfl rfl (zJ rfl rfl (zH rfl (yC rfl (fun v42 hp42 => ?_)))))))))))
    have hn42 := hp42; obtain ⟨o42, _⟩ := hn42.one
    refine yC rfl (fun v43 hp43 => ?_)
    obtain ⟨xs43, xa43, xd43, rfl, hn43⟩ := hp43; obtain ⟨oxa43, oxd43, _⟩ := hn43.one
    refine zH rfl (zH rfl (zH rfl (zH rfl (zH rfl (zH rfl (zH rfl (yC rfl (fun v51 hp51 => ?_))))))))
    obtain ⟨xa51, rfl, hn51⟩ := hp51; obtain ⟨oxa51, _⟩ := hn51.one
    refine yC rfl (fun v52 hp52 => ?_)
    obtain ⟨xs52, xa52, rfl, hn52⟩ := hp52; obtain ⟨oxa52, _⟩ := hn52.one
    refine zH rfl (zH rfl (zH rfl (zH rfl (zH rfl (yC rfl (fun v58 hp58 => ?_))))))
    obtain ⟨xs58, xa58, xd58, rfl, hn58⟩ := hp58; obtain ⟨oxa58, oxd58, _⟩ := hn58.one
    refine zE ?_
    simp only [List.drop_succ_cons, List.drop_zero, List.drop_nil, List.toList_toArray]
    have Lwq13 := Le.of_below (Fz := Fz) (M := (Ins b9 (Ins b8 (Ins b6 (Ins b34 (Ins b4 (Ins b3 (Ins b2 M)))))))) hR13
    obtain ⟨LS0, hM, hT, h0, RL, RB, hn40⟩ := ub7 hR13 LS0 hM hT h0 RL RB hn40
    replace hk1 := hk1.le hMk Lwq13 hs1
    replace hMk := Le.mlow hMk Lwq13 hs1
    replace hs1 := Nat.le_trans hs1 Lwq13.size
    replace B2 := B2.below hR13
    replace B3 := B3.below hR13
    replace B4 := B4.below hR13
    replace B6 := B6.below hR13
    replace B34 := B34.below hR13
    replace B9 := B9.below hR13
    refine zI rfl eL rfl rfl ?_
    refine (dL hT hn43 hn58 (by omega) (by omega) hM).mono ?_
    rintro v59 w24 ⟨hB59, rfl⟩
    have Lw24 := Le.of_below (Fz := Fz) (M := (Ins b9 (Ins b8 (Ins b6 (Ins b34 (Ins b4 (Ins b3 (Ins b2 M)))))))) hB59
    obtain ⟨LS0, hM, hT, h0, RL, RB, hn40⟩ := ub7 hB59 LS0 hM hT h0 RL RB hn40
    replace hk1 := hk1.le hMk Lw24 hs1
    replace hMk := Le.mlow hMk Lw24 hs1
    replace hs1 := Nat.le_trans hs1 Lw24.size
    replace B2 := B2.below hB59
    replace B3 := B3.below hB59
    replace B4 := B4.below hB59
    replace B6 := B6.below hB59
    replace B34 := B34.below hB59
    replace B9 := B9.below hB59
    refine jG rfl rfl rfl (zB ?_)
    refine zX rfl (fun hc2 => ?_) (fun hc2 => ?_)
    ·refine zF ?_
     refine xQ (R := Rb) (R' := Rb) (st := none) jR 4 [4, 6, 7, 8, 9, 37, 38, 39, 40, 41, 42, 43, 44, 45, 46, 47, 48, 49, 50, 51, 52, 53, 54, 55, 56, 57, 58, 59, 60, 61, 62, 63, 64] (by decide +kernel) xO xY (xX _) (fun _ _ _ h => by cases h) ?_
     apply zK
     ·intro wq hR hst
      refine zJ rfl rfl (zE ?_)
      have Lq := Le.of_below (Fz := Fz) (M := (Ins b9 (Ins b8 (Ins b6 (Ins b34 (Ins b4 (Ins b3 (Ins b2 M)))))))) hR
      obtain ⟨LS0, RL, RB⟩ := ub3 hR LS0 RL RB
      replace hMk := Le.mlow hMk Lq hs1
      replace B9 := B9.below hR
      exact yE rfl xV yX rfl B9 rfl rfl (on0 rfl)
     refine zP (fun v w => NQ (Ins b9 (Ins b8 (Ins b6 (Ins b34 (Ins b4 (Ins b3 (Ins b2 M))))))) w 1 1 v) (fun _ _ _ h r => h.mono (Fz := fun _ => False) (Le.of_below r)) (fun wq hR hst => ?_) ?_
     ·refine zE ?_
      have Lq := Le.of_below (Fz := Fz) (M := (Ins b9 (Ins b8 (Ins b6 (Ins b34 (Ins b4 (Ins b3 (Ins b2 M)))))))) hR
      obtain ⟨LS0, hM, RL, RB⟩ := ub4 hR LS0 hM RL RB
      replace hMk := Le.mlow hMk Lq hs1
      replace hs1 := Nat.le_trans hs1 Lq.size
      refine yP rfl yu29 yV rfl rfl rfl (by simp [Value.oneCell', lw]) rfl (fun w25 b62 N62 => ?_)
      have hBw25 := N62.below
      have nM62 := hM.new N62
      have B62 := N62.blk
      have Lw25 := Le.of_below (Fz := Fz) (M := (Ins b9 (Ins b8 (Ins b6 (Ins b34 (Ins b4 (Ins b3 (Ins b2 M)))))))) hBw25
      obtain ⟨LS0, RL, RB⟩ := ub3 hBw25 LS0 RL RB
      replace hMk := Le.mlow hMk Lw25 hs1
      have hn62 : IsNat (Ins b9 (Ins b8 (Ins b6 (Ins b34 (Ins b4 (Ins b3 (Ins b2 M))))))) w25 (.slice (some ⟨b62, 0, none⟩) 1 1) [1] := aI (xs := [1]) B62 nM62 rfl (by simp) (by simp)
      have hB62 := hBw25
      exact zB ⟨rfl, hB62, _, rfl, (nq_lit1 (KBlk.mk B62 nM62))⟩
     refine zP (Ex (.int .i64 ((x : Nat) : Int))) xB (fun wq hR hst => ?_) ?_
     ·refine zJ rfl rfl (zE ?_)
      have Lq := Le.of_below (Fz := Fz) (M := (Ins b9 (Ins b8 (Ins b6 (Ins b34 (Ins b4 (Ins b3 (Ins b2 M)))))))) hR
      obtain ⟨LS0, RL, RB⟩ := ub3 hR LS0 RL RB
      replace hMk := Le.mlow hMk Lq hs1
      exact zA rfl rfl (on0 rfl)
     refine zP (fun v w => ∃ xa64, v = xa64 ∧ NC (Ins b9 (Ins b8 (Ins b6 (Ins b34 (Ins b4 (Ins b3 (Ins b2 M))))))) w (1 + (x / 32 + 1)) ((1 * 2 ^ x)) xa64) (fun _ _ _ ⟨xa64, e, h0⟩ r => ⟨xa64, e, h0.mono (Fz := fun _ => False) (Le.of_below r)⟩) (fun wq hR hst => ?_) ?_
     ·refine yC rfl (fun v62 hp62 => ?_)
      have hn62 := hp62; obtain ⟨o62, _⟩ := hn62.one
      refine zH rfl (zE ?_)
      have Lq := Le.of_below (Fz := Fz) (M := (Ins b9 (Ins b8 (Ins b6 (Ins b34 (Ins b4 (Ins b3 (Ins b2 M)))))))) hR
      obtain ⟨LS0, hM, RL, RB⟩ := ub4 hR LS0 hM RL RB
      replace hMk := Le.mlow hMk Lq hs1
      replace hs1 := Nat.le_trans hs1 Lq.size
      refine zI rfl eG rfl rfl ?_
      refine (up_q hn62 (k := x) (by omega) (by omega) hM).mono ?_
      rintro v64 w26 ⟨hB64, xa64, rfl, hn64⟩
      have Lw26 := Le.of_below (Fz := Fz) (M := (Ins b9 (Ins b8 (Ins b6 (Ins b34 (Ins b4 (Ins b3 (Ins b2 M)))))))) hB64
      obtain ⟨LS0, RL, RB⟩ := ub3 hB64 LS0 RL RB
      replace hMk := Le.mlow hMk Lw26 hs1
      exact zB ⟨rfl, hB64, _, rfl, ⟨_, rfl, hn64⟩⟩
     refine xR (fun wq14 hR14 hpost14 => ?_)
     refine zJ rfl rfl (zJ rfl rfl (zJ rfl rfl (zJ rfl rfl (zJ rfl rfl (zJ rfl rfl (zJ rfl rfl (zJ rfl rfl (zJ rfl rfl (zJ rfl rfl (zJ rfl rfl (zJ rfl rfl (zJ rfl rfl (zJ rfl rfl (zJ rfl rfl ?_))))))))))))))
     refine zJ rfl rfl (zJ rfl rfl (zJ rfl rfl (zJ rfl rfl (zJ rfl rfl (zJ rfl rfl (zJ rfl rfl (zJ rfl rfl (zJ rfl rfl (zJ rfl rfl (zJ rfl rfl (zJ rfl rfl (zJ rfl rfl (zJ rfl rfl (zH rfl ?_))))))))))))))
     refine yC rfl (fun v62 hp62 => ?_)
     have hn62 := hp62; obtain ⟨o62, _⟩ := hn62.one
     refine zH rfl (yC rfl (fun v64 hp64 => ?_))
     obtain ⟨xa64, rfl, hn64⟩ := hp64; obtain ⟨oxa64, _⟩ := hn64.one
     refine zE ?_
     simp only [List.drop_succ_cons, List.drop_zero, List.drop_nil, List.toList_toArray]
     have Lwq14 := Le.of_below (Fz := Fz) (M := (Ins b9 (Ins b8 (Ins b6 (Ins b34 (Ins b4 (Ins b3 (Ins b2 M)))))))) hR14
     obtain ⟨LS0, hM, hT, RL, RB, hn40⟩ := ub6 hR14 LS0 hM hT RL RB hn40
     replace hk1 := hk1.le hMk Lwq14 hs1
     replace hMk := Le.mlow hMk Lwq14 hs1
     replace hs1 := Nat.le_trans hs1 Lwq14.size
     replace B2 := B2.below hR14
     replace B3 := B3.below hR14
     replace B4 := B4.below hR14
     refine jF rfl cR rfl rfl (yO (rfl) (yO (gF (by first | rfl | assumption)) xS)) rfl (zI rfl bod126 rfl rfl ?_)
     refine (rnrm_q hT ((qc_zd hn40 hn64)) (by omega) hM).mono ?_
     rintro v66 w27 ⟨hB66, xs66, xa66, xd66, rfl, hn66⟩
     have Lw27 := Le.of_below (Fz := Fz) (M := (Ins b9 (Ins b8 (Ins b6 (Ins b34 (Ins b4 (Ins b3 (Ins b2 M)))))))) hB66
     obtain ⟨LS0, RL, RB⟩ := ub3 hB66 LS0 RL RB
     replace hk1 := hk1.le hMk Lw27 hs1
     replace hMk := Le.mlow hMk Lw27 hs1
     replace hs1 := Nat.le_trans hs1 Lw27.size
     replace B2 := B2.below hB66
     replace B3 := B3.below hB66
     replace B4 := B4.below hB66
     obtain ⟨oxa66, oxd66, _⟩ := hn66.one
     refine yK rfl rfl yY B4 rfl rfl (xC rfl (xC (by first | rfl | assumption) (xC (by first | rfl | assumption) gD))) rfl (fun w28 Cw28 B4 => ?_)
     have Lw28 := Le.of_chg (M := (Ins b9 (Ins b8 (Ins b6 (Ins b34 (Ins b4 (Ins b3 (Ins b2 M)))))))) Cw28 (.inr (.inr (.inr (.inr zS)))) nF4
     obtain ⟨LS0, RL, RB, hn66⟩ := up4 Lw28 LS0 RL RB hn66
     replace hk1 := hk1.le hMk Lw28 hs1
     replace hMk := Le.mlow hMk Lw28 hs1
     replace hs1 := Nat.le_trans hs1 Lw28.size
     replace B2 := B2.other Cw28 ne2_4
     replace B3 := B3.other Cw28 ne3_4
     refine zB (xF (uR rfl ?_))
     refine ⟨RL.at_, RB.at_, hs1, hk1, ?_⟩
     have hbx : qJ p q = dS p x := by unfold qJ eN; rw [if_pos hlt, if_pos hq, if_neg (mt sgnR_lt.2 hc1), dyS_eq hlt (cmpR_lt.1 hc2) (fun r hr => hdy r (by omega))]
     rw [show mkRat (aS (p * p2 x)) (1 * 2 ^ x) = dS p x by unfold dS; rw [Nat.one_mul]] at hn66
     rw [hbx]
     refine ⟨rfl, LS0.trans (Le.less fun k c => zO (zO c)), B2, B3, _, _, _, B4, RC.up (hn66.less fun k c => zO (zO c)) ?_⟩
     omega
    ·refine yH ?_
     refine ⟨RL.at_, RB.at_, hs1, hk1, ?_⟩
     refine ⟨LS0.trans (Le.less fun k c => zO (zO c)), B2, B3, B4, B6, B34, fun r hr => ?_⟩
     rw [List.length_append, List.length_singleton] at hr
     rcases Nat.lt_or_ge r pre.length with c | c
     · exact hdy r c
     obtain rfl : r = x := by omega
     exact fun c => hc2 (cmpR_lt.2 c)
   ·intro w29 hJ hDd
    clear B2 B3 B4 B6 B34; obtain ⟨LS0, B2, B3, B4, B6, B34, hdy⟩ := hJ
    replace Mk := Mk.mono LS0
    have hdd := hDd _ rfl rfl
    have RD : Rec (Ins b6 (Ins b34 (Ins b4 (Ins b3 (Ins b2 M))))) w29 w14.heap.size (.deferred (some [])) := ⟨hdd, (gE hMS0 (Nat.le_refl _))⟩
    replace Mk := Mk.cons hszLL RD Mold0
    exact absurd (hno hlt (xT hrp.2) (xT hrq.2)) (hdy _ (by simp))
   ·intro id w30 hX hDd
    clear B2 B3 B4 B6 B34; obtain ⟨rfl, LS0, B2, B3, sx, ax, dx, B4, hnx⟩ := hX
    obtain ⟨oax, odx, _⟩ := hnx.one
    obtain ⟨LL, Mk⟩ := up2 LS0 LL Mk
    have hdd := hDd _ rfl rfl
    have RD : Rec (Ins b6 (Ins b34 (Ins b4 (Ins b3 (Ins b2 M))))) w30 w14.heap.size (.deferred (some [])) := ⟨hdd, (gE hMS0 (Nat.le_refl _))⟩
    replace Mk := Mk.cons hszLL RD Mold0
    refine xG (zF (zC ?_))
    skip
    refine yE rfl xE yY rfl B4 rfl rfl ?_
    skip
    refine yK rfl rfl yY B4 rfl rfl (xC rfl (xC (by first | rfl | assumption) (xC (by first | rfl | assumption) gD))) rfl (fun w31 Cw31 B4 => ?_)
    have Lw31 := Le.of_chg (M := (Ins b6 (Ins b34 (Ins b4 (Ins b3 (Ins b2 M)))))) Cw31 (.inr (.inr zS)) nF4
    obtain ⟨LL, LS0, Mk, hnx⟩ := up4 Lw31 LL LS0 Mk hnx
    refine zD rfl rfl (zB (zZ ?_))
    refine jS Mk (fun wz hz => ⟨[_, _], ⟨⟨_, rfl, xI xE yY (B4.drift hz (fun c => c)) rfl rfl⟩, rfl, trivial⟩, ?_⟩)
    dsimp only [zW]
    rw [decide_eq_true hlt]
    subst hFz
    exact ⟨SL.Below.drift (LL.below (Nat.le_refl _)) hz (Nat.le_refl _), _, _, _, rfl, (hnx.less fun k c => zO (zO (zO (zO (zO c))))).drift hz noT⟩
theorem betw_neg {p q : Rat} (h : p < q) (hq : ¬ 0 < q) : qJ p q = -(qJ (-q) (-p)) := by
  have h1 : -q < -p := by grind
  have h2 : 0 < -p := by grind
  unfold qJ
  rw [if_pos h, if_neg hq, if_pos h1, if_pos h2]
theorem betw_c {p : Rat} {n0 : Nat} {xs0 : Bool} {xa0 xd0 : Value} {q : Rat} {n1 : Nat} {xs1 : Bool} {xa1 xd1 : Value} (hT : Tab M w) (h0 : QC M w n0 p xs0 xa0 xd0) (h1 : QC M w n1 q xs1 xa1 xd1) (hl0 : n0 ≤ 300) (hl1 : n1 ≤ 300) (hM : OkM M w) :
    CallsV prog 76 [.agg #[.bool xs0, xa0, xd0], .agg #[.bool xs1, xa1, xd1]] w fun r w' => Below w.heap.size w w' ∧ ∃ xsr xar xdr, r = .tuple #[.agg #[.bool xsr, xar, xdr], .bool (decide (p < q))] ∧ RC M w' (2 * (n0 + n1) + 50) (qJ p q) xsr xar xdr := by
 obtain ⟨Fz, hFz, hF, LL⟩ := fz0 M w
 obtain ⟨oxa0, oxd0, _⟩ := h0.one
 obtain ⟨oxa1, oxd1, _⟩ := h1.one
 rcases Classical.em (0 < q) with hq | hq
 · exact (betwp_c hT h0 h1 (by omega) (by omega) hq hM).mono fun r w h => ⟨h.1, let ⟨a, b, c, d, e⟩ := h.2; ⟨a, b, c, d, e.up (by omega)⟩⟩
 have hM0 := hM
 refine zQ func76 rfl ntmps76 rfl ?_
 refine zF (zC (xL rfl rfl (fun w1 b2 N2 => ?_)))
 obtain ⟨_, nF2, nM2, Lw1, B2⟩ := nza hF hM N2
 obtain ⟨LL, hM, hF, hT, h0, h1⟩ := up6 Lw1 LL hM hF hT h0 h1
 refine xL rfl rfl (fun w2 b3 N3 => ?_)
 obtain ⟨hBw2, nF3, nM3, Lw2, B3⟩ := nza hF hM N3
 obtain ⟨B2, ne2_3⟩ := bn B2 N3
 obtain ⟨LL, hM, hF, hT, h0, h1⟩ := up6 Lw2 LL hM hF hT h0 h1
 refine yU rfl yY (fun w3 b4 N4 => ?_)
 obtain ⟨hBw3, nF4, nM4, Lw3, B4⟩ := nza hF hM N4
 obtain ⟨B2, ne2_4⟩ := bn B2 N4
 obtain ⟨B3, ne3_4⟩ := bn B3 N4
 obtain ⟨LL, hM, hT, h0, h1⟩ := up5 Lw3 LL hM hT h0 h1
 refine zD rfl rfl (zB (aM (zF (zF (zC (yE rfl xE yY rfl B2 rfl rfl (yE rfl xE yY rfl B3 rfl rfl (zI rfl eL rfl rfl ?_))))))))
 refine (dL hT h0 h1 (by omega) (by omega) hM).mono ?_
 rintro v12 w4 ⟨hB12, rfl⟩
 obtain ⟨LL, hM, hT, h0, h1, B2, B3, B4⟩ := ub8 hB12 LL hM hT h0 h1 B2 B3 B4
 refine gU rfl rfl rfl (zB ?_)
 refine zX rfl (fun hc0 => ?_) (fun hc0 => ?_)
 ·have hlt : ¬ p < q := fun c => by have := kW.1 hc0; grind
  have hbq : qJ p q = ((0 : Nat) : Rat) := by unfold qJ; rw [if_neg hlt]; rfl
  refine zF (zC (zI rfl bod77 rfl rfl ?_))
  refine (rofn_q (n := 0)  (by omega) hM).mono ?_
  rintro v14 w5 ⟨hB14, xs14, xa14, xd14, rfl, hn14⟩
  obtain ⟨LL, B4⟩ := ub2 hB14 LL B4
  obtain ⟨oxa14, oxd14, _⟩ := hn14.one
  refine yK rfl rfl yY B4 rfl rfl (xC rfl (xC (by first | rfl | assumption) (xC (by first | rfl | assumption) gD))) rfl (fun w6 Cw6 B4 => ?_)
  have Lw6 := Le.of_chg (M := (Ins b4 (Ins b3 (Ins b2 M)))) Cw6 zS nF4
  obtain ⟨LL, hn14⟩ := up2 Lw6 LL hn14
  refine zD rfl rfl (zB (zZ ?_))
  refine zN ⟨[_, _], ⟨⟨_, rfl, xI xE yY B4 rfl rfl⟩, rfl, trivial⟩, ?_⟩
  dsimp only [zW]
  rw [hbq, decide_eq_false hlt]
  subst hFz
  exact ⟨LL.below (Nat.le_refl _), _, _, _, rfl, (hn14.less (fun k c => zO (zO (zO c)))).up (by omega)⟩
 ·have hlt : p < q := by have := mt kW.2 hc0; grind
  refine yH (zF (zF (zC (yE rfl xE yY rfl B3 rfl rfl (zI rfl bod138 rfl rfl ?_)))))
  refine (rsgn_q hT h1 (by omega) hM).mono ?_
  rintro v16 w7 ⟨hB16, rfl⟩
  obtain ⟨LL, hM, hT, h0, h1, B2, B3, B4⟩ := ub8 hB16 LL hM hT h0 h1 B2 B3 B4
  refine dY rfl rfl rfl (dZ (d := 17) rfl (decide_eq_true (sgnR_le.2 (by grind))) (zB (uF rfl (zF ?_))))
  refine xQ (R := Rs (· = b4)) (R' := Rb) (st := some (8, (fun w => Blk w b4 33 [.bool false, .slice none 0 0, .slice none 0 0]), (fun w => ∃ xs4 xa4 xd4, Blk w b4 33 [.bool xs4, xa4, xd4] ∧ RC (Ins b4 (Ins b3 (Ins b2 M))) w (2 * ((n1 + 1) + (n0 + 1)) + 40) (qJ (-q) (-p)) xs4 xa4 xd4))) jR 9 [2, 3, 4, 5, 25] (by decide +kernel) bG dW (cD _) (fun _ _ _ h => by cases h; exact ⟨by decide, B4, fun _ _ h r => h.below r, fun _ _ ⟨xs4, xa4, xd4, B, h0⟩ r => ⟨xs4, xa4, xd4, B.below r, h0.mono (Fz := fun _ => False) (Le.of_below r)⟩, _, rfl⟩) ?_
  apply yW rfl
  ·intro wq hR hst
   refine zJ rfl rfl (zE ?_)
   have Lq := lqb (M := (Ins b4 (Ins b3 (Ins b2 M)))) hR zS nF4
   replace B3 := B3.rs hR ne3_4
   exact yE rfl xE yY rfl B3 rfl rfl (on0 rfl)
  refine qI rfl (fun v w => ∃ xs20 xa20 xd20, v = .agg #[.bool xs20, xa20, xd20] ∧ RC (Ins b4 (Ins b3 (Ins b2 M))) w (n1 + 1) (-q) xs20 xa20 xd20) (fun _ _ _ ⟨xs20, xa20, xd20, e, h0⟩ r => ⟨xs20, xa20, xd20, e, h0.mono (Fz := fun _ => False) (Le.of_rs r (by rintro _ rfl; exact zS) (fun _ _ h => h))⟩) (fun wq hR hst => ?_) ?_
  ·refine zH rfl (zE ?_)
   have Lq := lqb (M := (Ins b4 (Ins b3 (Ins b2 M)))) hR zS nF4
   obtain ⟨hM, hT, h1⟩ := up3 Lq hM hT h1
   refine zI rfl bod139 rfl rfl ?_
   refine (rneg_q hT h1 (by omega) hM).mono ?_
   rintro v20 w8 ⟨hB20, xs20, xa20, xd20, rfl, hn20⟩
   exact zB ⟨rfl, hB20, _, rfl, ⟨_, _, _, rfl, hn20⟩⟩
  apply yW rfl
  ·intro wq hR hst
   refine zJ rfl rfl (zE ?_)
   have Lq := lqb (M := (Ins b4 (Ins b3 (Ins b2 M)))) hR zS nF4
   replace B2 := B2.rs hR ne2_4
   exact yE rfl xE yY rfl B2 rfl rfl (on0 rfl)
  refine qI rfl (fun v w => ∃ xs22 xa22 xd22, v = .agg #[.bool xs22, xa22, xd22] ∧ RC (Ins b4 (Ins b3 (Ins b2 M))) w (n0 + 1) (-p) xs22 xa22 xd22) (fun _ _ _ ⟨xs22, xa22, xd22, e, h0⟩ r => ⟨xs22, xa22, xd22, e, h0.mono (Fz := fun _ => False) (Le.of_rs r (by rintro _ rfl; exact zS) (fun _ _ h => h))⟩) (fun wq hR hst => ?_) ?_
  ·refine zH rfl (zE ?_)
   have Lq := lqb (M := (Ins b4 (Ins b3 (Ins b2 M)))) hR zS nF4
   obtain ⟨hM, hT, h0⟩ := up3 Lq hM hT h0
   refine zI rfl bod139 rfl rfl ?_
   refine (rneg_q hT h0 (by omega) hM).mono ?_
   rintro v22 w9 ⟨hB22, xs22, xa22, xd22, rfl, hn22⟩
   exact zB ⟨rfl, hB22, _, rfl, ⟨_, _, _, rfl, hn22⟩⟩
  refine qI rfl (fun v w => ∃ xs23 xa23 xd23, v = .tuple #[.agg #[.bool xs23, xa23, xd23], .bool (decide ((-q) < (-p)))] ∧ RC (Ins b4 (Ins b3 (Ins b2 M))) w (2 * ((n1 + 1) + (n0 + 1)) + 40) (qJ (-q) (-p)) xs23 xa23 xd23) (fun _ _ _ ⟨xs23, xa23, xd23, e, h0⟩ r => ⟨xs23, xa23, xd23, e, h0.mono (Fz := fun _ => False) (Le.of_rs r (by rintro _ rfl; exact zS) (fun _ _ h => h))⟩) (fun wq hR hst => ?_) ?_
  ·refine yC rfl (fun v20 hp20 => ?_)
   obtain ⟨xs20, xa20, xd20, rfl, hn20⟩ := hp20
   refine yC rfl (fun v22 hp22 => ?_)
   obtain ⟨xs22, xa22, xd22, rfl, hn22⟩ := hp22
   refine zE ?_
   have Lq := lqb (M := (Ins b4 (Ins b3 (Ins b2 M)))) hR zS nF4
   obtain ⟨hM, hT⟩ := up2 Lq hM hT
   refine zI rfl bod76 rfl rfl ?_
   refine (betwp_c hT hn20.gen hn22.gen (by omega) (by omega) (by grind) hM).mono ?_
   rintro v23 w10 ⟨hB23, xs23, xa23, xd23, rfl, hn23⟩
   exact zB ⟨rfl, hB23, _, rfl, ⟨_, _, _, rfl, hn23⟩⟩
  refine qI rfl (fun v w => ∃ xs18 xa18 xd18, v = .tuple #[.agg #[.bool xs18, xa18, xd18], .bool (decide ((-q) < (-p)))] ∧ RC (Ins b4 (Ins b3 (Ins b2 M))) w (2 * ((n1 + 1) + (n0 + 1)) + 40) (qJ (-q) (-p)) xs18 xa18 xd18) (fun _ _ _ ⟨xs18, xa18, xd18, e, h0⟩ r => ⟨xs18, xa18, xd18, e, h0.mono (Fz := fun _ => False) (Le.of_rs r (by rintro _ rfl; exact zS) (fun _ _ h => h))⟩) (fun wq hR hst => ?_) ?_
  ·refine yC rfl (fun v23 hp23 => ?_)
   obtain ⟨xs23, xa23, xd23, rfl, hn23⟩ := hp23
   refine zE ?_
   have Lq := lqb (M := (Ins b4 (Ins b3 (Ins b2 M)))) hR zS nF4
   exact zA rfl rfl (zB ⟨rfl, yB _, _, rfl, ⟨_, _, _, rfl, hn23⟩⟩)
  refine qI rfl (fun v w => ∃ xs24 xa24 xd24, v = .agg #[.bool xs24, xa24, xd24] ∧ RC (Ins b4 (Ins b3 (Ins b2 M))) w (2 * ((n1 + 1) + (n0 + 1)) + 40) (qJ (-q) (-p)) xs24 xa24 xd24) (fun _ _ _ ⟨xs24, xa24, xd24, e, h0⟩ r => ⟨xs24, xa24, xd24, e, h0.mono (Fz := fun _ => False) (Le.of_rs r (by rintro _ rfl; exact zS) (fun _ _ h => h))⟩) (fun wq hR hst => ?_) ?_
  ·refine yC rfl (fun v18 hp18 => ?_)
   obtain ⟨xs18, xa18, xd18, rfl, hn18⟩ := hp18
   refine zE ?_
   have Lq := lqb (M := (Ins b4 (Ins b3 (Ins b2 M)))) hR zS nF4
   exact zT rfl rfl rfl (zB ⟨rfl, yB _, _, rfl, ⟨_, _, _, rfl, hn18⟩⟩)
  refine qI rfl (Ex (.bool (decide ((-q) < (-p))))) xB (fun wq hR hst => ?_) ?_
  ·refine yC rfl (fun v18 hp18 => ?_)
   obtain ⟨xs18, xa18, xd18, rfl, hn18⟩ := hp18
   refine zE ?_
   have Lq := lqb (M := (Ins b4 (Ins b3 (Ins b2 M)))) hR zS nF4
   exact zT rfl rfl rfl (on0 rfl)
  refine dC rfl (fun wq hR hp => ?_) ?_
  ·refine zJ rfl rfl (yC rfl (fun v24 hp24 => ?_))
   obtain ⟨xs24, xa24, xd24, rfl, hn24⟩ := hp24; obtain ⟨oxa24, oxd24, _⟩ := hn24.one
   refine zE ?_
   have Lq := lqb (M := (Ins b4 (Ins b3 (Ins b2 M)))) hR zS nF4
   replace B4 := hp
   refine yK rfl rfl yY B4 rfl rfl (xC rfl (xC (by first | rfl | assumption) (xC (by first | rfl | assumption) gD))) rfl (fun w11 Cw11 B4 => ?_)
   have Lw11 := Le.of_chg (M := (Ins b4 (Ins b3 (Ins b2 M)))) Cw11 zS nF4
   replace hn24 := hn24.mono Lw11
   exact zB ⟨rfl, cN Cw11, _, _, _, B4, hn24⟩
  refine xR (fun wq4 hR4 hpost4 => ?_)
  refine zJ rfl rfl (zJ rfl rfl (zJ rfl rfl (zJ rfl rfl (zH rfl (zE ?_)))))
  simp only [List.drop_succ_cons, List.drop_zero, List.drop_nil, List.toList_toArray]
  have Lq := lqb (M := (Ins b4 (Ins b3 (Ins b2 M)))) hR4 zS nF4
  obtain ⟨LL, hM, hT⟩ := up3 Lq LL hM hT
  obtain ⟨xs4, xa4, xd4, B4, hn4⟩ := hpost4 _ _ _ rfl; obtain ⟨oxa4, oxd4, _⟩ := hn4.one
  refine zD rfl rfl (zB (zF (zC (yE rfl xE yY rfl B4 rfl rfl (zI rfl bod139 rfl rfl ?_)))))
  refine (rneg_q hT hn4.gen (by omega) hM).mono ?_
  rintro v27 w12 ⟨hB27, xs27, xa27, xd27, rfl, hn27⟩
  obtain ⟨LL, B4⟩ := ub2 hB27 LL B4
  obtain ⟨oxa27, oxd27, _⟩ := hn27.one
  refine zA rfl rfl (yK rfl rfl yY B4 rfl rfl (xC rfl (xC (by first | rfl | assumption) (xC (by first | rfl | assumption) gD))) rfl (fun w13 Cw13 B4 => ?_))
  have Lw13 := Le.of_chg (M := (Ins b4 (Ins b3 (Ins b2 M)))) Cw13 zS nF4
  obtain ⟨LL, hn27⟩ := up2 Lw13 LL hn27
  refine zD rfl rfl (zB (zZ ?_))
  refine zN ⟨[_, _], ⟨⟨_, rfl, xI xE yY B4 rfl rfl⟩, rfl, trivial⟩, ?_⟩
  dsimp only [zW]
  rw [betw_neg hlt hq, ← show decide (-q < -p) = decide (p < q) from decide_eq_decide.2 (by grind)]
  subst hFz
  exact ⟨LL.below (Nat.le_refl _), _, _, _, rfl, (hn27.less (fun k c => zO (zO (zO c)))).up (by omega)⟩
end Go.Proofs.YtfkejnlohkgbgaaGreatDoor
set_option maxRecDepth 100000
namespace Go.Proofs.YtfkejnlohkgbgaaGreatDoor
open Go.SL Go.RowKit Go.Proofs Tryz
variable {M : Nat → Prop} {w : World}
theorem mids_c {l : List Rat} {n0 : Nat} {xa0 : Value} (hT : Tab M w) (h0 : QL M w n0 l xa0) (hl0 : n0 ≤ 300) (hrs : gT l) (hlen : l.length ≤ 1000) (hM : OkM M w) :
    CallsV prog 18 [xa0] w fun r w' => Below w.heap.size w w' ∧ ∃ xar, r = xar ∧ QLc M w' (4 * n0 + 50) (uA l) xar := by
 obtain ⟨Fz, hFz, hF, LL⟩ := fz0 M w
 obtain ⟨oxa0, _⟩ := h0.one
 have hM0 := hM
 refine zQ func18 rfl ntmps18 rfl ?_
 refine zF (zC (zD rfl rfl (zB (zF (zF (zC ?_))))))
 have Ow := own_nilk (w := w) 3 (e := 33)
 have Of : ∀ k, (Value.slice none 0 0).ownBlock = some k → ¬ Fz k := qM
 have Om : ∀ k, (Value.slice none 0 0).ownBlock = some k → ¬ M k := qM
 have He : ER (Mo (.slice none 0 0) M) w (4 * n0 + 50) [] [] := ⟨Elems.nil⟩
 have Ln := Le.mo_nil (Fz := Fz) (M := M) (w := w)
 replace LL := LL.trans Ln
 replace hM := hM.mono Ln
 replace hF := hF.mono Ln
 replace hT := hT.mono Ln
 replace h0 := h0.mono Ln
 clear Ln
 refine zA rfl rfl (gB rfl yu22 rfl h0.row (jL rfl rfl rfl (by omega) (qZ rfl rfl rfl (zA rfl rfl (zB (yA ?_))))))
 refine xN (σ := Nat × Value) [(0, _), (9, _)] (fun s => [(2, s.2), (10, .int .i64 ((s.1 : Nat) : Int))]) (fun s w1 => Le Fz (Mo (.slice none 0 0) M) w (Mo s.2 M) w1 ∧ s.1 ≤ (l.length - 1) ∧ (∀ k, s.2.ownBlock = some k → ¬ Fz k) ∧ (∀ k, s.2.ownBlock = some k → ¬ M k) ∧ ∃ cs, w1.ownsRow 0 33 3 s.2 s.1 cs ∧ ER (Mo s.2 M) w1 (4 * n0 + 50) cs ((uA l).take s.1)) (fun s => (l.length - 1) - s.1) ((0, .slice none 0 0)) (zG rfl (zG rfl (zG rfl (zG rfl yF)))) ?_ (fun s w1 hJ => ?_)
 · dsimp only
   exact ⟨Le.refl _ _ _, by omega, Of, Om, [], Ow, by simpa using He⟩
 ·obtain ⟨k, q⟩ := s
  dsimp only at hJ ⊢
  obtain ⟨LR, hk, Of, Om, cs, Ow, He⟩ := hJ
  replace LL := LL.trans LR
  replace hM := hM.mono LR
  replace hF := hF.mono LR
  replace hT := hT.mono LR
  replace h0 := h0.mono LR
  refine zF (zC (jG rfl rfl rfl (zB (zF ?_))))
  refine zX rfl (fun hc0 => ?_) (fun hc0 => ?_)
  ·refine yH (zF (yA (zF (zC (zA rfl rfl (zD rfl rfl (zB (zF ?_))))))))
   refine SL.wp_drawS (R := Rg 13) (R' := Rh [(13, (.agg #[(.bool false), (.slice none 0 0), (.slice none 0 0)]), 33)] 13 14) (Pr := PrA) (st := some (14, fC 13 (.agg #[(.bool false), (.slice none 0 0), (.slice none 0 0)]) 33, PostB 13 (fun b w => ∃ xs4 xa4 xd4, Blk w.1 b 33 [.bool xs4, xa4, xd4] ∧ RC (Mg (Mo q M) w.2) w.1 (2 * (n0 + n0) + 50) (qJ (l.getD k 0) (l.getD (k + 1) 0)) xs4 xa4 xd4))) g0 jR 15 [0, 2, 3, 4, 9, 10, 11, 12, 13, 14, 15, 16, 17, 18, 19, 20, 21, 22, 23, 24, 25] (by decide +kernel) rg_trans rh_rg (rg_drew _) (fun _ _ _ h => by cases h; exact ⟨by decide, preB0, preB_mono rfl, postB_mono (fun b x y hb ⟨xs4, xa4, xd4, B, h0⟩ hl r => ⟨xs4, xa4, xd4, B.below hl, h0.mono r.le⟩), _, rfl⟩) prA0 prA_mono ?_
   refine jE rfl (fun v w => ∃ xa14, v = xa14 ∧ QL (Mg (Mo q M) w.2) w.1 (n0) (l) xa14) (fun _ _ _ ⟨xa14, e, h0⟩ r => ⟨xa14, e, h0.mono (r.le)⟩) (fun xq hR hst hPr => ?_) ?_
   ·obtain ⟨wq, gq⟩ := xq
    refine qW rfl rfl ?_
    refine xD ?_; dsimp only
    have Lq : Le Fz (Mo q M) w1 (Mg (Mo q M) gq) wq := hR.le0
    replace h0 := h0.mono Lq
    replace He := He.mono Lq
    refine zA rfl rfl ?_
    exact zB ⟨rfl, gq, gK rfl rfl (Below.refl _ _), _, rfl, ⟨_, rfl, h0⟩⟩
   apply gW rfl
   ·intro xq hR hst hPr
    obtain ⟨wq, gq⟩ := xq
    refine qW rfl rfl ?_
    refine xD ?_; dsimp only
    have Lq : Le Fz (Mo q M) w1 (Mg (Mo q M) gq) wq := hR.le0
    replace He := He.mono Lq
    refine zA rfl rfl ?_
    exact zB ⟨rfl, gq, gK rfl rfl (Below.refl _ _), _, rfl, rfl⟩
   refine jE rfl (fun v w => ∃ b o xs16 xa16 xd16, v = .pointer (some ⟨b, o, none⟩) ∧ RpG (Mo q M) w b o [.bool xs16, xa16, xd16] ∧ QC (Mg (Mo q M) w.2) w.1 (n0) (l.getD k 0) xs16 xa16 xd16) (fun _ _ _ ⟨b, o, xs16, xa16, xd16, e, hc, h⟩ r => ⟨b, o, xs16, xa16, xd16, e, hc.rg r, h.mono r.le⟩) (fun xq hR hst hPr => ?_) ?_
   ·obtain ⟨wq, gq⟩ := xq
    refine jT rfl (fun v14 hp14 => ?_)
    obtain ⟨xa14, rfl, hn14⟩ := hp14
    refine qH rfl ?_
    refine xD ?_; dsimp only
    have Lq : Le Fz (Mo q M) w1 (Mg (Mo q M) gq) wq := hR.le0
    replace He := He.mono Lq
    refine ops_idxrm (dflt := (0 : Rat)) (k) rfl yu22 yY rfl rfl hn14.row (by first | rfl | omega) (by first | omega | (simp; omega) | simp) (fun b16 o16 us16 hul16 hu16 hc16 nb16 => ?_)
    obtain ⟨xs16, xa16, xd16, rfl, hn16⟩ := hu16
    exact zB ⟨rfl, gq, gK rfl rfl (Below.refl _ _), _, rfl, ⟨b16, o16, _, _, _, rfl, ⟨nb16, hc16, cell_lt (hc16 0 _ rfl)⟩, hn16⟩⟩
   refine jE rfl (fun v w => ∃ xs17 xa17 xd17, v = .agg #[.bool xs17, xa17, xd17] ∧ QC (Mg (Mo q M) w.2) w.1 (n0) (l.getD k 0) xs17 xa17 xd17) (fun _ _ _ ⟨xs17, xa17, xd17, e, h0⟩ r => ⟨xs17, xa17, xd17, e, h0.mono (r.le)⟩) (fun xq hR hst hPr => ?_) ?_
   ·obtain ⟨wq, gq⟩ := xq
    refine jT rfl (fun v16 hp16 => ?_)
    obtain ⟨b16, o16, xs16, xa16, xd16, rfl, hr16, hn16⟩ := hp16; have hc16 := hr16.at_; dsimp only at hc16 hn16
    refine xD ?_; dsimp only
    have Lq : Le Fz (Mo q M) w1 (Mg (Mo q M) gq) wq := hR.le0
    replace He := He.mono Lq
    refine jZ rfl xE yY rfl hc16 rfl ?_
    exact zB ⟨rfl, gq, gK rfl rfl (Below.refl _ _), _, rfl, ⟨_, _, _, rfl, hn16⟩⟩
   refine jE rfl (fun v w => ∃ xa18, v = xa18 ∧ QL (Mg (Mo q M) w.2) w.1 (n0) (l) xa18) (fun _ _ _ ⟨xa18, e, h0⟩ r => ⟨xa18, e, h0.mono (r.le)⟩) (fun xq hR hst hPr => ?_) ?_
   ·obtain ⟨wq, gq⟩ := xq
    refine qW rfl rfl ?_
    refine xD ?_; dsimp only
    have Lq : Le Fz (Mo q M) w1 (Mg (Mo q M) gq) wq := hR.le0
    replace h0 := h0.mono Lq
    replace He := He.mono Lq
    refine zA rfl rfl ?_
    exact zB ⟨rfl, gq, gK rfl rfl (Below.refl _ _), _, rfl, ⟨_, rfl, h0⟩⟩
   apply gW rfl
   ·intro xq hR hst hPr
    obtain ⟨wq, gq⟩ := xq
    refine qW rfl rfl ?_
    refine xD ?_; dsimp only
    have Lq : Le Fz (Mo q M) w1 (Mg (Mo q M) gq) wq := hR.le0
    replace He := He.mono Lq
    refine zA rfl rfl ?_
    exact zB ⟨rfl, gq, gK rfl rfl (Below.refl _ _), _, rfl, rfl⟩
   apply gW rfl
   ·intro xq hR hst hPr
    obtain ⟨wq, gq⟩ := xq
    refine qH rfl ?_
    refine xD ?_; dsimp only
    have Lq : Le Fz (Mo q M) w1 (Mg (Mo q M) gq) wq := hR.le0
    replace He := He.mono Lq
    refine yR rfl rfl rfl (by omega) ?_
    exact zB ⟨rfl, gq, gK rfl rfl (Below.refl _ _), _, rfl, rfl⟩
   refine jE rfl (fun v w => ∃ b o xs21 xa21 xd21, v = .pointer (some ⟨b, o, none⟩) ∧ RpG (Mo q M) w b o [.bool xs21, xa21, xd21] ∧ QC (Mg (Mo q M) w.2) w.1 (n0) (l.getD (k + 1) 0) xs21 xa21 xd21) (fun _ _ _ ⟨b, o, xs21, xa21, xd21, e, hc, h⟩ r => ⟨b, o, xs21, xa21, xd21, e, hc.rg r, h.mono r.le⟩) (fun xq hR hst hPr => ?_) ?_
   ·obtain ⟨wq, gq⟩ := xq
    refine jT rfl (fun v18 hp18 => ?_)
    obtain ⟨xa18, rfl, hn18⟩ := hp18
    refine qH rfl ?_
    refine xD ?_; dsimp only
    have Lq : Le Fz (Mo q M) w1 (Mg (Mo q M) gq) wq := hR.le0
    replace He := He.mono Lq
    refine ops_idxrm (dflt := (0 : Rat)) (k + 1) rfl yu22 yY rfl rfl hn18.row (by first | rfl | omega) (by first | omega | (simp; omega) | simp) (fun b21 o21 us21 hul21 hu21 hc21 nb21 => ?_)
    obtain ⟨xs21, xa21, xd21, rfl, hn21⟩ := hu21
    exact zB ⟨rfl, gq, gK rfl rfl (Below.refl _ _), _, rfl, ⟨b21, o21, _, _, _, rfl, ⟨nb21, hc21, cell_lt (hc21 0 _ rfl)⟩, hn21⟩⟩
   refine jE rfl (fun v w => ∃ xs22 xa22 xd22, v = .agg #[.bool xs22, xa22, xd22] ∧ QC (Mg (Mo q M) w.2) w.1 (n0) (l.getD (k + 1) 0) xs22 xa22 xd22) (fun _ _ _ ⟨xs22, xa22, xd22, e, h0⟩ r => ⟨xs22, xa22, xd22, e, h0.mono (r.le)⟩) (fun xq hR hst hPr => ?_) ?_
   ·obtain ⟨wq, gq⟩ := xq
    refine jT rfl (fun v21 hp21 => ?_)
    obtain ⟨b21, o21, xs21, xa21, xd21, rfl, hr21, hn21⟩ := hp21; have hc21 := hr21.at_; dsimp only at hc21 hn21
    refine xD ?_; dsimp only
    have Lq : Le Fz (Mo q M) w1 (Mg (Mo q M) gq) wq := hR.le0
    replace He := He.mono Lq
    refine jZ rfl xE yY rfl hc21 rfl ?_
    exact zB ⟨rfl, gq, gK rfl rfl (Below.refl _ _), _, rfl, ⟨_, _, _, rfl, hn21⟩⟩
   refine jE rfl (fun v w => ∃ xs23 xa23 xd23, v = .tuple #[.agg #[.bool xs23, xa23, xd23], .bool (decide ((l.getD k 0) < (l.getD (k + 1) 0)))] ∧ RC (Mg (Mo q M) w.2) w.1 (2 * (n0 + n0) + 50) (qJ (l.getD k 0) (l.getD (k + 1) 0)) xs23 xa23 xd23) (fun _ _ _ ⟨xs23, xa23, xd23, e, h0⟩ r => ⟨xs23, xa23, xd23, e, h0.mono (r.le)⟩) (fun xq hR hst hPr => ?_) ?_
   ·obtain ⟨wq, gq⟩ := xq
    refine jT rfl (fun v17 hp17 => ?_)
    obtain ⟨xs17, xa17, xd17, rfl, hn17⟩ := hp17
    refine jT rfl (fun v22 hp22 => ?_)
    obtain ⟨xs22, xa22, xd22, rfl, hn22⟩ := hp22
    refine xD ?_; dsimp only
    have Lq : Le Fz (Mo q M) w1 (Mg (Mo q M) gq) wq := hR.le0
    replace hM := hM.mono Lq
    replace hT := hT.mono Lq
    replace He := He.mono Lq
    refine zI rfl bod76 rfl rfl ?_
    refine (betw_c hT hn17 hn22 (by omega) (by omega) hM).mono ?_
    rintro v23 w2 ⟨hB23, xs23, xa23, xd23, rfl, hn23⟩
    have Lw2 := Le.of_below (Fz := Fz) (M := (Mg (Mo q M) gq)) hB23
    replace He := He.mono Lw2
    exact zB ⟨rfl, gq, gK rfl rfl hB23, _, rfl, ⟨_, _, _, rfl, hn23⟩⟩
   refine jE rfl (fun v w => ∃ xs13 xa13 xd13, v = .tuple #[.agg #[.bool xs13, xa13, xd13], .bool (decide ((l.getD k 0) < (l.getD (k + 1) 0)))] ∧ RC (Mg (Mo q M) w.2) w.1 (2 * (n0 + n0) + 50) (qJ (l.getD k 0) (l.getD (k + 1) 0)) xs13 xa13 xd13) (fun _ _ _ ⟨xs13, xa13, xd13, e, h0⟩ r => ⟨xs13, xa13, xd13, e, h0.mono (r.le)⟩) (fun xq hR hst hPr => ?_) ?_
   ·obtain ⟨wq, gq⟩ := xq
    refine jT rfl (fun v23 hp23 => ?_)
    obtain ⟨xs23, xa23, xd23, rfl, hn23⟩ := hp23
    refine xD ?_; dsimp only
    have Lq : Le Fz (Mo q M) w1 (Mg (Mo q M) gq) wq := hR.le0
    replace He := He.mono Lq
    refine zA rfl rfl ?_
    exact zB ⟨rfl, gq, gK rfl rfl (Below.refl _ _), _, rfl, ⟨_, _, _, rfl, hn23⟩⟩
   refine jE rfl (fun v w => ∃ xs24 xa24 xd24, v = .agg #[.bool xs24, xa24, xd24] ∧ RC (Mg (Mo q M) w.2) w.1 (2 * (n0 + n0) + 50) (qJ (l.getD k 0) (l.getD (k + 1) 0)) xs24 xa24 xd24) (fun _ _ _ ⟨xs24, xa24, xd24, e, h0⟩ r => ⟨xs24, xa24, xd24, e, h0.mono (r.le)⟩) (fun xq hR hst hPr => ?_) ?_
   ·obtain ⟨wq, gq⟩ := xq
    refine jT rfl (fun v13 hp13 => ?_)
    obtain ⟨xs13, xa13, xd13, rfl, hn13⟩ := hp13
    refine xD ?_; dsimp only
    have Lq : Le Fz (Mo q M) w1 (Mg (Mo q M) gq) wq := hR.le0
    replace He := He.mono Lq
    refine zT rfl rfl rfl ?_
    exact zB ⟨rfl, gq, gK rfl rfl (Below.refl _ _), _, rfl, ⟨_, _, _, rfl, hn13⟩⟩
   refine jE rfl (ExS (.bool (decide ((l.getD k 0) < (l.getD (k + 1) 0))))) (fun _ _ _ h _ => h) (fun xq hR hst hPr => ?_) ?_
   ·obtain ⟨wq, gq⟩ := xq
    refine jT rfl (fun v13 hp13 => ?_)
    obtain ⟨xs13, xa13, xd13, rfl, hn13⟩ := hp13
    refine xD ?_; dsimp only
    have Lq : Le Fz (Mo q M) w1 (Mg (Mo q M) gq) wq := hR.le0
    replace He := He.mono Lq
    refine zT rfl rfl rfl ?_
    exact zB ⟨rfl, gq, gK rfl rfl (Below.refl _ _), _, rfl, rfl⟩
   refine jE rfl (Pb 13) pb_mono (fun xq hR hst hPr => ?_) ?_
   ·obtain ⟨wq, gq⟩ := xq; refine xD ?_; dsimp only
    refine yU rfl yY (fun w3 b4 N4 => ?_)
    exact zB ⟨rfl, _, rh_new rfl hPr N4, _, rfl, pb_new⟩
   refine drsS_eff rfl (fun xq hR hpre => ?_) ?_
   ·obtain ⟨wq, gq⟩ := xq
    refine jT rfl (fun v4 hp4 => ?_)
    obtain ⟨b4, rfl, hg4⟩ := hp4; dsimp only at hg4
    refine jT rfl (fun v24 hp24 => ?_)
    obtain ⟨xs24, xa24, xd24, rfl, hn24⟩ := hp24; obtain ⟨oxa24, oxd24, _⟩ := hn24.one
    refine xD ?_; dsimp only
    have ge4 := hR.ge hg4
    have nF4 : ¬ Fz b4 := fun c => Nat.not_lt.2 ge4 (hF _ c)
    have nM4 : ¬ (Mo q M) b4 := fun c => Nat.not_lt.2 ge4 (hM _ c)
    have Lq : Le Fz (Mo q M) w1 (Ins b4 (Mg (Mo q M) gq)) wq := hR.le0.trans (Le.less (Mg.ins hg4))
    replace LL := LL.trans Lq
    replace LR := LR.trans Lq
    replace hM := hM.mono Lq
    replace hF := hF.mono Lq
    replace hT := hT.mono Lq
    replace h0 := h0.mono Lq
    replace He := He.mono Lq
    replace Ow := own_rg Ow hR
    have B4 := hpre b4 hg4; rw [agg_cells] at B4
    replace hn24 := hn24.less (Mg.ins hg4)
    refine yK rfl rfl yY B4 rfl rfl (xC rfl (xC (by first | rfl | assumption) (xC (by first | rfl | assumption) gD))) rfl (fun w4 Cw4 B4 => ?_)
    have Lw4 := Le.of_chg (M := (Ins b4 (Mg (Mo q M) gq))) Cw4 zS nF4
    replace He := He.mono Lw4
    replace hn24 := hn24.mono Lw4
    try simp only [List.set_cons_zero, List.set_cons_succ, List.take_succ_cons, List.take_zero, List.drop_succ_cons, List.drop_zero, List.drop_nil, List.cons_append, List.nil_append, List.append_nil] at B4
    exact zB ⟨rfl, gq, rh_chg rfl hg4 Cw4, b4, hg4, _, _, _, B4, (hn24).mono (Fz := fun _ => False) (Le.less (fun k c => .inr c))⟩
   refine drsS_nil (fun xq hR hpost => ?_)
   obtain ⟨wq4, gq⟩ := xq
   refine qW rfl rfl ?_
   refine qW rfl rfl ?_
   refine qW rfl rfl ?_
   refine jT rfl (fun v4 hp4 => ?_)
   obtain ⟨b4, rfl, hg4⟩ := hp4; dsimp only at hg4
   refine qW rfl rfl ?_
   refine qW rfl rfl ?_
   refine qW rfl rfl ?_
   refine qW rfl rfl ?_
   refine jT rfl (fun v13 hp13 => ?_)
   obtain ⟨xs13, xa13, xd13, rfl, hn13⟩ := hp13; obtain ⟨oxa13, oxd13, _⟩ := hn13.one
   refine jT rfl (fun v14 hp14 => ?_)
   obtain ⟨xa14, rfl, hn14⟩ := hp14; obtain ⟨oxa14, _⟩ := hn14.one
   refine qH rfl ?_
   refine jT rfl (fun v16 hp16 => ?_)
   obtain ⟨b16, o16, xs16, xa16, xd16, rfl, hr16, hn16⟩ := hp16; have hc16 := hr16.at_; dsimp only at hc16 hn16; obtain ⟨oxa16, oxd16, _⟩ := hn16.one
   refine jT rfl (fun v17 hp17 => ?_)
   obtain ⟨xs17, xa17, xd17, rfl, hn17⟩ := hp17; obtain ⟨oxa17, oxd17, _⟩ := hn17.one
   refine jT rfl (fun v18 hp18 => ?_)
   obtain ⟨xa18, rfl, hn18⟩ := hp18; obtain ⟨oxa18, _⟩ := hn18.one
   refine qH rfl ?_
   refine qH rfl ?_
   refine jT rfl (fun v21 hp21 => ?_)
   obtain ⟨b21, o21, xs21, xa21, xd21, rfl, hr21, hn21⟩ := hp21; have hc21 := hr21.at_; dsimp only at hc21 hn21; obtain ⟨oxa21, oxd21, _⟩ := hn21.one
   refine jT rfl (fun v22 hp22 => ?_)
   obtain ⟨xs22, xa22, xd22, rfl, hn22⟩ := hp22; obtain ⟨oxa22, oxd22, _⟩ := hn22.one
   refine jT rfl (fun v23 hp23 => ?_)
   obtain ⟨xs23, xa23, xd23, rfl, hn23⟩ := hp23; obtain ⟨oxa23, oxd23, _⟩ := hn23.one
   refine jT rfl (fun v24 hp24 => ?_)
   obtain ⟨xs24, xa24, xd24, rfl, hn24⟩ := hp24; obtain ⟨oxa24, oxd24, _⟩ := hn24.one
   refine qH rfl ?_
   refine xD ?_; dsimp only
   simp only [List.drop_succ_cons, List.drop_zero, List.drop_nil, List.toList_toArray]
   obtain ⟨bx, hgx, hQ⟩ := hpost _ _ _ rfl; dsimp only at hgx; obtain rfl : b4 = bx := by rw [hg4] at hgx; exact Option.some.inj hgx
   obtain ⟨xs4, xa4, xd4, B4, hn4⟩ := hQ; dsimp only at B4
   have ge4 := hR.ge hg4
   have nF4 : ¬ Fz b4 := fun c => Nat.not_lt.2 ge4 (hF _ c)
   have nM4 : ¬ (Mo q M) b4 := fun c => Nat.not_lt.2 ge4 (hM _ c)
   replace Om := own_ins Ow ge4 Om
   have hsub : ∀ k, (Mo q (Ins b4 M)) k → Mg (Mo q M) gq k := fun k hk => hk.elim (fun h => .inr (.inl h)) ((ins_sub (.inl ⟨_, hg4⟩) (fun _ h => .inr (.inr h))) k)
   have Lq : Le Fz (Mo q M) w1 (Mo q (Ins b4 M)) wq4 := hR.le0.trans (Le.less hsub)
   replace LL := LL.trans Lq
   replace LR := LR.trans Lq
   replace hM := hM.mono Lq
   replace hF := hF.mono Lq
   replace hT := hT.mono Lq
   replace h0 := h0.mono Lq
   replace He := He.mono Lq
   replace Ow := own_rg Ow hR
   replace hn13 : _ := hn13.less hsub
   replace hn14 : _ := hn14.less hsub
   replace hn16 : _ := hn16.less hsub
   replace hn17 : _ := hn17.less hsub
   replace hn18 : _ := hn18.less hsub
   replace hn21 : _ := hn21.less hsub
   replace hn22 : _ := hn22.less hsub
   replace hn23 : _ := hn23.less hsub
   replace hn24 : _ := hn24.less hsub
   replace hn4 : _ := hn4.less hsub
   obtain ⟨oxa4, oxd4, _⟩ := hn4.one
   refine zD rfl rfl (zB (zF (zF (zC (zA rfl rfl (gR rfl rfl (aO (d := 27) rfl (by rw [decide_eq_true (hrs k (by omega))]; rfl) (zB (gQ rfl (yH (zC (zA rfl rfl (yE rfl xE yY rfl B4 rfl rfl (jA rfl yu22 yY rfl rfl rfl rfl (yO rfl xS) rfl rfl rfl (fun w5 b31 N31 => ?_)))))))))))))))
   have hBw5 := N31.below
   have nM31 := hM.new N31
   have B31 := N31.blk
   have Lw5 := Le.of_below (Fz := Fz) (M := (Mo q (Ins b4 M))) hBw5
   replace LL := LL.trans Lw5
   replace LR := LR.trans Lw5
   replace hM := hM.mono Lw5
   replace hF := hF.mono Lw5
   replace hT := hT.mono Lw5
   replace h0 := h0.mono Lw5
   replace He := He.mono Lw5
   replace hn16 := hn16.mono Lw5
   replace hn17 := hn17.mono Lw5
   replace hn21 := hn21.mono Lw5
   replace hn22 := hn22.mono Lw5
   replace hn23 := hn23.mono Lw5
   replace hn4 := hn4.mono Lw5
   replace B4 := B4.below hBw5
   replace Ow := xK Ow hBw5
   refine ops_appendk rfl yu22 yY rfl rfl rfl rfl Ow (((KBlk.mk B31 nM31)).blk.slc ((KBlk.mk B31 nM31)).not (sz := 3) (n := 1) rfl (fun _ _ h => h) (by omega) (Nat.le_refl _)) (ones3 (by assumption) (by assumption)) (by omega) (by omega) (fun v32 w6 A32 G32 S32 => ?_)
   have Lw6 := Le.of_grown (Fz := Fz) (M := (Ins b4 M)) G32 S32 A32 Of
   have Omo32 := Om
   replace Of := jP (w' := w6) Of hF S32
   replace Om := jO (w' := w6) Om (fun k hk => hM k (.inr hk)) S32
   replace LR := LR.trans Lw6
   replace He := He.mono Lw6
   replace hn4 := hn4.mono Lw6
   clear Ow; have Ow := A32
   replace He := He.snoc (hn4.up (by omega))
   refine zD rfl rfl (zB (zC (yR rfl rfl rfl (by omega) (zA rfl rfl (zB ?_)))))
   replace LR := LR.trans (Le.less (mo_sub (v := v32) (M := M) (fun k c => (zO c))))
   replace Om := fun k hk c => Om k hk (zO c)
   replace He := He.mono (Fz := fun _ => False) (Le.less (mo_sub (v := v32) (M := M) (fun k c => (zO c))))
   refine ⟨rfl, (k + 1, v32), (zV rfl (rfl) (zV rfl (by rw [Int.natCast_add]; rfl) (zG rfl (zG rfl yF)))), ?_, ?_⟩
   dsimp only
   refine ⟨LR, by omega, Of, Om, _, Ow, ?_⟩
   rw [(qL 0 (show k < (uA l).length by rw [kB]; omega)).1, midsQ_getD (show k < l.length - 1 by omega)]
   exact He
   dsimp only
   omega
  ·refine xF (xG (zF (zC (zA rfl rfl (zD rfl rfl (zB (zZ ?_)))))))
   refine zN ⟨[_], ⟨rfl, trivial⟩, ?_⟩
   dsimp only [zW]
   obtain rfl : k = l.length - 1 := by omega
   rw [← kB l, List.take_length] at He
   rw [← kB l] at Ow
   subst hFz
   exact ⟨LL.below (Nat.le_refl _), _, rfl, ⟨row_own Ow Om (by rw [kB]; omega) (Elems.mono He.e fun _ _ ⟨a, b, c, e0, h0⟩ => ⟨a, b, c, e0, h0.less fun k c => .inr c⟩)⟩⟩
end Go.Proofs.YtfkejnlohkgbgaaGreatDoor
set_option maxRecDepth 100000
namespace Go.Proofs.YtfkejnlohkgbgaaGreatDoor
open Go.SL Go.RowKit Go.Proofs Tryz
variable {M : Nat → Prop} {w : World}
theorem slc_blk3 {bb : Nat} {ty : TypeId} {cs : List Value} (hk : KBlk M w bb ty cs) (h : cs.length ≤ 1000) : Slc M w 1 (.slice (some ⟨bb, 0, none⟩) cs.length cs.length) cs.length cs :=
  hk.blk.slc hk.not (by omega) (fun _ _ h => h) (by omega) (Nat.le_refl _)
theorem wakes22_c (hT : Tab M w) (hM : OkM M w) :
    CallsV prog 17 [] w fun r w' => Below w.heap.size w w' ∧ r = .bool true := by
 obtain ⟨Fz, hFz, hF, LL⟩ := fz0 M w
 have hml : (uA (jQ [0, 1, 3])).length = 2 := by decide
 have hM0 := hM
 refine zQ func17 rfl ntmps17 rfl ?_
 refine zF (zC (zD rfl rfl (zB (zF (zC (yP rfl underlying158 sz3 rfl rfl rfl (by simp [Value.oneCell', lw]) rfl (fun w1 b9 N9 => ?_)))))))
 have hBw1 := N9.below
 have nM9 := hM.new N9
 have B9 := N9.blk
 obtain ⟨LL, hM, hT⟩ := ub3 hBw1 LL hM hT
 refine zI rfl bod75 rfl rfl ?_
 refine (of22_c (ns := [0, 1, 3]) (slc_blk3 (cs := intCells [0, 1, 3]) (KBlk.mk B9 nM9) (by decide)) (by decide) (by simp) hM).mono ?_
 rintro v10 w2 ⟨hB10, xa10, rfl, hn10⟩
 obtain ⟨LL, hM, hT⟩ := ub3 hB10 LL hM hT
 obtain ⟨oxa10, _⟩ := hn10.one
 refine zD rfl rfl (zB (zF (zC (zA rfl rfl (zI rfl dD rfl rfl ?_)))))
 refine (bM (k := 1)  (by omega) hM).mono ?_
 rintro v13 w3 ⟨hB13, xs13, xa13, xd13, rfl, hn13⟩
 obtain ⟨LL, hM, hT, hn10⟩ := ub4 hB13 LL hM hT hn10
 obtain ⟨oxa13, oxd13, _⟩ := hn13.one
 refine zI rfl eF rfl rfl ?_
 refine (bS hT hn10.gen hn13.gen (by omega) (by omega) (by first | omega | simp [jQ]) hM).mono ?_
 rintro v14 w4 ⟨hB14, rfl⟩
 obtain ⟨LL, hM, hT, hn10⟩ := ub4 hB14 LL hM hT hn10
 refine zA rfl rfl (zT rfl rfl rfl (zT rfl rfl rfl (zT rfl rfl rfl (zD rfl rfl (zD rfl rfl (zD rfl rfl (zB (zF (zC (zA rfl rfl (zI rfl dD rfl rfl ?_)))))))))))
 refine (bM (k := 2)  (by omega) hM).mono ?_
 rintro v20 w5 ⟨hB20, xs20, xa20, xd20, rfl, hn20⟩
 obtain ⟨LL, hM, hT, hn10⟩ := ub4 hB20 LL hM hT hn10
 obtain ⟨oxa20, oxd20, _⟩ := hn20.one
 refine zI rfl eF rfl rfl ?_
 refine (bS hT hn10.gen hn20.gen (by omega) (by omega) (by first | omega | simp [jQ]) hM).mono ?_
 rintro v21 w6 ⟨hB21, rfl⟩
 obtain ⟨LL, hM, hT, hn10⟩ := ub4 hB21 LL hM hT hn10
 refine zA rfl rfl (zT rfl rfl rfl (zT rfl rfl rfl (zT rfl rfl rfl (zD rfl rfl (zD rfl rfl (zD rfl rfl (zB (zF (zC (zA rfl rfl (zI rfl bod18 rfl rfl ?_)))))))))))
 refine (mids_c hT hn10.gen (by omega) (by first | assumption | decide +kernel) (by first | omega | simp [jQ]) hM).mono ?_
 rintro v26 w7 ⟨hB26, xa26, rfl, hn26⟩
 obtain ⟨LL, hM, hT, hn10⟩ := ub4 hB26 LL hM hT hn10
 refine zD rfl rfl (zB (zF ?_))
 refine xQ (R := Rb) (R' := Rb) (st := none) jR 42 [0, 62, 65, 68] (lookDraw_of (by decide +kernel)) xO xY (xX _) (fun _ _ _ h => by cases h) ?_
 refine zP (Ex (.int .i64 (((jJ (jQ [0, 1, 3]) (((1 : Nat) : Rat))).1 : Nat) : Int))) xB (fun wq hR hst => ?_) ?_
 ·refine zJ rfl rfl (zE ?_)
  exact zA rfl rfl (on0 rfl)
 refine zP (Ex (.bool (decide (((((jJ (jQ [0, 1, 3]) (((1 : Nat) : Rat))).1 : Nat) : Int)) = 1)))) xB (fun wq hR hst => ?_) ?_
 ·refine zH rfl (zE ?_)
  exact gI rfl rfl rfl (on0 rfl)
 refine zP (Ex (.bool true)) xB (fun wq hR hst => ?_) ?_
 ·refine zH rfl (zE ?_)
  exact zA rfl rfl (zB ⟨rfl, yB _, _, rfl, congrArg Value.bool (by decide +kernel)⟩)
 refine zP (Ex (.bool (jJ (jQ [0, 1, 3]) (((1 : Nat) : Rat))).2.1)) xB (fun wq hR hst => ?_) ?_
 ·refine zJ rfl rfl (zH rfl (zE ?_))
  exact zM rfl rfl (zA rfl rfl (on0 rfl))
 refine zP (Ex (.bool (jJ (jQ [0, 1, 3]) (((1 : Nat) : Rat))).2.1)) xB (fun wq hR hst => ?_) ?_
 ·refine zH rfl (zH rfl (zE ?_))
  exact xA rfl rfl rfl (on0 rfl)
 refine zP (Ex (.bool true)) xB (fun wq hR hst => ?_) ?_
 ·refine zH rfl (zE ?_)
  exact zA rfl rfl (zB ⟨rfl, yB _, _, rfl, congrArg Value.bool (by decide +kernel)⟩)
 refine zP (Ex (.bool (jJ (jQ [0, 1, 3]) (((1 : Nat) : Rat))).2.2)) xB (fun wq hR hst => ?_) ?_
 ·refine zJ rfl rfl (zH rfl (zE ?_))
  exact zM rfl rfl (zA rfl rfl (on0 rfl))
 refine zP (Ex (.bool (jJ (jQ [0, 1, 3]) (((1 : Nat) : Rat))).2.2)) xB (fun wq hR hst => ?_) ?_
 ·refine zH rfl (zH rfl (zE ?_))
  exact xA rfl rfl rfl (on0 rfl)
 refine zP (Ex (.bool true)) xB (fun wq hR hst => ?_) ?_
 ·refine zH rfl (zE ?_)
  exact zA rfl rfl (zB ⟨rfl, yB _, _, rfl, congrArg Value.bool (by decide +kernel)⟩)
 refine zP (Ex (.int .i64 (((jJ (jQ [0, 1, 3]) (((2 : Nat) : Rat))).1 : Nat) : Int))) xB (fun wq hR hst => ?_) ?_
 ·refine zJ rfl rfl (zH rfl (zE ?_))
  exact zM rfl rfl (zA rfl rfl (on0 rfl))
 refine zP (Ex (.bool (decide (((((jJ (jQ [0, 1, 3]) (((2 : Nat) : Rat))).1 : Nat) : Int)) = 1)))) xB (fun wq hR hst => ?_) ?_
 ·refine zH rfl (zH rfl (zE ?_))
  exact zM rfl rfl (gI rfl rfl rfl (on0 rfl))
 refine zP (Ex (.bool (decide (((((jJ (jQ [0, 1, 3]) (((2 : Nat) : Rat))).1 : Nat) : Int)) = 1)))) xB (fun wq hR hst => ?_) ?_
 ·refine zH rfl (zH rfl (zE ?_))
  exact xA rfl rfl rfl (on0 rfl)
 refine zP (Ex (.bool true)) xB (fun wq hR hst => ?_) ?_
 ·refine zH rfl (zE ?_)
  exact zA rfl rfl (zB ⟨rfl, yB _, _, rfl, congrArg Value.bool (by decide +kernel)⟩)
 refine zP (Ex (.bool (jJ (jQ [0, 1, 3]) (((2 : Nat) : Rat))).2.1)) xB (fun wq hR hst => ?_) ?_
 ·refine zJ rfl rfl (zH rfl (zE ?_))
  exact zM rfl rfl (zA rfl rfl (on0 rfl))
 refine zP (Ex (.bool (!(jJ (jQ [0, 1, 3]) (((2 : Nat) : Rat))).2.1))) xB (fun wq hR hst => ?_) ?_
 ·refine zH rfl (zH rfl (zE ?_))
  exact zM rfl rfl (gR rfl rfl (on0 rfl))
 refine zP (Ex (.bool (!(jJ (jQ [0, 1, 3]) (((2 : Nat) : Rat))).2.1))) xB (fun wq hR hst => ?_) ?_
 ·refine zH rfl (zH rfl (zE ?_))
  exact xA rfl rfl rfl (on0 rfl)
 refine zP (Ex (.bool true)) xB (fun wq hR hst => ?_) ?_
 ·refine zH rfl (zE ?_)
  exact zA rfl rfl (zB ⟨rfl, yB _, _, rfl, congrArg Value.bool (by decide +kernel)⟩)
 refine zP (Ex (.bool (jJ (jQ [0, 1, 3]) (((2 : Nat) : Rat))).2.2)) xB (fun wq hR hst => ?_) ?_
 ·refine zJ rfl rfl (zH rfl (zE ?_))
  exact zM rfl rfl (zA rfl rfl (on0 rfl))
 refine zP (Ex (.bool (jJ (jQ [0, 1, 3]) (((2 : Nat) : Rat))).2.2)) xB (fun wq hR hst => ?_) ?_
 ·refine zH rfl (zH rfl (zE ?_))
  exact xA rfl rfl rfl (on0 rfl)
 refine zP (Ex (.bool true)) xB (fun wq hR hst => ?_) ?_
 ·refine zH rfl (zE ?_)
  exact zA rfl rfl (zB ⟨rfl, yB _, _, rfl, congrArg Value.bool (by decide +kernel)⟩)
 refine zP (fun v w => ∃ xa47, v = xa47 ∧ QLc M w (4 * 2 + 50) (uA (jQ [0, 1, 3])) xa47) (fun _ _ _ ⟨xa47, e, h0⟩ r => ⟨xa47, e, h0.mono (Fz := fun _ => False) (Le.of_below r)⟩) (fun wq hR hst => ?_) ?_
 ·refine zJ rfl rfl (zH rfl (zE ?_))
  replace hn26 := ub1 hR hn26
  exact zM rfl rfl (zA rfl rfl (zB ⟨rfl, yB _, _, rfl, ⟨_, rfl, hn26⟩⟩))
 refine zP (Ex (.int .i64 (((uA (jQ [0, 1, 3])).length : Nat) : Int))) xB (fun wq hR hst => ?_) ?_
 ·refine yC rfl (fun v47 hp47 => ?_)
  obtain ⟨xa47, rfl, hn47⟩ := hp47
  refine zH rfl (zE ?_)
  exact zM rfl rfl (gB rfl yu22 rfl hn47.row (on0 rfl))
 refine zK (fun _ _ _ => zH rfl (zH rfl (zE (zM rfl rfl (gI rfl rfl rfl (on0 rfl)))))) ?_
 refine zK (fun _ _ _ => zH rfl (zH rfl (zE (xA rfl rfl rfl (on0 rfl))))) ?_
 refine zP (Ex (.bool true)) xB (fun wq hR hst => ?_) ?_
 ·refine zH rfl (zE ?_)
  exact zA rfl rfl (zB ⟨rfl, yB _, _, rfl, congrArg Value.bool (by decide +kernel)⟩)
 refine zP (fun v w => ∃ xa52, v = xa52 ∧ QLc M w (4 * 2 + 50) (uA (jQ [0, 1, 3])) xa52) (fun _ _ _ ⟨xa52, e, h0⟩ r => ⟨xa52, e, h0.mono (Fz := fun _ => False) (Le.of_below r)⟩) (fun wq hR hst => ?_) ?_
 ·refine zJ rfl rfl (zH rfl (zE ?_))
  replace hn26 := ub1 hR hn26
  exact zM rfl rfl (zA rfl rfl (zB ⟨rfl, yB _, _, rfl, ⟨_, rfl, hn26⟩⟩))
 refine zP (fun v w => ∃ b o xs53 xa53 xd53, v = .pointer (some ⟨b, o, none⟩) ∧ (∀ (q : Nat) (u : Value), [.bool xs53, xa53, xd53][q]? = some u → w.cell? ⟨b, o + q, none⟩ = some u) ∧ RC M w (4 * 2 + 50) ((uA (jQ [0, 1, 3])).getD 1 0) xs53 xa53 xd53) (fun _ _ _ ⟨b, o, xs53, xa53, xd53, e, hc, h⟩ r => ⟨b, o, xs53, xa53, xd53, e, fun q u hq => jH r (hc q u hq), h.mono (Fz := fun _ => False) (Le.of_below r)⟩) (fun wq hR hst => ?_) ?_
 ·refine yC rfl (fun v52 hp52 => ?_)
  obtain ⟨xa52, rfl, hn52⟩ := hp52
  refine zH rfl (zE ?_)
  refine zM rfl rfl (gG (dflt := (0 : Rat)) (1) rfl yu22 yY rfl rfl hn52.row (by first | rfl | omega) (by first | omega | (simp; omega) | simp) (fun b53 o53 us53 hul53 hu53 hc53 => ?_))
  obtain ⟨xs53, xa53, xd53, rfl, hn53⟩ := hu53
  exact zB ⟨rfl, yB _, _, rfl, ⟨b53, o53, _, _, _, rfl, hc53, hn53⟩⟩
 refine zP (vRC M (4 * 2 + 50) ((uA (jQ [0, 1, 3])).getD 1 0)) cQ (fun wq hR hst => ?_) ?_
 ·refine yC rfl (fun v53 hp53 => ?_)
  obtain ⟨b53, o53, xs53, xa53, xd53, rfl, hc53, hn53⟩ := hp53
  refine zH rfl (zE ?_)
  exact zM rfl rfl (jZ rfl xE yY rfl hc53 rfl (zB ⟨rfl, yB _, _, rfl, ⟨_, _, _, rfl, hn53⟩⟩))
 refine zP (vRC M (2) (((2 : Nat) : Rat))) cQ (fun wq hR hst => ?_) ?_
 ·refine zH rfl (zE ?_)
  replace hM := ub1 hR hM
  refine zM rfl rfl (zI rfl dD rfl rfl ?_)
  refine (bM (k := 2)  (by omega) hM).mono ?_
  rintro v55 w8 ⟨hB55, xs55, xa55, xd55, rfl, hn55⟩
  exact zB ⟨rfl, hB55, _, rfl, ⟨_, _, _, rfl, hn55⟩⟩
 refine zP (Ex (.bool (decide (kK ((uA (jQ [0, 1, 3])).getD 1 0) (((2 : Nat) : Rat)) = 0)))) xB (fun wq hR hst => ?_) ?_
 ·refine yC rfl (fun v54 hp54 => ?_)
  obtain ⟨xs54, xa54, xd54, rfl, hn54⟩ := hp54
  refine yC rfl (fun v55 hp55 => ?_)
  obtain ⟨xs55, xa55, xd55, rfl, hn55⟩ := hp55
  refine zH rfl (zE ?_)
  replace hM := ub1 hR hM
  refine zM rfl rfl (zI rfl bod58 rfl rfl ?_)
  refine (r7same_c hn54.gen hn55.gen (by omega) (by omega) hM).mono ?_
  rintro v56 w9 ⟨hB56, rfl⟩
  exact zB ⟨rfl, hB56, _, rfl, rfl⟩
 refine zP (Ex (.bool (decide (kK ((uA (jQ [0, 1, 3])).getD 1 0) (((2 : Nat) : Rat)) = 0)))) xB (fun wq hR hst => ?_) ?_
 ·refine zH rfl (zH rfl (zE ?_))
  exact xA rfl rfl rfl (on0 rfl)
 refine zP (Ex (.bool true)) xB (fun wq hR hst => ?_) ?_
 ·refine zH rfl (zE ?_)
  exact zA rfl rfl (zB ⟨rfl, yB _, _, rfl, congrArg Value.bool (by decide +kernel)⟩)
 refine zP (fun v w => ∃ xa59, v = xa59 ∧ QLc M w (2) (jQ [0, 1, 3]) xa59) (fun _ _ _ ⟨xa59, e, h0⟩ r => ⟨xa59, e, h0.mono (Fz := fun _ => False) (Le.of_below r)⟩) (fun wq hR hst => ?_) ?_
 ·refine zJ rfl rfl (zH rfl (zE ?_))
  replace hn10 := ub1 hR hn10
  exact zM rfl rfl (zA rfl rfl (zB ⟨rfl, yB _, _, rfl, ⟨_, rfl, hn10⟩⟩))
 refine zP (Ex (.bool (decide (gT (jQ [0, 1, 3]))))) xB (fun wq hR hst => ?_) ?_
 ·refine yC rfl (fun v59 hp59 => ?_)
  obtain ⟨xa59, rfl, hn59⟩ := hp59
  refine zH rfl (zE ?_)
  obtain ⟨hM, hT⟩ := ub2 hR hM hT
  refine zM rfl rfl (zI rfl bod19 rfl rfl ?_)
  refine (crises_c hT hn59.gen (by omega) (by first | omega | simp [jQ]) hM).mono ?_
  rintro v60 w10 ⟨hB60, rfl⟩
  exact zB ⟨rfl, hB60, _, rfl, rfl⟩
 refine zP (Ex (.bool (decide (gT (jQ [0, 1, 3]))))) xB (fun wq hR hst => ?_) ?_
 ·refine zH rfl (zH rfl (zE ?_))
  exact xA rfl rfl rfl (on0 rfl)
 refine zP (Ex (.bool true)) xB (fun wq hR hst => ?_) ?_
 ·refine zH rfl (zE ?_)
  exact zA rfl rfl (zB ⟨rfl, yB _, _, rfl, congrArg Value.bool (by decide +kernel)⟩)
 refine zP (fun v w => ∃ xa63, v = xa63 ∧ QLc M w (4 * 2 + 50) (uA (jQ [0, 1, 3])) xa63) (fun _ _ _ ⟨xa63, e, h0⟩ r => ⟨xa63, e, h0.mono (Fz := fun _ => False) (Le.of_below r)⟩) (fun wq hR hst => ?_) ?_
 ·refine zJ rfl rfl (zH rfl (zE ?_))
  replace hn26 := ub1 hR hn26
  exact zM rfl rfl (zA rfl rfl (zB ⟨rfl, yB _, _, rfl, ⟨_, rfl, hn26⟩⟩))
 refine zP (fun v w => ∃ b o xs64 xa64 xd64, v = .pointer (some ⟨b, o, none⟩) ∧ (∀ (q : Nat) (u : Value), [.bool xs64, xa64, xd64][q]? = some u → w.cell? ⟨b, o + q, none⟩ = some u) ∧ RC M w (4 * 2 + 50) ((uA (jQ [0, 1, 3])).getD 0 0) xs64 xa64 xd64) (fun _ _ _ ⟨b, o, xs64, xa64, xd64, e, hc, h⟩ r => ⟨b, o, xs64, xa64, xd64, e, fun q u hq => jH r (hc q u hq), h.mono (Fz := fun _ => False) (Le.of_below r)⟩) (fun wq hR hst => ?_) ?_
 ·refine yC rfl (fun v63 hp63 => ?_)
  obtain ⟨xa63, rfl, hn63⟩ := hp63
  refine zH rfl (zE ?_)
  refine zM rfl rfl (gG (dflt := (0 : Rat)) (0) rfl yu22 yY rfl rfl hn63.row (by first | rfl | omega) (by first | omega | (simp; omega) | simp) (fun b64 o64 us64 hul64 hu64 hc64 => ?_))
  obtain ⟨xs64, xa64, xd64, rfl, hn64⟩ := hu64
  exact zB ⟨rfl, yB _, _, rfl, ⟨b64, o64, _, _, _, rfl, hc64, hn64⟩⟩
 refine zP (vRC M (4 * 2 + 50) ((uA (jQ [0, 1, 3])).getD 0 0)) cQ (fun wq hR hst => ?_) ?_
 ·refine yC rfl (fun v64 hp64 => ?_)
  obtain ⟨b64, o64, xs64, xa64, xd64, rfl, hc64, hn64⟩ := hp64
  refine zH rfl (zE ?_)
  exact zM rfl rfl (jZ rfl xE yY rfl hc64 rfl (zB ⟨rfl, yB _, _, rfl, ⟨_, _, _, rfl, hn64⟩⟩))
 refine zP (fun v w => ∃ xa66, v = xa66 ∧ QLc M w (4 * 2 + 50) (uA (jQ [0, 1, 3])) xa66) (fun _ _ _ ⟨xa66, e, h0⟩ r => ⟨xa66, e, h0.mono (Fz := fun _ => False) (Le.of_below r)⟩) (fun wq hR hst => ?_) ?_
 ·refine zJ rfl rfl (zH rfl (zE ?_))
  replace hn26 := ub1 hR hn26
  exact zM rfl rfl (zA rfl rfl (zB ⟨rfl, yB _, _, rfl, ⟨_, rfl, hn26⟩⟩))
 refine zP (fun v w => ∃ b o xs67 xa67 xd67, v = .pointer (some ⟨b, o, none⟩) ∧ (∀ (q : Nat) (u : Value), [.bool xs67, xa67, xd67][q]? = some u → w.cell? ⟨b, o + q, none⟩ = some u) ∧ RC M w (4 * 2 + 50) ((uA (jQ [0, 1, 3])).getD 0 0) xs67 xa67 xd67) (fun _ _ _ ⟨b, o, xs67, xa67, xd67, e, hc, h⟩ r => ⟨b, o, xs67, xa67, xd67, e, fun q u hq => jH r (hc q u hq), h.mono (Fz := fun _ => False) (Le.of_below r)⟩) (fun wq hR hst => ?_) ?_
 ·refine yC rfl (fun v66 hp66 => ?_)
  obtain ⟨xa66, rfl, hn66⟩ := hp66
  refine zH rfl (zE ?_)
  refine zM rfl rfl (gG (dflt := (0 : Rat)) (0) rfl yu22 yY rfl rfl hn66.row (by first | rfl | omega) (by first | omega | (simp; omega) | simp) (fun b67 o67 us67 hul67 hu67 hc67 => ?_))
  obtain ⟨xs67, xa67, xd67, rfl, hn67⟩ := hu67
  exact zB ⟨rfl, yB _, _, rfl, ⟨b67, o67, _, _, _, rfl, hc67, hn67⟩⟩
 refine zP (vRC M (4 * 2 + 50) ((uA (jQ [0, 1, 3])).getD 0 0)) cQ (fun wq hR hst => ?_) ?_
 ·refine yC rfl (fun v67 hp67 => ?_)
  obtain ⟨b67, o67, xs67, xa67, xd67, rfl, hc67, hn67⟩ := hp67
  refine zH rfl (zE ?_)
  exact zM rfl rfl (jZ rfl xE yY rfl hc67 rfl (zB ⟨rfl, yB _, _, rfl, ⟨_, _, _, rfl, hn67⟩⟩))
 refine xR (fun wq5 hR5 hpost5 => ?_)
 refine zJ rfl rfl (zH rfl (yC rfl (fun v65 hp65 => ?_)))
 obtain ⟨xs65, xa65, xd65, rfl, hn65⟩ := hp65
 refine yC rfl (fun v68 hp68 => ?_)
 obtain ⟨xs68, xa68, xd68, rfl, hn68⟩ := hp68
 refine zE ?_
 simp only [List.drop_succ_cons, List.drop_zero, List.drop_nil, List.toList_toArray]
 obtain ⟨LL, hM⟩ := ub2 hR5 LL hM
 refine zM rfl rfl (jA rfl yu22 yY rfl rfl rfl rfl (yO rfl (yO rfl xS)) rfl rfl rfl (fun w11 b69 N69 => ?_))
 have hBw11 := N69.below
 have nM69 := hM.new N69
 have B69 := N69.blk
 obtain ⟨LL, hM, hn65, hn68⟩ := ub4 hBw11 LL hM hn65 hn68
 refine zM rfl rfl (zI rfl bod23 rfl rfl ?_)
 refine (r7add2 (KBlk.mk B69 nM69) hn65.gen hn68.gen (by omega) (by omega) hM).mono ?_
 rintro v70 w12 ⟨hB70, xs70, xa70, xd70, rfl, hn70⟩
 obtain ⟨LL, hM⟩ := ub2 hB70 LL hM
 refine zM rfl rfl (zI rfl dD rfl rfl ?_)
 refine (bM (k := 1)  (by omega) hM).mono ?_
 rintro v71 w13 ⟨hB71, xs71, xa71, xd71, rfl, hn71⟩
 obtain ⟨LL, hM, hn70⟩ := ub3 hB71 LL hM hn70
 refine zM rfl rfl (zI rfl bod58 rfl rfl ?_)
 refine (r7same_c hn70.gen hn71.gen (by omega) (by omega) hM).mono ?_
 rintro v72 w14 ⟨hB72, rfl⟩
 replace LL := ub1 hB72 LL
 refine xA rfl rfl rfl (dZ (d := 73) rfl (by decide +kernel) (zD rfl rfl (zB (zZ ?_))))
 refine zN ⟨[_], ⟨rfl, trivial⟩, ?_⟩
 dsimp only [zW]
 subst hFz
 exact ⟨LL.below (Nat.le_refl _), rfl⟩
end Go.Proofs.YtfkejnlohkgbgaaGreatDoor
set_option maxRecDepth 100000
namespace Go.Proofs.YtfkejnlohkgbgaaGreatDoor
open Go.SL Go.RowKit Go.Proofs Tryz
variable {M : Nat → Prop} {w : World}
theorem great_not {l : List N2} (h : bQ l = false) : l.length ≤ 20 := by
  unfold bQ at h
  rw [decide_eq_false_iff_not] at h
  omega
theorem mids_rise {l : List Rat} (h : gT l) : gT (uA l) := fun i hi => by
  rw [kB] at hi
  rw [midsQ_getD (show i < l.length - 1 by omega), midsQ_getD (show i + 1 < l.length - 1 by omega)]
  have h1 := (betw_ok (h i (by omega))).2
  have h2 := (betw_ok (h (i + 1) (by omega))).1
  grind
theorem find_mid {l : List Rat} (h : gT l) {s : Nat} (hs : s < (uA l).length) : jJ l ((uA l).getD s 0) = (s, false, true) := by
  rw [kB] at hs
  rw [midsQ_getD hs]
  have hb := betw_ok (h s (by omega))
  exact find_slab h (by omega) hb.1 hb.2
theorem find_out_l {l : List Rat} (h : gT l) (hl : l.length ≠ 0) : jJ l (l.getD 0 0 - ((1 : Nat) : Rat)) = (0, false, false) := find_left h fun j hj => by
  have e : ((1 : Nat) : Rat) = 1 := rfl
  rw [e]
  rcases Nat.eq_zero_or_pos j with rfl | c
  · grind
  · have := aJ h c hj; grind
theorem find_out_r {l : List Rat} (h : gT l) (hl : l.length ≠ 0) : jJ l (l.getD (l.length - 1) 0 + ((1 : Nat) : Rat)) = (0, false, false) := find_right h fun j hj => by
  have e : ((1 : Nat) : Rat) = 1 := rfl
  rw [e]
  rcases Nat.lt_or_ge j (l.length - 1) with c | c
  · have := aJ h c (show l.length - 1 < l.length by omega); grind
  · obtain rfl : j = l.length - 1 := by omega
    grind
theorem find_nil {l : List Rat} (h : gT l) (hl : l.length = 0) (x : Rat) : jJ l x = (0, false, false) := find_left h fun j hj => by omega
def mxl (l : List RRt) : Nat := l.foldr (fun x n => max (max x.2.1.length x.2.2.length) n) 0
theorem mxl_mem : ∀ {l : List RRt} {x : RRt}, x ∈ l → x.2.1.length ≤ mxl l ∧ x.2.2.length ≤ mxl l
  | y :: l, x, h => by
    have e : mxl (y :: l) = max (max y.2.1.length y.2.2.length) (mxl l) := rfl
    rw [e]
    rcases List.mem_cons.1 h with rfl | h
    · omega
    · have := mxl_mem h; omega
theorem mxl_le : ∀ {l : List RRt}, (∀ x ∈ l, max x.2.1.length x.2.2.length ≤ 2) → mxl l ≤ 2
  | [], _ => by simp [mxl]
  | y :: l, h => by
    have e : mxl (y :: l) = max (max y.2.1.length y.2.2.length) (mxl l) := rfl
    rw [e]
    have h1 := h y (by simp)
    have h2 := mxl_le (l := l) fun x hx => h x (by simp [hx])
    omega
def len2 (x : RRt) : N2 := (x.2.1.length, x.2.2.length)
theorem ql_of {v : Value} {l : List RRt} (h : IsRats M w v l) : QL M w (mxl l) (l.map rq) v :=
  ⟨by
    obtain ⟨cs, h1, h2⟩ := h.row
    refine ⟨cs, by simpa using h1, fun i a ha => ?_⟩
    rw [List.getElem?_map] at ha
    cases hl : l[i]? with
    | none => rw [hl] at ha; cases ha
    | some x =>
      rw [hl] at ha
      obtain rfl := Option.some.inj ha
      obtain ⟨us, h3, h4, u, d, rfl, g1, g2⟩ := h2 i x hl
      have hx := mxl_mem (List.mem_of_getElem? hl)
      exact ⟨_, h3, h4, x.1, u, d, rfl, ⟨x.2.1, x.2.2, g1, g2, hx.1, hx.2, rfl⟩⟩⟩
theorem nat_sl {v : Value} {xs : List Nat} (h : IsNat M w v xs) : ∃ p c, v = .slice p xs.length c := by
  obtain ⟨_, _, ad, cap, e, _⟩ := h.slc
  exact ⟨ad, cap, by simpa using e⟩
theorem q2l_of {v : Value} {l : List RRt} (h : IsRats M w v l) : Q2L M w 0 (l.map len2) v :=
  ⟨by
    obtain ⟨cs, h1, h2⟩ := h.row
    refine ⟨cs, by simpa using h1, fun i a ha => ?_⟩
    rw [List.getElem?_map] at ha
    cases hl : l[i]? with
    | none => rw [hl] at ha; cases ha
    | some x =>
      rw [hl] at ha
      obtain rfl := Option.some.inj ha
      obtain ⟨us, h3, h4, u, d, rfl, g1, g2⟩ := h2 i x hl
      exact ⟨_, h3, h4, x.1, u, d, rfl, ⟨nat_sl g1, nat_sl g2⟩⟩⟩
theorem len2_len {l : List RRt} : (l.map len2).length = (l.map rq).length := by simp
theorem great_mx {l : List RRt} (h : bQ (l.map len2) = false) : mxl l ≤ 2 := by
  unfold bQ at h
  rw [decide_eq_false_iff_not] at h
  refine mxl_le fun x hx => Nat.not_lt.1 fun c => h (.inr ⟨len2 x, List.mem_map_of_mem hx, c⟩)
theorem law_CutsFind {l : List Rat} {n0 : Nat} {xa0 : Value} (hT : Tab M w) (h0 : QL M w n0 l xa0) {l2 : List N2} (z0 : Q2L M w 0 l2 xa0) (hll : l2.length = l.length) (hn0 : bQ l2 = false → n0 ≤ 2) (hM : OkM M w) :
    CallsV prog 3 [xa0] w fun r w' => Below w.heap.size w w' ∧ r = .bool true := by
 obtain ⟨Fz, hFz, hF, LL⟩ := fz0 M w
 obtain ⟨oxa0, _⟩ := h0.one
 have hM0 := hM
 refine zQ func3 rfl ntmps3 rfl ?_
 refine zF (zC (zD rfl rfl (zB (zF (zF (zC (zA rfl rfl (zI rfl bod15 rfl rfl ?_))))))))
 refine (great22_c z0 (by omega) hM).mono ?_
 rintro v19 w1 ⟨hB19, rfl⟩
 obtain ⟨LL, hM, hF, hT, h0⟩ := ub5 hB19 LL hM hF hT h0
 refine zA rfl rfl (ops_bcase (d := 20) rfl (fun hg1_2 => ?_) (fun hg1_2 => ?_))
 ·refine zU rfl rfl rfl rfl (zU rfl rfl rfl rfl (zU rfl rfl rfl rfl (xA rfl rfl rfl (zB (uF rfl (zF (zC (zI rfl bod17 rfl rfl ?_))))))))
  refine (wakes22_c hT   hM).mono ?_
  rintro v25 w2 ⟨hB25, rfl⟩
  replace LL := ub1 hB25 LL
  refine zD rfl rfl (zB (zZ ?_))
  refine zN ⟨[_], ⟨rfl, trivial⟩, ?_⟩
  dsimp only [zW]
  subst hFz
  exact ⟨LL.below (Nat.le_refl _), rfl⟩
 ·refine zM rfl rfl (zA rfl rfl (zM rfl rfl (zI rfl bod16 rfl rfl ?_)))
  refine (rises22_c h0 (by have := hn0 (by simpa using hg1_2); omega) (by have := great_not (l := l2) (by simpa using hg1_2); omega) hM).mono ?_
  rintro v22 w3 ⟨hB22, rfl⟩
  obtain ⟨LL, hM, hF, hT, h0⟩ := ub5 hB22 LL hM hF hT h0
  refine zM rfl rfl (gR rfl rfl (xA rfl rfl rfl (zB ?_)))
  refine qX rfl (fun hc0 => ?_) (fun hc0 => ?_)
  ·refine zF (zC (zI rfl bod17 rfl rfl ?_))
   refine (wakes22_c hT   hM).mono ?_
   rintro v25 w4 ⟨hB25, rfl⟩
   replace LL := ub1 hB25 LL
   refine zD rfl rfl (zB (zZ ?_))
   refine zN ⟨[_], ⟨rfl, trivial⟩, ?_⟩
   dsimp only [zW]
   subst hFz
   exact ⟨LL.below (Nat.le_refl _), rfl⟩
  ·have hgl := great_not (l := l2) (by simpa using hg1_2)
   have hz0 := hn0 (by simpa using hg1_2)
   have hr : gT l := by simpa using hc0
   have hmL := kB l
   refine yH (zF (zC (zA rfl rfl (zI rfl bod18 rfl rfl ?_))))
   refine (mids_c hT h0 (by omega) (by first | assumption | decide +kernel) (by first | omega | simp [jQ]) hM).mono ?_
   rintro v27 w5 ⟨hB27, xa27, rfl, hn27⟩
   obtain ⟨LL, hM, hF, hT, h0⟩ := ub5 hB27 LL hM hF hT h0
   obtain ⟨oxa27, _⟩ := hn27.one
   refine zD rfl rfl (zB (zF (zF (zC (zA rfl rfl (gB rfl yu22 rfl hn27.row (zA rfl rfl (gB rfl yu22 rfl h0.row (jL rfl rfl rfl (by omega) (qZ rfl rfl rfl (cO rfl rfl rfl (zA rfl rfl (aO (d := 35) rfl (decide_eq_false (by rw [kB]; omega)) (zM rfl rfl ?_))))))))))))))
   refine zA rfl rfl (zM rfl rfl (zI rfl bod19 rfl rfl ?_))
   refine (crises_c hT h0 (by omega) (by first | omega | simp [jQ]) hM).mono ?_
   rintro v37 w6 ⟨hB37, rfl⟩
   obtain ⟨LL, hM, hF, hT, h0, hn27⟩ := ub6 hB37 LL hM hF hT h0 hn27
   refine zM rfl rfl (gR rfl rfl (xA rfl rfl rfl (zA rfl rfl (aO (d := 40) rfl (by rw [decide_eq_true hr]; rfl) (zM rfl rfl (zA rfl rfl (zM rfl rfl (zI rfl bod19 rfl rfl ?_))))))))
   refine (crises_c hT hn27.gen (by omega) (by first | omega | simp [jQ]) hM).mono ?_
   rintro v42 w7 ⟨hB42, rfl⟩
   obtain ⟨LL, hM, hF, hT, h0, hn27⟩ := ub6 hB42 LL hM hF hT h0 hn27
   refine zM rfl rfl (gR rfl rfl (xA rfl rfl rfl (aO (d := 44) rfl (by rw [decide_eq_true (mids_rise hr)]; rfl) (zB (gQ rfl (yH (zF (zF (zC (zD rfl rfl (zB (yA ?_))))))))))))
   refine xN (σ := Nat) [(0, _), (3, _)] (fun s => [(4, .int .i64 ((s : Nat) : Int))]) (fun s w8 => Le Fz M w7 M w8 ∧ s ≤ l.length) (fun s => l.length - s) (0) (zG rfl (zG rfl (zG rfl yF))) ?_ (fun s w8 hJ => ?_)
   · exact ⟨Le.refl _ _ _, by omega⟩
   ·obtain ⟨LR, hk⟩ := hJ
    obtain ⟨LL, hM, hF, hT, h0, hn27⟩ := up6 LR LL hM hF hT h0 hn27
    refine zF (zF (zC (zA rfl rfl (zA rfl rfl (gB rfl yu22 rfl h0.row (jG rfl rfl rfl (zB ?_)))))))
    refine zX rfl (fun hc1 => ?_) (fun hc1 => ?_)
    ·refine yH (zF (yA (zF (zC (zA rfl rfl (zA rfl rfl (zA rfl rfl (gG (dflt := (0 : Rat)) (s) rfl yu22 yY rfl rfl h0.row (by first | rfl | omega) (by first | omega | (simp; omega) | simp) (fun b55 o55 us55 hul55 hu55 hc55 => ?_)))))))))
     obtain ⟨xs55, xa55, xd55, rfl, hn55⟩ := hu55
     refine jZ rfl xE yY rfl hc55 rfl (zI rfl eF rfl rfl ?_)
     refine (bS hT h0 hn55 (by omega) (by omega) (by first | omega | simp [jQ]) hM).mono ?_
     rintro v57 w9 ⟨hB57, rfl⟩
     obtain ⟨LR, hM, hT, h0, hn27⟩ := ub5 hB57 LR hM hT h0 hn27
     refine zA rfl rfl (zT rfl rfl rfl (zT rfl rfl rfl (zT rfl rfl rfl (zD rfl rfl (zD rfl rfl (zD rfl rfl (zB (zF (zF (zC (zA rfl rfl (gR rfl rfl (zA rfl rfl (aO (d := 63) rfl (by rw [find_wall hr (by omega)]; rfl) ?_))))))))))))))
     refine zM rfl rfl (zA rfl rfl (zM rfl rfl (gR rfl rfl (xA rfl rfl rfl (zA rfl rfl (aO (d := 67) rfl (by rw [find_wall hr (by omega)]; rfl) (zM rfl rfl (zA rfl rfl (zM rfl rfl (zA rfl rfl (zM rfl rfl (cO rfl rfl rfl (xA rfl rfl rfl (aO (d := 71) rfl (by rw [find_wall hr (by omega)]; simp) ?_))))))))))))))
     refine zB (gQ rfl (yH (zF (zC (zA rfl rfl (zA rfl rfl (gB rfl yu22 rfl hn27.row (jG rfl rfl rfl (zB ?_)))))))))
     refine zX rfl (fun hc2 => ?_) (fun hc2 => ?_)
     ·refine zF (zC (zA rfl rfl (zA rfl rfl (zA rfl rfl (gG (dflt := (0 : Rat)) (s) rfl yu22 yY rfl rfl hn27.row (by first | rfl | omega) (by first | omega | (simp; omega) | simp) (fun b80 o80 us80 hul80 hu80 hc80 => ?_))))))
      obtain ⟨xs80, xa80, xd80, rfl, hn80⟩ := hu80
      refine jZ rfl xE yY rfl hc80 rfl (zI rfl eF rfl rfl ?_)
      refine (bS hT h0 hn80.gen (by omega) (by omega) (by first | omega | simp [jQ]) hM).mono ?_
      rintro v82 w10 ⟨hB82, rfl⟩
      replace LR := ub1 hB82 LR
      refine zA rfl rfl (zT rfl rfl rfl (zT rfl rfl rfl (zT rfl rfl rfl (zD rfl rfl (zD rfl rfl (zD rfl rfl (zB (zF (zC (zA rfl rfl (gR rfl rfl (zA rfl rfl (aO (d := 88) rfl (by rw [find_mid hr (by omega)]; rfl) (zM rfl rfl ?_))))))))))))))
      refine zA rfl rfl (xA rfl rfl rfl (zA rfl rfl (aO (d := 91) rfl (by rw [find_mid hr (by omega)]) (zM rfl rfl (zA rfl rfl (zM rfl rfl (zA rfl rfl (zM rfl rfl (cO rfl rfl rfl (xA rfl rfl rfl (aO (d := 95) rfl (by rw [find_mid hr (by omega)]; simp) (zB (gQ rfl (yH ?_))))))))))))))
      refine zC (zA rfl rfl (yR rfl rfl rfl (by omega) (zD rfl rfl (zB ?_))))
      refine ⟨rfl, s + 1, (zV rfl (by rw [Int.natCast_add]; rfl) (zG rfl (zG rfl yF))), ?_, ?_⟩
      exact ⟨LR, by omega⟩
      omega
     ·refine yH (zC (zA rfl rfl (yR rfl rfl rfl (by omega) (zD rfl rfl (zB ?_)))))
      refine ⟨rfl, s + 1, (zV rfl (by rw [Int.natCast_add]; rfl) (zG rfl (zG rfl yF))), ?_, ?_⟩
      exact ⟨LR, by omega⟩
      omega
    ·refine xF (xG (zF (zF (zC (zA rfl rfl (gB rfl yu22 rfl h0.row (gI rfl rfl rfl (zB ?_))))))))
     refine zX rfl (fun hc3 => ?_) (fun hc3 => ?_)
     ·refine zF (zC (zA rfl rfl (zI rfl dD rfl rfl ?_)))
      refine (bM (k := 0)  (by omega) hM).mono ?_
      rintro v101 w11 ⟨hB101, xs101, xa101, xd101, rfl, hn101⟩
      obtain ⟨LL, hM, hT, h0⟩ := ub4 hB101 LL hM hT h0
      refine zI rfl eF rfl rfl ?_
      refine (bS hT h0 hn101.gen (by omega) (by omega) (by first | omega | simp [jQ]) hM).mono ?_
      rintro v102 w12 ⟨hB102, rfl⟩
      obtain ⟨LL, hM, hT⟩ := ub3 hB102 LL hM hT
      refine zA rfl rfl (zT rfl rfl rfl (zT rfl rfl rfl (zT rfl rfl rfl (zD rfl rfl (zD rfl rfl (zD rfl rfl (zB (zF (zC (zA rfl rfl (gR rfl rfl (zA rfl rfl (dZ (d := 108) rfl (by rw [find_nil hr (by omega)]; rfl) (zM rfl rfl ?_))))))))))))))
      refine zI rfl bod17 rfl rfl ?_
      refine (wakes22_c hT   hM).mono ?_
      rintro v109 w13 ⟨hB109, rfl⟩
      replace LL := ub1 hB109 LL
      refine xA rfl rfl rfl (zD rfl rfl (zB (zZ ?_)))
      refine zN ⟨[_], ⟨rfl, trivial⟩, ?_⟩
      dsimp only [zW]
      subst hFz
      exact ⟨LL.below (Nat.le_refl _), rfl⟩
     ·refine yH (zF (zC (zI rfl dD rfl rfl ?_)))
      refine (bM (k := 1)  (by omega) hM).mono ?_
      rintro v111 w14 ⟨hB111, xs111, xa111, xd111, rfl, hn111⟩
      obtain ⟨LL, hM, hF, hT, h0⟩ := ub5 hB111 LL hM hF hT h0
      obtain ⟨oxa111, oxd111, _⟩ := hn111.one
      refine yU rfl yY (fun w15 b11 N11 => ?_)
      obtain ⟨_, nF11, nM11, Lw15, B11⟩ := nza hF hM N11
      obtain ⟨LL, hM, hT, h0, hn111⟩ := up5 Lw15 LL hM hT h0 hn111
      refine yK rfl rfl yY B11 rfl rfl (xC rfl (xC (by first | rfl | assumption) (xC (by first | rfl | assumption) gD))) rfl (fun w16 Cw16 B11 => ?_)
      have Lw16 := Le.of_chg (M := (Ins b11 M)) Cw16 zS nF11
      obtain ⟨LL, hM, hT, h0, hn111⟩ := up5 Lw16 LL hM hT h0 hn111
      refine zB (zF ?_)
      refine xQ (R := Rb) (R' := Rb) (st := none) jR 13 [0, 11, 122] (by decide +kernel) xO xY (xX _) (fun _ _ _ h => by cases h) ?_
      refine zP (fun v w => ∃ xa113, v = xa113 ∧ QL (Ins b11 M) w (n0) (l) xa113) (fun _ _ _ ⟨xa113, e, h0⟩ r => ⟨xa113, e, h0.mono (Fz := fun _ => False) (Le.of_below r)⟩) (fun wq hR hst => ?_) ?_
      ·refine zJ rfl rfl (zE ?_)
       replace h0 := ub1 hR h0
       exact zA rfl rfl (zB ⟨rfl, yB _, _, rfl, ⟨_, rfl, h0⟩⟩)
      refine zP (fun v w => ∃ xa114, v = xa114 ∧ QL (Ins b11 M) w (n0) (l) xa114) (fun _ _ _ ⟨xa114, e, h0⟩ r => ⟨xa114, e, h0.mono (Fz := fun _ => False) (Le.of_below r)⟩) (fun wq hR hst => ?_) ?_
      ·refine zJ rfl rfl (zE ?_)
       replace h0 := ub1 hR h0
       exact zA rfl rfl (zB ⟨rfl, yB _, _, rfl, ⟨_, rfl, h0⟩⟩)
      refine zP (fun v w => ∃ b o xs115 xa115 xd115, v = .pointer (some ⟨b, o, none⟩) ∧ (∀ (q : Nat) (u : Value), [.bool xs115, xa115, xd115][q]? = some u → w.cell? ⟨b, o + q, none⟩ = some u) ∧ QC (Ins b11 M) w (n0) (l.getD 0 0) xs115 xa115 xd115) (fun _ _ _ ⟨b, o, xs115, xa115, xd115, e, hc, h⟩ r => ⟨b, o, xs115, xa115, xd115, e, fun q u hq => jH r (hc q u hq), h.mono (Fz := fun _ => False) (Le.of_below r)⟩) (fun wq hR hst => ?_) ?_
      ·refine yC rfl (fun v114 hp114 => ?_)
       obtain ⟨xa114, rfl, hn114⟩ := hp114
       refine zE ?_
       refine gG (dflt := (0 : Rat)) (0) rfl yu22 yY rfl rfl hn114.row (by first | rfl | omega) (by first | omega | (simp; omega) | simp) (fun b115 o115 us115 hul115 hu115 hc115 => ?_)
       obtain ⟨xs115, xa115, xd115, rfl, hn115⟩ := hu115
       exact zB ⟨rfl, yB _, _, rfl, ⟨b115, o115, _, _, _, rfl, hc115, hn115⟩⟩
      refine zP (vQC (Ins b11 M) (n0) (l.getD 0 0)) cM (fun wq hR hst => ?_) ?_
      ·refine yC rfl (fun v115 hp115 => ?_)
       obtain ⟨b115, o115, xs115, xa115, xd115, rfl, hc115, hn115⟩ := hp115
       refine zE ?_
       exact jZ rfl xE yY rfl hc115 rfl (zB ⟨rfl, yB _, _, rfl, ⟨_, _, _, rfl, hn115⟩⟩)
      refine zK (fun _ hR _ => zJ rfl rfl (zE (yE rfl xE yY rfl (B11.below hR) rfl rfl (on0 rfl)))) ?_
      refine zP (vRC (Ins b11 M) (n0 + 2 + 5) ((l.getD 0 0) - (((1 : Nat) : Rat)))) cQ (fun wq hR hst => ?_) ?_
      ·refine yC rfl (fun v116 hp116 => ?_)
       obtain ⟨xs116, xa116, xd116, rfl, hn116⟩ := hp116
       refine zH rfl (zE ?_)
       obtain ⟨hM, hn111⟩ := ub2 hR hM hn111
       refine zI rfl bod22 rfl rfl ?_
       refine (r7sub_c hn116 hn111.gen (by omega) (by omega) hM).mono ?_
       rintro v118 w17 ⟨hB118, xs118, xa118, xd118, rfl, hn118⟩
       exact zB ⟨rfl, hB118, _, rfl, ⟨_, _, _, rfl, hn118⟩⟩
      refine zP (fun v w => v = .tuple #[.int .i64 (((jJ l ((l.getD 0 0) - (((1 : Nat) : Rat)))).1 : Nat) : Int), .bool (jJ l ((l.getD 0 0) - (((1 : Nat) : Rat)))).2.1, .bool (jJ l ((l.getD 0 0) - (((1 : Nat) : Rat)))).2.2]) (fun _ _ _ e r => e) (fun wq hR hst => ?_) ?_
      ·refine yC rfl (fun v113 hp113 => ?_)
       obtain ⟨xa113, rfl, hn113⟩ := hp113
       refine yC rfl (fun v118 hp118 => ?_)
       obtain ⟨xs118, xa118, xd118, rfl, hn118⟩ := hp118
       refine zE ?_
       obtain ⟨hM, hT⟩ := ub2 hR hM hT
       refine zI rfl eF rfl rfl ?_
       refine (bS hT hn113 hn118.gen (by omega) (by omega) (by first | omega | simp [jQ]) hM).mono ?_
       rintro v119 w18 ⟨hB119, rfl⟩
       exact zB ⟨rfl, hB119, _, rfl, rfl⟩
      refine zP (fun v w => v = .tuple #[.int .i64 (((jJ l ((l.getD 0 0) - (((1 : Nat) : Rat)))).1 : Nat) : Int), .bool (jJ l ((l.getD 0 0) - (((1 : Nat) : Rat)))).2.1, .bool (jJ l ((l.getD 0 0) - (((1 : Nat) : Rat)))).2.2]) (fun _ _ _ e r => e) (fun wq hR hst => ?_) ?_
      ·refine yC rfl (fun v119 hp119 => ?_)
       obtain rfl := hp119
       refine zE ?_
       exact zA rfl rfl (on0 rfl)
      refine zP (Ex (.int .i64 (((jJ l ((l.getD 0 0) - (((1 : Nat) : Rat)))).1 : Nat) : Int))) xB (fun wq hR hst => ?_) ?_
      ·refine yC rfl (fun v112 hp112 => ?_)
       obtain rfl := hp112
       refine zE ?_
       exact zT rfl rfl rfl (on0 rfl)
      refine zP (Ex (.bool (jJ l ((l.getD 0 0) - (((1 : Nat) : Rat)))).2.1)) xB (fun wq hR hst => ?_) ?_
      ·refine yC rfl (fun v112 hp112 => ?_)
       obtain rfl := hp112
       refine zE ?_
       exact zT rfl rfl rfl (on0 rfl)
      refine zP (Ex (.bool (jJ l ((l.getD 0 0) - (((1 : Nat) : Rat)))).2.2)) xB (fun wq hR hst => ?_) ?_
      ·refine yC rfl (fun v112 hp112 => ?_)
       obtain rfl := hp112
       refine zE ?_
       exact zT rfl rfl rfl (on0 rfl)
      refine zP (Ex (.int .i64 (((jJ l ((l.getD 0 0) - (((1 : Nat) : Rat)))).1 : Nat) : Int))) xB (fun wq hR hst => ?_) ?_
      ·refine zH rfl (zE ?_)
       exact zD rfl rfl (on0 rfl)
      refine zP (Ex (.bool (jJ l ((l.getD 0 0) - (((1 : Nat) : Rat)))).2.1)) xB (fun wq hR hst => ?_) ?_
      ·refine zH rfl (zE ?_)
       exact zD rfl rfl (on0 rfl)
      refine xR (fun wq20 hR20 hpost20 => ?_)
      refine zJ rfl rfl (zJ rfl rfl (zH rfl (zE ?_)))
      simp only [List.drop_succ_cons, List.drop_zero, List.drop_nil, List.toList_toArray]
      obtain ⟨LL, hM, hT, h0, hn111, B11⟩ := ub6 hR20 LL hM hT h0 hn111 B11
      refine zD rfl rfl (zB (zF ?_))
      refine xQ (R := Rb) (R' := Rb) (st := none) jR 17 [14, 137] (by decide +kernel) xO xY (xX _) (fun _ _ _ h => by cases h) ?_
      refine zP (fun v w => ∃ xa124, v = xa124 ∧ QL (Ins b11 M) w (n0) (l) xa124) (fun _ _ _ ⟨xa124, e, h0⟩ r => ⟨xa124, e, h0.mono (Fz := fun _ => False) (Le.of_below r)⟩) (fun wq hR hst => ?_) ?_
      ·refine zJ rfl rfl (zE ?_)
       replace h0 := ub1 hR h0
       exact zA rfl rfl (zB ⟨rfl, yB _, _, rfl, ⟨_, rfl, h0⟩⟩)
      refine zP (fun v w => ∃ xa125, v = xa125 ∧ QL (Ins b11 M) w (n0) (l) xa125) (fun _ _ _ ⟨xa125, e, h0⟩ r => ⟨xa125, e, h0.mono (Fz := fun _ => False) (Le.of_below r)⟩) (fun wq hR hst => ?_) ?_
      ·refine zJ rfl rfl (zE ?_)
       replace h0 := ub1 hR h0
       exact zA rfl rfl (zB ⟨rfl, yB _, _, rfl, ⟨_, rfl, h0⟩⟩)
      refine zP (fun v w => ∃ xa126, v = xa126 ∧ QL (Ins b11 M) w (n0) (l) xa126) (fun _ _ _ ⟨xa126, e, h0⟩ r => ⟨xa126, e, h0.mono (Fz := fun _ => False) (Le.of_below r)⟩) (fun wq hR hst => ?_) ?_
      ·refine zJ rfl rfl (zE ?_)
       replace h0 := ub1 hR h0
       exact zA rfl rfl (zB ⟨rfl, yB _, _, rfl, ⟨_, rfl, h0⟩⟩)
      refine zP (Ex (.int .i64 ((l.length : Nat) : Int))) xB (fun wq hR hst => ?_) ?_
      ·refine yC rfl (fun v126 hp126 => ?_)
       obtain ⟨xa126, rfl, hn126⟩ := hp126
       refine zE ?_
       exact gB rfl yu22 rfl hn126.row (on0 rfl)
      apply zK
      ·intro wq hR hst
       refine zH rfl (zE ?_)
       exact jL rfl rfl rfl (by omega) (on0 rfl)
      refine zP (fun v w => ∃ b o xs129 xa129 xd129, v = .pointer (some ⟨b, o, none⟩) ∧ (∀ (q : Nat) (u : Value), [.bool xs129, xa129, xd129][q]? = some u → w.cell? ⟨b, o + q, none⟩ = some u) ∧ QC (Ins b11 M) w (n0) (l.getD (l.length - 1) 0) xs129 xa129 xd129) (fun _ _ _ ⟨b, o, xs129, xa129, xd129, e, hc, h⟩ r => ⟨b, o, xs129, xa129, xd129, e, fun q u hq => jH r (hc q u hq), h.mono (Fz := fun _ => False) (Le.of_below r)⟩) (fun wq hR hst => ?_) ?_
      ·refine yC rfl (fun v125 hp125 => ?_)
       obtain ⟨xa125, rfl, hn125⟩ := hp125
       refine zH rfl (zE ?_)
       refine gG (dflt := (0 : Rat)) (l.length - 1) rfl yu22 yY rfl rfl hn125.row (by first | rfl | omega) (by first | omega | (simp; omega) | simp) (fun b129 o129 us129 hul129 hu129 hc129 => ?_)
       obtain ⟨xs129, xa129, xd129, rfl, hn129⟩ := hu129
       exact zB ⟨rfl, yB _, _, rfl, ⟨b129, o129, _, _, _, rfl, hc129, hn129⟩⟩
      refine zP (vQC (Ins b11 M) (n0) (l.getD (l.length - 1) 0)) cM (fun wq hR hst => ?_) ?_
      ·refine yC rfl (fun v129 hp129 => ?_)
       obtain ⟨b129, o129, xs129, xa129, xd129, rfl, hc129, hn129⟩ := hp129
       refine zE ?_
       exact jZ rfl xE yY rfl hc129 rfl (zB ⟨rfl, yB _, _, rfl, ⟨_, _, _, rfl, hn129⟩⟩)
      refine zK (fun _ hR _ => zJ rfl rfl (zE (yE rfl xE yY rfl (B11.below hR) rfl rfl (on0 rfl)))) ?_
      refine zP (fun v w => ∃ bb xs132 xa132 xd132 xs132b xa132b xd132b, v = .slice (some ⟨bb, 0, none⟩) 2 2 ∧ KBlk (Ins b11 M) w bb 33 [.bool xs132, xa132, xd132, .bool xs132b, xa132b, xd132b] ∧ QC (Ins b11 M) w (n0) (l.getD (l.length - 1) 0) xs132 xa132 xd132 ∧ RC (Ins b11 M) w (2) (((1 : Nat) : Rat)) xs132b xa132b xd132b) (fun _ _ _ ⟨bb, xs132, xa132, xd132, xs132b, xa132b, xd132b, e, hk, h0, h1⟩ r => ⟨bb, xs132, xa132, xd132, xs132b, xa132b, xd132b, e, hk.mono (Fz := fun _ => False) (Le.of_below r), h0.mono (Fz := fun _ => False) (Le.of_below r), h1.mono (Fz := fun _ => False) (Le.of_below r)⟩) (fun wq hR hst => ?_) ?_
      ·refine yC rfl (fun v130 hp130 => ?_)
       obtain ⟨xs130, xa130, xd130, rfl, hn130⟩ := hp130
       refine zH rfl (zE ?_)
       obtain ⟨hM, hn111⟩ := ub2 hR hM hn111
       refine jA rfl yu22 yY rfl rfl rfl rfl (yO rfl (yO rfl xS)) rfl rfl rfl (fun w19 b132 N132 => ?_)
       have hBw19 := N132.below
       have nM132 := hM.new N132
       have B132 := N132.blk
       obtain ⟨hn111, hn130⟩ := ub2 hBw19 hn111 hn130
       have hB132 := hBw19
       exact zB ⟨rfl, hB132, _, rfl, ⟨b132, _, _, _, _, _, _, rfl, KBlk.mk B132 nM132, hn130, hn111⟩⟩
      refine zP (vRC (Ins b11 M) (n0 + 2 + 3) ((l.getD (l.length - 1) 0) + (((1 : Nat) : Rat)))) cQ (fun wq hR hst => ?_) ?_
      ·refine yC rfl (fun v132 hp132 => ?_)
       obtain ⟨bb132, xs132, xa132, xd132, xs132b, xa132b, xd132b, rfl, hk132, hn132, hnb132⟩ := hp132; obtain ⟨oxa132, oxd132, _⟩ := hn132.one
       refine zE ?_
       replace hM := ub1 hR hM
       refine zI rfl bod23 rfl rfl ?_
       refine (r7add2 hk132 hn132 hnb132.gen (by omega) (by omega) hM).mono ?_
       rintro v133 w20 ⟨hB133, xs133, xa133, xd133, rfl, hn133⟩
       exact zB ⟨rfl, hB133, _, rfl, ⟨_, _, _, rfl, hn133⟩⟩
      refine zP (fun v w => v = .tuple #[.int .i64 (((jJ l ((l.getD (l.length - 1) 0) + (((1 : Nat) : Rat)))).1 : Nat) : Int), .bool (jJ l ((l.getD (l.length - 1) 0) + (((1 : Nat) : Rat)))).2.1, .bool (jJ l ((l.getD (l.length - 1) 0) + (((1 : Nat) : Rat)))).2.2]) (fun _ _ _ e r => e) (fun wq hR hst => ?_) ?_
      ·refine yC rfl (fun v124 hp124 => ?_)
       obtain ⟨xa124, rfl, hn124⟩ := hp124
       refine yC rfl (fun v133 hp133 => ?_)
       obtain ⟨xs133, xa133, xd133, rfl, hn133⟩ := hp133
       refine zE ?_
       obtain ⟨hM, hT⟩ := ub2 hR hM hT
       refine zI rfl eF rfl rfl ?_
       refine (bS hT hn124 hn133.gen (by omega) (by omega) (by first | omega | simp [jQ]) hM).mono ?_
       rintro v134 w21 ⟨hB134, rfl⟩
       exact zB ⟨rfl, hB134, _, rfl, rfl⟩
      refine zP (fun v w => v = .tuple #[.int .i64 (((jJ l ((l.getD (l.length - 1) 0) + (((1 : Nat) : Rat)))).1 : Nat) : Int), .bool (jJ l ((l.getD (l.length - 1) 0) + (((1 : Nat) : Rat)))).2.1, .bool (jJ l ((l.getD (l.length - 1) 0) + (((1 : Nat) : Rat)))).2.2]) (fun _ _ _ e r => e) (fun wq hR hst => ?_) ?_
      ·refine yC rfl (fun v134 hp134 => ?_)
       obtain rfl := hp134
       refine zE ?_
       exact zA rfl rfl (on0 rfl)
      refine zP (Ex (.int .i64 (((jJ l ((l.getD (l.length - 1) 0) + (((1 : Nat) : Rat)))).1 : Nat) : Int))) xB (fun wq hR hst => ?_) ?_
      ·refine yC rfl (fun v123 hp123 => ?_)
       obtain rfl := hp123
       refine zE ?_
       exact zT rfl rfl rfl (on0 rfl)
      refine zP (Ex (.bool (jJ l ((l.getD (l.length - 1) 0) + (((1 : Nat) : Rat)))).2.1)) xB (fun wq hR hst => ?_) ?_
      ·refine yC rfl (fun v123 hp123 => ?_)
       obtain rfl := hp123
       refine zE ?_
       exact zT rfl rfl rfl (on0 rfl)
      refine zP (Ex (.bool (jJ l ((l.getD (l.length - 1) 0) + (((1 : Nat) : Rat)))).2.2)) xB (fun wq hR hst => ?_) ?_
      ·refine yC rfl (fun v123 hp123 => ?_)
       obtain rfl := hp123
       refine zE ?_
       exact zT rfl rfl rfl (on0 rfl)
      refine zP (Ex (.int .i64 (((jJ l ((l.getD (l.length - 1) 0) + (((1 : Nat) : Rat)))).1 : Nat) : Int))) xB (fun wq hR hst => ?_) ?_
      ·refine zH rfl (zE ?_)
       exact zD rfl rfl (on0 rfl)
      refine zP (Ex (.bool (jJ l ((l.getD (l.length - 1) 0) + (((1 : Nat) : Rat)))).2.1)) xB (fun wq hR hst => ?_) ?_
      ·refine zH rfl (zE ?_)
       exact zD rfl rfl (on0 rfl)
      refine xR (fun wq21 hR21 hpost21 => ?_)
      refine zJ rfl rfl (zH rfl (zE ?_))
      simp only [List.drop_succ_cons, List.drop_zero, List.drop_nil, List.toList_toArray]
      obtain ⟨LL, hM, hT⟩ := ub3 hR21 LL hM hT
      refine zD rfl rfl (zB (zF (zC (zA rfl rfl (gR rfl rfl (zA rfl rfl (dZ (d := 140) rfl (by rw [find_out_l hr (by omega)]; rfl) (zM rfl rfl (zA rfl rfl (zM rfl rfl (gR rfl rfl (xA rfl rfl rfl (zA rfl rfl (dZ (d := 144) rfl (by rw [find_out_r hr (by omega)]; rfl) ?_))))))))))))))
      refine zM rfl rfl (zI rfl bod17 rfl rfl ?_)
      refine (wakes22_c hT   hM).mono ?_
      rintro v145 w22 ⟨hB145, rfl⟩
      replace LL := ub1 hB145 LL
      refine xA rfl rfl rfl (zD rfl rfl (zB (zZ ?_)))
      refine zN ⟨[_], ⟨rfl, trivial⟩, ?_⟩
      dsimp only [zW]
      subst hFz
      exact ⟨LL.below (Nat.le_refl _), rfl⟩
end Go.Proofs.YtfkejnlohkgbgaaGreatDoor
