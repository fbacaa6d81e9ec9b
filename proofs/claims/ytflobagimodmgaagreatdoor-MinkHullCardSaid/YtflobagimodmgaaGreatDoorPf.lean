/- Lemmas and walks of functions; no statement. -/
import Derived.Test.YtflobagimodmgaaGreatDoorPe
set_option linter.unusedVariables false
set_option linter.unusedSimpArgs false
set_option maxRecDepth 100000
namespace Go.SL
abbrev gp (h : List P2) (i : Nat) : P2 := h.getD i (0, 0)
abbrev nx (h : List P2) (i : Nat) : P2 := gp h ((i + 1) % h.length)
theorem kO {h : List P2} {i : Nat} (hi : i < h.length) : gp h i ∈ h := by
 unfold gp; rw [List.getD_eq_getElem?_getD, List.getElem?_eq_getElem hi]; exact List.getElem_mem hi
theorem lX {h : List P2} {c : P2} (hc : c ∈ h) : ∃ i, i < h.length ∧ gp h i = c := by
 obtain ⟨i, hi, rfl⟩ := List.mem_iff_getElem.1 hc
 exact ⟨i, hi, by unfold gp; rw [List.getD_eq_getElem?_getD, List.getElem?_eq_getElem hi]; rfl⟩
theorem nodup_inj {α : Type} {l : List α} (nd : l.Nodup) {i k : Nat} (hi : i < l.length) (hk : k < l.length) (e : l[i] = l[k]) : i = k := by
 rcases Nat.lt_trichotomy i k with c | c | c
 ·exact absurd e (List.pairwise_iff_getElem.1 nd i k hi hk c)
 ·exact c
 ·exact absurd e.symm (List.pairwise_iff_getElem.1 nd k i hk hi c)
theorem rlt_or (a b : Rat) : a < b ∨ b ≤ a := by grind
theorem oM {h : List P2} (nd : h.Nodup) {i k : Nat} (hi : i < h.length) (hk : k < h.length) (e : gp h i = gp h k) : i = k := by
 unfold gp at e
 rw [List.getD_eq_getElem?_getD, List.getD_eq_getElem?_getD, List.getElem?_eq_getElem hi, List.getElem?_eq_getElem hk] at e
 exact nodup_inj nd hi hk e
theorem nB {n i : Nat} (h : i < n) : ∃ p, p < n ∧ (p + 1) % n = i := by
 rcases Nat.eq_zero_or_pos i with rfl | c
 ·exact ⟨n - 1, by omega, by rw [show n - 1 + 1 = n by omega]; exact Nat.mod_self n⟩
 ·exact ⟨i - 1, by omega, by rw [show i - 1 + 1 = i by omega]; exact Nat.mod_eq_of_lt h⟩
theorem oB {n i : Nat} (h : i < n) : (i + 1) % n < n := Nat.mod_lt _ (by omega)
theorem tL {n i : Nat} (h : i < n) (h2 : 2 ≤ n) : (i + 1) % n ≠ i := by
 rcases Nat.lt_or_ge (i + 1) n with c | c
 ·rw [Nat.mod_eq_of_lt c]; omega
 ·rw [show i + 1 = n by omega, Nat.mod_self]; omega
theorem oH {c n x : P2} (h : trn c n x = 0) (k : c ≠ n) : ∃ t : Rat, x.1 = c.1 + t * (n.1 - c.1) ∧ x.2 = c.2 + t * (n.2 - c.2) := by
 unfold trn zQ yM at h; simp only at h
 by_cases e : n.1 - c.1 = 0
 ·have e2 : n.2 - c.2 ≠ 0 := fun e2 => k (Prod.ext_iff.2 ⟨by grind, by grind⟩)
  refine ⟨(x.2 - c.2) / (n.2 - c.2), ?_, ?_⟩
  ·have : (n.2 - c.2) * (x.1 - c.1) = 0 := by rw [e] at h; grind
   rcases Rat.mul_eq_zero.1 this with h1 | h1
   ·exact absurd h1 e2
   ·rw [e]; grind
  ·rw [Rat.div_mul_cancel e2]; grind
 ·refine ⟨(x.1 - c.1) / (n.1 - c.1), ?_, ?_⟩
  ·rw [Rat.div_mul_cancel e]; grind
  ·have : (n.1 - c.1) * (x.2 - c.2) = (n.1 - c.1) * ((x.1 - c.1) / (n.1 - c.1) * (n.2 - c.2)) := by
    have e3 := Rat.div_mul_cancel (a := x.1 - c.1) e
    have e4 : (n.1 - c.1) * ((x.1 - c.1) / (n.1 - c.1) * (n.2 - c.2)) = ((x.1 - c.1) / (n.1 - c.1) * (n.1 - c.1)) * (n.2 - c.2) := by grind
    rw [e4, e3]; grind
   have h2 : (n.1 - c.1) * ((x.2 - c.2) - (x.1 - c.1) / (n.1 - c.1) * (n.2 - c.2)) = 0 := by grind
   rcases Rat.mul_eq_zero.1 h2 with h1 | h1
   ·exact absurd h1 e
   ·grind
structure Poly (h : List P2) : Prop where
 fst : ∀ c ∈ h, leP (gp h 0) c
 nd : h.Nodup
 conv : 3 ≤ h.length → ∀ i k, i < h.length → k < h.length → k ≠ i → k ≠ (i + 1) % h.length → 0 < trn (gp h i) (nx h i) (gp h k)
def Sup (h : List P2) (q : P2) : Prop := ∀ u v : Rat, ∃ c ∈ h, u * q.1 + v * q.2 ≤ u * c.1 + v * c.2
theorem nP {h : List P2} {c : P2} (hc : c ∈ h) : Sup h c := fun u v => ⟨c, hc, Rat.le_refl⟩
theorem sup_trans {h h' : List P2} {q : P2} (k : ∀ c ∈ h, Sup h' c) (hq : Sup h q) : Sup h' q := fun u v => by
 obtain ⟨c, hc, h1⟩ := hq u v
 obtain ⟨d, hd, h2⟩ := k c hc u v
 exact ⟨d, hd, Rat.le_trans h1 h2⟩
theorem eY {h : List P2} {s t q : P2} (hl : ∀ c ∈ h, 0 ≤ trn s t c) (hq : Sup h q) : 0 ≤ trn s t q := by
 obtain ⟨c, hc, h1⟩ := hq (t.2 - s.2) (-(t.1 - s.1))
 have h2 := hl c hc
 unfold trn zQ yM at *; simp only at *; grind
theorem max_ex (u v : Rat) : ∀ {h : List P2}, h ≠ [] → ∃ c ∈ h, ∀ x ∈ h, u * x.1 + v * x.2 ≤ u * c.1 + v * c.2
 | [c], _ => ⟨c, by simp, fun x hx => by rw [List.mem_singleton.1 hx]; exact Rat.le_refl⟩
 | c :: d :: r, _ => by
  obtain ⟨m, hm, k⟩ := max_ex u v (h := d :: r) (by simp)
  by_cases e : u * c.1 + v * c.2 ≤ u * m.1 + v * m.2
  ·exact ⟨m, List.mem_cons_of_mem _ hm, fun x hx => by
    rcases List.mem_cons.1 hx with rfl | hx
    ·exact e
    ·exact k x hx⟩
  ·exact ⟨c, by simp, fun x hx => by
    rcases List.mem_cons.1 hx with rfl | hx
    ·exact Rat.le_refl
    ·have := k x hx; grind⟩
theorem Poly.weak {h : List P2} (p : Poly h) {i : Nat} (hi : i < h.length) (h3 : 3 ≤ h.length) : ∀ c ∈ h, 0 ≤ trn (gp h i) (nx h i) c := fun c hc => by
 obtain ⟨k, hk, rfl⟩ := lX hc
 by_cases e1 : k = i
 ·subst e1; unfold trn zQ yM; simp only; grind
 by_cases e2 : k = (i + 1) % h.length
 ·rw [e2]; unfold trn zQ yM; simp only; grind
 exact Rat.le_of_lt (p.conv h3 i k hi hk e1 e2)
theorem sup_of_left {h : List P2} {q : P2} (p : Poly h) (h3 : 3 ≤ h.length) (hq : ∀ i, i < h.length → 0 ≤ trn (gp h i) (nx h i) q) : Sup h q := fun u v => by
 obtain ⟨c, hc, hm⟩ := max_ex u v (h := h) (by intro e; rw [e] at h3; simp at h3)
 refine ⟨c, hc, ?_⟩
 obtain ⟨i, hi, rfl⟩ := lX hc
 obtain ⟨j, hj, e⟩ := nB hi
 have k1 := hq i hi
 have k2 := hq j hj
 have hne : j ≠ (i + 1) % h.length := fun e2 => by
  have h5 := tL hi (by omega); have h6 : (j + 1) % h.length = i := e
  rw [e2] at h6
  rcases Nat.lt_or_ge (i + 1) h.length with c | c
  ·rw [Nat.mod_eq_of_lt c] at h6
   rcases Nat.lt_or_ge (i + 1 + 1) h.length with d | d
   ·rw [Nat.mod_eq_of_lt d] at h6; omega
   ·rw [show i + 1 + 1 = h.length by omega, Nat.mod_self] at h6; omega
  ·rw [show i + 1 = h.length by omega, Nat.mod_self, Nat.mod_eq_of_lt (by omega)] at h6; omega
 have k3 := p.conv h3 i j hi hj (fun e2 => tL hj (by omega) (e.trans e2.symm)) hne
 have m1 := hm _ (kO hj)
 have m2 := hm _ (kO (oB hi))
 unfold nx at k1 k2 k3
 rw [e] at k2
 generalize gp h i = c at *
 generalize gp h ((i + 1) % h.length) = n at *
 generalize gp h j = r at *
 have e1 : trn c n r * (u * (q.1 - c.1) + v * (q.2 - c.2)) = (u * (n.1 - c.1) + v * (n.2 - c.2)) * trn r c q + (u * (r.1 - c.1) + v * (r.2 - c.2)) * trn c n q := by unfold trn zQ yM; simp only; grind
 have a1 : 0 ≤ -(u * (n.1 - c.1) + v * (n.2 - c.2)) := by grind
 have a2 : 0 ≤ -(u * (r.1 - c.1) + v * (r.2 - c.2)) := by grind
 have b1 := Rat.mul_nonneg a1 k2
 have b2 := Rat.mul_nonneg a2 k1
 have : 0 ≤ trn c n r * -(u * (q.1 - c.1) + v * (q.2 - c.2)) := by grind
 have := lW k3 this
 grind
theorem conv_of {h : List P2} (nd : h.Nodup) (h3 : 3 ≤ h.length) (hl : ∀ i k, i < h.length → k < h.length → 0 ≤ trn (gp h i) (nx h i) (gp h k)) (ht : ∀ i, i < h.length → 0 < trn (gp h i) (nx h i) (nx h ((i + 1) % h.length))) :
  ∀ i k, i < h.length → k < h.length → k ≠ i → k ≠ (i + 1) % h.length → 0 < trn (gp h i) (nx h i) (gp h k) := fun i k hi hk n1 n2 => by
 have h0 := hl i k hi hk
 refine Classical.byContradiction fun hz => ?_
 have hz : trn (gp h i) (nx h i) (gp h k) = 0 := by grind
 have cn : gp h i ≠ nx h i := fun e => tL hi (by omega) (oM nd hi (oB hi) e).symm
 obtain ⟨t, e1, e2⟩ := oH hz cn
 have xc : gp h k ≠ gp h i := fun e => n1 (oM nd hk hi e)
 have xn : gp h k ≠ nx h i := fun e => n2 (oM nd hk (oB hi) e)
 obtain ⟨j, hj, ej⟩ := nB hi
 obtain ⟨l, hl', el⟩ := nB hk
 have w1 := hl ((i + 1) % h.length) k (oB hi) hk
 have s1 := ht i hi
 have w2 := hl j k hj hk
 have s2 := ht j hj
 have w3 := hl k i hk hi
 have w4 := hl k _ hk (oB hi)
 have w5 := hl l i hl' hi
 have w6 := hl l _ hl' (oB hi)
 have s3 := ht l hl'
 unfold nx at *
 rw [ej] at w2 s2
 rw [el] at w5 w6 s3
 generalize gp h i = c at *
 generalize gp h ((i + 1) % h.length) = n at *
 generalize gp h k = x at *
 generalize gp h j = r at *
 generalize gp h l = z at *
 generalize gp h ((((i + 1) % h.length) + 1) % h.length) = m at *
 generalize gp h ((k + 1) % h.length) = y at *
 rcases rlt_or 1 t with ht1 | ht1
 ·have e : trn n m x = -((t - 1) * trn c n m) := by unfold trn zQ yM; simp only; rw [e1, e2]; grind
  have := Rat.mul_pos (show 0 < t - 1 by grind) s1
  grind
 rcases rlt_or t 0 with ht0 | ht0
 ·have e : trn r c x = t * trn r c n := by unfold trn zQ yM; simp only; rw [e1, e2]; grind
  have := Rat.mul_pos (show 0 < -t by grind) s2
  grind
 have wU : 0 < t := by
  refine Classical.byContradiction fun c0 => xc ?_
  have : t = 0 := by grind
  rw [Prod.ext_iff, e1, e2, this]; constructor <;> grind
 have wV : 0 < 1 - t := by
  refine Classical.byContradiction fun c0 => xn ?_
  have : t = 1 := by grind
  rw [Prod.ext_iff, e1, e2, this]; constructor <;> grind
 have g1 : trn x y c = t * -zQ (yM y x) (yM n c) := by unfold trn zQ yM; simp only; rw [e1, e2]; grind
 have g2 : trn x y n = (1 - t) * zQ (yM y x) (yM n c) := by unfold trn zQ yM; simp only; rw [e1, e2]; grind
 have g3 : trn z x c = t * -zQ (yM x z) (yM n c) := by unfold trn zQ yM; simp only; rw [e1, e2]; grind
 have g4 : trn z x n = (1 - t) * zQ (yM x z) (yM n c) := by unfold trn zQ yM; simp only; rw [e1, e2]; grind
 have f1 := lW wU (g1 ▸ w3)
 have f2 := lW wV (g2 ▸ w4)
 have f3 := lW wU (g3 ▸ w5)
 have f4 := lW wV (g4 ▸ w6)
 have z1 : zQ (yM y x) (yM n c) = 0 := by grind
 have z2 : zQ (yM x z) (yM n c) = 0 := by grind
 have z3 : ∀ k : Rat, (n.1 - c.1 = 0 → n.2 - c.2 = 0 → False) → k * (n.1 - c.1) = 0 → k * (n.2 - c.2) = 0 → k = 0 := fun k hh a b => by
  rcases Rat.mul_eq_zero.1 a with a | a
  ·exact a
  ·rcases Rat.mul_eq_zero.1 b with b | b
   ·exact b
   ·exact (hh a b).elim
 have : trn z x y = 0 := z3 _ (fun a b => cn (Prod.ext_iff.2 ⟨by grind, by grind⟩)) (by unfold trn zQ yM at *; simp only at *; grind) (by unfold trn zQ yM at *; simp only at *; grind)
 grind
theorem sup_two {h : List P2} {q : P2} (h2 : h.length = 2) (hq : Sup h q) : trn (gp h 0) (gp h 1) q = 0 := by
 match h, h2 with
 | [a, b], _ =>
  have k1 := eY (s := a) (t := b) (fun c hc => by
   rcases List.mem_cons.1 hc with rfl | hc
   ·unfold trn zQ yM; simp only; grind
   ·rw [List.mem_singleton.1 hc]; unfold trn zQ yM; simp only; grind) hq
  have k2 := eY (s := b) (t := a) (fun c hc => by
   rcases List.mem_cons.1 hc with rfl | hc
   ·unfold trn zQ yM; simp only; grind
   ·rw [List.mem_singleton.1 hc]; unfold trn zQ yM; simp only; grind) hq
  show trn a b q = 0
  unfold trn zQ yM at *; simp only at *; grind
theorem poly_mem {h h' : List P2} (p : Poly h) (hs : ∀ c ∈ h, Sup h' c) (hs' : ∀ c ∈ h', Sup h c) {c : P2} (hc : c ∈ h) : c ∈ h' := by
 -- a way in which c alone is the furthest
 rcases Nat.lt_or_ge 2 h.length with h3 | h3
 ·obtain ⟨i, hi, rfl⟩ := lX hc
  obtain ⟨j, hj, e⟩ := nB hi
  have w1 := p.weak hi h3
  have w2 := p.weak hj h3
  have k3 := p.conv h3 j ((i + 1) % h.length) hj (oB hi) (fun e2 => by
   have h6 : (j + 1) % h.length = i := e
   rw [← e2] at h6
   rcases Nat.lt_or_ge (i + 1) h.length with c | c
   ·rw [Nat.mod_eq_of_lt c] at h6
    rcases Nat.lt_or_ge (i + 1 + 1) h.length with d | d
    ·rw [Nat.mod_eq_of_lt d] at h6; omega
    ·rw [show i + 1 + 1 = h.length by omega, Nat.mod_self] at h6; omega
   ·rw [show i + 1 = h.length by omega, Nat.mod_self, Nat.mod_eq_of_lt (by omega)] at h6; omega) (by rw [e]; exact tL hi (by omega))
  unfold nx at *
  rw [e] at w2 k3
  have hs0 := hs _ hc
  generalize gp h i = c at *
  generalize gp h ((i + 1) % h.length) = n at *
  generalize gp h j = r at *
  obtain ⟨q, hq, h1⟩ := hs0 ((n.2 - c.2) + (c.2 - r.2)) (-((n.1 - c.1) + (c.1 - r.1)))
  have b1 := eY w1 (hs' q hq)
  have b2 := eY w2 (hs' q hq)
  have z1 : trn c n q = 0 := by unfold trn zQ yM at *; simp only at *; grind
  have z2 : trn r c q = 0 := by unfold trn zQ yM at *; simp only at *; grind
  have e1 : trn r c n * (q.1 - c.1) = 0 := by unfold trn zQ yM at *; simp only at *; grind
  have e2 : trn r c n * (q.2 - c.2) = 0 := by unfold trn zQ yM at *; simp only at *; grind
  have : q = c := by
   rcases Rat.mul_eq_zero.1 e1 with f | f
   ·grind
   rcases Rat.mul_eq_zero.1 e2 with g | g
   ·grind
   exact Prod.ext_iff.2 ⟨by grind, by grind⟩
  exact this ▸ hq
 ·match h, p, hc, hs, hs', h3 with
  | [a], p, hc, hs, hs', _ =>
   obtain rfl := List.mem_singleton.1 hc
   obtain ⟨q, hq, _⟩ := hs c (by simp) 0 0
   have hS := hs' q hq
   have g : ∀ u v : Rat, u * q.1 + v * q.2 ≤ u * c.1 + v * c.2 := fun u v => by
    obtain ⟨x, hx, h1⟩ := hS u v
    rw [List.mem_singleton.1 hx] at h1; exact h1
   have g1 := g 1 0; have g2 := g (-1) 0; have g3 := g 0 1; have g4 := g 0 (-1)
   have : q = c := Prod.ext_iff.2 ⟨by grind, by grind⟩
   exact this ▸ hq
  | [a, b], p, hc, hs, hs', _ =>
   have hab : a ≠ b := by have := p.nd; simp at this; exact this
   have hz := fun q hq => sup_two rfl (hs' q hq)
   simp only [gp, List.getD_cons_zero, List.getD_cons_succ] at hz
   have key : ∀ c d : P2, c ≠ d → (∀ x ∈ [a, b], x = c ∨ x = d) → c ∈ [a, b] → (∀ q ∈ h', trn c d q = 0) → c ∈ h' := fun c d hcd hx hc hz => by
    have hd : 0 < (c.1 - d.1) * (c.1 - d.1) + (c.2 - d.2) * (c.2 - d.2) := by
     have s1 : ∀ x : Rat, 0 ≤ x * x := fun x => by
      rcases (Rat.le_total : 0 ≤ x ∨ x ≤ 0) with hx | hx
      ·exact Rat.mul_nonneg hx hx
      ·have := Rat.mul_nonneg (show 0 ≤ -x by grind) (show 0 ≤ -x by grind); grind
     have s2 := s1 (c.1 - d.1); have s3 := s1 (c.2 - d.2)
     refine Classical.byContradiction fun c0 => hcd ?_
     have z1 : (c.1 - d.1) * (c.1 - d.1) = 0 := by grind
     have z2 : (c.2 - d.2) * (c.2 - d.2) = 0 := by grind
     exact Prod.ext_iff.2 ⟨by rcases Rat.mul_eq_zero.1 z1 with h | h <;> grind, by rcases Rat.mul_eq_zero.1 z2 with h | h <;> grind⟩
    obtain ⟨q, hq, h1⟩ := hs c hc (c.1 - d.1) (c.2 - d.2)
    obtain ⟨x, hx', h2⟩ := hs' q hq (c.1 - d.1) (c.2 - d.2)
    have h3 : (c.1 - d.1) * q.1 + (c.2 - d.2) * q.2 ≤ (c.1 - d.1) * c.1 + (c.2 - d.2) * c.2 := by
     rcases hx x hx' with rfl | rfl <;> grind
    obtain ⟨t, e1, e2⟩ := oH (hz q hq) hcd
    rw [e1, e2] at h1 h3
    have z : t * ((c.1 - d.1) * (c.1 - d.1) + (c.2 - d.2) * (c.2 - d.2)) = 0 := by grind
    have : q = c := by
     rcases Rat.mul_eq_zero.1 z with z | z
     ·exact Prod.ext_iff.2 ⟨by rw [e1, z]; grind, by rw [e2, z]; grind⟩
     ·grind
    exact this ▸ hq
   rcases List.mem_cons.1 hc with rfl | hc
   ·exact key c b hab (fun x hx => by simpa using hx) (by simp) hz
   ·obtain rfl := List.mem_singleton.1 hc
    exact key c a (Ne.symm hab) (fun x hx => by simp at hx; exact hx.symm) (by simp) fun q hq => by
     have := hz q hq; unfold trn zQ yM at *; simp only at *; grind
theorem len_eq {h h' : List P2} (nd : h.Nodup) (nd' : h'.Nodup) (e : ∀ c, c ∈ h ↔ c ∈ h') : h.length = h'.length :=
 Nat.le_antisymm (cZ nd fun x hx => (e x).1 hx) (cZ nd' fun x hx => (e x).2 hx)
theorem poly_uniq {h h' : List P2} (p : Poly h) (p' : Poly h') (hs : ∀ c ∈ h, Sup h' c) (hs' : ∀ c ∈ h', Sup h c) : h = h' := by
 have e : ∀ c, c ∈ h ↔ c ∈ h' := fun c => ⟨poly_mem p hs hs', poly_mem p' hs' hs⟩
 have hl := len_eq p.nd p'.nd e
 have h0 : 0 < h.length → gp h 0 = gp h' 0 := fun k => uV (p.fst _ ((e _).2 (kO (by omega)))) (p'.fst _ ((e _).1 (kO k)))
 have hi : ∀ i, i < h.length → gp h i = gp h' i := fun i => by
  induction i with
  | zero => exact h0
  | succ i ih =>
   intro hi
   have ei := ih (by omega)
   rcases Nat.lt_or_ge 2 h.length with h3 | h3
   ·obtain ⟨k, hk, ek⟩ := lX ((e _).1 (kO hi))
    have w := p.weak (i := i) (by omega) h3 _ ((e _).2 (kO (h := h') (i := i + 1) (by omega)))
    have m1 : (i + 1) % h.length = i + 1 := Nat.mod_eq_of_lt hi
    have m2 : (i + 1) % h'.length = i + 1 := Nat.mod_eq_of_lt (by omega)
    by_cases c1 : k = i + 1
    ·rw [← ek, c1]
    ·have c2 : k ≠ i := fun c => by
      have := oM p.nd hi (show i < h.length by omega) (by rw [ei, ← ek, c])
      omega
     have s := p'.conv (by omega) i k (by omega) hk c2 (by rw [m2]; exact c1)
     unfold nx at w s
     rw [m1] at w; rw [m2, ek, ← ei] at s
     unfold trn zQ yM at *; simp only at *; grind
   ·obtain ⟨k, hk, ek⟩ := lX ((e _).1 (kO hi))
    have c2 : k ≠ i := fun c => by
     have := oM p.nd hi (show i < h.length by omega) (by rw [ei, ← ek, c])
     omega
    rw [← ek, show k = i + 1 by omega]
 refine List.ext_getElem hl fun i h1 h2 => ?_
 have := hi i h1
 unfold gp at this
 rw [List.getD_eq_getElem?_getD, List.getD_eq_getElem?_getD, List.getElem?_eq_getElem h1, List.getElem?_eq_getElem h2] at this
 exact this
structure IsHull (l h : List P2) : Prop where
 poly : Poly h
 sub : ∀ c ∈ h, c ∈ l
 sup : ∀ q ∈ l, Sup h q
theorem hull_uniq {l l' h h' : List P2} (a : IsHull l h) (b : IsHull l' h') (e1 : ∀ q ∈ l, Sup l' q) (e2 : ∀ q ∈ l', Sup l q) : h = h' :=
 poly_uniq a.poly b.poly (fun c hc => sup_trans b.sup (e1 c (a.sub c hc))) fun c hc => sup_trans a.sup (e2 c (b.sub c hc))
theorem nodup_rev {α : Type} {l : List α} : l.reverse.Nodup ↔ l.Nodup := by
 unfold List.Nodup; rw [List.pairwise_reverse]
 exact ⟨fun h => h.imp Ne.symm, fun h => h.imp Ne.symm⟩
theorem left_app {q : P2} : ∀ (X : List P2) (m : P2) (Y : List P2), aQ q (X ++ [m]) → aQ q (m :: Y) → aQ q (X ++ m :: Y)
 | [], _, _, _, h => h
 | [_], _, _, h, k => ⟨h.1, k⟩
 | _ :: y :: X, m, Y, h, k => ⟨h.1, left_app (y :: X) m Y h.2 k⟩
theorem bU {q : P2} : ∀ (X Y : List P2), aQ q (X ++ Y) → aQ q Y
 | [], _, h => h
 | [x], [], _ => trivial
 | [x], y :: Y, h => h.2
 | x :: y :: X, Y, h => bU (y :: X) Y h.2
theorem lO : ∀ (X Y : List P2), qW (X ++ Y) → qW Y
 | [], _, h => h
 | [x], [], _ => trivial
 | [x], [_], _ => trivial
 | [x], _ :: _ :: _, h => h.2
 | [x, y], [], _ => trivial
 | [x, y], _ :: Y, h => lO [y] _ h.2
 | x :: y :: z :: X, Y, h => lO (y :: z :: X) Y h.2
theorem turns_app : ∀ (X : List P2) (b m a : P2) (Y : List P2), qW (X ++ [b, m]) → qW (m :: a :: Y) → 0 < trn a m b → qW (X ++ b :: m :: a :: Y)
 | [], _, _, _, _, _, h, k => ⟨k, h⟩
 | [x], b, m, a, Y, g, h, k => ⟨g.1, k, h⟩
 | [x, y], b, m, a, Y, g, h, k => ⟨g.1, g.2.1, k, h⟩
 | x :: y :: z :: X, b, m, a, Y, g, h, k => ⟨g.1, turns_app (y :: z :: X) b m a Y g.2 h k⟩
theorem left_at {q : P2} : ∀ (C : List P2) (j : Nat), aQ q C → j + 1 < C.length → 0 ≤ trn (gp C (j + 1)) (gp C j) q
 | [], _, _, h => by simp at h
 | [_], _, _, h => by simp at h
 | _ :: _ :: _, 0, h, _ => h.1
 | t :: s :: r, j + 1, h, hj => left_at (s :: r) j h.2 (by simp only [List.length_cons] at hj ⊢; omega)
theorem turn_at : ∀ (C : List P2) (j : Nat), qW C → j + 2 < C.length → 0 < trn (gp C (j + 2)) (gp C (j + 1)) (gp C j)
 | [], _, _, h => by simp at h
 | [_], _, _, h => by simp at h
 | [_, _], _, _, h => by simp only [List.length_cons, List.length_nil] at h; omega
 | _ :: _ :: _ :: _, 0, h, _ => h.1
 | u :: t :: s :: r, j + 1, h, hj => turn_at (t :: s :: r) j h.2 (by simp only [List.length_cons] at hj ⊢; omega)
theorem deg {l : List P2} {a m b : P2} (hm : ∀ q ∈ l, leP q m) (ha : ltP a m) (hb : ltP b m) (h0 : trn a m b = 0) (h1 : ∀ q ∈ l, 0 ≤ trn a m q) (h2 : ∀ q ∈ l, 0 ≤ trn m b q) :
  ∀ x ∈ l, ∀ y ∈ l, ∀ z ∈ l, trn x y z = 0 := by
 have k0 : 0 ≤ zQ (yM m a) (yM m b) := by unfold trn zQ yM at *; simp only at *; grind
 have kz : ∀ q ∈ l, zQ (yM m a) (yM m q) = 0 := fun q hq => by
  have a1 := h1 q hq; have a2 := h2 q hq
  have := oY (lexP.le ha) hb (iK.1 (hm q hq)) k0 (by unfold trn zQ yM at *; simp only at *; grind)
  unfold trn zQ yM at *; simp only at *; grind
 have kk : ∀ x ∈ l, ∀ y ∈ l, 0 ≤ zQ (yM m x) (yM m y) := fun x hx y hy => oY (iK.1 (hm x hx)) ha (iK.1 (hm y hy)) (by have := kz x hx; unfold zQ yM at *; simp only at *; grind) (by rw [kz y hy]; exact Rat.le_refl)
 intro x hx y hy z hz
 have b1 := kk x hx y hy; have b2 := kk y hy x hx; have b3 := kk y hy z hz; have b4 := kk z hz y hy; have b5 := kk x hx z hz; have b6 := kk z hz x hx
 unfold trn zQ yM at *; simp only at *; grind
theorem apart3 {l : List P2} {a b c a' b' : P2} (hb' : b' ∈ l) (hb : b ∈ l) (h1 : ltP a c) (h2 : ltP c b) (h3 : 0 < trn a c b) (h4 : ∀ q ∈ l, 0 ≤ trn a c q) (g1 : ltP b' c) (g2 : ∀ q ∈ l, 0 ≤ trn c b' q) : False := by
 have k1 := h4 b' hb'
 have k2 := g2 b hb
 have := tr_gp (a := yM c b') (b := yM c a) (c := yM b c) g1 h1 (lexP.le h2) (by unfold trn zQ yM at *; simp only at *; grind) (by unfold trn zQ yM at *; simp only at *; grind)
 unfold trn zQ yM at *; simp only at *; grind
theorem fP {α : Type} {l : List α} (h : l ≠ []) : ∃ r x, l = r ++ [x] := ⟨_, _, (List.dropLast_concat_getLast h).symm⟩
def uS (l : List P2) : List P2 := if l.length < 3 then l else (jD [] l).reverse.dropLast ++ (jD [] l.reverse).reverse.dropLast
theorem two_sup {a b q : P2} (hab : ltP a b) (h0 : trn a b q = 0) (h1 : leP a q) (h2 : leP q b) : Sup [a, b] q := fun u v => by
 obtain ⟨t, e1, e2⟩ := oH h0 hab.ne
 have ht0 : 0 ≤ t := by
  refine Classical.byContradiction fun c => ?_
  have c : 0 < -t := by grind
  unfold ltP lexP yM leP at *; simp only at *
  rcases hab with hab | ⟨hab, hb2⟩
  ·have := Rat.mul_pos c hab; grind
  ·have := Rat.mul_pos c hb2; grind
 have ht1 : 0 ≤ 1 - t := by
  refine Classical.byContradiction fun c => ?_
  have c : 0 < t - 1 := by grind
  unfold ltP lexP yM leP at *; simp only at *
  rcases hab with hab | ⟨hab, hb2⟩
  ·have := Rat.mul_pos c hab; grind
  ·have := Rat.mul_pos c hb2; grind
 by_cases c : u * a.1 + v * a.2 ≤ u * b.1 + v * b.2
 ·refine ⟨b, by simp, ?_⟩
  rw [e1, e2]
  have := Rat.mul_nonneg ht1 (show 0 ≤ (u * b.1 + v * b.2) - (u * a.1 + v * a.2) by grind)
  grind
 ·refine ⟨a, by simp, ?_⟩
  rw [e1, e2]
  have := Rat.mul_nonneg ht0 (show 0 ≤ (u * a.1 + v * a.2) - (u * b.1 + v * b.2) by grind)
  grind
theorem fR {l : List P2} (h2 : 2 ≤ l.length) (hs : l.Pairwise ltP) : ∃ mn mx A B, ChOk l (mx :: (A ++ [mn])) ∧ ChOk' l (mn :: (B ++ [mx])) ∧ uS l = mn :: (A.reverse ++ mx :: B.reverse) ∧ mn ∈ l ∧ mx ∈ l ∧ ltP mn mx ∧ (∀ q ∈ l, leP q mx) ∧ (∀ q ∈ l, leP mn q) ∧ jD [] l = mx :: (A ++ [mn]) ∧ jD [] l.reverse = mn :: (B ++ [mx]) := by
 have hne : l ≠ [] := fun e => by rw [e] at h2; simp at h2
 have hS : uS l = (jD [] l).reverse.dropLast ++ (jD [] l.reverse).reverse.dropLast := by
  unfold uS; split
  ·match l, h2 with
   | [p, q], _ => simp [jD, qC]
   | _ :: _ :: _ :: _, _ => rename_i h; simp at h; omega
  ·rfl
 have cl := ch_ok hne hs
 have ch := ch_ok' hne hs
 generalize eL : jD [] l = L at *
 generalize eH : jD [] l.reverse = H at *
 obtain ⟨mx, L1, rfl⟩ := List.exists_cons_of_ne_nil cl.ne
 obtain ⟨mn, H1, rfl⟩ := List.exists_cons_of_ne_nil ch.ne
 have hmx : ∀ q ∈ l, leP q mx := fun q hq => cl.top q hq mx rfl
 have hmn : ∀ q ∈ l, leP mn q := fun q hq => ch.top q hq mn rfl
 have mxl := cl.sub mx (by simp)
 have mnl := ch.sub mn (by simp)
 have hlt : ltP mn mx := by
  refine lt_of_le (hmx mn mnl) fun e => ?_
  match l, hs, h2, hmx, hmn with
  | p :: p2 :: r, hs, h3, hmx, hmn =>
   have h1 := (List.pairwise_cons.1 hs).1 p2 (by simp)
   have h4 := uV (fO (hmx p2 (by simp)) (e ▸ hmn p (by simp))) h1.le
   exact h1.ne h4.symm
  | [p], _, h3, _, _ => simp at h3
 have l1 : L1 ≠ [] := fun e => by
  subst e
  exact hlt.ne (uV hlt.le (cl.bot mn mnl mx rfl))
 have h1 : H1 ≠ [] := fun e => by
  subst e
  exact hlt.ne (uV hlt.le (ch.bot mx mxl mn rfl))
 obtain ⟨A, z, rfl⟩ := fP l1
 obtain ⟨B, y, rfl⟩ := fP h1
 have ez : z = mn := uV (cl.bot mn mnl z (by rw [← List.cons_append, List.getLast?_concat])) (hmn z (cl.sub z (by simp)))
 have ey : y = mx := uV (hmx y (ch.sub y (by simp))) (ch.bot mx mxl y (by rw [← List.cons_append, List.getLast?_concat]))
 subst ez ey
 exact ⟨_, _, A, B, cl, ch, by rw [hS, show (y :: (A ++ [z])).reverse = (z :: A.reverse) ++ [y] by simp, show (z :: (B ++ [y])).reverse = (y :: B.reverse) ++ [z] by simp, List.dropLast_concat, List.dropLast_concat]; rfl, mnl, mxl, hlt, hmx, hmn, rfl, rfl⟩
theorem hullS_ok {l : List P2} (hs : l.Pairwise ltP) : IsHull l (uS l) := by
 have hnd : l.Nodup := hs.imp fun h => ltP.ne h
 by_cases h3 : l.length < 2
 ·have e : uS l = l := by unfold uS; rw [if_pos (by omega)]
  rw [e]
  refine ⟨⟨fun c hc => ?_, hnd, fun h => by omega⟩, fun _ h => h, fun q hq => nP hq⟩
  match l, hs, hc with
  | p :: r, hs, hc =>
   rcases List.mem_cons.1 hc with rfl | hc
   ·exact eZ _
   ·exact ((List.pairwise_cons.1 hs).1 c hc).le
 obtain ⟨mn, mx, A, B, cl, ch, eS, mnl, mxl, hlt, hmx, hmn, _⟩ := fR (by omega) hs
 rw [eS]
 have sub : ∀ c ∈ mn :: (A.reverse ++ mx :: B.reverse), c ∈ l := fun c hc => by
  simp only [List.mem_cons, List.mem_append, List.mem_reverse] at hc
  rcases hc with rfl | hc | rfl | hc
  ·exact mnl
  ·exact cl.sub c (by simp [hc])
  ·exact mxl
  ·exact ch.sub c (by simp [hc])
 have dL := cl.dec
 have dH := ch.dec
 have nd : (mn :: (A.reverse ++ mx :: B.reverse)).Nodup := by
  have n1 : (mx :: (A ++ [mn])).Nodup := dL.imp fun h => (ltP.ne h).symm
  have n2 : (mn :: (B ++ [mx])).Nodup := dH.imp fun h => ltP.ne h
  have n3 : ∀ c, c ∈ A → c ∈ B → False := fun c hA hB => by
   obtain ⟨A1, A2, rfl⟩ := List.append_of_mem hA
   obtain ⟨B1, B2, rfl⟩ := List.append_of_mem hB
   obtain ⟨r1, b, e1⟩ := fP (l := mx :: A1) (by simp)
   obtain ⟨r2, b', e2⟩ := fP (l := mn :: B1) (by simp)
   obtain ⟨a, s1, e3⟩ := List.exists_cons_of_ne_nil (l := A2 ++ [mn]) (by simp)
   obtain ⟨a', s2, e4⟩ := List.exists_cons_of_ne_nil (l := B2 ++ [mx]) (by simp)
   have E1 : mx :: ((A1 ++ c :: A2) ++ [mn]) = r1 ++ b :: c :: a :: s1 := by
    rw [show mx :: ((A1 ++ c :: A2) ++ [mn]) = (mx :: A1) ++ c :: (A2 ++ [mn]) by simp, e1, e3]; simp
   have E2 : mn :: ((B1 ++ c :: B2) ++ [mx]) = r2 ++ b' :: c :: a' :: s2 := by
    rw [show mn :: ((B1 ++ c :: B2) ++ [mx]) = (mn :: B1) ++ c :: (B2 ++ [mx]) by simp, e2, e4]; simp
   rw [E1] at cl dL
   rw [E2] at ch dH
   have p1 := List.pairwise_cons.1 (List.pairwise_append.1 dL).2.1
   have p2 := List.pairwise_cons.1 (List.pairwise_append.1 dH).2.1
   exact apart3 (l := l) (a := a) (b := b) (c := c) (a' := a') (b' := b') (ch.sub b' (by simp)) (cl.sub b (by simp)) ((List.pairwise_cons.1 p1.2).1 a (by simp)) (p1.1 c (by simp)) (lO r1 _ cl.trs).1 (fun q hq => (bU r1 _ (cl.lef q hq)).2.1) (p2.1 c (by simp)) fun q hq => (bU r2 _ (ch.lef q hq)).1
  simp only [List.nodup_cons, List.mem_append, List.mem_cons, List.mem_reverse, List.nodup_append, nodup_rev, List.mem_singleton, List.not_mem_nil, not_false_eq_true, List.nodup_nil, true_and, and_true] at n1 n2 ⊢
  grind
 have fst : ∀ c ∈ mn :: (A.reverse ++ mx :: B.reverse), leP (gp (mn :: (A.reverse ++ mx :: B.reverse)) 0) c := fun c hc => hmn c (sub c hc)
 by_cases hAB : A = [] ∧ B = []
 ·obtain ⟨rfl, rfl⟩ := hAB
  refine ⟨⟨fst, nd, fun h => absurd h (by simp)⟩, sub, fun q hq => two_sup hlt ?_ (hmn q hq) (hmx q hq)⟩
  have a1 : 0 ≤ trn mn mx q := (cl.lef q hq).1
  have a2 : 0 ≤ trn mx mn q := (ch.lef q hq).1
  unfold trn zQ yM at *; simp only at *; grind
 have hn3 : 3 ≤ (mn :: (A.reverse ++ mx :: B.reverse)).length := by
  simp only [List.length_cons, List.length_append, List.length_reverse]
  rcases A with _ | ⟨a, A⟩
  ·rcases B with _ | ⟨b, B⟩
   ·exact absurd ⟨rfl, rfl⟩ hAB
   ·simp only [List.length_cons, List.length_nil]; omega
  ·simp only [List.length_cons]; omega
 obtain ⟨r1, b1, e1⟩ := fP (l := mx :: A) (by simp)
 obtain ⟨r2, b2, e2⟩ := fP (l := mn :: B) (by simp)
 obtain ⟨a1, s1, e3⟩ := List.exists_cons_of_ne_nil (l := A ++ [mn]) (by simp)
 obtain ⟨a2, s2, e4⟩ := List.exists_cons_of_ne_nil (l := B ++ [mx]) (by simp)
 have EL1 : mx :: (A ++ [mn]) = r1 ++ [b1, mn] := by rw [← List.cons_append, e1]; simp
 have EL2 : mx :: (A ++ [mn]) = mx :: a1 :: s1 := by rw [e3]
 have EH1 : mn :: (B ++ [mx]) = r2 ++ [b2, mx] := by rw [← List.cons_append, e2]; simp
 have EH2 : mn :: (B ++ [mx]) = mn :: a2 :: s2 := by rw [e4]
 have ndeg : ¬ ∀ x ∈ l, ∀ y ∈ l, ∀ z ∈ l, trn x y z = 0 := fun hd => by
  rcases A with _ | ⟨a, A⟩
  ·rcases B with _ | ⟨b, B⟩
   ·exact hAB ⟨rfl, rfl⟩
   ·obtain ⟨c, s, e⟩ := List.exists_cons_of_ne_nil (l := B ++ [mx]) (by simp)
    have t := ch.trs
    have s' := ch.sub
    rw [List.cons_append, e] at t s'
    have := hd c (s' c (by simp)) b (s' b (by simp)) mn (s' mn (by simp))
    have := t.1; grind
  ·obtain ⟨c, s, e⟩ := List.exists_cons_of_ne_nil (l := A ++ [mn]) (by simp)
   have t := cl.trs
   have s' := cl.sub
   rw [List.cons_append, e] at t s'
   have := hd c (s' c (by simp)) a (s' a (by simp)) mx (s' mx (by simp))
   have := t.1; grind
 have sb1 := cl.sub b1 (by rw [EL1]; simp)
 have sb2 := ch.sub b2 (by rw [EH1]; simp)
 have sa1 := cl.sub a1 (by rw [EL2]; simp)
 have sa2 := ch.sub a2 (by rw [EH2]; simp)
 have la1 : ltP a1 mx := by rw [EL2] at dL; exact (List.pairwise_cons.1 dL).1 a1 (by simp)
 have lb1 : ltP mn b1 := by rw [EL1] at dL; exact (List.pairwise_cons.1 (List.pairwise_append.1 dL).2.1).1 mn (by simp)
 have la2 : ltP mn a2 := by rw [EH2] at dH; exact (List.pairwise_cons.1 dH).1 a2 (by simp)
 have lb2 : ltP b2 mx := by rw [EH1] at dH; exact (List.pairwise_cons.1 (List.pairwise_append.1 dH).2.1).1 mx (by simp)
 have fa1 : ∀ q ∈ l, 0 ≤ trn a1 mx q := fun q hq => by have := cl.lef q hq; rw [EL2] at this; exact this.1
 have fb1 : ∀ q ∈ l, 0 ≤ trn mn b1 q := fun q hq => by have := cl.lef q hq; rw [EL1] at this; exact (bU r1 _ this).1
 have fa2 : ∀ q ∈ l, 0 ≤ trn a2 mn q := fun q hq => by have := ch.lef q hq; rw [EH2] at this; exact this.1
 have fb2 : ∀ q ∈ l, 0 ≤ trn mx b2 q := fun q hq => by have := ch.lef q hq; rw [EH1] at this; exact (bU r2 _ this).1
 have jmx : 0 < trn a1 mx b2 := by
  have := fa1 b2 sb2
  refine Classical.byContradiction fun c => ndeg (deg hmx la1 lb2 (by grind) fa1 fb2)
 have jmn : 0 < trn a2 mn b1 := by
  have := fa2 b1 sb1
  refine Classical.byContradiction fun c => ndeg ?_
  have hd := deg (l := l.map jC) (a := jC a2) (m := jC mn) (b := jC b1) (fun q hq => by obtain ⟨x, hx, rfl⟩ := List.mem_map.1 hq; exact oJ.2 (hmn x hx)) (oF.2 la2) (oF.2 lb1) (by rw [dG]; grind)
   (fun q hq => by obtain ⟨x, hx, rfl⟩ := List.mem_map.1 hq; rw [dG]; exact fa2 x hx) (fun q hq => by obtain ⟨x, hx, rfl⟩ := List.mem_map.1 hq; rw [dG]; exact fb1 x hx)
  intro x hx y hy z hz
  rw [← dG]
  exact hd _ (List.mem_map.2 ⟨x, hx, rfl⟩) _ (List.mem_map.2 ⟨y, hy, rfl⟩) _ (List.mem_map.2 ⟨z, hz, rfl⟩)
 -- the way round, backwards
 have lC : ∀ q ∈ l, aQ q (mn :: B ++ mx :: (A ++ [mn])) := fun q hq => left_app (mn :: B) mx _ (by have := ch.lef q hq; simpa using this) (cl.lef q hq)
 have tC : qW (mn :: B ++ mx :: (A ++ [mn])) := by
  have wV := ch.trs; have wW := cl.trs
  rw [EH1] at wV; rw [EL2] at wW
  rw [e2, e3, List.append_assoc]
  exact turns_app r2 b2 mx a1 s1 wV wW jmx
 have hC : (mn :: B ++ mx :: (A ++ [mn])).length = (mn :: (A.reverse ++ mx :: B.reverse)).length + 1 := by simp; omega
 have eC : mn :: (A.reverse ++ mx :: B.reverse) = (mn :: B ++ mx :: (A ++ [mn])).tail.reverse := by simp
 have c1 : gp (mn :: B ++ mx :: (A ++ [mn])) 1 = a2 := by
  rw [show mn :: B ++ mx :: (A ++ [mn]) = (mn :: (B ++ [mx])) ++ (A ++ [mn]) by simp, EH2]; rfl
 have c2 : gp (mn :: B ++ mx :: (A ++ [mn])) 0 = mn := rfl
 have c3 : gp (mn :: B ++ mx :: (A ++ [mn])) ((mn :: (A.reverse ++ mx :: B.reverse)).length - 1) = b1 := by
  rw [show mn :: B ++ mx :: (A ++ [mn]) = (mn :: B) ++ (mx :: (A ++ [mn])) by simp, EL1, ← List.append_assoc, gp, List.getD_eq_getElem?_getD, List.getElem?_append_right (by have := congrArg List.length EL1; simp at this ⊢; omega)]
  have : (mn :: (A.reverse ++ mx :: B.reverse)).length - 1 - (mn :: B ++ r1).length = 0 := by have := congrArg List.length EL1; simp at this ⊢; omega
  rw [this]; rfl
 generalize mn :: B ++ mx :: (A ++ [mn]) = C at *
 generalize hh : mn :: (A.reverse ++ mx :: B.reverse) = h at *
 have c4 : gp h 0 = mn := by rw [← hh]; rfl
 have g1 : ∀ i, i < h.length → gp h i = gp C (h.length - i) := fun i hi => by
  have ht : C.tail.length = h.length := by rw [List.length_tail]; omega
  have : gp h i = gp C.tail (C.tail.length - 1 - i) := by
   conv => lhs; rw [eC]
   unfold gp
   rw [List.getD_eq_getElem?_getD, List.getD_eq_getElem?_getD, List.getElem?_reverse (by omega)]
  rw [this, ht]
  unfold gp
  rw [List.getD_eq_getElem?_getD, List.getD_eq_getElem?_getD, List.getElem?_tail, show h.length - 1 - i + 1 = h.length - i by omega]
 have g2 : ∀ i, i < h.length → nx h i = gp C (h.length - 1 - i) := fun i hi => by
  unfold nx
  rcases Nat.lt_or_ge (i + 1) h.length with c | c
  ·rw [Nat.mod_eq_of_lt c, g1 _ c, show h.length - (i + 1) = h.length - 1 - i by omega]
  ·rw [show i + 1 = h.length by omega, Nat.mod_self, c4, show h.length - 1 - i = 0 by omega, c2]
 have weak : ∀ i, i < h.length → ∀ q ∈ l, 0 ≤ trn (gp h i) (nx h i) q := fun i hi q hq => by
  have := left_at C (h.length - 1 - i) (lC q hq) (by omega)
  rw [show h.length - 1 - i + 1 = h.length - i by omega] at this
  rw [g1 i hi, g2 i hi]; exact this
 have turn : ∀ i, i < h.length → 0 < trn (gp h i) (nx h i) (nx h ((i + 1) % h.length)) := fun i hi => by
  rcases Nat.lt_or_ge (i + 1) h.length with c | c
  ·have := turn_at C (h.length - 2 - i) tC (by omega)
   rw [Nat.mod_eq_of_lt c, g1 i hi, g2 i hi, g2 _ c, show h.length - 1 - (i + 1) = h.length - 2 - i by omega, show h.length - 1 - i = h.length - 2 - i + 1 by omega, show h.length - i = h.length - 2 - i + 2 by omega]
   exact this
  ·have e : i = h.length - 1 := by omega
   rw [show i + 1 = h.length by omega, Nat.mod_self, g1 i hi, g2 i hi, g2 0 (by omega), e, show h.length - (h.length - 1) = 1 by omega, show h.length - 1 - (h.length - 1) = 0 by omega, Nat.sub_zero, c1, c2, c3]
   exact jmn
 have po : Poly h := ⟨fst, nd, fun h3 => conv_of nd h3 (fun i k hi hk => weak i hi _ (sub _ (kO hk))) turn⟩
 exact ⟨po, sub, fun q hq => sup_of_left po hn3 fun i hi => weak i hi q hq⟩
def xR (d : P2) : Int := if 0 < d.1 then 0 else if d.1 = 0 ∧ 0 < d.2 then 1 else if d.1 < 0 then 2 else 3
def qD (a b : P2) : Bool := if xR a ≠ xR b then decide (xR a < xR b) else decide (0 < zQ a b)
def dA (v : P2) : Prop := v.1 < 0 ∨ v.1 = 0 ∧ v.2 < 0
theorem qt0 {d : P2} (h : 0 < d.1) : xR d = 0 := if_pos h
theorem qt1 {d : P2} (h : d.1 = 0) (k : 0 < d.2) : xR d = 1 := by unfold xR; rw [if_neg (by grind), if_pos ⟨h, k⟩]
theorem qt2 {d : P2} (h : d.1 < 0) : xR d = 2 := by unfold xR; rw [if_neg (by grind), if_neg (by grind), if_pos h]
theorem qt3 {d : P2} (h : d.1 = 0) (k : d.2 < 0) : xR d = 3 := by unfold xR; rw [if_neg (by grind), if_neg (by grind), if_neg (by grind)]
theorem dZ {a b : P2} (h : xR a = xR b) : qD a b = true ↔ 0 < zQ a b := by
 unfold qD; rw [if_neg (by simp [h]), decide_eq_true_eq]
theorem aF {a b : P2} (h : xR a ≠ xR b) : qD a b = true ↔ xR a < xR b := by
 unfold qD; rw [if_pos h, decide_eq_true_eq]
theorem ahead_pp {a b : P2} (ha : lexP a) (hb : lexP b) : qD a b = true ↔ 0 < zQ a b := by
 rcases ha with ha | ⟨ha, ha2⟩ <;> rcases hb with hb | ⟨hb, hb2⟩
 ·exact dZ ((qt0 ha).trans (qt0 hb).symm)
 ·have h := Rat.mul_pos ha hb2
  rw [aF (by rw [qt0 ha, qt1 hb hb2]; decide), qt0 ha, qt1 hb hb2]
  unfold zQ; rw [hb]; exact iff_of_true (by decide) (by grind)
 ·have h := Rat.mul_pos ha2 hb
  rw [aF (by rw [qt1 ha ha2, qt0 hb]; decide), qt1 ha ha2, qt0 hb]
  unfold zQ; rw [ha]; exact iff_of_false (by decide) (by grind)
 ·exact dZ ((qt1 ha ha2).trans (qt1 hb hb2).symm)
theorem ahead_pn {a b : P2} (ha : lexP a) (hb : dA b) : qD a b = true ∧ qD b a = false := by
 have h1 : xR a = 0 ∨ xR a = 1 := by rcases ha with ha | ⟨ha, ha2⟩; exact .inl (qt0 ha); exact .inr (qt1 ha ha2)
 have h2 : xR b = 2 ∨ xR b = 3 := by rcases hb with hb | ⟨hb, hb2⟩; exact .inl (qt2 hb); exact .inr (qt3 hb hb2)
 have h3 : xR b ≠ xR a := by omega
 refine ⟨(aF h3.symm).2 (by omega), ?_⟩
 rw [Bool.eq_false_iff]; exact fun c => by have := (aF h3).1 c; omega
theorem ahead_nn {a b : P2} (ha : dA a) (hb : dA b) : qD a b = true ↔ 0 < zQ a b := by
 have k : ∀ x y : Rat, x < 0 → y < 0 → 0 < x * y := fun x y hx hy => by
  have h := Rat.mul_pos (show 0 < -x by grind) (show 0 < -y by grind)
  rw [Rat.neg_mul, Rat.mul_neg, Rat.neg_neg] at h; exact h
 rcases ha with ha | ⟨ha, ha2⟩ <;> rcases hb with hb | ⟨hb, hb2⟩
 ·exact dZ ((qt2 ha).trans (qt2 hb).symm)
 ·have h := k _ _ ha hb2
  clear k
  rw [aF (by rw [qt2 ha, qt3 hb hb2]; decide), qt2 ha, qt3 hb hb2]
  unfold zQ; rw [hb]; exact iff_of_true (by decide) (by grind)
 ·have h := k _ _ ha2 hb
  clear k
  rw [aF (by rw [qt3 ha ha2, qt2 hb]; decide), qt3 ha ha2, qt2 hb]
  unfold zQ; rw [ha]; exact iff_of_false (by decide) (by grind)
 ·exact dZ ((qt3 ha ha2).trans (qt3 hb hb2).symm)
def mrg : List P2 → List P2 → List P2
 | [], q => q
 | a :: p, [] => a :: p
 | a :: p, b :: q => if qD a b then a :: mrg p (b :: q) else b :: mrg (a :: p) q
termination_by p q => p.length + q.length
theorem pW (p : List P2) : mrg p [] = p := by cases p <;> simp [mrg]
theorem mrg_nil' (q : List P2) : mrg [] q = q := by simp [mrg]
theorem mrg_len (p q : List P2) : (mrg p q).length = p.length + q.length := by
 fun_induction mrg p q <;> simp_all <;> omega
theorem mrg_cut {p1 p2 q1 q2 : List P2} (h1 : ∀ x ∈ p1, ∀ y ∈ q2, qD x y = true) (h2 : ∀ y ∈ q1, ∀ x ∈ p2, qD x y = false) : mrg (p1 ++ p2) (q1 ++ q2) = mrg p1 q1 ++ mrg p2 q2 := by
 fun_induction mrg p1 q1 with
 | case1 q =>
  induction q with
  | nil => rfl
  | cons b q ih =>
   cases p2 with
   | nil => simp [mrg]
   | cons a p =>
    have := h2 b (by simp) a (by simp)
    have ih' := ih fun y hy => h2 y (by simp [hy])
    simp only [List.nil_append, List.cons_append] at ih' ⊢
    rw [mrg, this, if_neg (by simp), ih']
 | case2 a p =>
  clear h2
  generalize ha : a :: p = p' at *
  clear ha
  induction p' with
  | nil => simp [mrg]
  | cons a p ih =>
   have ih' := ih fun x hx y hy => h1 x (by simp [hx]) y hy
   cases q2 with
   | nil => simp [pW]
   | cons b q =>
    have := h1 a (by simp) b (by simp)
    simp only [List.nil_append, List.cons_append] at ih' ⊢
    rw [mrg, this, if_pos rfl, ih']
 | case3 a p b q h ih =>
  simp only [List.cons_append] at ih ⊢
  rw [mrg, if_pos h, ih (fun x hx y hy => h1 x (by simp [hx]) y hy) h2]
 | case4 a p b q h ih =>
  simp only [List.cons_append] at ih ⊢
  rw [mrg, if_neg h, ih h1 fun y hy x hx => h2 y (by simp [hy]) x hx]
def jR : List P2 → P2
 | [] => (0, 0)
 | e :: l => xV e (jR l)
theorem nQ (l m : List P2) : jR (l ++ m) = xV (jR l) (jR m) := by
 induction l with
 | nil => unfold xV jR; rw [Prod.ext_iff]; constructor <;> simp [Rat.zero_add]
 | cons a l ih => rw [List.cons_append, jR, ih, jR]; unfold xV; rw [Prod.ext_iff]; constructor <;> simp only <;> grind
theorem sumP_mrg (p q : List P2) : jR (mrg p q) = xV (jR p) (jR q) := by
 fun_induction mrg p q with
 | case1 q => unfold xV; rw [Prod.ext_iff]; constructor <;> simp [jR, Rat.zero_add]
 | case2 a p => unfold xV; rw [Prod.ext_iff]; constructor <;> simp [jR, xV, Rat.add_zero]
 | case3 a p b q h ih => rw [jR, ih]; unfold xV; rw [Prod.ext_iff]; constructor <;> simp only [jR, xV] <;> grind
 | case4 a p b q h ih => rw [jR, ih]; unfold xV; rw [Prod.ext_iff]; constructor <;> simp only [jR, xV] <;> grind
def iE (at' : P2) : List P2 → List P2
 | [] => []
 | [_] => []
 | e :: f :: l => xV at' e :: iE (xV at' e) (f :: l)
def jF : List P2 → List P2
 | a :: b :: r => yM b a :: jF (b :: r)
 | _ => []
theorem fV : ∀ (X : List P2) (m : P2) (Y : List P2), jF (X ++ m :: Y) = jF (X ++ [m]) ++ jF (m :: Y)
 | [], m, Y => by simp [jF]
 | [x], m, Y => by simp [jF]
 | x :: y :: X, m, Y => by
  have := fV (y :: X) m Y
  simp only [List.cons_append, jF] at this ⊢
  rw [this]
theorem fU : ∀ (a : P2) (X : List P2) (b : P2), jR (jF (a :: (X ++ [b]))) = yM b a
 | a, [], b => by simp only [List.nil_append, jF, jR]; unfold xV yM; rw [Prod.ext_iff]; constructor <;> simp only <;> grind
 | a, x :: X, b => by
  rw [List.cons_append, jF, jR, fU x X b]
  unfold xV yM; rw [Prod.ext_iff]; constructor <;> simp only <;> grind
def rI (w : P2) : List P2 → Prop
 | t :: s :: r => zQ (yM t s) w ≤ 0 ∧ rI w (s :: r)
 | _ => True
theorem dX (X : List P2) (a b : P2) : jF (X ++ [a, b]) = jF (X ++ [a]) ++ [yM b a] := by
 rw [show X ++ [a, b] = X ++ a :: [b] by rfl, fV]; rfl
theorem rM {g : P2} : ∀ acc : List P2, oU g acc → ∀ e ∈ jF acc.reverse, 0 < zQ e g
 | [], _, e, he => by simp [jF] at he
 | [_], _, e, he => by simp [jF] at he
 | t :: s :: r, h, e, he => by
  rw [show (t :: s :: r).reverse = r.reverse ++ [s, t] by simp, dX, List.mem_append, List.mem_singleton] at he
  rcases he with he | rfl
  ·exact rM (s :: r) h.2 e (by simpa using he)
  ·exact h.1
theorem rL {g : P2} : ∀ acc : List P2, rI g acc → ∀ e ∈ jF acc.reverse, zQ e g ≤ 0
 | [], _, e, he => by simp [jF] at he
 | [_], _, e, he => by simp [jF] at he
 | t :: s :: r, h, e, he => by
  rw [show (t :: s :: r).reverse = r.reverse ++ [s, t] by simp, dX, List.mem_append, List.mem_singleton] at he
  rcases he with he | rfl
  ·exact rL (s :: r) h.2 e (by simpa using he)
  ·exact h.1
theorem diffs_lex : ∀ acc : List P2, acc.Pairwise (fun a b => ltP b a) → ∀ e ∈ jF acc.reverse, lexP e
 | [], _, e, he => by simp [jF] at he
 | [_], _, e, he => by simp [jF] at he
 | t :: s :: r, h, e, he => by
  rw [show (t :: s :: r).reverse = r.reverse ++ [s, t] by simp, dX, List.mem_append, List.mem_singleton] at he
  rcases he with he | rfl
  ·exact diffs_lex (s :: r) (List.pairwise_cons.1 h).2 e (by simpa using he)
  ·exact (List.pairwise_cons.1 h).1 s (by simp)
theorem split_ex {g : P2} (hg : lexP g) : ∀ acc : List P2, acc ≠ [] → qW acc → acc.Pairwise (fun a b => ltP b a) → ∃ Y w X, acc = Y ++ w :: X ∧ rI g (Y ++ [w]) ∧ oU g (w :: X)
 | [], h, _, _ => absurd rfl h
 | [t], _, _, _ => ⟨[], t, [], rfl, trivial, trivial⟩
 | t :: s :: r, _, ht, hd => by
  by_cases c : 0 < zQ (yM t s) g
  ·exact ⟨[], t, s :: r, rfl, trivial, rJ hg _ ht hd fun t' s' r' e => by injection e with e1 e2; injection e2 with e2 e3; subst e1 e2; exact c⟩
  ·have ht' : qW (s :: r) := by
    cases r with
    | nil => trivial
    | cons u r => exact ht.2
   obtain ⟨Y, w, X, e, h1, h2⟩ := split_ex hg (s :: r) (by simp) ht' (List.pairwise_cons.1 hd).2
   refine ⟨t :: Y, w, X, by rw [e]; rfl, ?_, h2⟩
   cases Y with
   | nil => injection e with e1 e2; subst e1; exact ⟨by grind, trivial⟩
   | cons y Y => injection e with e1 e2; subst e1; exact ⟨by grind, h1⟩
theorem low_cut {S acc : List P2} {g : P2} (hc : ChOk S acc) (hg : lexP g) : ∃ Y w X, acc = Y ++ w :: X ∧ rI g (Y ++ [w]) ∧ oU g (w :: X) ∧ ∀ q ∈ S, zQ (yM q w) g ≤ 0 := by
 obtain ⟨Y, w, X, rfl, h1, h2⟩ := split_ex hg acc hc.ne hc.trs hc.dec
 refine ⟨Y, w, X, rfl, h1, h2, fun q hq => ?_⟩
 have hl := hc.lef q hq
 have hd := hc.dec
 rcases leP_total w q with k | k
 ·rcases List.eq_nil_or_concat Y with rfl | ⟨Y', n, rfl⟩
  ·have := uV (hc.top q hq w rfl) k
   subst this; unfold zQ yM; simp only; grind
  ·rw [List.concat_eq_append] at hl hd h1
   rw [List.append_assoc] at hl hd
   have k1 := (bU Y' _ hl).1
   have k2 : zQ (yM n w) g ≤ 0 := by
    have : ∀ Z : List P2, rI g (Z ++ [n, w]) → zQ (yM n w) g ≤ 0 := fun Z => by
     induction Z with
     | nil => exact fun h => h.1
     | cons z Z ih => intro h; cases Z with
      | nil => exact h.2.1
      | cons z' Z => exact ih h.2
    exact this Y' (by simpa using h1)
   have k3 : ltP w n := (List.pairwise_cons.1 (List.pairwise_append.1 hd).2.1).1 w (by simp)
   have := oY (a := g) (b := yM n w) (c := yM q w) (lexP.le hg) k3 (iK.1 k) (by unfold zQ at *; grind) k1
   unfold zQ at *; grind
 ·rcases X with _ | ⟨p, X⟩
  ·have := uV (hc.bot q hq w (by simp)) k
   subst this; unfold zQ yM; simp only; grind
  ·have k1 := (bU Y _ hl).1
   have k2 := h2.1
   have k3 : ltP p w := (List.pairwise_cons.1 (List.pairwise_append.1 hd).2.1).1 p (by simp)
   have := oY (a := yM w q) (b := yM w p) (c := g) (iK.1 k) k3 (lexP.le hg) (by unfold trn zQ yM at *; simp only at *; grind) (Rat.le_of_lt k2)
   unfold trn zQ yM at *; simp only at *; grind
theorem ahead_asym {a b : P2} (h : qD a b = true) : qD b a = false := by
 unfold qD at *
 by_cases c : xR a = xR b
 ·rw [if_neg (by simp [c])] at h
  rw [if_neg (by simp [c]), decide_eq_false]
  have := of_decide_eq_true h
  unfold zQ at *; grind
 ·rw [if_pos c] at h
  rw [if_pos (Ne.symm c), decide_eq_false]
  have := of_decide_eq_true h; omega
theorem iY {a : P2} : lexP (jC a) ↔ dA a := by unfold lexP dA jC; simp only; grind
structure Cut (g : P2) (e1 e2 : List P2) : Prop where
 pos : lexP g → (∀ e ∈ e1, lexP e ∧ 0 < zQ e g) ∧ ∀ e ∈ e2, dA e ∨ lexP e ∧ zQ e g ≤ 0
 neg : dA g → (∀ e ∈ e1, lexP e ∨ dA e ∧ 0 < zQ e g) ∧ ∀ e ∈ e2, dA e ∧ zQ e g ≤ 0
theorem cut_ahead {g : P2} {e1 e2 f1 f2 : List P2} (hg : lexP g ∨ dA g) (a : Cut g e1 e2) (b : Cut g f1 f2) : ∀ x ∈ e1, ∀ y ∈ f2, qD x y = true := fun x hx y hy => by
 rcases hg with hg | hg
 ·obtain ⟨h1, h2⟩ := (a.pos hg).1 x hx
  rcases (b.pos hg).2 y hy with h3 | ⟨h3, h4⟩
  ·exact (ahead_pn h1 h3).1
  ·exact (ahead_pp h1 h3).2 (vD (lexP.le h1) hg h3 h2 (by unfold zQ at *; grind))
 ·obtain ⟨h3, h4⟩ := (b.neg hg).2 y hy
  rcases (a.neg hg).1 x hx with h1 | ⟨h1, h2⟩
  ·exact (ahead_pn h1 h3).1
  ·have := vD (lexP.le (iY.2 h1)) (iY.2 hg) (iY.2 h3) (by unfold zQ jC at *; simp only; grind) (by unfold zQ jC at *; simp only; grind)
   exact (ahead_nn h1 h3).2 (by unfold zQ jC at *; simp only at this; grind)
theorem ChOk'.flip {S acc : List P2} (h : ChOk' S acc) : ChOk (S.map jC) (acc.map jC) := by
 refine ⟨fun x hx => ?_, ?_, fun q hq t e => ?_, fun q hq t e => ?_, fun q hq => ?_, (lP acc).2 h.trs, fun c => h.ne (List.map_eq_nil_iff.1 c)⟩
 ·obtain ⟨y, hy, rfl⟩ := List.mem_map.1 hx
  exact List.mem_map.2 ⟨y, h.sub y hy, rfl⟩
 ·rw [List.pairwise_map]; exact h.dec.imp fun h => oF.2 h
 ·obtain ⟨y, hy, rfl⟩ := List.mem_map.1 hq
  rw [List.head?_map] at e
  obtain ⟨u, hu, rfl⟩ := Option.map_eq_some_iff.1 e
  exact oJ.2 (h.top y hy u hu)
 ·obtain ⟨y, hy, rfl⟩ := List.mem_map.1 hq
  rw [List.getLast?_map] at e
  obtain ⟨u, hu, rfl⟩ := Option.map_eq_some_iff.1 e
  exact oJ.2 (h.bot y hy u hu)
 ·obtain ⟨y, hy, rfl⟩ := List.mem_map.1 hq
  exact (oI acc).2 (h.lef y hy)
theorem edgD_neg {g : P2} : ∀ l : List P2, oU (jC g) (l.map jC) ↔ oU g l
 | [] => .rfl
 | [_] => .rfl
 | t :: s :: r => by
  have e : zQ (yM (jC t) (jC s)) (jC g) = zQ (yM t s) g := by unfold zQ yM jC; simp only; grind
  simp only [List.map_cons, oU, e]; exact and_congr .rfl (edgD_neg (s :: r))
theorem edgN_neg {g : P2} : ∀ l : List P2, rI (jC g) (l.map jC) ↔ rI g l
 | [] => .rfl
 | [_] => .rfl
 | t :: s :: r => by
  have e : zQ (yM (jC t) (jC s)) (jC g) = zQ (yM t s) g := by unfold zQ yM jC; simp only; grind
  simp only [List.map_cons, rI, e]; exact and_congr .rfl (edgN_neg (s :: r))
theorem high_cut {S acc : List P2} {g : P2} (hc : ChOk' S acc) (hg : dA g) : ∃ Y w X, acc = Y ++ w :: X ∧ rI g (Y ++ [w]) ∧ oU g (w :: X) ∧ ∀ q ∈ S, zQ (yM q w) g ≤ 0 := by
 obtain ⟨Y, w, X, e, h1, h2, h3⟩ := low_cut hc.flip (iY.2 hg)
 have hn : ∀ l : List P2, (l.map jC).map jC = l := fun l => by
  rw [List.map_map]; conv => rhs; rw [← List.map_id l]
  exact List.map_congr_left fun x _ => iW x
 have e' : acc = Y.map jC ++ jC w :: X.map jC := by
  have := congrArg (List.map jC) e
  rw [hn] at this; simpa using this
 refine ⟨Y.map jC, jC w, X.map jC, e', ?_, ?_, fun q hq => ?_⟩
 ·refine (edgN_neg _).1 ?_
  rw [List.map_append, hn, List.map_cons, iW]; exact h1
 ·refine (edgD_neg _).1 ?_
  rw [List.map_cons, iW, hn]; exact h2
 ·have := h3 (jC q) (List.mem_map.2 ⟨q, hq, rfl⟩)
  unfold zQ yM jC at *; simp only at *; grind
theorem diffs_lexN : ∀ acc : List P2, acc.Pairwise (fun a b => ltP a b) → ∀ e ∈ jF acc.reverse, dA e
 | [], _, e, he => by simp [jF] at he
 | [_], _, e, he => by simp [jF] at he
 | t :: s :: r, h, e, he => by
  rw [show (t :: s :: r).reverse = r.reverse ++ [s, t] by simp, dX, List.mem_append, List.mem_singleton] at he
  rcases he with he | rfl
  ·exact diffs_lexN (s :: r) (List.pairwise_cons.1 h).2 e (by simpa using he)
  ·have := (List.pairwise_cons.1 h).1 s (by simp)
   unfold ltP lexP yM at this; unfold dA yM; simp only at *; grind
def xU (h : List P2) : List P2 := if 1 < h.length then jF (h ++ [gp h 0]) else []
theorem nK (a b : P2) : xV a (yM b a) = b := by unfold xV yM; rw [Prod.ext_iff]; constructor <;> simp only <;> grind
theorem jP (a : P2) : xV a (0, 0) = a := by unfold xV; rw [Prod.ext_iff]; constructor <;> simp only <;> grind
theorem uG (a b c : P2) : xV (xV a b) c = xV a (xV b c) := by unfold xV; rw [Prod.ext_iff]; constructor <;> simp only <;> grind
theorem add_comm' (a b : P2) : xV a b = xV b a := by unfold xV; rw [Prod.ext_iff]; constructor <;> simp only <;> grind
theorem sum_to {m w : P2} {X' : List P2} (Y X : List P2) (e : Y ++ w :: X = X' ++ [m]) : xV m (jR (jF (w :: X).reverse)) = w := by
 rcases List.eq_nil_or_concat X with rfl | ⟨X, x, hX⟩
 ·have : w = m := by
   have := congrArg List.getLast? e; simpa using this
  subst this; exact jP _
 ·rw [List.concat_eq_append] at hX
  subst hX
  have : x = m := by
   have := congrArg List.getLast? e
   rw [show Y ++ w :: (X ++ [x]) = (Y ++ w :: X) ++ [x] by simp, List.getLast?_concat, List.getLast?_concat] at this
   exact Option.some.inj this
  subst this
  rw [show (w :: (X ++ [x])).reverse = x :: (X.reverse ++ [w]) by simp, fU, nK]
theorem hull_cut {l : List P2} {g : P2} (hs : l.Pairwise ltP) (hne : l ≠ []) (hg : lexP g ∨ dA g) :
  ∃ e1 e2, xU (uS l) = e1 ++ e2 ∧ Cut g e1 e2 ∧ ∀ q ∈ l, zQ (yM q (xV (gp (uS l) 0) (jR e1))) g ≤ 0 := by
 by_cases h2 : l.length < 2
 ·match l, hne, h2 with
  | [p], _, _ =>
   refine ⟨[], [], rfl, ⟨fun _ => by simp, fun _ => by simp⟩, fun q hq => ?_⟩
   rw [List.mem_singleton.1 hq, show xV (gp (uS [p]) 0) (jR []) = p from jP p]
   unfold zQ yM; simp only; grind
 obtain ⟨mn, mx, A, B, cl, ch, eS, mnl, mxl, hlt, hmx, hmn, _⟩ := fR (by omega) hs
 have eE : xU (uS l) = jF (mx :: (A ++ [mn])).reverse ++ jF (mn :: (B ++ [mx])).reverse := by
  unfold xU
  rw [eS, if_pos (by simp only [List.length_cons, List.length_append]; omega), show mn :: (A.reverse ++ mx :: B.reverse) ++ [gp (mn :: (A.reverse ++ mx :: B.reverse)) 0] = (mn :: A.reverse) ++ mx :: (B.reverse ++ [mn]) by simp, fV]
  congr 1 <;> congr 1 <;> simp
 have e0 : gp (uS l) 0 = mn := by rw [eS]; rfl
 rw [e0, eE]
 have low : ∀ e ∈ jF (mx :: (A ++ [mn])).reverse, lexP e := diffs_lex _ cl.dec
 have high : ∀ e ∈ jF (mn :: (B ++ [mx])).reverse, dA e := diffs_lexN _ ch.dec
 have np : ∀ g : P2, lexP g → dA g → False := fun g a b => by unfold lexP dA at *; grind
 have cut : ∀ (Y : List P2) (w : P2) (X : List P2), jF (Y ++ w :: X).reverse = jF (w :: X).reverse ++ jF (Y ++ [w]).reverse := fun Y w X => by
  rw [show (Y ++ w :: X).reverse = X.reverse ++ w :: Y.reverse by simp, fV]; simp
 rcases hg with hg | hg
 ·obtain ⟨Y, w, X, e, h1, h3, h4⟩ := low_cut cl hg
  refine ⟨jF (w :: X).reverse, jF (Y ++ [w]).reverse ++ jF (mn :: (B ++ [mx])).reverse, ?_, ⟨fun _ => ⟨fun x hx => ⟨low x ?_, rM _ h3 x hx⟩, fun x hx => ?_⟩, fun h => (np g hg h).elim⟩, ?_⟩
  ·rw [e, cut, List.append_assoc]
  ·rw [e, cut]; exact List.mem_append_left _ hx
  ·rcases List.mem_append.1 hx with hx | hx
   ·exact .inr ⟨low x (by rw [e, cut]; exact List.mem_append_right _ hx), rL _ h1 x hx⟩
   ·exact .inl (high x hx)
  ·rw [sum_to Y X (X' := mx :: A) (m := mn) (by rw [← e]; simp)]; exact h4
 ·obtain ⟨Y, w, X, e, h1, h3, h4⟩ := high_cut ch hg
  refine ⟨jF (mx :: (A ++ [mn])).reverse ++ jF (w :: X).reverse, jF (Y ++ [w]).reverse, ?_, ⟨fun h => (np g h hg).elim, fun _ => ⟨fun x hx => ?_, fun x hx => ⟨high x ?_, rL _ h1 x hx⟩⟩⟩, ?_⟩
  ·rw [e, cut, List.append_assoc]
  ·rcases List.mem_append.1 hx with hx | hx
   ·exact .inl (low x hx)
   ·exact .inr ⟨high x (by rw [e, cut]; exact List.mem_append_left _ hx), rM _ h3 x hx⟩
  ·rw [e, cut]; exact List.mem_append_right _ hx
  ·rw [nQ, ← uG, show (mx :: (A ++ [mn])).reverse = mn :: (A.reverse ++ [mx]) by simp, fU, nK, sum_to Y X (X' := mn :: B) (m := mx) (by rw [← e]; simp)]; exact h4
def nV (h k : List P2) : List P2 := xV (gp h 0) (gp k 0) :: iE (xV (gp h 0) (gp k 0)) (mrg (xU h) (xU k))
theorem edges_zero {h : List P2} : jR (xU h) = (0, 0) := by
 unfold xU; split
 ·match h with
  | a :: r =>
   rw [show a :: r ++ [gp (a :: r) 0] = a :: (r ++ [a]) from rfl, fU]
   unfold yM; rw [Prod.ext_iff]; constructor <;> simp only <;> grind
 ·rfl
theorem way_mem : ∀ (e1 e2 : List P2) (at' : P2), e1 ≠ [] → e2 ≠ [] → xV at' (jR e1) ∈ iE at' (e1 ++ e2)
 | [], _, _, h, _ => absurd rfl h
 | [e], f :: e2, a, _, _ => by simp only [List.cons_append, List.nil_append, iE, jR]; rw [jP]; simp
 | e :: f :: e1, e2, a, _, h => by
  have := way_mem (f :: e1) e2 (xV a e) (by simp) h
  rw [List.cons_append, List.cons_append, iE, jR, ← uG]
  exact List.mem_cons_of_mem _ this
 | [_], [], _, _, h => absurd rfl h
theorem out_mem {h k e1 e2 : List P2} (e : mrg (xU h) (xU k) = e1 ++ e2) : xV (xV (gp h 0) (gp k 0)) (jR e1) ∈ nV h k := by
 unfold nV
 have z : xV (jR e1) (jR e2) = (0, 0) := by rw [← nQ, ← e, sumP_mrg, edges_zero, edges_zero]; exact jP _
 by_cases c1 : e1 = []
 ·subst c1; rw [show jR [] = (0, 0) from rfl, jP]; simp
 by_cases c2 : e2 = []
 ·subst c2; rw [show jR [] = (0, 0) from rfl, jP] at z; rw [z, jP]; simp
 ·rw [e]; exact List.mem_cons_of_mem _ (way_mem e1 e2 _ c1 c2)
theorem out_sup {l m : List P2} (hl : l.Pairwise ltP) (hm : m.Pairwise ltP) (nl : l ≠ []) (nm : m ≠ []) {a b : P2} (ha : a ∈ l) (hb : b ∈ m) : Sup (nV (uS l) (uS m)) (xV a b) := fun u v => by
 by_cases hz : lexP (-v, u) ∨ dA (-v, u)
 ·obtain ⟨e1, e2, ee, ec, eb⟩ := hull_cut hl nl hz
  obtain ⟨f1, f2, fe, fc, fb⟩ := hull_cut hm nm hz
  have h1 := cut_ahead hz ec fc
  have h2 := cut_ahead hz fc ec
  have em : mrg (xU (uS l)) (xU (uS m)) = mrg e1 f1 ++ mrg e2 f2 := by
   rw [ee, fe]; exact mrg_cut h1 fun y hy x hx => ahead_asym (h2 y hy x hx)
  refine ⟨_, out_mem em, ?_⟩
  rw [sumP_mrg]
  have k1 := eb a ha
  have k2 := fb b hb
  generalize gp (uS l) 0 = p at *
  generalize gp (uS m) 0 = q at *
  generalize jR e1 = s at *
  generalize jR f1 = t at *
  unfold zQ yM xV at *; simp only at *; grind
 ·have hu : u = 0 := by unfold lexP dA at hz; simp only at hz; grind
  have hv : v = 0 := by unfold lexP dA at hz; simp only at hz; grind
  refine ⟨_, List.mem_cons_self, ?_⟩
  rw [hu, hv]; grind
theorem fS {h : List P2} (hne : h ≠ []) {e1 e2 : List P2} (e : xU h = e1 ++ e2) : xV (gp h 0) (jR e1) ∈ h := by
 unfold xU at e
 split at e
 ·match h, hne with
  | a :: r, _ =>
   have e' : jF (a :: (r ++ [a])) = e1 ++ e2 := e
   have key : ∀ (r : List P2) (b z : P2) (e1 : List P2), jF (b :: (r ++ [z])) = e1 ++ e2 → xV b (jR e1) ∈ b :: (r ++ [z]) := fun r => by
    induction r with
    | nil =>
     intro b z e1 e
     match e1, e with
     | [], _ => rw [show jR [] = (0, 0) from rfl, jP]; simp
     | [x], e => 
      simp only [List.nil_append, jF, List.cons_append, List.cons.injEq] at e
      rw [← e.1, jR, show jR [] = (0, 0) from rfl, jP, nK]; simp
     | x :: y :: s, e => simp [jF] at e
    | cons c r ih =>
     intro b z e1 e
     match e1, e with
     | [], _ => rw [show jR [] = (0, 0) from rfl, jP]; simp
     | x :: s, e =>
      rw [List.cons_append, jF, List.cons_append, List.cons.injEq] at e
      have := ih c z s e.2
      rw [← e.1, jR, ← uG, nK]
      exact List.mem_cons_of_mem _ this
   have := key r a a e1 e'
   show xV a (jR e1) ∈ a :: r
   simp only [List.mem_cons, List.mem_append, List.mem_singleton, List.not_mem_nil, or_false] at this ⊢
   grind
 ·match h, hne with
  | a :: r, _ =>
   obtain ⟨rfl, rfl⟩ := List.append_eq_nil_iff.1 e.symm
   rw [show jR [] = (0, 0) from rfl, jP]; simp
theorem mrg_pre (p q : List P2) : ∀ {s t : List P2}, mrg p q = s ++ t → ∃ p1 p2 q1 q2, p = p1 ++ p2 ∧ q = q1 ++ q2 ∧ jR s = xV (jR p1) (jR q1) := by
 fun_induction mrg p q with
 | case1 q => exact fun {s t} e => ⟨[], [], s, t, rfl, e, by rw [show jR [] = (0, 0) from rfl, add_comm', jP]⟩
 | case2 a p => exact fun {s t} e => ⟨s, t, [], [], e, rfl, by rw [show jR [] = (0, 0) from rfl, jP]⟩
 | case3 a p b q h ih =>
  intro s t e
  match s, e with
  | [], e => exact ⟨[], _, [], _, rfl, rfl, by rw [show jR [] = (0, 0) from rfl, jP]⟩
  | x :: s, e =>
   rw [List.cons_append, List.cons.injEq] at e
   obtain ⟨p1, p2, q1, q2, h1, h2, h3⟩ := ih e.2
   exact ⟨a :: p1, p2, q1, q2, by rw [h1]; rfl, h2, by rw [jR, jR, h3, ← e.1, uG]⟩
 | case4 a p b q h ih =>
  intro s t e
  match s, e with
  | [], e => exact ⟨[], _, [], _, rfl, rfl, by rw [show jR [] = (0, 0) from rfl, jP]⟩
  | x :: s, e =>
   rw [List.cons_append, List.cons.injEq] at e
   obtain ⟨p1, p2, q1, q2, h1, h2, h3⟩ := ih e.2
   exact ⟨p1, p2, b :: q1, q2, h1, by rw [h2]; rfl, by rw [jR, jR, h3, ← e.1, ← uG, add_comm' b, uG]⟩
theorem way_ex : ∀ (es : List P2) (at' c : P2), c ∈ iE at' es → ∃ s t, es = s ++ t ∧ c = xV at' (jR s)
 | [], _, _, h => by simp [iE] at h
 | [_], _, _, h => by simp [iE] at h
 | e :: f :: l, a, c, h => by
  rw [iE] at h
  rcases List.mem_cons.1 h with rfl | h
  ·exact ⟨[e], f :: l, rfl, by rw [jR, show jR [] = (0, 0) from rfl, jP]⟩
  ·obtain ⟨s, t, h1, h2⟩ := way_ex (f :: l) _ c h
   exact ⟨e :: s, t, by rw [h1]; rfl, by rw [h2, jR, uG]⟩
theorem out_of {h k : List P2} (hh : h ≠ []) (hk : k ≠ []) {c : P2} (hc : c ∈ nV h k) : ∃ a ∈ h, ∃ b ∈ k, c = xV a b := by
 have key : ∀ s t, mrg (xU h) (xU k) = s ++ t → c = xV (xV (gp h 0) (gp k 0)) (jR s) → ∃ a ∈ h, ∃ b ∈ k, c = xV a b := fun s t e ec => by
  obtain ⟨p1, p2, q1, q2, h1, h2, h3⟩ := mrg_pre _ _ e
  refine ⟨_, fS hh h1, _, fS hk h2, ?_⟩
  rw [ec, h3]; unfold xV; rw [Prod.ext_iff]; constructor <;> simp only <;> grind
 unfold nV at hc
 rcases List.mem_cons.1 hc with rfl | hc
 ·exact key [] _ rfl (by rw [show jR [] = (0, 0) from rfl, jP])
 ·obtain ⟨s, t, h1, h2⟩ := way_ex _ _ _ hc
  exact key s t h1 h2
theorem mR : COrd qQ := ⟨fun a b => mF, fun a b => by rw [cmpP_gt, lG], fun a b c h k => by rw [← lt_iff] at *; exact leP_of_lt_trans h.le k⟩
noncomputable def hullF (l : List P2) : List P2 := uS (setOf qQ l)
theorem iP (l : List P2) : (setOf qQ l).Pairwise ltP := (iF mR l).rise.imp fun h => lt_iff.2 h
theorem qB (l : List P2) : IsHull l (hullF l) := by
 have h := hullS_ok (iP l)
 exact ⟨h.poly, fun c hc => (bJ mR).1 (h.sub c hc), fun q hq => h.sup q ((bJ mR).2 hq)⟩
theorem hull_eq {l m : List P2} (h1 : ∀ q ∈ l, Sup m q) (h2 : ∀ q ∈ m, Sup l q) : hullF l = hullF m := hull_uniq (qB l) (qB m) h1 h2
theorem hull_hull (l : List P2) : hullF (hullF l) = hullF l := hull_eq (fun q hq => nP ((qB l).sub q hq)) (qB l).sup
theorem aR {l : List P2} : hullF l = [] ↔ l = [] := by
 constructor
 ·intro h
  match l, h with
  | [], _ => rfl
  | p :: r, h => obtain ⟨c, hc, _⟩ := (qB (p :: r)).sup p (by simp) 0 0; rw [h] at hc; cases hc
 ·intro h; subst h
  match e : hullF [], (qB []).sub with
  | [], _ => rfl
  | p :: r, k => exact absurd (k p (by simp)) (by simp)
theorem oL (l : List P2) : (hullF l).length ≤ l.length := cZ (qB l).poly.nd (qB l).sub
theorem hullS_fst {l : List P2} (hs : l.Pairwise ltP) : ∀ q ∈ l, leP (gp (uS l) 0) q := fun q hq => by
 by_cases h2 : l.length < 2
 ·match l, hq, h2 with
  | [p], hq, _ => rw [List.mem_singleton.1 hq]; exact eZ _
 obtain ⟨mn, mx, A, B, cl, ch, eS, mnl, mxl, hlt, hmx, hmn, _⟩ := fR (by omega) hs
 rw [eS]; exact hmn q hq
theorem hull_fst {l : List P2} : ∀ q ∈ l, leP (gp (hullF l) 0) q := fun q hq => hullS_fst (iP l) q ((bJ mR).2 hq)
theorem trn_self (a b c : P2) : trn a a c = 0 ∧ trn a b a = 0 ∧ trn a b b = 0 := by unfold trn zQ yM; simp only; grind
theorem hull_left {l : List P2} {q : P2} (hq : Sup (hullF l) q) {i : Nat} (hi : i < (hullF l).length) : 0 ≤ trn (gp (hullF l) i) (nx (hullF l) i) q := by
 have p := (qB l).poly
 generalize hullF l = h at *
 rcases Nat.lt_or_ge 2 h.length with h3 | h3
 ·exact eY (p.weak hi h3) hq
 ·match h, h3, hi with
  | [a], _, hi =>
   obtain rfl : i = 0 := by simpa using hi
   rw [show nx [a] 0 = a by simp [nx, gp], show gp [a] 0 = a from rfl, (trn_self a a q).1]; exact Rat.le_refl
  | [a, b], _, hi =>
   have := sup_two rfl hq
   rcases Nat.lt_or_ge i 1 with c | c
   ·obtain rfl : i = 0 := by omega
    have : trn a b q = 0 := this
    rw [show nx [a, b] 0 = b by simp [nx, gp], show gp [a, b] 0 = a from rfl, this]; exact Rat.le_refl
   ·obtain rfl : i = 1 := by simp only [List.length_cons, List.length_nil] at hi; omega
    rw [show nx [a, b] 1 = a by simp [nx, gp], show gp [a, b] 1 = b from rfl]
    have : trn a b q = 0 := this
    unfold trn zQ yM at *; simp only at *; grind
def lU (a b : List P2) : List P2 := a.flatMap fun x => b.map fun y => xV x y
theorem mem_pairs {a b : List P2} {q : P2} : q ∈ lU a b ↔ ∃ x ∈ a, ∃ y ∈ b, q = xV x y := by
 unfold lU; simp only [List.mem_flatMap, List.mem_map]
 exact ⟨fun ⟨x, hx, y, hy, e⟩ => ⟨x, hx, y, hy, e.symm⟩, fun ⟨x, hx, y, hy, e⟩ => ⟨x, hx, y, hy, e.symm⟩⟩
noncomputable def sumF (a b : List P2) : List P2 := hullF (lU a b)
theorem sum_made {a b : List P2} (ha : a ≠ []) (hb : b ≠ []) : hullF (nV (hullF a) (hullF b)) = sumF a b := by
 refine hull_eq (fun q hq => ?_) fun q hq => ?_
 ·obtain ⟨x, hx, y, hy, rfl⟩ := out_of (fun e => ha (aR.1 e)) (fun e => hb (aR.1 e)) hq
  exact nP (mem_pairs.2 ⟨x, (qB a).sub x hx, y, (qB b).sub y hy, rfl⟩)
 ·obtain ⟨x, hx, y, hy, rfl⟩ := mem_pairs.1 hq
  have h : ∀ {l : List P2} {x : P2}, x ∈ l → setOf qQ l ≠ [] := fun {l x} hx e => by have := (bJ mR (l := l)).2 hx; rw [e] at this; cases this
  exact out_sup (iP a) (iP b) (h hx) (h hy) ((bJ mR).2 hx) ((bJ mR).2 hy)
theorem sum_nil {a b : List P2} : sumF a b = [] ↔ a = [] ∨ b = [] := by
 unfold sumF; rw [aR]
 constructor
 ·intro h
  match a, b, h with
  | [], _, _ => exact .inl rfl
  | _ :: _, [], _ => exact .inr rfl
  | _ :: _, _ :: _, h => simp [lU] at h
 ·rintro (rfl | rfl)
  ·rfl
  ·simp [lU]
theorem way_len : ∀ (es : List P2) (a : P2), (iE a es).length = es.length - 1
 | [], _ => rfl
 | [_], _ => rfl
 | e :: f :: l, a => by rw [iE, List.length_cons, way_len (f :: l)]; simp
theorem diffs_len : ∀ C : List P2, (jF C).length = C.length - 1
 | [] => rfl
 | [_] => rfl
 | a :: b :: r => by rw [jF, List.length_cons, diffs_len (b :: r)]; simp
theorem dB (h : List P2) : (xU h).length = if 1 < h.length then h.length else 0 := by
 unfold xU; split
 ·rw [diffs_len]; simp
 ·rfl
theorem out_len (h k : List P2) : (nV h k).length ≤ max 1 (h.length + k.length) := by
 unfold nV; rw [List.length_cons, way_len, mrg_len, dB, dB]; split <;> split <;> omega
structure Conv (l : List P2) : Prop where
 three : 3 ≤ l.length
 left : ∀ i k, i < l.length → k < l.length → 0 ≤ trn (gp l i) (nx l i) (gp l k)
 strict : ∀ i k, i < l.length → k < l.length → k ≠ i → k ≠ (i + 1) % l.length → trn (gp l i) (nx l i) (gp l k) ≠ 0
theorem Poly.conv' {h : List P2} (p : Poly h) (h3 : 3 ≤ h.length) : Conv h := ⟨h3, fun i k hi hk => p.weak hi h3 _ (kO hk), fun i k hi hk n1 n2 => by have := p.conv h3 i k hi hk n1 n2; grind⟩
end Go.SL
set_option maxHeartbeats 4000000
namespace Go.Proofs.YtflobagimodmgaaGreatDoor
open Go.SL Go.RowKit Go.Proofs Tryz
theorem wturn {p q : P2} {n m : Nat} (hn : n ≤ 20000) (hm : m ≤ 20000) : CTy prog 133 [ag (ptq n p), ag (ptq m q)] (exP (.int .i64 (eF (zQ p q)))) := by
 refine ctc func133 rfl rfl rfl rfl fun X => (zI (zK rfl (wV (obx rfl) (wV (obx rfl) (wV (oas rfl) (wU (zI (zK rfl (wV (old rfl rfl) ?_)))))))))
 refine wV (old rfl rfl) (wV (oca rfl rfl fun _ => kvcross (by omega) (by omega)) (wV (oca rfl rfl fun _ => sX (by omega)) (wV (oas rfl) (wU (yN (⟨[_], rst rfl rs0, yU (PSub.refl _)⟩))))))
theorem kturn {Ψ Φ : PV} {p q : P2} {n m : Nat} [h : QP Ψ n p] [k : QP Φ m q] (hn : n ≤ 20000) (hm : m ≤ 20000) : CTy prog 133 [Ψ, Φ] (exP (.int .i64 (eF (zQ p q)))) := uF (wturn hn hm) (fs1 cX (fs1 cX fs0))
theorem wquarter {p : P2} {n : Nat} (hn : n ≤ 20000) : CTy prog 141 [ag (ptq n p)] (exP (.int .i64 (xR p))) := by
 refine ctc func141 rfl rfl rfl rfl fun X => (zI (zK rfl (wV (obx rfl) (wV (oas rfl) (wU (zI (zI (jB 8 mixed rfl rfl (d1 (ofa rfl rfl) ?_)))))))))
 refine d1 (old rfl rfl) (d1 (oca rfl rfl fun _ => sX (by omega)) (d1 (ofa rfl rfl) (d1 (old rfl rfl) (d1 (oca rfl rfl fun _ => sX (by omega)) (d1 (oas rfl) (d1 (oas rfl) (d0 (wU (yV ?_)))))))))
 refine zI (zK rfl (wV (omv rfl) (wV (ogt rfl rfl) (wV (oas rfl) (wU ?_)))))
 refine gF rfl (fun c0 => ?_) (fun c0 => ?_)
 refine zI (zK rfl (wV (oas rfl) (wU (yN (⟨[_], rst rfl rs0, yU ?_⟩)))))
 refine bB ?_
 rotate_left 1
 refine zI (zK rfl (wV (omv rfl) (wV (oeq rfl rfl) (wV (omv rfl) (t1g rfl rfl (omv rfl) (t1g rfl rfl (ogt rfl rfl) (wV (opk rfl rfl rfl) (wV (oas rfl) (wU ?_)))))))))
 refine gF rfl (fun c1 => ?_) (fun c1 => ?_)
 refine zI (zK rfl (wV (oas rfl) (wU (yN (⟨[_], rst rfl rs0, yU ?_⟩)))))
 refine bB ?_
 rotate_left 1
 refine zI (zK rfl (wV (omv rfl) (wV (olt rfl rfl) (wV (oas rfl) (wU ?_)))))
 refine gF rfl (fun c2 => ?_) (fun c2 => ?_)
 refine zI (zK rfl (wV (oas rfl) (wU (yN (⟨[_], rst rfl rs0, yU ?_⟩)))))
 refine bB ?_
 rotate_left 1
 refine xC (zI (zK rfl (wV (oas rfl) (wU (yN (⟨[_], rst rfl rs0, yU ?_⟩))))))
 refine bB ?_
 rotate_left 1
 ·exact (qt0 (iO.1 (dt c0))).symm
 ·have h := mT c1
  exact (qt1 (lS.1 h.1) (iO.1 h.2)).symm
 ·exact (qt2 (mY.1 (dt c2))).symm
 ·have h0 := mt iO.2 (df c0)
  have h1 := dor c1
  rw [lS, iO] at h1
  have h2 := mt mY.2 (df c2)
  unfold xR; rw [if_neg h0, if_neg h1, if_neg h2]
theorem kquarter {Ψ : PV} {p : P2} {n : Nat} [h : QP Ψ n p] (hn : n ≤ 20000) : CTy prog 141 [Ψ] (exP (.int .i64 (xR p))) := uF (wquarter hn) (fs1 cX fs0)
theorem wahead {p q : P2} {n m : Nat} (hn : n ≤ 20000) (hm : m ≤ 20000) : CTy prog 81 [ag (ptq n p), ag (ptq m q)] (exP (.bool (qD p q))) := by
 refine ctc func81 rfl rfl rfl rfl fun X => (zI (zK rfl (wV (obx rfl) (wV (obx rfl) (wV (oas rfl) (wU (zI (zI (jB 6 mixed rfl rfl ?_)))))))))
 refine d1 (old rfl rfl) (d1 (oca rfl rfl fun _ => kquarter (by omega)) (d1 (old rfl rfl) (d1 (oca rfl rfl fun _ => kquarter (by omega)) (d1 (oas rfl) (d1 (oas rfl) (d0 (wU (zI (zK rfl ?_)))))))))
 refine wV (omv rfl) (wV (omv rfl) (wV (oni rfl rfl) (wU ?_)))
 refine gF rfl (fun c0 => ?_) (fun c0 => ?_)
 refine zI (zK rfl (wV (omv rfl) (wV (omv rfl) (wV (olt rfl rfl) (wV (oas rfl) (wU (yN (⟨[_], rst rfl rs0, yU ?_⟩))))))))
 refine psb ?_
 rotate_left 1
 refine xC (zI (zK rfl (wV (old rfl rfl) (wV (old rfl rfl) (wV (oca rfl rfl fun _ => kturn (by omega) (by omega)) (wV (ogt rfl rfl) (wV (oas rfl) (wU (yN ?_)))))))))
 refine ⟨[_], rst rfl rs0, yU ?_⟩
 refine psb ?_
 rotate_left 1
 ·have h := dt c0
  unfold qD; rw [if_pos h]
 ·have h := df c0
  unfold qD; rw [if_neg h, decide_eq_decide]; exact iO
theorem kahead {Ψ Φ : PV} {p q : P2} {n m : Nat} [h : QP Ψ n p] [k : QP Φ m q] (hn : n ≤ 20000) (hm : m ≤ 20000) : CTy prog 81 [Ψ, Φ] (exP (.bool (qD p q))) := uF (wahead hn hm) (fs1 cX (fs1 cX fs0))
theorem nA {t s : P2} {r : List P2} : (t :: s :: r).reverse.getD (r.length + 1) Df.d = t ∧ (t :: s :: r).reverse.getD r.length Df.d = s := by
 rw [show (t :: s :: r).reverse = r.reverse ++ [s, t] by simp]
 constructor <;> simp [List.getD_eq_getElem?_getD]
theorem drop_step {cur : List P2} {p : P2} (h : Tr ((decide (1 < (cur.length : Int)) && decide (eF (zQ (yM (cur.reverse.getD (cur.length - 1) Df.d) (cur.reverse.getD (cur.length - 2) Df.d)) (yM p (cur.reverse.getD (cur.length - 1) Df.d))) ≤ 0)) = true)) : 1 < cur.length ∧ qC p cur.tail = qC p cur := by
 obtain ⟨h1, h2⟩ := mT h
 match cur, h1, h2 with
 | t :: s :: r, h1, h2 =>
  refine ⟨by omega, ?_⟩
  rw [show (t :: s :: r).length - 1 = r.length + 1 from rfl, show (t :: s :: r).length - 2 = r.length from rfl, nA.1, nA.2, sgnR_le] at h2
  rw [List.tail_cons]; conv => rhs; rw [qC]
  rw [if_pos h2]
theorem drop_stop {cur : List P2} {p : P2} (h : Tr ((decide (1 < (cur.length : Int)) && decide (eF (zQ (yM (cur.reverse.getD (cur.length - 1) Df.d) (cur.reverse.getD (cur.length - 2) Df.d)) (yM p (cur.reverse.getD (cur.length - 1) Df.d))) ≤ 0)) = false)) : qC p cur = cur := by
 have h1 := dor h
 match cur, h1 with
 | [], _ => rfl
 | [_], _ => rfl
 | t :: s :: r, h1 =>
  rw [show (t :: s :: r).length - 1 = r.length + 1 from rfl, show (t :: s :: r).length - 2 = r.length from rfl, nA.1, nA.2, sgnR_le] at h1
  rw [qC, if_neg fun c => h1 ⟨by simp only [List.length_cons]; omega, c⟩]
theorem dx1 {n : Nat} {q : Prop} (h : q ∧ decide (1 < (n : Int)) = true) : 1 < n := by have := of_decide_eq_true h.2; omega
theorem rev_tail {cur : List P2} {f : P2 → CT} (h : 1 < cur.length) : (cur.reverse.map f).take (cur.length - 1) = cur.tail.reverse.map f := by
 match cur, h with
 | t :: r, _ => rw [List.reverse_cons, List.map_append, List.tail_cons, List.take_left' (by simp)]
theorem kdrop {acc : List P2} {p : P2} {n b : Nat} {v : Value} (hn : n ≤ 5000) (hl : acc.length ≤ 1000) : CTo prog 132 [ag (ptc n p), exP (.pointer (some ⟨b, 0, none⟩))] [.row v 35 6 (acc.reverse.map (ptc n)), .blk b 22 [xc v]] (fun ρ So => ρ = tu [] ∧ ∃ v', So = [.row v' 35 6 ((qC p acc).reverse.map (ptc n)), .blk b 22 [xc v']]) := by
 refine ctd func132 rfl rfl rfl rfl (fun _ _ _ _ _ _ _ hs hp => iG hs hp) fun X => (zI (zK rfl (wV (obx rfl) (wU (zI (zK rfl (wV (uM 1 rfl rfl rfl rfl) (wV (vZ 0 rfl rfl) (wV (oas rfl) ?_)))))))))
 refine wU (yV ?_)
 rotate_left 1
 refine gW (σ := List P2 × Value) (fun s => [(3, True, exP (.int .i64 ((s.1.length : Nat) : Int)))]) (fun s => [.row s.2 35 6 (s.1.reverse.map (ptc n)), .blk b 22 [xc s.2]]) (fun s => s.1.length ≤ acc.length ∧ qC p s.1 = qC p acc) (fun s => s.1.length) ((acc, v)) (tk 1 rfl (tk 2 rfl tn)) ?_ rfl (⟨by simp, rfl⟩) (fun s hJ Y _ => ?_)
 refine tc rfl (bB (by (simp; done))) (tn)
 rotate_left 1
 obtain ⟨cur, v1⟩ := s
 dsimp only at hJ ⊢
 obtain ⟨j1, j2⟩ := hJ
 refine zI (zI (jB 24 mixed rfl rfl (d1 (omv rfl) (d1 (ogt rfl rfl) (d1 (omv rfl) (d1g rfl rfl (uM 1 rfl rfl rfl rfl) (d1g rfl rfl (omv rfl) (d1g rfl rfl (osb rfl rfl (by omega)) (d1g rfl rfl (tY 0 (cur.length - 1) rfl rfl rfl (fun h => by have := dx1 h; omega) (fun h => by have := dx1 h; simp only [List.length_map, List.length_reverse]; omega)) ?_)))))))))
 refine d1g rfl rfl (rW 0 rfl rfl (fun g => (by (have := dx1 ‹_›; simp only [List.length_map, List.length_reverse]; omega))) rfl) (d1g rfl rfl (uM 1 rfl rfl rfl rfl) (d1g rfl rfl (omv rfl) (d1g rfl rfl (osb rfl rfl (by omega)) (d1g rfl rfl (tY 0 (cur.length - 2) rfl rfl rfl (fun h => by have := dx1 h; omega) (fun h => by have := dx1 h; simp only [List.length_map, List.length_reverse]; omega)) (d1g rfl rfl (rW 0 rfl rfl (fun g => (by (have := dx1 ‹_›; simp only [List.length_map, List.length_reverse]; omega))) rfl) (d1g rfl rfl (oca rfl rfl fun g => tM (by omega) (by omega)) (d1g rfl rfl (old rfl rfl) (d1g rfl rfl (uM 1 rfl rfl rfl rfl) (d1g rfl rfl (omv rfl) ?_)))))))))
 refine d1g rfl rfl (osb rfl rfl (by omega)) (d1g rfl rfl (tY 0 (cur.length - 1) rfl rfl rfl (fun h => by have := dx1 h; omega) (fun h => by have := dx1 h; simp only [List.length_map, List.length_reverse]; omega)) (d1g rfl rfl (rW 0 rfl rfl (fun g => (by (have := dx1 ‹_›; simp only [List.length_map, List.length_reverse]; omega))) rfl) (d1g rfl rfl (oca rfl rfl fun g => tM (by omega) (by omega)) (d1g rfl rfl (oca rfl rfl fun g => kturn (by omega) (by omega)) (d1g rfl rfl (ole rfl rfl) (d1 (opk rfl rfl rfl) (d0 (wU ?_))))))))
 refine gF rfl (fun c0 => ?_) (fun c0 => ?_)
 refine xC (zI (yV (zK rfl (wV (uM 1 rfl rfl rfl rfl) (wV (omv rfl) (wV (osb rfl rfl (by omega)) (tsh 0 (cur.length - 1) rfl rfl rfl (by (have e0 := mT c0; omega)) (by (simp; done)) fun r35 => (tsw 1 0 rfl rfl rfl rfl rfl rfl rfl (wU ?_)))))))))
 refine zK rfl (wV (omv rfl) (wV (osb rfl rfl (by omega)) (wV (oas rfl) (wU ?_))))
 rotate_left 1
 refine gX ?_
 rotate_left 1
 ·have hs := drop_step c0
  refine ⟨(cur.tail, r35), tes ?_ ?_ ?_, ?_, (by (simp; omega))⟩
  refine tc rfl (bB (by (simp; omega))) (tn)
  refine tc rfl (yX _) (tc rfl (yX _) (tn))
  rotate_left 1
  rotate_left 1
  ·rw [rev_tail hs.1]; exact List.Sublist.refl _
  ·exact ⟨by simp only [List.length_tail]; omega, hs.2.trans j2⟩
 ·refine ⟨[], tu [], _, rs0, List.Sublist.refl _, ⟨rfl, v1, by rw [← j2, drop_stop c0]⟩, nil_r⟩
end Go.Proofs.YtflobagimodmgaaGreatDoor
set_option maxHeartbeats 4000000
namespace Go.Proofs.YtflobagimodmgaaGreatDoor
open Go.SL Go.RowKit Go.Proofs Tryz
theorem chain_snoc : ∀ (l : List P2) (acc : List P2) (p : P2), jD acc (l ++ [p]) = p :: qC p (jD acc l)
 | [], _, _ => rfl
 | q :: l, acc, p => by rw [List.cons_append, jD, jD]; exact chain_snoc l _ p
theorem mC (p : P2) : ∀ l : List P2, (qC p l).length ≤ l.length
 | [] => Nat.le_refl _
 | [_] => Nat.le_refl _
 | t :: s :: r => by
  rw [qC]; split
  ·have := mC p (s :: r); simp only [List.length_cons] at *; omega
  ·exact Nat.le_refl _
theorem dY : ∀ (l acc : List P2), (jD acc l).length ≤ acc.length + l.length
 | [], _ => Nat.le_refl _
 | p :: l, acc => by
  rw [jD]
  have h1 := dY l (p :: qC p acc)
  have h2 := mC p acc
  simp only [List.length_cons] at *; omega
theorem kchain {l : List P2} {n : Nat} (hn : n ≤ 5000) (hl : l.length ≤ 500) : CTy prog 72 [sv (sl 6 (l.map (ptc n)))] (sv (sl 6 ((jD [] l).reverse.map (ptc n)))) := by
 refine ctc func72 rfl rfl rfl rfl fun X => (zI (zK rfl (wV (oas rfl) (wU (zI (zK rfl (tal fun b3 => (wU (zI ?_)))))))))
 refine zK rfl (wV (omf rfl) (wV (oas rfl) (wU (zI (zI (zK rfl (wV (omv rfl) (wV (oln rfl) (wV (omv rfl) ?_)))))))))
 refine wU (yV ?_)
 rotate_left 1
 refine fZ (pG 35 6) ?_
 refine gW (σ := Nat × Value) (fun s => [(10, True, exP (.int .i64 ((s.1 : Nat) : Int)))]) (fun s => [.row s.2 35 6 ((jD [] (l.take s.1)).reverse.map (ptc n)), .blk b3 22 [xc s.2]]) (fun s => s.1 ≤ l.length) (fun s => l.length - s.1) ((0, .slice none 0 0)) (tk 3 rfl (tk 4 rfl (tk 8 rfl (tk 9 rfl tn)))) ?_ rfl ((by simp)) (fun s hJ Y _ => ?_)
 refine tc rfl (yX _) (tn)
 rotate_left 1
 have hc := dY (l.take s.1) []
 have hd := fun p => mC p (jD [] (l.take s.1))
 rw [List.length_take, List.length_nil] at hc
 refine zI (zK rfl (wV (olt rfl rfl) (wU (zI ?_))))
 refine gF rfl (fun c0 => ?_) (fun c0 => ?_)
 refine xC (zI (yV (zI (zK rfl (wV (oix _ rfl rfl rfl (fun _ => rfl) (fun _ => (by (have e0 := dt c0; omega)))) (wV (old rfl rfl) (tal fun b6 => (tst 0 rfl rfl rfl rfl rfl rfl (aK (kJ (s := 6) 0 rfl rfl) ?_)))))))))
 refine wU (zI (zK rfl (wV (omv rfl) (wV (old rfl rfl) ?_))))
 rotate_left 1
 refine gX (zI (zK rfl (wV (uM 1 rfl rfl rfl rfl) (wV (oas rfl) (wU (fZ (cL (s := 2) 0 rfl rfl) (yN (⟨[_], rst rfl rs0, yU ?_⟩))))))))
 rotate_left 1
 ·have h0 := dt c0
  refine tco [0, 1] rfl rfl rfl (kdrop (n := n) (acc := jD [] (l.take s.1)) (p := l.getD s.1 Df.d) (by omega) (by omega)) ?_
  rintro _ _ ⟨rfl, v', rfl⟩
  refine wU (zK rfl (wV (uM 1 rfl rfl rfl rfl) (wV (old rfl rfl) (wV (obs rfl rfl rfl rfl rfl rfl) ?_))))
  refine tap 0 rfl rfl rfl ?_ rfl fun r20 => ?_
  rotate_left 1
  refine tsw 1 0 rfl rfl rfl rfl rfl rfl rfl (wU (zK rfl (wV (oad rfl rfl (by omega)) (wV (omv rfl) (wU ?_)))))
  rotate_left 1
  ·have := hd (l.getD s.1 Df.d)
   simp only [List.length_map, List.length_reverse, List.length_cons, List.length_nil]; omega
  ·refine ⟨(s.1 + 1, r20), tes ?_ ?_ ?_, (by omega), (by omega)⟩
   refine tc rfl (yX _) (tn)
   refine tc rfl (yX _) (tc rfl (yX _) (tc rfl (yX _) (tc rfl (yX _) (tn))))
   rotate_left 1
   rw [(jW (Df.d : P2) (show s.1 < l.length by omega)).1, chain_snoc, List.reverse_cons, List.map_append]
   exact List.Sublist.refl _
 ·have h0 := df c0
  rw [List.take_of_length_le (by omega)]
  exact PSub.refl _
theorem kvnormo {Ψ : PV} {l : List P2} {n : Nat} [h : VPt Ψ n l] (hn : n ≤ 20000) (hl : l.length ≤ 1000000) : CTo prog 67 [Ψ] [] (fun ρ So => ∃ v, ρ = exP v ∧ So = [.row v 35 6 (l.map (ptc (n + 1)))]) := by
 refine cto_w (σs := [sv (sl 6 (l.map (ptq n)))]) ?_ (fs1 oX fs0)
 refine ctd func67 rfl rfl rfl rfl (fun _ _ _ _ _ _ _ hs hp => iG hs hp) fun X => (zI (zK rfl (wV (oas rfl) (wU (zI (zI (zK rfl (wV (omv rfl) (wV (oln rfl) ?_)))))))))
 refine wV (omv rfl) (wU (yV ?_))
 rotate_left 1
 refine fZ (pG 35 6) ?_
 refine gW (σ := Nat × Value) (fun s => [(2, True, exP s.2), (7, True, exP (.int .i64 ((s.1 : Nat) : Int)))]) (fun s => [.row s.2 35 6 ((l.take s.1).map (ptc (n + 1)))]) (fun s => s.1 ≤ l.length) (fun s => l.length - s.1) ((0, .slice none 0 0)) (tk 5 rfl (tk 6 rfl tn)) ?_ rfl ((by simp)) (fun s hJ Y _ => ?_)
 refine tc rfl (yX _) (tc rfl (yX _) (tn))
 rotate_left 1
 refine zI (zK rfl (wV (olt rfl rfl) (wU (zI ?_))))
 refine gF rfl (fun c0 => ?_) (fun c0 => ?_)
 refine xC (zI (yV (zI (zK rfl (wV (oix _ rfl rfl rfl (fun _ => rfl) (fun _ => (by (have e0 := dt c0; omega)))) (wV (old rfl rfl) (tal fun b4 => (tst 0 rfl rfl rfl rfl rfl rfl (aK (kJ (s := 4) 0 rfl rfl) ?_)))))))))
 refine wU (jB 9 mixed rfl rfl (d1 (omv rfl) (d1 (ofa rfl rfl) (d1 (old rfl rfl) (d1 (oca rfl rfl fun _ => krnorm (by omega)) (d1 (ofa rfl rfl) (d1 (old rfl rfl) (d1 (oca rfl rfl fun _ => krnorm (by omega)) ?_))))))))
 refine d1 (obd rfl rfl rfl) (d1 (obs rfl rfl rfl rfl rfl rfl) (d0 (tap 0 rfl rfl rfl (by (simp; omega)) rfl fun r20 => (wV (oas rfl) (wU (zK rfl (wV (oad rfl rfl (by omega)) (wV (omv rfl) (wU ?_)))))))))
 rotate_left 1
 refine gX (zI (zK rfl (wV (omv rfl) (wV (oas rfl) (wU (yN ?_))))))
 rotate_left 1
 ·refine ⟨(s.1 + 1, r20), tes ?_ ?_ ?_, (by (have e0 := dt c0; omega)), (by (have e0 := dt c0; omega))⟩
  refine tc rfl (yX _) (tc rfl (yX _) (tn))
  refine tc rfl (yX _) (tc rfl (yX _) (tn))
  rotate_left 1
  rw [(jW (Df.d : P2) (show s.1 < l.length by have := dt c0; omega)).1, List.map_append]
  exact List.Sublist.refl _
 ·have h0 := df c0
  exact ⟨[_], exP s.2, _, rst rfl rs0, List.Sublist.refl _, ⟨s.2, rfl, by rw [List.take_of_length_le (by omega)]⟩, yU (PSub.refl _)⟩
theorem kclone {l : List P2} {n : Nat} (h0 : 0 < l.length) (hl : l.length ≤ 1000) : CTo prog 73 [sv (sl 6 (l.map (ptc n)))] [] (fun ρ So => ∃ v, ρ = exP v ∧ So = [.row v 35 6 (l.map (ptc n))]) := by
 refine ctd func73 rfl rfl rfl rfl (fun _ _ _ _ _ _ _ hs hp => iG hs hp) fun X => (zI (zK rfl (wV (oas rfl) (wU (zI (zI (zK rfl (wV (omv rfl) (wV (oqn rfl (fun _ => (by (simp; omega)))) ?_)))))))))
 refine wU (t_iff rfl rfl (xC (zI (zK rfl (tbs0 fun r5 => (wV (omv rfl) (tap 0 rfl rfl rfl (by (simp; omega)) rfl fun r7 => (wV (oas rfl) (wU ?_)))))))))
 refine yN ?_
 rotate_left 1
 exact ⟨[_], exP r7, _, rst rfl rs0, List.Sublist.refl _, ⟨r7, rfl, rfl⟩, yU (PSub.refl _)⟩
theorem krevP {v : Value} {l : List P2} {n : Nat} (h0 : 0 < l.length) (hl : l.length ≤ 1000000) : CTo prog 74 [exP v] [.row v 35 6 (l.map (ptc n))] (fun r So => r = tu [] ∧ So = [.row v 35 6 (l.reverse.map (ptc n))]) :=
 trev (ρ := revPt_ren) revPt rfl rF (qL rS) (fun _ => rfl) (bo func74) h0 hl
end Go.Proofs.YtflobagimodmgaaGreatDoor
set_option maxHeartbeats 4000000
namespace Go.Proofs.YtflobagimodmgaaGreatDoor
open Go.SL Go.RowKit Go.Proofs Tryz
theorem chain_two {l : List P2} (h2 : 2 ≤ l.length) (hs : l.Pairwise ltP) : 2 ≤ (jD [] l).length ∧ 2 ≤ (jD [] l.reverse).length := by
 obtain ⟨mn, mx, A, B, cl, ch, eS, mnl, mxl, hlt, hmx, hmn, eL, eH⟩ := fR h2 hs
 rw [eL, eH]; simp only [List.length_cons, List.length_append, List.length_nil]; omega
theorem mB {α β : Type} (f : α → β) (l : List α) : (l.reverse.drop 0).take (l.length - 1 - 0) = l.reverse.dropLast := by
 rw [List.drop_zero, Nat.sub_zero, List.dropLast_eq_take, List.length_reverse]
theorem mQ {Ψ : PV} {l : List P2} {n : Nat} [h : VPt Ψ n l] (hn : n ≤ 4000) (hl : l.length ≤ 400) : CTy prog 13 [Ψ] (sv (sl 6 ((hullF l).map (ptc (n + 1))))) := by
 refine uF (σs := [sv (sl 6 (l.map (ptq n)))]) ?_ (fs1 oX fs0)
 refine ctc func13 rfl rfl rfl rfl fun X => (zI (zK rfl (wV (oas rfl) (wU (zI (zK rfl (wV (omv rfl) (tco [] rfl rfl rfl (kvnormo (by omega) (by omega)) ?_))))))))
 rotate_left 1
 rintro _ _ ⟨v, rfl, rfl⟩
 refine wV (oas rfl) (wU (zI (zK rfl (wV (omv rfl) ?_))))
 rotate_left 1
 refine tco [0] rfl rfl rfl (ksortP (by omega) (by omega)) ?_
 rintro _ _ ⟨rfl, l', hp', hso, rfl⟩
 have hll := hp'.length_eq
 refine wU (zI (zK rfl (wV (omv rfl) ?_)))
 rotate_left 1
 refine tco [0] rfl rfl rfl (wcompactP (by omega) (by omega)) ?_
 rintro _ _ ⟨v3, rfl, rfl⟩
 have hsl := setOf_len tR l
 rw [show kE eqP Df.d l' l'.length = setOf qQ l from (sd_of_sort tR hp' hso).eq tR]
 refine wV (oas rfl) (wU (zI (zI (zK rfl (wV (omv rfl) (wV (vZ 0 rfl rfl) (wV (olt rfl rfl) (wU ?_))))))))
 refine gF rfl (fun c0 => ?_) (fun c0 => ?_)
 refine zI (zK rfl (wV (omv rfl) (wV (oas rfl) (wU (fZ (cL (s := 2) 0 rfl rfl) (yN (⟨[_], rst rfl rs0, yU ?_⟩)))))))
 rotate_left 1
 rotate_left 1
 ·have h0 := dt c0
  exact sU (by unfold hullF uS; rw [if_pos (by omega)])
 have h0 := df c0
 obtain ⟨c2, c3⟩ := chain_two (l := setOf qQ l) (by omega) (iP l)
 have hL := dY (setOf qQ l) []
 have hH := dY (setOf qQ l).reverse []
 rw [List.length_nil] at hL hH
 rw [List.length_reverse] at hH
 refine fZ (cL 0 rfl (s := 3) rfl) ?_
 refine xC (zI (zK rfl (wV (omv rfl) (wV (oca rfl rfl fun _ => kchain (by omega) (by omega)) (wV (oas rfl) (wU (zI (zK rfl (wV (omv rfl) ?_)))))))))
 refine tco [] rfl rfl rfl (kclone (by omega) (by omega)) ?_
 rotate_left 1
 rintro _ _ ⟨v5, rfl, rfl⟩
 refine wV (oas rfl) (wU (zI (zK rfl (wV (omv rfl) (tco [0] rfl rfl rfl (krevP (by omega) (by omega)) ?_)))))
 rotate_left 1
 rintro _ _ ⟨rfl, rfl⟩
 refine wU (fZ (cL 0 rfl (s := 5) rfl) ?_)
 refine zI (zK rfl (wV (omv rfl) (wV (oca rfl rfl fun _ => kchain (by omega) (by (simp; omega))) (wV (oas rfl) (wU (zI (t_drawC 1 14 [(13, 38, 0)] rfl rfl mixed rfl rfl (cx1 (omv rfl) rfl (cx1 (omv rfl) rfl ?_)))))))))
 refine cx1 (oln rfl) rfl (cx1 (osb rfl rfl (by (simp; omega))) rfl (cx1 (omv rfl) rfl (cx1 (oln rfl) rfl (cx1 (osb rfl rfl (by (simp; omega))) rfl (cx1 (osl3 ((jD [] (setOf qQ l)).length - 1) rfl rfl rfl (fun _ => (by (simp; omega))) (fun _ => (by (simp; omega))) (fun _ => (by (simp; done)))) rfl (cx1 (omv rfl) rfl (cx1 (omv rfl) rfl (cx1 (oln rfl) rfl (cx1 (osb rfl rfl (by (simp; omega))) rfl ?_)))))))))
 refine cx1 (osl 0 ((jD [] (setOf qQ l).reverse).length - 1) rfl rfl ⟨_, _, _, _, rfl, fun _ => ⟨⟩, inferInstance, fun _ => (by (simp; omega))⟩ (fun _ => (by omega)) (fun _ => (by (simp; done)))) rfl (cN rfl rfl (capX rfl rfl (by (simp; omega)) (by (simp; omega)) (by (simp; omega)) rfl) ?_)
 refine cE (fun r38 => ?_)
 refine wV (oas rfl) (wU (fZ (cL (s := 2) 0 rfl rfl) (yN (⟨[_], rst rfl rs0, yU ?_⟩))))
 rotate_left 1
 all_goals first
  | (rw [List.length_reverse]; omega)
  | (rw [List.length_map, mB id, List.length_dropLast, List.length_reverse]; omega)
  | (rw [mB id, mB id, ← List.map_append]; exact sU (by unfold hullF uS; rw [if_neg (by omega)]))
end Go.Proofs.YtflobagimodmgaaGreatDoor
set_option maxHeartbeats 4000000
namespace Go.Proofs.YtflobagimodmgaaGreatDoor
open Go.SL Go.RowKit Go.Proofs Tryz
theorem diffs_at : ∀ (C : List P2) (i : Nat), i + 1 < C.length → (jF C)[i]? = some (yM (gp C (i + 1)) (gp C i))
 | [], _, h => by simp at h
 | [_], _, h => by simp at h
 | a :: b :: r, 0, _ => rfl
 | a :: b :: r, i + 1, h => by
  have := diffs_at (b :: r) i (by simp only [List.length_cons] at h ⊢; omega)
  simpa [jF] using this
theorem edgesP_at {h : List P2} {i : Nat} (h1 : 1 < h.length) (hi : i < h.length) : (xU h)[i]? = some (yM (nx h i) (gp h i)) := by
 unfold xU
 rw [if_pos h1, diffs_at _ i (by simp; omega)]
 have e1 : gp (h ++ [gp h 0]) i = gp h i := by
  unfold gp; rw [List.getD_eq_getElem?_getD, List.getElem?_append_left hi, List.getD_eq_getElem?_getD]
 have e2 : gp (h ++ [gp h 0]) (i + 1) = nx h i := by
  unfold nx
  rcases Nat.lt_or_ge (i + 1) h.length with c | c
  ·rw [Nat.mod_eq_of_lt c]; unfold gp; rw [List.getD_eq_getElem?_getD, List.getElem?_append_left c, List.getD_eq_getElem?_getD]
  ·have : i + 1 = h.length := by omega
   rw [this, Nat.mod_self]; unfold gp; rw [List.getD_eq_getElem?_getD, List.getElem?_append_right (Nat.le_refl _)]; simp
 rw [e1, e2]
theorem edgesP_split {h : List P2} {i : Nat} (h1 : 1 < h.length) (hi : i < h.length) : (∃ post, xU h = (xU h).take i ++ yM (nx h i) (gp h i) :: post) ∧ (xU h).take (i + 1) = (xU h).take i ++ [yM (nx h i) (gp h i)] := by
 have h2 := edgesP_at h1 hi
 obtain ⟨hl, e⟩ := List.getElem?_eq_some_iff.1 h2
 refine ⟨⟨(xU h).drop (i + 1), ?_⟩, ?_⟩
 ·rw [← e, List.getElem_cons_drop, List.take_append_drop]
 ·rw [List.take_succ_eq_append_getElem hl, e]
theorem iminkE {h : List P2} {n : Nat} (hn : n ≤ 5000) (hl : h.length ≤ 1000000) : CIt prog 137 [pa (sl 6 (h.map (ptc n)))] (xU h) (fun e => [ag (ptc (2 * n + 3) e)]) := by
 refine cit func137 rfl rfl rfl rfl rfl fun X y YS YX hY hS => (zI (zK rfl (wV (old rfl rfl) (wV (oln rfl) (wV (omv rfl) (wU (yV ?_)))))))
 rotate_left 1
 refine t_loopYK (σ := Nat) (fun i => [(7, True, exP (.int .i64 ((i : Nat) : Int)))]) (fun i => []) (fun i Y => YS ((xU h).take i) Y ∧ i ≤ h.length) (fun i => h.length - i) (0) (tk 0 rfl (tk 1 rfl (tk 5 rfl (tk 6 rfl tn)))) ?_ rfl (⟨hS, by omega⟩) (fun i Y hG => ?_)
 refine tc rfl (yX _) (tn)
 rotate_left 1
 obtain ⟨hS, hi⟩ := hG
 refine zI (zK rfl (wV (olt rfl rfl) (wU (zI ?_))))
 refine gF rfl (fun c0 => ?_) (fun c0 => ?_)
 refine xC (zI (yV (zI (zK rfl (wV (omv rfl) (wV (oix _ rfl rfl rfl (fun _ => rfl) (fun _ => (by (have e0 := dt c0; omega)))) (wV (old rfl rfl) (tal fun b4 => (wV (oas rfl) ?_)))))))))
 refine tst 0 rfl rfl rfl rfl rfl rfl (aK (kJ (s := 4) 0 rfl rfl) (wU (zI (jB 15 mixed rfl rfl (d1 (old rfl rfl) (d1 (oln rfl) (d1 (ogt rfl rfl) (d1 (omv rfl) (d1g rfl rfl (omv rfl) ?_)))))))))
 refine d1g rfl rfl (old rfl rfl) (d1g rfl rfl (omv rfl) (d1g rfl rfl (oad rfl rfl (by omega)) (d1g rfl rfl (old rfl rfl) (d1g rfl rfl (oln rfl) (d1g rfl rfl (orm rfl rfl (by (have e0 := dt c0; omega))) ?_)))))
 refine d1g rfl rfl (oix _ rfl rfl rfl (fun g => rfl) (fun g => ?_)) ?_
 rotate_left 1
 refine d1g rfl rfl (old rfl rfl) (d1g rfl rfl (old rfl rfl) (d1g rfl rfl (oca rfl rfl fun g => tM (by omega) (by omega)) (d0 ?_)))
 rotate_left 1
 refine gX ?_
 rotate_left 1
 ·have := dt c0
  exact Nat.mod_lt _ (by omega)
 have h2 : i < h.length := by have := dt c0; omega
 refine t_yieldh hY hS rfl rfl (fun e => (edgesP_split (by have := of_decide_eq_true e; omega) h2).1) rfl rfl (fs1 (ps_pt (p := yM (nx h i) (gp h i)) rfl (by omega)) fs0) (fun e => ?_) (fun e Y hS => ?_) (fun e Y hX => ?_)
 ·refine t1g rfl rfl (ont rfl) (wV (opk rfl rfl rfl) (wU ?_))
  refine gF rfl (fun c1 => ?_) (fun c1 => ?_)
  refine yN ?_
  rotate_left 1
  refine xC (zK rfl (wV (oad rfl rfl (by omega)) (wV (omv rfl) (wU ?_))))
  rotate_left 1
  ·exact absurd c1.h (by simp)
  ·have he : xU h = [] := by unfold xU; rw [if_neg fun c => e (decide_eq_true (by omega))]
   refine ⟨i + 1, tes ?_ ?_ (List.Sublist.refl _), ?_, (by omega)⟩
   refine tc rfl (yX _) (tn)
   refine tc rfl (yX _) (tc rfl (yX _) (tc rfl (yX _) (tc rfl (yX _) (tn))))
   rotate_left 1
   exact ⟨by rw [he] at hS ⊢; simpa using hS, by omega⟩
 ·have h1 : 1 < h.length := by have := of_decide_eq_true e; omega
  refine t1g rfl rfl (ont rfl) (wV (opk rfl rfl rfl) (wU ?_))
  refine gF rfl (fun c1 => ?_) (fun c1 => ?_)
  refine yN ?_
  rotate_left 1
  refine xC (zK rfl (wV (oad rfl rfl (by omega)) (wV (omv rfl) (wU ?_))))
  rotate_left 1
  ·exact absurd c1.h (by simp)
  ·refine ⟨i + 1, tes ?_ ?_ (List.Sublist.refl _), ?_, (by omega)⟩
   refine tc rfl (yX _) (tn)
   refine tc rfl (yX _) (tc rfl (yX _) (tc rfl (yX _) (tc rfl (yX _) (tn))))
   rotate_left 1
   exact ⟨by rw [(edgesP_split h1 h2).2]; exact hS, by omega⟩
 ·refine t1g rfl rfl (ont rfl) (wV (opk rfl rfl rfl) (wU ?_))
  refine gF rfl (fun c1 => ?_) (fun c1 => ?_)
  refine yN ?_
  rotate_left 1
  refine xC (zK rfl (wV (oad rfl rfl (by omega)) (wV (omv rfl) (wU ?_))))
  rotate_left 1
  ·exact .inr hX
  ·rw [e] at c1; exact absurd c1.h (by simp)
 ·have : i = h.length := by have := df c0; omega
  subst this
  rw [List.take_of_length_le (by rw [dB]; split <;> omega)] at hS
  exact .inl hS
theorem kminkE {h : List P2} {n : Nat} : CTy prog 79 [sv (sl 6 (h.map (ptc n)))] (fn 137 [pa (sl 6 (h.map (ptc n)))]) := by
 refine ctc func79 rfl rfl rfl rfl fun X => (zI (zK rfl (wV (obx rfl) (wV (oas rfl) (wU (zI (zK rfl (wV (omf rfl) (wV (oas rfl) ?_)))))))))
 refine wU (yN (⟨[_], rst rfl rs0, yU (PSub.refl _)⟩))
theorem kappP {g : FuncId} {caps : List PV} {xs : List P2} {m : Nat} (it : CIt prog g caps xs (fun e => [ag (ptc m e)])) (hl : xs.length ≤ 1000) : CTy prog 136 [exP (.slice none 0 0), fn g caps] (sv (sl 6 (xs.map (ptc m)))) := by
 refine ctc func136 rfl rfl rfl rfl fun X => (zI (zK rfl (tbx (hc := cts1) rfl fun b2 => (wV (oas rfl) (wU (zI (zI (zK rfl (wV (omv rfl) ?_)))))))))
 refine wU (yV ?_)
 rotate_left 1
 refine fZ (pG 35 6) ?_
 refine pH (σ := List P2 × Value) (fun t => [.row t.2 35 6 (t.1.map (ptc m)), .blk b2 22 [xc t.2]]) (fun pre t => t.1 = pre) ([], .slice none 0 0) rfl it (fun _ => rfl) rfl vK (by simp) rfl (fun pre x post t hx hJ Y y hl => ?_) (fun t hJ Y _ => ?_)
 ·obtain ⟨pr, v1⟩ := t
  obtain rfl : pr = pre := hJ
  have h1 : pr.length ≤ 1000 := by have := congrArg List.length hx; simp at this; omega
  refine zK rfl (tal fun b5 => (tst 0 rfl rfl rfl rfl rfl rfl (aK (kJ (s := 5) 0 rfl rfl) (wU (⟨rfl, fun Y hl => (yV (zK rfl (wV (uM 1 rfl rfl rfl rfl) (wV (old rfl rfl) ?_))))⟩)))))
  refine wV (obs rfl rfl rfl rfl rfl rfl) (tap 0 rfl rfl rfl (by (simp; omega)) rfl fun r11 => (tsw 1 0 rfl rfl rfl rfl rfl rfl rfl (wU ?_)))
  rotate_left 1
  refine ⟨(pr ++ [x], r11), (by (simp; done)), rfl⟩
 ·obtain ⟨_, v1⟩ := t
  obtain rfl : _ = xs := hJ
  refine zI (zK rfl (wV (uM 1 rfl rfl rfl rfl) (wV (oas rfl) (wU (fZ (cL (s := 4) 0 rfl rfl) (yN (⟨[_], rst rfl rs0, yU (PSub.refl _)⟩)))))))
theorem kcolP {g : FuncId} {caps : List PV} {xs : List P2} {m : Nat} (it : CIt prog g caps xs (fun e => [ag (ptc m e)])) (hl : xs.length ≤ 1000) : CTy prog 78 [fn g caps] (sv (sl 6 (xs.map (ptc m)))) := by
 refine ctc func78 rfl rfl rfl rfl fun X => (zI (zK rfl (wV (oas rfl) (wU (zI (zK rfl (wV (omv rfl) (wV (oca rfl rfl fun _ => kappP it (by omega)) (wV (oas rfl) ?_)))))))))
 refine wU (yN (⟨[_], rst rfl rs0, yU (PSub.refl _)⟩))
end Go.Proofs.YtflobagimodmgaaGreatDoor
set_option maxHeartbeats 4000000
namespace Go.Proofs.YtflobagimodmgaaGreatDoor
open Go.SL Go.RowKit Go.Proofs Tryz
section
variable {Ψ Φ : PV} {n m N : Nat} {p q : P2} {a b : List P2}
theorem ps_pl {p q : P2} {n N : Nat} (e : p = q) (h : plen q N) : PSub (ag (st [rtc n p.1, rtc n p.2])) (ag (ptc N q)) := fun M w v ⟨us, e1, x, y, e2, ⟨s, a, d, k1, g1⟩, z, o, e3, ⟨t, b, f, k2, g2⟩, e4⟩ => by
 subst e; exact ⟨us, e1, x, y, e2, ⟨s, a, d, k1, g1.relen h.x⟩, z, o, e3, ⟨t, b, f, k2, g2.relen h.y⟩, e4⟩
theorem sW [h : QP Ψ n p] [k : QP Φ m q] (hn : n ≤ 30000) (hm : m ≤ 30000) (hr : plen (xV p q) N) : CTy prog 80 [Ψ, Φ] (ag (ptc N (xV p q))) := oO (kvadd hn hm) (ps_pl rfl hr)
theorem vpt_pl [h : VPt Ψ n a] {M : Nat → Prop} {w : World} {v : Value} (h1 : Ψ.p M w v) : ∀ x ∈ a, plen x (n + 1) := fun x hx => by
 obtain ⟨cs, h3, h2⟩ := (h.h h1).row
 obtain ⟨i, hi, rfl⟩ := List.mem_iff_getElem.1 hx
 obtain ⟨us, _, _, s, x, d, t, b, e, _, g⟩ := h2 i _ (List.getElem?_eq_getElem hi)
 exact ⟨g.x.rlen, g.y.rlen⟩
theorem cty_2pt [h : VPt Ψ n a] [k : VPt Φ m b] {P : Program} {f : FuncId} {ρ : PV} (hb : Bod P f) (hr : (∀ x ∈ a, plen x (n + 1)) → (∀ x ∈ b, plen x (m + 1)) → CTy P f [sv (sl 6 (a.map (ptq n))), sv (sl 6 (b.map (ptq m)))] ρ) : CTy P f [Ψ, Φ] ρ :=
 ⟨hb, fun M w vs hM hT hv => by
  obtain ⟨v, u, _, h1, h2⟩ := fa2 hv
  exact (hr (vpt_pl h1) (vpt_pl h2)).run M w vs hM hT ((fs1 oX (fs1 oX fs0)) _ _ _ hv)⟩
end
theorem ps_nil0 {k : Nat} : PSub (exP (.slice none 0 0)) (sv (sl k [])) := fun M w v h => by
 obtain rfl : v = .slice none 0 0 := h
 exact ⟨_, [], rfl, ⟨by simp, by simp, none, 0, rfl, Nat.le_refl _, .inl rfl⟩, rfl, by simp [aZ]⟩
theorem way_at {h k s t : List P2} (hh : h ≠ []) (hk : k ≠ []) (e : mrg (xU h) (xU k) = s ++ t) : ∃ x ∈ h, ∃ y ∈ k, xV (xV (gp h 0) (gp k 0)) (jR s) = xV x y := by
 obtain ⟨p1, p2, q1, q2, h1, h2, h3⟩ := mrg_pre _ _ e
 refine ⟨_, fS hh h1, _, fS hk h2, ?_⟩
 rw [h3]; unfold xV; rw [Prod.ext_iff]; constructor <;> simp only <;> grind
structure MJ (h k : List P2) (p q : List P2) (at' : P2) (out : List P2) : Prop where
 way : out ++ iE at' (mrg p q) = nV h k
 at_ : ∃ s, mrg (xU h) (xU k) = s ++ mrg p q ∧ at' = xV (xV (gp h 0) (gp k 0)) (jR s)
theorem mj0 {h k : List P2} : MJ h k (xU h) (xU k) (xV (gp h 0) (gp k 0)) [xV (gp h 0) (gp k 0)] := ⟨rfl, [], rfl, (jP _).symm⟩
theorem pX {h k p q out : List P2} {d at' : P2} (j : MJ h k (d :: p) q at' out) (hc : q = [] ∨ qD d (q.getD 0 Df.d) = true) : mrg (d :: p) q = d :: mrg p q := by
 match q, hc with
 | [], _ => rw [pW, pW]
 | b :: q, hc =>
  have : qD d b = true := hc.elim (fun c => by cases c) id
  rw [mrg, if_pos this]
theorem oD {h k p q out : List P2} {d at' : P2} (j : MJ h k p (d :: q) at' out) (hc : p = [] ∨ qD (p.getD 0 Df.d) d = false) : mrg p (d :: q) = d :: mrg p q := by
 match p, hc with
 | [], _ => rw [mrg_nil', mrg_nil']
 | a :: p, hc =>
  have : qD a d = false := hc.elim (fun c => by cases c) id
  rw [mrg, if_neg (by rw [this]; simp)]
theorem fN {h k p q p' q' out : List P2} {d at' : P2} (j : MJ h k p q at' out) (e : mrg p q = d :: mrg p' q') : (mrg p' q' = [] → out = nV h k) ∧ (mrg p' q' ≠ [] → MJ h k p' q' (xV at' d) (out ++ [xV at' d])) ∧ ∃ s, mrg (xU h) (xU k) = s ++ mrg p' q' ∧ xV at' d = xV (xV (gp h 0) (gp k 0)) (jR s) := by
 obtain ⟨j1, s, j2, j3⟩ := j
 have h3 : ∃ s, mrg (xU h) (xU k) = s ++ mrg p' q' ∧ xV at' d = xV (xV (gp h 0) (gp k 0)) (jR s) := ⟨s ++ [d], by rw [j2, e]; simp, by rw [j3, nQ, uG]; congr 2; rw [jR, show jR [] = (0, 0) from rfl, jP]⟩
 refine ⟨fun h0 => ?_, fun h0 => ⟨?_, h3⟩, h3⟩
 ·rw [e, h0, iE, List.append_nil] at j1; exact j1
 ·rw [e] at j1
  match hm : mrg p' q', h0 with
  | f :: l, _ => rw [hm, iE] at j1; rw [← j1]; simp
theorem vO {p q : List P2} {b : Bool} (h1 : 0 < (p.length : Int) + (q.length : Int)) (h : Tr ((decide ((q.length : Int) = 0) || (decide (0 < (p.length : Int)) && b)) = true)) : ∃ d p', p = d :: p' ∧ (q = [] ∨ b = true) := by
 have h := h.h
 rw [Bool.or_eq_true, Bool.and_eq_true, decide_eq_true_eq, decide_eq_true_eq] at h
 match p with
 | d :: p' => exact ⟨d, p', rfl, h.imp (fun h => List.length_eq_zero_iff.1 (by omega)) (·.2)⟩
 | [] => rw [List.length_nil] at h h1; omega
theorem vN {p q : List P2} {b : Bool} (h : Tr ((decide ((q.length : Int) = 0) || (decide (0 < (p.length : Int)) && b)) = false)) : ∃ d q', q = d :: q' ∧ (p = [] ∨ b = false) := by
 have h := h.h
 rw [Bool.or_eq_false_iff, Bool.and_eq_false_iff, decide_eq_false_iff_not, decide_eq_false_iff_not] at h
 match q with
 | d :: q' => exact ⟨d, q', rfl, h.2.imp (fun h => List.length_eq_zero_iff.1 (by omega)) id⟩
 | [] => exact absurd rfl h.1
theorem bL {d : P2} {l : List P2} {f : P2 → CT} : ((d :: l).drop 1).take (((d :: l).map f).length - 1) = l := by simp
theorem vM {p q : List P2} (h : p.length + q.length = 0) : mrg p q = [] := by
 rw [List.length_eq_zero_iff.1 (show p.length = 0 by omega), List.length_eq_zero_iff.1 (show q.length = 0 by omega)]; simp [mrg]
theorem mrg_00 {p q : List P2} (h : mrg p q = []) : p.length + q.length = 0 := by rw [← mrg_len, h]; rfl
theorem lR {a b : List P2} (ha : hullF a ≠ []) (hb : hullF b ≠ []) : hullF (nV (hullF a) (hullF b)) = sumF a b := sum_made (fun c => ha (aR.2 c)) fun c => hb (aR.2 c)
theorem wsum {a b : List P2} {n m : Nat} (hn : n ≤ 300) (hm : m ≤ 300) (ha : a.length ≤ 100) (hb : b.length ≤ 100) (pa' : ∀ x ∈ a, plen x (n + 1)) (pb' : ∀ x ∈ b, plen x (m + 1)) : CTy prog 22 [sv (sl 6 (a.map (ptq n))), sv (sl 6 (b.map (ptq m)))] (sv (sl 6 ((sumF a b).map (ptc (n + m + 4))))) := by
 have la := oL a
 have lb := oL b
 refine ctc func22 rfl rfl rfl rfl fun X => (zI (zK rfl (wV (oas rfl) (wU (t_scope (zI (zK rfl (wV (omv rfl) (wV (oca rfl rfl fun _ => mQ (by omega) (by omega)) ?_)))))))))
 refine wV (omv rfl) (wV (oca rfl rfl fun _ => mQ (by omega) (by omega)) (wV (oas rfl) (wV (oas rfl) (wU (zI (zI (zK rfl (wV (omv rfl) (wV (oln rfl) ?_)))))))))
 refine wV (oeq rfl rfl) (wV (omv rfl) (t1g rfl rfl (omv rfl) (t1g rfl rfl (oln rfl) (t1g rfl rfl (oeq rfl rfl) (wV (opk rfl rfl rfl) (wU ?_))))))
 refine gF rfl (fun c0 => ?_) (fun c0 => ?_)
 refine zI (zK rfl (wV (oas rfl) (wU (yN (⟨[_], rst rfl rs0, yU ?_⟩)))))
 rotate_left 1
 rotate_left 1
 ·have h := c0.h
  rw [Bool.or_eq_true, decide_eq_true_eq, decide_eq_true_eq] at h
  rw [sum_nil.2 (h.imp (fun h => aR.1 (List.length_eq_zero_iff.1 (by omega))) fun h => aR.1 (List.length_eq_zero_iff.1 (by omega)))]
  exact ps_nil0
 have h := c0.h
 rw [Bool.or_eq_false_iff, decide_eq_false_iff_not, decide_eq_false_iff_not] at h
 have ha0 : hullF a ≠ [] := fun c => h.1 (by rw [c]; rfl)
 have hb0 : hullF b ≠ [] := fun c => h.2 (by rw [c]; rfl)
 have hA : 0 < (hullF a).length := List.length_pos_iff.2 ha0
 have hB : 0 < (hullF b).length := List.length_pos_iff.2 hb0
 have ea : (xU (hullF a)).length ≤ 100 := by rw [dB]; split <;> omega
 have eb : (xU (hullF b)).length ≤ 100 := by rw [dB]; split <;> omega
 have hpl : ∀ x ∈ hullF a, ∀ y ∈ hullF b, plen (xV x y) (n + m + 3) := fun x hx y hy => ((pa' x ((qB a).sub x hx)).add (pb' y ((qB b).sub y hy))).up (by omega)
 have hol := out_len (hullF a) (hullF b)
 refine xC (zI (zK rfl (wV (omv rfl) (wV (oca rfl rfl fun _ => kminkE) (wV (oca rfl rfl fun _ => kcolP (iminkE (by omega) (by omega)) (by omega)) (wV (omv rfl) (wV (oca rfl rfl fun _ => kminkE) (wV (oca rfl rfl fun _ => kcolP (iminkE (by omega) (by omega)) (by omega)) (wV (oas rfl) ?_)))))))))
 refine wV (oas rfl) (wU (zI ?_))
 apply pI 1 9 8 [(7, 7, 0), (8, 1000008, 0)] rfl rfl mixed rfl rfl rfl
 refine cx1 (omv rfl) rfl (cx1 (oix _ rfl rfl rfl (fun _ => rfl) (fun _ => (by omega))) rfl (cx1 (old rfl rfl) rfl (cx1 (omv rfl) rfl (cx1 (oix _ rfl rfl rfl (fun _ => rfl) (fun _ => (by omega))) rfl (cx1 (old rfl rfl) rfl ?_)))))
 refine cx1 (oca rfl rfl fun _ => sW (N := n + m + 3) (by omega) (by omega) ?_) rfl ?_
 rotate_left 1
 refine cN rfl rfl (cal) (cS rfl rfl rfl (cst rfl rfl rfl) ?_)
 refine cE (fun b7 => ?_)
 refine wU (zI (zK rfl (wV (uM 0 rfl rfl rfl rfl) (tbs rfl rfl rfl rfl rfl rfl fun r36 => (wV (oas rfl) (wU (zI (t_label (zI ?_)))))))))
 refine yV ?_
 rotate_left 1
 ·exact hpl _ (kO hA) _ (kO hB)
 refine gW (σ := (List P2 × List P2) × P2 × List P2 × Value) (fun s => [(8, True, exP s.2.2.2), (5, True, sv (sl 6 (s.1.1.map (ptc (2 * (n + 1) + 3))))), (6, True, sv (sl 6 (s.1.2.map (ptc (2 * (m + 1) + 3)))))]) (fun s => [.row s.2.2.2 35 6 (s.2.2.1.map (ptc (n + m + 3))), .blk b7 35 [ptc (n + m + 3) s.2.1]]) (fun s => MJ (hullF a) (hullF b) s.1.1 s.1.2 s.2.1 s.2.2.1 ∧ s.1.1.length ≤ 100 ∧ s.1.2.length ≤ 100 ∧ s.2.2.1.length ≤ 250) (fun s => s.1.1.length + s.1.2.length) (((xU (hullF a), xU (hullF b)), xV (gp (hullF a) 0) (gp (hullF b) 0), [xV (gp (hullF a) 0) (gp (hullF b) 0)], r36)) (tk 7 rfl tn) ?_ rfl (⟨mj0, by simpa using ea, by simpa using eb, by simp⟩) (fun s hJ Y _ => ?_)
 refine tc rfl (yX _) (tc rfl (yX _) (tc rfl (yX _) (tn)))
 rotate_left 1
 obtain ⟨⟨p, q⟩, at1, out, v1⟩ := s
 dsimp only at hJ ⊢
 obtain ⟨j, j1, j2, j3⟩ := hJ
 refine zI (zI (zK rfl (wV (omv rfl) (wV (oln rfl) (wV (omv rfl) (wV (oln rfl) (wV (oad rfl rfl (by omega)) (wV (ogt rfl rfl) (wU ?_)))))))))
 refine gF rfl (fun c1 => ?_) (fun c1 => ?_)
 refine xC (yV (zI (zK rfl (tal fun b9 => (wU (zI (zI (jB 17 mixed rfl rfl (d1 (omv rfl) ?_)))))))))
 refine d1 (oln rfl) (d1 (oeq rfl rfl) (d1 (omv rfl) (d1g rfl rfl (omv rfl) (d1g rfl rfl (oln rfl) (d1g rfl rfl (ogt rfl rfl) (d1g rfl rfl (omv rfl) (d1g rfl rfl (omv rfl) ?_)))))))
 refine d1g rfl rfl (oix _ rfl rfl rfl (fun g => rfl) (fun g => ?_)) ?_
 rotate_left 1
 refine d1g rfl rfl (old rfl rfl) (d1g rfl rfl (omv rfl) ?_)
 refine d1g rfl rfl (oix _ rfl rfl rfl (fun g => rfl) (fun g => ?_)) ?_
 rotate_left 1
 refine d1g rfl rfl (old rfl rfl) (d1g rfl rfl (oca rfl rfl fun g => kahead (by omega) (by omega)) (d1g rfl rfl (opk rfl rfl rfl) (d1 (opk rfl rfl rfl) (d0 (wU ?_)))))
 refine gF rfl (fun c2 => ?_) (fun c2 => ?_)
 apply t_drawV 0 6 0 5 [(5, 999, 0)] rfl rfl rfl mixed rfl rfl rfl
 refine cx1 (omv rfl) rfl ?_
 refine cx1 (oix _ rfl rfl rfl (fun _ => rfl) (fun _ => ?_)) rfl ?_
 rotate_left 1
 refine cx1 (old rfl rfl) rfl (cx1 (omv rfl) rfl ?_)
 refine cx1 (osl _ _ rfl ⟨_, _, _, _, rfl, fun _ => trivial, inferInstance, fun _ => rfl⟩ (fun _ => rfl) (fun _ => ?_) (fun _ => (by omega))) rfl ?_
 rotate_left 1
 refine cV rfl rfl (cstv rfl rfl rfl rfl) ?_
 refine cE ?_
 refine wV (oas rfl) (wU (zI (zK rfl (wV (uM 2 rfl rfl rfl rfl) (wV (uM 0 rfl rfl rfl rfl) ?_)))))
 refine wV (oca rfl rfl fun _ => sW (N := n + m + 3) (by omega) (by omega) ?_) ?_
 rotate_left 1
 refine tst 2 rfl rfl rfl rfl rfl rfl (wU (zI (zI (zK rfl (wV (omv rfl) (wV (oln rfl) (wV (omv rfl) (wV (oln rfl) (wV (oad rfl rfl (by (simp; omega))) ?_)))))))))
 refine wV (oeq rfl rfl) (wU ?_)
 refine gF rfl (fun c3 => ?_) (fun c3 => ?_)
 refine gX (zI (zK rfl (wV (omv rfl) ?_)))
 rotate_left 1
 refine xC (zK rfl (wV (omv rfl) (wV (uM 2 rfl rfl rfl rfl) (wV (obs rfl rfl rfl rfl rfl rfl) (tap 1 rfl rfl rfl (by (simp; omega)) rfl fun r82 => (wV (oas rfl) (wU ?_)))))))
 rotate_left 1
 apply t_drawV 0 6 0 5 [(5, 999, 0)] rfl rfl rfl mixed rfl rfl rfl
 refine cx1 (omv rfl) rfl ?_
 refine cx1 (oix _ rfl rfl rfl (fun _ => rfl) (fun _ => ?_)) rfl ?_
 rotate_left 1
 refine cx1 (old rfl rfl) rfl (cx1 (omv rfl) rfl ?_)
 refine cx1 (osl _ _ rfl ⟨_, _, _, _, rfl, fun _ => trivial, inferInstance, fun _ => rfl⟩ (fun _ => rfl) (fun _ => ?_) (fun _ => (by omega))) rfl ?_
 rotate_left 1
 refine cV rfl rfl (cstv rfl rfl rfl rfl) ?_
 refine cE ?_
 refine wV (oas rfl) (wU (zI (zK rfl (wV (uM 2 rfl rfl rfl rfl) (wV (uM 0 rfl rfl rfl rfl) ?_)))))
 refine wV (oca rfl rfl fun _ => sW (N := n + m + 3) (by omega) (by omega) ?_) ?_
 rotate_left 1
 refine tst 2 rfl rfl rfl rfl rfl rfl (wU (zI (zI (zK rfl (wV (omv rfl) (wV (oln rfl) (wV (omv rfl) (wV (oln rfl) (wV (oad rfl rfl (by (simp; omega))) ?_)))))))))
 refine wV (oeq rfl rfl) (wU ?_)
 refine gF rfl (fun c4 => ?_) (fun c4 => ?_)
 refine gX (zI (zK rfl (wV (omv rfl) ?_)))
 rotate_left 1
 refine xC (zK rfl (wV (omv rfl) (wV (uM 2 rfl rfl rfl rfl) (wV (obs rfl rfl rfl rfl rfl rfl) (tap 1 rfl rfl rfl (by (simp; omega)) rfl fun r82 => (wV (oas rfl) (wU ?_)))))))
 rotate_left 1
 refine gX (zI (zK rfl (wV (omv rfl) ?_)))
 rotate_left 1
 ·exact Int.ofNat_lt.1 (of_decide_eq_true g.2)
 ·have h2 := of_decide_eq_false g.1.2
  exact Nat.pos_of_ne_zero fun c => h2 (by rw [c]; rfl)
 ·obtain ⟨d, p', rfl, h3⟩ := vO (dt c1) c2; simp
 ·obtain ⟨d, p', rfl, h3⟩ := vO (dt c1) c2; simp
 ·obtain ⟨d, p', rfl, h3⟩ := vO (dt c1) c2
  obtain ⟨_, _, s, h4, h5⟩ := fN j (pX j h3)
  obtain ⟨x, hx, y, hy, e⟩ := way_at ha0 hb0 h4
  show plen (xV at1 d) _
  rw [h5, e]; exact hpl x hx y hy
 ·obtain ⟨d, p', rfl, h3⟩ := vO (dt c1) c2
  have h4 := (fN j (pX j h3)).1 (vM (by have := dt c3; rw [bL] at this; omega))
  rw [h4]
  refine aK (cL 1 rfl (s := 83) rfl) ?_
  refine wV (oca rfl rfl fun _ => mQ (by omega) (by omega)) (wV (oas rfl) (wU (yN (⟨[_], rst rfl rs0, yU ?_⟩))))
  rotate_left 1
  rw [lR ha0 hb0]; exact PSub.refl _
 ·obtain ⟨d, p', rfl, h3⟩ := vO (dt c1) c2
  have h4 := (fN j (pX j h3)).2.1 fun c => df c3 (by rw [bL]; have := mrg_00 c; omega)
  have h5 := congrArg List.length h4.way
  rw [List.length_append] at h5
  refine ⟨((p', q), xV at1 d, out ++ [xV at1 d], r82), tes ?_ ?_ (by (simp; done)), ?_, (by (simp; done))⟩
  refine tc rfl (yX _) ?_
  refine tc rfl ?_ ?_
  rotate_left 1
  refine tc rfl (yX _) (tn)
  refine tc rfl (yX _) (tn)
  rotate_left 1
  ·rw [bL]; exact PSub.refl _
  ·simp only [List.length_cons] at j1
   refine ⟨h4, ?_, j2, ?_⟩ <;> dsimp only <;> omega
 ·obtain ⟨d, q', rfl, h3⟩ := vN c2; simp
 ·obtain ⟨d, q', rfl, h3⟩ := vN c2; simp
 ·obtain ⟨d, q', rfl, h3⟩ := vN c2
  obtain ⟨_, _, s, h4, h5⟩ := fN j (oD j h3)
  obtain ⟨x, hx, y, hy, e⟩ := way_at ha0 hb0 h4
  show plen (xV at1 d) _
  rw [h5, e]; exact hpl x hx y hy
 ·obtain ⟨d, q', rfl, h3⟩ := vN c2
  have h4 := (fN j (oD j h3)).1 (vM (by have := dt c4; rw [bL] at this; omega))
  rw [h4]
  refine aK (cL 1 rfl (s := 83) rfl) ?_
  refine wV (oca rfl rfl fun _ => mQ (by omega) (by omega)) (wV (oas rfl) (wU (yN (⟨[_], rst rfl rs0, yU ?_⟩))))
  rotate_left 1
  rw [lR ha0 hb0]; exact PSub.refl _
 ·obtain ⟨d, q', rfl, h3⟩ := vN c2
  have h4 := (fN j (oD j h3)).2.1 fun c => df c4 (by rw [bL]; have := mrg_00 c; omega)
  have h5 := congrArg List.length h4.way
  rw [List.length_append] at h5
  refine ⟨((p, q'), xV at1 d, out ++ [xV at1 d], r82), tes ?_ ?_ (by (simp; done)), ?_, (by (simp; done))⟩
  refine tc rfl (yX _) (tc rfl (yX _) ?_)
  refine tc rfl ?_ ?_
  rotate_left 1
  refine tn
  refine tc rfl (yX _) (tn)
  rotate_left 1
  ·rw [bL]; exact PSub.refl _
  ·simp only [List.length_cons] at j2
   refine ⟨h4, j1, ?_, ?_⟩ <;> dsimp only <;> omega
 ·have h4 := j.way
  rw [vM (by have := df c1; omega), iE, List.append_nil] at h4
  rw [h4]
  refine aK (cL 0 rfl (s := 83) rfl) ?_
  refine wV (oca rfl rfl fun _ => mQ (by omega) (by omega)) (wV (oas rfl) (wU (yN (⟨[_], rst rfl rs0, yU ?_⟩))))
  rotate_left 1
  rw [lR ha0 hb0]; exact PSub.refl _
theorem ksum {Ψ Φ : PV} {a b : List P2} {n m : Nat} [h : VPt Ψ n a] [k : VPt Φ m b] (hn : n ≤ 300) (hm : m ≤ 300) (ha : a.length ≤ 100) (hb : b.length ≤ 100) : CTy prog 22 [Ψ, Φ] (sv (sl 6 ((sumF a b).map (ptc (n + m + 4))))) := cty_2pt (bo func22) fun h1 h2 => wsum hn hm ha hb h1 h2
end Go.Proofs.YtflobagimodmgaaGreatDoor
set_option maxHeartbeats 4000000
namespace Go.Proofs.YtflobagimodmgaaGreatDoor
open Go.SL Go.RowKit Go.Proofs Tryz
theorem k5ofn {k : Nat} (h0 : 0 < k) (hk : k < 1000000) : CTy prog 149 [exP (.int .i64 (-((k : Nat) : Int)))] (ag (ztc 2 (-((k : Nat) : Int)))) := by
 refine ctc func149 rfl rfl rfl rfl fun X => (zI (zK rfl (tal fun b2 => (wU (zI (zI (zK rfl (wV (omv rfl) (wV (olt rfl rfl) ?_)))))))))
 refine wU ?_
 refine gF rfl (fun c0 => ?_) (fun c0 => ?_)
 refine zI (zK rfl (wV (omv rfl) (wV (oad rfl rfl (by omega)) (wV (nZ (ong rfl (fun _ => by omega)) (bB (show -(-((k : Nat) : Int) + 1) = (((k - 1 : Nat)) : Int) by omega))) (wV (ocv64 rfl (by omega)) (wV (nZ (oadv rfl rfl (by omega)) (bB (show (((k - 1 + 1 : Nat)) : Int) = ((k : Nat) : Int) by omega))) (wV (oca rfl rfl fun _ => wP (n := k) (by omega)) ?_)))))))
 refine wV (obd rfl rfl rfl) (tst 0 rfl rfl rfl rfl rfl rfl (wU (yN (⟨[_], rsc 0 rfl rfl rfl rfl rs0, yU ?_⟩))))
 rotate_left 1
 refine xC (zI (zK rfl (wV (omv rfl) ?_)))
 rotate_left 1
 ·exact ps_z (decide_eq_true (by omega)).symm (by omega) (limbs2 (by omega))
 ·exact absurd (by omega : (-(k : Int)) < 0) (df c0)
theorem sub_nought (p : P2) : yM (((0 : Nat) : Rat), ((0 : Nat) : Rat)) p = jC p := by
 unfold yM jC; rw [Prod.ext_iff]; constructor <;> simp only <;> grind
theorem kvneg {Ψ : PV} {p : P2} {n : Nat} [h : QP Ψ n p] (hn : n ≤ 800) : CTy prog 82 [Ψ] (ag (ptc (n + 5) (jC p))) := by
 refine uF (σs := [ag (ptq n p)]) ?_ (fs1 cX fs0)
 refine ctc func82 rfl rfl rfl rfl fun X => (zI (zK rfl (wV (obx rfl) (tal fun b2 => (wU (zI (jB 3 mixed rfl rfl (d1 (oca rfl rfl fun _ => kvof (by (simp; done)) (by (simp; done))) (d1 (old rfl rfl) ?_)))))))))
 refine d1 (oca rfl rfl fun _ => tM (by omega) (by omega)) (d0 (tst 0 rfl rfl rfl rfl rfl rfl (wU (yN (⟨[_], rsc 0 rfl rfl rfl rfl rs0, yU ?_⟩)))))
 rotate_left 1
 exact ps_pt (p := yM (((0 : Nat) : Rat), ((0 : Nat) : Rat)) p) (sub_nought p) (by omega)
theorem k8alike {p q : P2} {n m : Nat} (hn : n ≤ 1990) (hm : m ≤ 1990) : CTy prog 75 [ag (ptc n p), ag (ptc m q)] (exP (.bool (decide (p = q)))) := by
 refine ctc func75 rfl rfl rfl rfl fun X => (zI (zK rfl (wV (obx rfl) (wV (obx rfl) (wV (oas rfl) (wU (zI (zK rfl (wV (ofa rfl rfl) ?_)))))))))
 refine wV (old rfl rfl) (wV (ofa rfl rfl) (wV (old rfl rfl) (wV (oca rfl rfl fun _ => k7told (by omega) (by omega)) (wV (omv rfl) (t1g rfl rfl (ofa rfl rfl) (t1g rfl rfl (old rfl rfl) (t1g rfl rfl (ofa rfl rfl) (t1g rfl rfl (old rfl rfl) (t1g rfl rfl (oca rfl rfl fun g => k7told (by omega) (by omega)) ?_)))))))))
 refine wV (opk rfl rfl rfl) (wV (oas rfl) (wU (yN (⟨[_], rst rfl rs0, yU ?_⟩))))
 refine psb ?_
 rotate_left 1
 rw [← Bool.decide_and, decide_eq_decide, Prod.ext_iff]
theorem tP {l k : List P2} {n m : Nat} (hn : n ≤ 1990) (hm : m ≤ 1990) : CTy prog 14 [sv (sl 6 (l.map (ptc n))), sv (sl 6 (k.map (ptc m)))] (exP (.bool (decide (l = k)))) := by
 refine ctc func14 rfl rfl rfl rfl fun X => (zI (zK rfl (wV (oas rfl) (wU (zI (zI (zK rfl (wV (omv rfl) (wV (oln rfl) ?_)))))))))
 refine wV (omv rfl) (wV (oln rfl) (wV (oni rfl rfl) (wU ?_)))
 refine gF rfl (fun c0 => ?_) (fun c0 => ?_)
 refine zI (zK rfl (wV (oas rfl) (wU (yN (⟨[_], rst rfl rs0, yU ?_⟩)))))
 refine psb ?_
 rotate_left 1
 refine xC (zI (zI (zK rfl (wV (oas rfl) (wU (yV ?_))))))
 rotate_left 1
 ·have := dt c0
  rw [decide_eq_false fun e => this (by rw [e])]
 ·have hlk : l.length = k.length := by have := df c0; omega
  refine t_len 0 rfl fun hL => ?_
  rw [List.length_map] at hL
  refine gW (σ := Nat) (fun i => [(5, True, exP (.int .i64 ((i : Nat) : Int)))]) (fun i => []) (fun i => i ≤ l.length ∧ l.take i = k.take i) (fun i => l.length - i) (0) (tk 0 rfl (tk 1 rfl tn)) ?_ rfl (⟨by omega, by simp⟩) (fun i hJ Y _ => ?_)
  refine tc rfl (yX _) (tn)
  rotate_left 1
  obtain ⟨hi, hs⟩ := hJ
  refine zI (zI (zK rfl (wV (omv rfl) (wV (omv rfl) (wV (oln rfl) (wV (olt rfl rfl) (wU ?_)))))))
  refine gF rfl (fun c1 => ?_) (fun c1 => ?_)
  refine xC (zI (yV (zI (jB 10 mixed rfl rfl (d1 (omv rfl) (d1 (omv rfl) (d1 (oix _ rfl rfl rfl (fun _ => rfl) (fun _ => (by (have e0 := dt c1; omega)))) (d1 (old rfl rfl) (d1 (omv rfl) ?_)))))))))
  refine d1 (omv rfl) (d1 (oix _ rfl rfl rfl (fun _ => rfl) (fun _ => (by (have e0 := dt c1; omega)))) (d1 (old rfl rfl) (d1 (oca rfl rfl fun _ => k8alike (by omega) (by omega)) (d1 (ont rfl) (d0 (wU ?_))))))
  refine gF rfl (fun c2 => ?_) (fun c2 => ?_)
  refine zI (zK rfl (wV (oas rfl) (wU (yN (⟨[_], rst rfl rs0, yU ?_⟩)))))
  refine psb ?_
  rotate_left 1
  refine xC (zK rfl (wV (omv rfl) (wV (oad rfl rfl (by (have e0 := dt c1; omega))) (wV (oas rfl) (wU ?_)))))
  rotate_left 1
  refine gX (zI (zK rfl (wV (oas rfl) (wU (yN (⟨[_], rst rfl rs0, yU ?_⟩))))))
  refine psb ?_
  rotate_left 1
  ·rw [decide_eq_false fun e => by have h := c2.h; rw [e] at h; simp at h]
  ·have h2 : l.getD i Df.d = k.getD i Df.d := by have h := c2.h; simpa using h
   refine ⟨i + 1, tes ?_ ?_ (List.Sublist.refl _), ?_, (by (have e0 := dt c1; omega))⟩
   refine tc rfl (yX _) (tn)
   refine tc rfl (yX _) (tc rfl (yX _) (tn))
   rotate_left 1
   have h3 := dt c1
   exact ⟨by omega, by rw [(jW (Df.d : P2) (l := l) (by omega)).1, (jW (Df.d : P2) (l := k) (by omega)).1, hs, h2]⟩
  ·have h3 := df c1
   rw [List.take_of_length_le (by omega), List.take_of_length_le (by omega)] at hs
   exact (decide_eq_true hs).symm
theorem kmflip {l : List P2} {n : Nat} (hn : n ≤ 300) (hl : l.length ≤ 100) : CTy prog 24 [sv (sl 6 (l.map (ptq n)))] (sv (sl 6 ((l.map jC).map (ptc (n + 5))))) := by
 refine ctc func24 rfl rfl rfl rfl fun X => (zI (zK rfl (wV (oas rfl) (wU (zI (zI (zK rfl (wV (omv rfl) (wV (oln rfl) ?_)))))))))
 refine wV (omv rfl) (wU (yV ?_))
 rotate_left 1
 refine fZ (pG 35 6) ?_
 refine gW (σ := Nat × Value) (fun s => [(2, True, exP s.2), (7, True, exP (.int .i64 ((s.1 : Nat) : Int)))]) (fun s => [.row s.2 35 6 (((l.take s.1).map jC).map (ptc (n + 5)))]) (fun s => s.1 ≤ l.length) (fun s => l.length - s.1) ((0, .slice none 0 0)) (tk 5 rfl (tk 6 rfl tn)) ?_ rfl ((by simp)) (fun s hJ Y _ => ?_)
 refine tc rfl (yX _) (tc rfl (yX _) (tn))
 rotate_left 1
 refine zI (zK rfl (wV (olt rfl rfl) (wU (zI ?_))))
 refine gF rfl (fun c0 => ?_) (fun c0 => ?_)
 refine xC (zI (yV (zI (zK rfl (wV (oix _ rfl rfl rfl (fun _ => rfl) (fun _ => (by (have e0 := dt c0; omega)))) (wV (old rfl rfl) (tal fun b4 => (tst 0 rfl rfl rfl rfl rfl rfl (aK (kJ (s := 4) 0 rfl rfl) ?_)))))))))
 refine wU (zK rfl (wV (omv rfl) (wV (old rfl rfl) (wV (oca rfl rfl fun _ => kvneg (by omega)) (wV (obs rfl rfl rfl rfl rfl rfl) (tap 0 rfl rfl rfl (by (simp; omega)) rfl fun r15 => (wV (oas rfl) (wU (zK rfl ?_)))))))))
 refine wV (oad rfl rfl (by omega)) (wV (omv rfl) (wU ?_))
 rotate_left 1
 refine gX (zI (zK rfl (wV (omv rfl) (wV (oas rfl) (wU (fZ (cL (s := 2) 0 rfl rfl) (yN (⟨[_], rst rfl rs0, yU ?_⟩))))))))
 rotate_left 1
 ·refine ⟨(s.1 + 1, r15), tes ?_ ?_ ?_, (by (have e0 := dt c0; omega)), (by (have e0 := dt c0; omega))⟩
  refine tc rfl (yX _) (tc rfl (yX _) (tn))
  refine tc rfl (yX _) (tc rfl (yX _) (tn))
  rotate_left 1
  rw [(jW (Df.d : P2) (show s.1 < l.length by have := dt c0; omega)).1, List.map_append, List.map_append]
  rw [Nat.max_self]
  exact List.Sublist.refl _
 ·have h0 := df c0
  rw [List.take_of_length_le (by omega)]
  exact PSub.refl _
end Go.Proofs.YtflobagimodmgaaGreatDoor
set_option maxHeartbeats 4000000
namespace Go.Proofs.YtflobagimodmgaaGreatDoor
open Go.SL Go.RowKit Go.Proofs Tryz
theorem one_nat {M : Nat → Prop} {w : World} {us : List Value} (h : (sl 1 [xc (.int .u32 1)]).p M w us) : (ntc 1 1).p M w us := by
 obtain ⟨u, vs, rfl, h1, ⟨x, y, e1, e2, h2⟩, _⟩ := h
 obtain rfl : y = [] := h2
 have h3 : x = [.int .u32 1] := e2.1
 subst h3 e1
 have h4 : IsNat M w u [1] := ⟨h1, by simp⟩
 refine ⟨u, rfl, ⟨[1], h4, by simp, by simp [val]⟩, ?_⟩
 rw [show limbs 1 = [1] by rw [uO (by decide)]; simp [yT]]; exact h4
theorem ps_int {n N : Nat} {q : Rat} {z : Int} (h1 : z = q.num) (h2 : 1 = q.den) (hn : n ≤ N) (hm : 1 ≤ N) : PSub (ag (st [ztc n z, sl 1 [xc (.int .u32 1)]])) (ag (rtc N q)) := fun M w v ⟨us, e, x, y, e1, k1, u, o, e2, k2, e3⟩ => ps_num h1 h2 hn hm M w v ⟨us, e, x, y, e1, k1, u, o, e2, one_nat k2, e3⟩
theorem neg_int (k : Nat) : (-((k : Nat) : Int)) = (-((k : Nat) : Rat)).num ∧ 1 = (-((k : Nat) : Rat)).den := by
 rw [Rat.neg_num, Rat.neg_den]; exact ⟨rfl, rfl⟩
theorem k7ofn {k : Nat} (h0 : 0 < k) (hk : k < 1000000) : CTy prog 94 [exP (.int .i64 (-((k : Nat) : Int)))] (ag (rtc 2 (-((k : Nat) : Rat)))) := by
 refine ctc func94 rfl rfl rfl rfl fun X => (zI (zK rfl (tal fun b2 => (wU (zI (zK rfl (wV (omv rfl) (wV (oca rfl rfl fun _ => k5ofn (by omega) (by omega)) (wV (obs rfl rfl rfl rfl rfl rfl) ?_)))))))))
 refine wV (obd rfl rfl rfl) (tst 0 rfl rfl rfl rfl rfl rfl (wU (yN (⟨[_], rsc 0 rfl rfl rfl rfl rs0, yU ?_⟩))))
 rotate_left 1
 exact ps_int (neg_int k).1 (neg_int k).2 (Nat.le_refl _) (by omega)
theorem kpt {x y : Nat} (hx : x < 1000000) (hy : y < 1000000) : CTy prog 32 [exP (.int .i64 ((x : Nat) : Int)), exP (.int .i64 ((y : Nat) : Int))] (ag (ptc 2 (((x : Nat) : Rat), ((y : Nat) : Rat)))) := by
 refine ctc func32 rfl rfl rfl rfl fun X => (zI (zK rfl (tal fun b4 => (wU (zI (zK rfl (wV (omv rfl) (wV (omv rfl) (wV (oca rfl rfl fun _ => k8of (by omega) (by omega)) ?_)))))))))
 refine tst 0 rfl rfl rfl rfl rfl rfl (wU (yN (⟨[_], rsc 0 rfl rfl rfl rfl rs0, yU (PSub.refl _)⟩)))
theorem k8ofx {x y : Nat} (h0 : 0 < x) (hx : x < 1000000) (hy : y < 1000000) : CTy prog 85 [exP (.int .i64 (-((x : Nat) : Int))), exP (.int .i64 ((y : Nat) : Int))] (ag (ptc 2 (-((x : Nat) : Rat), ((y : Nat) : Rat)))) := by
 refine ctc func85 rfl rfl rfl rfl fun X => (zI (zK rfl (tal fun b4 => (wU (zI (zK rfl (wV (omv rfl) (wV (oca rfl rfl fun _ => k7ofn (by omega) (by omega)) (wV (omv rfl) ?_)))))))))
 refine wV (oca rfl rfl fun _ => wC (by omega)) ?_
 refine wV (obd rfl rfl rfl) (tst 0 rfl rfl rfl rfl rfl rfl (wU (yN (⟨[_], rsc 0 rfl rfl rfl rfl rs0, yU (PSub.refl _)⟩))))
theorem k8ofy {x y : Nat} (h0 : 0 < y) (hx : x < 1000000) (hy : y < 1000000) : CTy prog 85 [exP (.int .i64 ((x : Nat) : Int)), exP (.int .i64 (-((y : Nat) : Int)))] (ag (ptc 2 (((x : Nat) : Rat), -((y : Nat) : Rat)))) := by
 refine ctc func85 rfl rfl rfl rfl fun X => (zI (zK rfl (tal fun b4 => (wU (zI (zK rfl (wV (omv rfl) (wV (oca rfl rfl fun _ => wC (by omega)) (wV (omv rfl) ?_)))))))))
 refine wV (oca rfl rfl fun _ => k7ofn (by omega) (by omega)) ?_
 refine wV (obd rfl rfl rfl) (tst 0 rfl rfl rfl rfl rfl rfl (wU (yN (⟨[_], rsc 0 rfl rfl rfl rfl rs0, yU (PSub.refl _)⟩))))
theorem kptx {x y : Nat} (h0 : 0 < x) (hx : x < 1000000) (hy : y < 1000000) : CTy prog 32 [exP (.int .i64 (-((x : Nat) : Int))), exP (.int .i64 ((y : Nat) : Int))] (ag (ptc 2 (-((x : Nat) : Rat), ((y : Nat) : Rat)))) := by
 refine ctc func32 rfl rfl rfl rfl fun X => (zI (zK rfl (tal fun b4 => (wU (zI (zK rfl (wV (omv rfl) (wV (omv rfl) (wV (oca rfl rfl fun _ => k8ofx (by omega) (by omega) (by omega)) ?_)))))))))
 refine tst 0 rfl rfl rfl rfl rfl rfl (wU (yN (⟨[_], rsc 0 rfl rfl rfl rfl rs0, yU (PSub.refl _)⟩)))
theorem kpty {x y : Nat} (h0 : 0 < y) (hx : x < 1000000) (hy : y < 1000000) : CTy prog 32 [exP (.int .i64 ((x : Nat) : Int)), exP (.int .i64 (-((y : Nat) : Int)))] (ag (ptc 2 (((x : Nat) : Rat), -((y : Nat) : Rat)))) := by
 refine ctc func32 rfl rfl rfl rfl fun X => (zI (zK rfl (tal fun b4 => (wU (zI (zK rfl (wV (omv rfl) (wV (omv rfl) (wV (oca rfl rfl fun _ => k8ofy (by omega) (by omega) (by omega)) ?_)))))))))
 refine tst 0 rfl rfl rfl rfl rfl rfl (wU (yN (⟨[_], rsc 0 rfl rfl rfl rfl rs0, yU (PSub.refl _)⟩)))
abbrev wkT : List P2 := [(((0 : Nat) : Rat), ((0 : Nat) : Rat)), (((2 : Nat) : Rat), ((0 : Nat) : Rat)), (((1 : Nat) : Rat), ((0 : Nat) : Rat)), (((0 : Nat) : Rat), ((2 : Nat) : Rat))]
abbrev wkH : List P2 := [(((0 : Nat) : Rat), ((0 : Nat) : Rat)), (((2 : Nat) : Rat), ((0 : Nat) : Rat)), (((0 : Nat) : Rat), ((2 : Nat) : Rat))]
abbrev wkE : List P2 := [(((0 : Nat) : Rat), ((0 : Nat) : Rat)), (((1 : Nat) : Rat), ((0 : Nat) : Rat))]
abbrev wkS : List P2 := [(((0 : Nat) : Rat), ((0 : Nat) : Rat)), (((3 : Nat) : Rat), ((0 : Nat) : Rat)), (((1 : Nat) : Rat), ((2 : Nat) : Rat)), (((0 : Nat) : Rat), ((2 : Nat) : Rat))]
theorem hull_sorted {l m h : List P2} (h1 : m.Pairwise fun a b => qQ a b < 0) (h2 : ∀ x, x ∈ m ↔ x ∈ l) (h3 : uS m = h) : hullF l = h := by
 unfold hullF; rw [← IsSet.eq mR ⟨h1, h2⟩, h3]
theorem wk_hull : hullF wkT = wkH := hull_sorted (m := [(0, 0), (0, 2), (1, 0), (2, 0)]) (by decide) (fun x => by simp; grind) (by decide +kernel)
theorem wk_sum : sumF wkH wkE = wkS := hull_sorted (m := [(0, 0), (0, 2), (1, 0), (1, 2), (2, 0), (3, 0)]) (by decide) (fun x => by simp [lU, xV]; grind) (by decide +kernel)
abbrev wkF : List P2 := [(((0 : Nat) : Rat), ((0 : Nat) : Rat)), (-((2 : Nat) : Rat), ((0 : Nat) : Rat)), (((0 : Nat) : Rat), -((2 : Nat) : Rat))]
theorem wk_flip : wkH.map jC = wkF := by decide
theorem kmflipc {Ψ : PV} {l : List P2} {n : Nat} [h : VPt Ψ n l] (hn : n ≤ 300) (hl : l.length ≤ 100) : CTy prog 24 [Ψ] (sv (sl 6 ((l.map jC).map (ptc (n + 5))))) := uF (kmflip hn hl) (fs1 oX fs0)
theorem kwk20 : CTy prog 12 [] (exP (.bool true)) := by
 have hs : (hullF wkT).length ≤ 100 := by rw [wk_hull]; decide
 refine ctc func12 rfl rfl rfl rfl fun X => (zI (zK rfl (wV (oas rfl) (wU (zI (zK rfl (wV (oca rfl rfl fun _ => kpt (x := 0) (y := 0) (by omega) (by omega)) (wV (oca rfl rfl fun _ => kpt (x := 2) (y := 0) (by omega) (by omega)) (wV (oca rfl rfl fun _ => kpt (x := 1) (y := 0) (by omega) (by omega)) ?_)))))))))
 refine wV (oca rfl rfl fun _ => kpt (x := 0) (y := 2) (by omega) (by omega)) (wV (nZ (obs rfl rfl rfl rfl rfl rfl) (sU (show _ = sv (sl 6 (wkT.map (ptc 2))) from rfl))) (wV (oca rfl rfl fun _ => mQ (l := wkT) (by omega) (by (simp; done))) (wV (oas rfl) (wU (zI (zK rfl (wV (omv rfl) (wV (oca rfl rfl fun _ => kpt (x := 0) (y := 0) (by omega) (by omega)) (wV (oca rfl rfl fun _ => kpt (x := 1) (y := 0) (by omega) (by omega)) ?_)))))))))
 refine wV (nZ (obs rfl rfl rfl rfl rfl rfl) (sU (show _ = sv (sl 6 (wkE.map (ptc 2))) from rfl))) (wV (oca rfl rfl fun _ => ksum (b := wkE) (by omega) (by omega) (by omega) (by (simp; done))) (wV (oas rfl) (wU (zI (zK rfl (wV (omv rfl) (wV (oca rfl rfl fun _ => kpt (x := 0) (y := 0) (by omega) (by omega)) (wV (oca rfl rfl fun _ => kpt (x := 2) (y := 0) (by omega) (by omega)) (wV (oca rfl rfl fun _ => kpt (x := 0) (y := 2) (by omega) (by omega)) ?_)))))))))
 refine wV (nZ (obs rfl rfl rfl rfl rfl rfl) (sU (show _ = sv (sl 6 (wkH.map (ptc 2))) from rfl))) (wV (oca rfl rfl fun _ => tP (by omega) (by omega)) (wV (omv rfl) (t1g rfl rfl (omv rfl) (t1g rfl rfl (oca rfl rfl fun _ => kpt (x := 0) (y := 0) (by omega) (by omega)) (t1g rfl rfl (oca rfl rfl fun _ => kpt (x := 3) (y := 0) (by omega) (by omega)) (t1g rfl rfl (oca rfl rfl fun _ => kpt (x := 1) (y := 2) (by omega) (by omega)) (t1g rfl rfl (oca rfl rfl fun _ => kpt (x := 0) (y := 2) (by omega) (by omega)) (t1g rfl rfl (nZ (obs rfl rfl rfl rfl rfl rfl) (sU (show _ = sv (sl 6 (wkS.map (ptc 2))) from rfl))) (t1g rfl rfl (oca rfl rfl fun g => tP (by omega) (by omega)) ?_)))))))))
 refine wV (opk rfl rfl rfl) (wV (omv rfl) (t1g rfl rfl (omv rfl) (t1g rfl rfl (oca rfl rfl fun g => kmflipc (by omega) (by omega)) (t1g rfl rfl (oca rfl rfl fun _ => kpt (x := 0) (y := 0) (by omega) (by omega)) (t1g rfl rfl (oca rfl rfl fun _ => kptx (x := 2) (y := 0) (by omega) (by omega) (by omega)) (t1g rfl rfl (oca rfl rfl fun _ => kpty (x := 0) (y := 2) (by omega) (by omega) (by omega)) (t1g rfl rfl (nZ (obs rfl rfl rfl rfl rfl rfl) (sU (show _ = sv (sl 6 (wkF.map (ptc 2))) from rfl))) (t1g rfl rfl (oca rfl rfl fun g => tP (by omega) (by omega)) (wV (opk rfl rfl rfl) ?_)))))))))
 refine wV (oas rfl) (wU (yN (⟨[_], rst rfl rs0, yU ?_⟩)))
 refine psb ?_
 rotate_left 1
 rw [wk_hull, wk_sum, wk_flip]; simp
end Go.Proofs.YtflobagimodmgaaGreatDoor
set_option maxHeartbeats 4000000
namespace Go.Proofs.YtflobagimodmgaaGreatDoor
open Go.SL Go.RowKit Go.Proofs Tryz
def oP (l : List P2) (i k : Nat) : Prop := 0 ≤ trn (gp l i) (nx l i) (gp l k) ∧ (k ≠ i → k ≠ (i + 1) % l.length → trn (gp l i) (nx l i) (gp l k) ≠ 0)
theorem conv_iff {l : List P2} : Conv l ↔ 3 ≤ l.length ∧ ∀ i, i < l.length → ∀ k, k < l.length → oP l i k :=
 ⟨fun h => ⟨h.three, fun i hi k hk => ⟨h.left i k hi hk, h.strict i k hi hk⟩⟩, fun h => ⟨h.1, fun i k hi hk => (h.2 i hi k hk).1, fun i k hi hk => (h.2 i hi k hk).2⟩⟩
noncomputable instance (l : List P2) : Decidable (Conv l) := Classical.propDecidable _
theorem conv_b {l : List P2} {i k : Nat} {b : Bool} (h : Tr ((decide (eF (trn (gp l i) (nx l i) (gp l k)) < 0) || (decide (eF (trn (gp l i) (nx l i) (gp l k)) = 0) && decide ((k : Int) ≠ (i : Int)) && decide ((k : Int) ≠ ((i : Int) + 1) % (l.length : Int)))) = b)) : oP l i k ↔ b = false := by
 have h := h.h
 subst h
 unfold oP
 rw [Bool.or_eq_false_iff, Bool.and_eq_false_iff, Bool.and_eq_false_iff, decide_eq_false_iff_not, decide_eq_false_iff_not, decide_eq_false_iff_not, decide_eq_false_iff_not, mY, lS]
 have e : (((i + 1) % l.length : Nat) : Int) = ((i : Int) + 1) % (l.length : Int) := by simp
 rw [← e]
 refine and_congr (by grind) ?_
 by_cases c1 : k = i
 ·simp [c1]
 by_cases c2 : k = (i + 1) % l.length
 ·simp [c2]
 ·have d1 : (k : Int) ≠ i := by omega
  have d2 : (k : Int) ≠ (((i + 1) % l.length : Nat) : Int) := by omega
  exact ⟨fun h => .inl (.inl (h c1 c2)), fun h _ _ => h.elim (·.elim id fun h => absurd d1 h) fun h => absurd d2 h⟩
theorem k18conv {l : List P2} {n : Nat} (hn : n ≤ 190) (hl : l.length ≤ 1000) : CTy prog 20 [sv (sl 6 (l.map (ptq n)))] (exP (.bool (decide (Conv l)))) := by
 refine ctc func20 rfl rfl rfl rfl fun X => (zI (zK rfl (wV (oas rfl) (wU (zI (zI (zK rfl (wV (oas rfl) (wU ?_)))))))))
 refine yV ?_
 rotate_left 1
 refine gW (σ := Nat) (fun i => [(3, True, exP (.int .i64 ((i : Nat) : Int)))]) (fun i => []) (fun i => i ≤ l.length ∧ ∀ j, j < i → ∀ k, k < l.length → oP l j k) (fun i => l.length - i) (0) (tk 0 rfl tn) ?_ rfl (⟨by omega, by omega⟩) (fun i hJ Y _ => ?_)
 refine tc rfl (yX _) (tn)
 rotate_left 1
 obtain ⟨hi, hs⟩ := hJ
 refine zI (zI (zK rfl (wV (omv rfl) (wV (omv rfl) (wV (oln rfl) (wV (olt rfl rfl) (wU ?_)))))))
 refine gF rfl (fun c0 => ?_) (fun c0 => ?_)
 refine xC (zI (yV (zI ?_)))
 apply pI 2 15 14 [(12, 4, 0), (13, 5, 1), (14, 1000014, 0)] rfl rfl mixed rfl rfl rfl
 refine cx1 (omv rfl) rfl (cx1 (omv rfl) rfl (cx1 (oix _ rfl rfl rfl (fun _ => rfl) (fun _ => (by (have e0 := dt c0; omega)))) rfl (cx1 (old rfl rfl) rfl (cx1 (omv rfl) rfl (cx1 (omv rfl) rfl (cx1 (oad rfl rfl (by omega)) rfl (cx1 (omv rfl) rfl (cx1 (oln rfl) rfl (cx1 (orm rfl rfl (by (have e0 := dt c0; omega))) rfl ?_)))))))))
 refine cx1 (oix _ rfl rfl rfl (fun _ => rfl) (fun _ => ?_)) rfl ?_
 rotate_left 1
 refine cx1 (old rfl rfl) rfl (cN rfl rfl (cal) (cN rfl rfl (cal) (cS rfl rfl rfl (cst rfl rfl rfl) ?_)))
 refine cE (fun b4 b5 => ?_)
 refine aK (kJ (s := 4) 1 rfl rfl) (tst 0 rfl rfl rfl rfl rfl rfl (aK (kJ (s := 5) 0 rfl rfl) (wU (zI (zK rfl (wV (oas rfl) (wU (yV ?_))))))))
 rotate_left 1
 refine gX (zI (zK rfl (wV (omv rfl) (wV (oln rfl) (wV (oge rfl rfl) (wV (oas rfl) (wU (yN (⟨[_], rst rfl rs0, yU ?_⟩)))))))))
 refine psb ?_
 rotate_left 1
 ·have := dt c0
  exact Nat.mod_lt _ (by omega)
 ·have hi2 : i < l.length := by have := dt c0; omega
  refine gW (σ := Nat) (fun k => [(6, True, exP (.int .i64 ((k : Nat) : Int)))]) (fun k => []) (fun k => k ≤ l.length ∧ ∀ m, m < k → oP l i m) (fun k => l.length - k) (0) (tk 0 rfl (tk 3 rfl (tk 4 rfl (tk 5 rfl tn)))) ?_ rfl (⟨by omega, by omega⟩) (fun k hJ Y _ => ?_)
  refine tc rfl (yX _) (tn)
  rotate_left 1
  obtain ⟨hk, ht⟩ := hJ
  refine zI (zI (zK rfl (wV (omv rfl) (wV (omv rfl) (wV (oln rfl) (wV (olt rfl rfl) (wU ?_)))))))
  refine gF rfl (fun c1 => ?_) (fun c1 => ?_)
  refine xC (zI (yV (zI (jB 12 mixed rfl rfl (d1 (old rfl rfl) (d1 (old rfl rfl) (d1 (oca rfl rfl fun _ => rB (by omega) (by omega)) (d1 (omv rfl) (d1 (omv rfl) ?_)))))))))
  refine d1 (oix _ rfl rfl rfl (fun _ => rfl) (fun _ => (by (have e0 := dt c1; omega)))) (d1 (old rfl rfl) (d1 (old rfl rfl) (d1 (oca rfl rfl fun _ => rB (by omega) (by omega)) (d1 (oca rfl rfl fun _ => k8cross (by omega) (by omega)) (d1 (oca rfl rfl fun _ => k7sign (by omega)) (d1 (oas rfl) (d0 (wU (zI ?_)))))))))
  refine zK rfl (wV (omv rfl) (wV (olt rfl rfl) (wV (omv rfl) (t1g rfl rfl (omv rfl) (t1g rfl rfl (oeq rfl rfl) (t1g rfl rfl (omv rfl) (t1g rfl rfl (omv rfl) (t1g rfl rfl (omv rfl) (t1g rfl rfl (oni rfl rfl) ?_)))))))))
  refine t1g rfl rfl (opk rfl rfl rfl) (t1g rfl rfl (omv rfl) (t1g rfl rfl (omv rfl) (t1g rfl rfl (omv rfl) (t1g rfl rfl (oad rfl rfl (by omega)) (t1g rfl rfl (omv rfl) (t1g rfl rfl (oln rfl) (t1g rfl rfl (orm rfl rfl (by omega)) (t1g rfl rfl (oni rfl rfl) (t1g rfl rfl (opk rfl rfl rfl) ?_)))))))))
  refine wV (opk rfl rfl rfl) (wU ?_)
  refine gF rfl (fun c2 => ?_) (fun c2 => ?_)
  refine zI (zK rfl (wV (oas rfl) (wU (yN (⟨[_], rst rfl rs0, yU ?_⟩)))))
  refine psb ?_
  rotate_left 1
  refine xC (zK rfl (wV (omv rfl) (wV (oad rfl rfl (by omega)) (wV (oas rfl) (wU ?_)))))
  rotate_left 1
  refine gX (zK rfl (wV (omv rfl) (wV (oad rfl rfl (by omega)) (wV (oas rfl) (wU ?_)))))
  rotate_left 1
  ·have h := conv_b c2
   rw [decide_eq_false fun c => by have := h.1 ((conv_iff.1 c).2 i hi2 k (by have := dt c1; omega)); cases this]
  ·have h := (conv_b c2).2 rfl
   refine ⟨k + 1, tes ?_ ?_ (List.Sublist.refl _), ?_, (by (have e0 := dt c1; omega))⟩
   refine tc rfl (yX _) (tn)
   refine tc rfl (yX _) (tc rfl (yX _) (tc rfl (yX _) (tc rfl (yX _) (tn))))
   rotate_left 1
   refine ⟨by have := dt c1; omega, fun m hm => ?_⟩
   rcases Nat.lt_or_ge m k with c | c
   ·exact ht m c
   ·rw [show m = k by omega]; exact h
  ·have h := df c1
   refine ⟨i + 1, tes ?_ ?_ (List.Sublist.refl _), ?_, (by omega)⟩
   refine tc rfl (yX _) (tn)
   refine tc rfl (yX _) (tn)
   rotate_left 1
   refine ⟨by omega, fun j hj m hm => ?_⟩
   rcases Nat.lt_or_ge j i with c | c
   ·exact hs j c m hm
   ·rw [show j = i by omega]; exact ht m (by omega)
 ·have h0 := df c0
  rw [decide_eq_decide, conv_iff]
  exact ⟨fun h => ⟨by omega, fun j hj => hs j (by omega)⟩, fun h => by have := h.1; omega⟩
theorem k18convc {Ψ : PV} {l : List P2} {n : Nat} [h : VPt Ψ n l] (hn : n ≤ 190) (hl : l.length ≤ 1000) : CTy prog 20 [Ψ] (exP (.bool (decide (Conv l)))) := uF (k18conv hn hl) (fs1 oX fs0)
end Go.Proofs.YtflobagimodmgaaGreatDoor
set_option maxHeartbeats 4000000
namespace Go.Proofs.YtflobagimodmgaaGreatDoor
open Go.SL Go.RowKit Go.Proofs Tryz
theorem pcx_n {n : Nat} {l : List PX} (h : ∀ a ∈ l, sD a ≤ n) : PSub (sv (pcx l)) (sv (pcs n (l.map px))) := fun M w v k => by
 unfold pcx pcs at *
 rw [List.map_map]
 exact ct_row (f := ptx) (g := ptq n ∘ px) (fun a ha _ _ _ => by
  have := h a ha
  unfold sD m4 at this
  dsimp only at this
  exact ptx_q a (by omega) (by omega) (by omega) (by omega)) (fun _ => rfl) k
theorem gr18_no {l : List PX} (h : Tr (tZ l = false)) : l.length ≤ 8 ∧ ∀ a ∈ l, sD a ≤ 2 := by
 have h := h.h
 unfold tZ at h
 rw [Bool.or_eq_false_iff, decide_eq_false_iff_not, List.any_eq_false] at h
 exact ⟨by omega, fun a ha => by have := h.2 a ha; simp only [decide_eq_true_eq] at this; omega⟩
theorem len_bools {a b : Nat} (h : a = 0 ↔ b = 0) : (decide ((a : Int) = 0) == decide ((b : Int) = 0)) = true := by
 by_cases c : b = 0
 ·simp [c, h.2 c]
 ·have : a ≠ 0 := fun e => c (h.1 e)
  simp [c, this]
theorem hull_conv {L : List P2} (h : 3 ≤ (hullF L).length) : Conv (hullF L) := (qB L).poly.conv' h
theorem law_MinkHull {l : List PX} : CTy prog 3 [sv (pcx l)] (exP (.bool true)) := by
 refine ctc func3 rfl rfl rfl rfl fun X => (zI (zK rfl (wV (oas rfl) (wU (zI (zI (zK rfl (wV (omv rfl) (wV (oca rfl rfl fun _ => kg18) ?_)))))))))
 refine wU ?_
 refine gF rfl (fun c0 => ?_) (fun c0 => ?_)
 refine zI (zK rfl (wV (oca rfl rfl fun _ => kwk20) (wV (oas rfl) (wU (yN (⟨[_], rst rfl rs0, yU (PSub.refl _)⟩))))))
 rotate_left 1
 obtain ⟨hl, hb⟩ := gr18_no c0
 refine fZ (ts_as (s := 0) rfl (pcx_n hb)) ?_
 have hlm : (l.map px).length ≤ 8 := by rw [List.length_map]; exact hl
 generalize l.map px = L at *
 have hh := oL L
 have ok := qB L
 refine xC (zI (zK rfl (wV (omv rfl) (wV (oca rfl rfl fun _ => mQ (by omega) (by omega)) (wV (oas rfl) (wU (zI (zI (zK rfl ?_)))))))))
 refine wV (omv rfl) (wV (oca rfl rfl fun _ => mQ (by omega) (by omega)) (wV (omv rfl) (wV (oca rfl rfl fun _ => tP (by omega) (by omega)) (wV (ont rfl) (wV (omv rfl) (t1g rfl rfl (omv rfl) (t1g rfl rfl (oln rfl) (t1g rfl rfl (oeq rfl rfl) (t1g rfl rfl (omv rfl) ?_)))))))))
 refine t1g rfl rfl (oln rfl) (t1g rfl rfl (oeq rfl rfl) (t1g rfl rfl (obn rfl rfl) (wV (opk rfl rfl rfl) (wV (omv rfl) (t1g rfl rfl (omv rfl) (t1g rfl rfl (oln rfl) (t1g rfl rfl (omv rfl) (t1g rfl rfl (oln rfl) (t1g rfl rfl (ogt rfl rfl) ?_)))))))))
 refine wV (opk rfl rfl rfl) (wU ?_)
 refine gF rfl (fun c1 => ?_) (fun c1 => ?_)
 refine zI (zK rfl (wV (oas rfl) (wU (yN (⟨[_], rst rfl rs0, yU ?_⟩)))))
 refine psb ?_
 rotate_left 1
 refine xC (zI (zI (zK rfl (wV (oas rfl) (wU (yV ?_))))))
 rotate_left 1
 ·have h := c1.h
  have h1 := len_bools (a := (hullF L).length) (b := L.length) (by rw [List.length_eq_zero_iff, List.length_eq_zero_iff, aR])
  rw [decide_eq_true (hull_hull L), h1, decide_eq_false (show ¬ (L.length : Int) < (hullF L).length by omega)] at h
  exact h
 refine gW (σ := Nat) (fun i => [(4, True, exP (.int .i64 ((i : Nat) : Int)))]) (fun i => []) (fun i => i ≤ (hullF L).length) (fun i => (hullF L).length - i) (0) (tk 0 rfl (tk 3 rfl tn)) ?_ rfl ((by omega)) (fun i hJ Y _ => ?_)
 refine tc rfl (yX _) (tn)
 rotate_left 1
 refine zI (zI (zK rfl (wV (omv rfl) (wV (omv rfl) (wV (oln rfl) (wV (olt rfl rfl) (wU ?_)))))))
 refine gF rfl (fun c2 => ?_) (fun c2 => ?_)
 refine xC (zI (yV (zI (zK rfl (wV (oas rfl) (wU (zI (zI (zK rfl ?_)))))))))
 refine wV (oas rfl) (wU (yV ?_))
 rotate_left 1
 rotate_left 1
 ·have hi := dt c2
  refine gW (σ := Nat × Bool) (fun s => [(6, True, exP (.int .i64 ((s.1 : Nat) : Int))), (5, True, exP (.bool s.2))]) (fun s => []) (fun s => s.1 ≤ L.length ∧ (s.2 = true ↔ ∃ m, m < s.1 ∧ gp L m = gp (hullF L) i)) (fun s => L.length - s.1) ((0, false)) (tk 0 rfl (tk 3 rfl (tk 4 rfl tn))) ?_ rfl ((by simp)) (fun s hJ Y _ => ?_)
  refine tc rfl (yX _) (tc rfl (yX _) (tn))
  rotate_left 1
  obtain ⟨k, b⟩ := s
  dsimp only at hJ ⊢
  obtain ⟨hk, hbi⟩ := hJ
  refine zI (zI (zK rfl (wV (omv rfl) (wV (omv rfl) (wV (oln rfl) (wV (olt rfl rfl) (wU ?_)))))))
  refine gF rfl (fun c3 => ?_) (fun c3 => ?_)
  refine xC (zI (yV (zI (jB 13 mixed rfl rfl (d1 (omv rfl) (d1 (omv rfl) (d1g rfl rfl (omv rfl) (d1g rfl rfl (omv rfl) (d1g rfl rfl (oix _ rfl rfl rfl (fun g => rfl) (fun g => (by (have e0 := dt c3; omega)))) ?_)))))))))
  refine d1g rfl rfl (old rfl rfl) (d1g rfl rfl (omv rfl) (d1g rfl rfl (omv rfl) (d1g rfl rfl (oix _ rfl rfl rfl (fun g => rfl) (fun g => (by omega))) (d1g rfl rfl (old rfl rfl) (d1g rfl rfl (oca rfl rfl fun g => k8samec (by omega) (by omega)) (d1 (opk rfl rfl rfl) (d1 (oas rfl) (d0 (wU ?_)))))))))
  refine zI (jB 36 mixed rfl rfl (d1 (omv rfl) (d1 (omv rfl) (d1 (oad rfl rfl (by omega)) (d1 (omv rfl) (d1 (oln rfl) (d1 (orm rfl rfl (by omega)) ?_)))))))
  refine d1 (oix _ rfl rfl rfl (fun _ => rfl) (fun _ => ?_)) ?_
  rotate_left 1
  refine d1 (old rfl rfl) (d1 (omv rfl) (d1 (omv rfl) (d1 (oix _ rfl rfl rfl (fun _ => rfl) (fun _ => (by omega))) (d1 (old rfl rfl) (d1 (oca rfl rfl fun _ => rB (by omega) (by omega)) (d1 (omv rfl) (d1 (omv rfl) (d1 (oix _ rfl rfl rfl (fun _ => rfl) (fun _ => (by (have e0 := dt c3; omega)))) (d1 (old rfl rfl) ?_)))))))))
  refine d1 (omv rfl) (d1 (omv rfl) (d1 (oix _ rfl rfl rfl (fun _ => rfl) (fun _ => (by omega))) (d1 (old rfl rfl) (d1 (oca rfl rfl fun _ => rB (by omega) (by omega)) (d1 (oca rfl rfl fun _ => k8cross (by omega) (by omega)) (d1 (oca rfl rfl fun _ => k7sign (by omega)) (d1 (olt rfl rfl) (d1 (omv rfl) (d1g rfl rfl (omv rfl) ?_)))))))))
  refine d1g rfl rfl (omv rfl) (d1g rfl rfl (oix _ rfl rfl rfl (fun g => rfl) (fun g => (by (have e0 := dt c3; omega)))) (d1g rfl rfl (old rfl rfl) (d1g rfl rfl (omv rfl) (d1g rfl rfl (oix _ rfl rfl rfl (fun g => rfl) (fun g => (by (simp; omega)))) (d1g rfl rfl (old rfl rfl) (d1g rfl rfl (oca rfl rfl fun g => k8cmp (by omega) (by omega)) (d1g rfl rfl (olt rfl rfl) (d1 (opk rfl rfl rfl) (d0 ?_)))))))))
  refine wU ?_
  refine gF rfl (fun c4 => ?_) (fun c4 => ?_)
  refine zI (zK rfl (wV (oas rfl) (wU (yN (⟨[_], rst rfl rs0, yU ?_⟩)))))
  refine psb ?_
  rotate_left 1
  refine xC (zK rfl (wV (omv rfl) (wV (oad rfl rfl (by omega)) (wV (oas rfl) (wU ?_)))))
  rotate_left 1
  refine gX (zI (zK rfl (wV (omv rfl) (wV (ont rfl) (wU ?_)))))
  refine gF rfl (fun c5 => ?_) (fun c5 => ?_)
  refine zI (zK rfl (wV (oas rfl) (wU (yN (⟨[_], rst rfl rs0, yU ?_⟩)))))
  refine psb ?_
  rotate_left 1
  refine xC (zK rfl (wV (omv rfl) (wV (oad rfl rfl (by omega)) (wV (oas rfl) (wU ?_)))))
  rotate_left 1
  ·exact Nat.mod_lt _ (by omega)
  ·have hk2 : k < L.length := by have := dt c3; omega
   have h := c4.h
   rw [Bool.or_eq_true, decide_eq_true_eq, decide_eq_true_eq] at h
   rcases h with h | h
   ·have h1 := mY.1 h
    have h2 := hull_left (ok.sup _ (kO hk2)) (i := i) (by omega)
    exact absurd h2 (by rw [Rat.not_le]; exact h1)
   ·exact absurd (hull_fst _ (kO hk2)) (lG.1 h)
  ·have hk2 := dt c3
   refine ⟨(k + 1, b || decide (qQ (gp L k) (gp (hullF L) i) = 0)), tes ?_ ?_ (List.Sublist.refl _), ?_, (by omega)⟩
   refine tc rfl (yX _) (tc rfl (yX _) (tn))
   refine tc rfl (yX _) (tc rfl (yX _) (tc rfl (yX _) (tn)))
   rotate_left 1
   refine ⟨by dsimp only; omega, ?_⟩
   dsimp only
   rw [Bool.or_eq_true, hbi, decide_eq_true_eq, mF]
   constructor
   ·rintro (⟨m, hm, e⟩ | e)
    ·exact ⟨m, by omega, e⟩
    ·exact ⟨k, by omega, e⟩
   ·rintro ⟨m, hm, e⟩
    rcases Nat.lt_or_ge m k with c | c
    ·exact .inl ⟨m, c, e⟩
    ·rw [show m = k by omega] at e; exact .inr e
  ·have hk2 := df c3
   obtain ⟨m, hm, e⟩ := lX (ok.sub _ (kO (i := i) (by omega)))
   have := hbi.2 ⟨m, by omega, e⟩
   have h := c5.h
   rw [this] at h; exact h
  ·refine ⟨i + 1, tes ?_ ?_ (List.Sublist.refl _), (by omega), (by omega)⟩
   refine tc rfl (yX _) (tn)
   refine tc rfl (yX _) (tc rfl (yX _) (tn))
 ·refine gX (zI (zK rfl (wV (omv rfl) (wV (oln rfl) (wV (olt rfl rfl) (wV (omv rfl) (t1g rfl rfl (omv rfl) (t1g rfl rfl (oca rfl rfl fun g => k18convc (by omega) (by omega)) (wV (opk rfl rfl rfl) ?_)))))))))
  refine wV (omv rfl) (t1g rfl rfl (oca rfl rfl fun g => kwk20) (wV (opk rfl rfl rfl) (wV (oas rfl) (wU (yN (⟨[_], rst rfl rs0, yU ?_⟩))))))
  refine psb ?_
  rotate_left 1
  rcases Nat.lt_or_ge (hullF L).length 3 with c | c
  ·rw [decide_eq_true (show ((hullF L).length : Int) < 3 by omega)]; rfl
  ·rw [decide_eq_true (hull_conv c)]; simp
end Go.Proofs.YtflobagimodmgaaGreatDoor
namespace Go.Proofs.YtflobagimodmgaaGreatDoor
open Go Go.SL Go.RowKit Go.Proofs Go.ChangeShapes Go.WideShapes Go.ChangeAt Go.Deep Tryz
section
variable {H : Type} {enc : TypeId × Value → H} {P : Program} {W : World} {B : Nat} {tp tr ti tn tb tw : TypeId}
abbrev BdX (B : Nat) (a : RX) : Prop := (True ∧ a.1.2.length ≤ B) ∧ a.2.length ≤ B
abbrev BpX (B : Nat) (a : PX) : Prop := BdX B a.1 ∧ BdX B a.2
theorem opn_ratx (T : NumTypes P tp tr ti tn tb tw) : Opn enc P W B tr 3 rtx (BdX B) :=
 pU T.r (pU T.i (opn_bool T.b T.cb) (opn_nat T.n T.w T.cw T.cn T.hb)) (opn_nat T.n T.w T.cw T.cn T.hb)
theorem opn_ptx (T : NumTypes P tp tr ti tn tb tw) : Opn enc P W B tp 6 ptx (BpX B) :=
 pU T.p (opn_ratx T) (opn_ratx T)
theorem opn_pcx {t : TypeId} (T : NumTypes P tp tr ti tn tb tw) (ht : P.underlying t = some (.slice tp)) (c : P.cellsOf t = 1) : Opn enc P W B t 1 pcx (fun l => l.length * P.bytesOf tp ≤ B ∧ ∀ a ∈ l, BpX B a) :=
 opn_slicew ht c (opn_ptx T) (by omega)
end
end Go.Proofs.YtflobagimodmgaaGreatDoor
