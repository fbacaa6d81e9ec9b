/- Lemmas and walks of functions; no statement. -/
import Derived.Test.YtflobagimodmgaaGreatDoorPe
set_option linter.unusedVariables false
set_option linter.unusedSimpArgs false
set_option maxRecDepth 100000
namespace Go.SL
theorem ahead_asym {a b : P2} (h : gW a b = true) : gW b a = false := by
 unfold gW at *
 by_cases c : xQ a = xQ b
 ·rw [if_neg (by simp [c])] at h
  rw [if_neg (by simp [c]), decide_eq_false]
  have := of_decide_eq_true h
  unfold zP at *; grind
 ·rw [if_pos c] at h
  rw [if_pos (Ne.symm c), decide_eq_false]
  have := of_decide_eq_true h; omega
theorem iX {a : P2} : lexP (xO a) ↔ cU a := by unfold lexP cU xO; simp only; grind
structure Cut (g : P2) (e1 e2 : List P2) : Prop where
 pos : lexP g → (∀ e ∈ e1, lexP e ∧ 0 < zP e g) ∧ ∀ e ∈ e2, cU e ∨ lexP e ∧ zP e g ≤ 0
 neg : cU g → (∀ e ∈ e1, lexP e ∨ cU e ∧ 0 < zP e g) ∧ ∀ e ∈ e2, cU e ∧ zP e g ≤ 0
theorem cut_ahead {g : P2} {e1 e2 f1 f2 : List P2} (hg : lexP g ∨ cU g) (a : Cut g e1 e2) (b : Cut g f1 f2) : ∀ x ∈ e1, ∀ y ∈ f2, gW x y = true := fun x hx y hy => by
 rcases hg with hg | hg
 ·obtain ⟨h1, h2⟩ := (a.pos hg).1 x hx
  rcases (b.pos hg).2 y hy with h3 | ⟨h3, h4⟩
  ·exact (ahead_pn h1 h3).1
  ·exact (ahead_pp h1 h3).2 (vC (lexP.le h1) hg h3 h2 (by unfold zP at *; grind))
 ·obtain ⟨h3, h4⟩ := (b.neg hg).2 y hy
  rcases (a.neg hg).1 x hx with h1 | ⟨h1, h2⟩
  ·exact (ahead_pn h1 h3).1
  ·have := vC (lexP.le (iX.2 h1)) (iX.2 hg) (iX.2 h3) (by unfold zP xO at *; simp only; grind) (by unfold zP xO at *; simp only; grind)
   exact (ahead_nn h1 h3).2 (by unfold zP xO at *; simp only at this; grind)
theorem ChOk'.flip {S acc : List P2} (h : ChOk' S acc) : ChOk (S.map xO) (acc.map xO) := by
 refine ⟨fun x hx => ?_, ?_, fun q hq t e => ?_, fun q hq t e => ?_, fun q hq => ?_, (lS acc).2 h.trs, fun c => h.ne (List.map_eq_nil_iff.1 c)⟩
 ·obtain ⟨y, hy, rfl⟩ := List.mem_map.1 hx
  exact List.mem_map.2 ⟨y, h.sub y hy, rfl⟩
 ·rw [List.pairwise_map]; exact h.dec.imp fun h => oJ.2 h
 ·obtain ⟨y, hy, rfl⟩ := List.mem_map.1 hq
  rw [List.head?_map] at e
  obtain ⟨u, hu, rfl⟩ := Option.map_eq_some_iff.1 e
  exact oN.2 (h.top y hy u hu)
 ·obtain ⟨y, hy, rfl⟩ := List.mem_map.1 hq
  rw [List.getLast?_map] at e
  obtain ⟨u, hu, rfl⟩ := Option.map_eq_some_iff.1 e
  exact oN.2 (h.bot y hy u hu)
 ·obtain ⟨y, hy, rfl⟩ := List.mem_map.1 hq
  exact (oM acc).2 (h.lef y hy)
theorem edgD_neg {g : P2} : ∀ l : List P2, oX (xO g) (l.map xO) ↔ oX g l
 | [] => .rfl
 | [_] => .rfl
 | t :: s :: r => by
  have e : zP (yK (xO t) (xO s)) (xO g) = zP (yK t s) g := by unfold zP yK xO; simp only; grind
  simp only [List.map_cons, oX, e]; exact and_congr .rfl (edgD_neg (s :: r))
theorem edgN_neg {g : P2} : ∀ l : List P2, rI (xO g) (l.map xO) ↔ rI g l
 | [] => .rfl
 | [_] => .rfl
 | t :: s :: r => by
  have e : zP (yK (xO t) (xO s)) (xO g) = zP (yK t s) g := by unfold zP yK xO; simp only; grind
  simp only [List.map_cons, rI, e]; exact and_congr .rfl (edgN_neg (s :: r))
theorem high_cut {S acc : List P2} {g : P2} (hc : ChOk' S acc) (hg : cU g) : ∃ Y w X, acc = Y ++ w :: X ∧ rI g (Y ++ [w]) ∧ oX g (w :: X) ∧ ∀ q ∈ S, zP (yK q w) g ≤ 0 := by
 obtain ⟨Y, w, X, e, h1, h2, h3⟩ := low_cut hc.flip (iX.2 hg)
 have hn : ∀ l : List P2, (l.map xO).map xO = l := fun l => by
  rw [List.map_map]; conv => rhs; rw [← List.map_id l]
  exact List.map_congr_left fun x _ => iU x
 have e' : acc = Y.map xO ++ xO w :: X.map xO := by
  have := congrArg (List.map xO) e
  rw [hn] at this; simpa using this
 refine ⟨Y.map xO, xO w, X.map xO, e', ?_, ?_, fun q hq => ?_⟩
 ·refine (edgN_neg _).1 ?_
  rw [List.map_append, hn, List.map_cons, iU]; exact h1
 ·refine (edgD_neg _).1 ?_
  rw [List.map_cons, iU, hn]; exact h2
 ·have := h3 (xO q) (List.mem_map.2 ⟨q, hq, rfl⟩)
  unfold zP yK xO at *; simp only at *; grind
theorem diffs_lexN : ∀ acc : List P2, acc.Pairwise (fun a b => ltP a b) → ∀ e ∈ jD acc.reverse, cU e
 | [], _, e, he => by simp [jD] at he
 | [_], _, e, he => by simp [jD] at he
 | t :: s :: r, h, e, he => by
  rw [show (t :: s :: r).reverse = r.reverse ++ [s, t] by simp, dR, List.mem_append, List.mem_singleton] at he
  rcases he with he | rfl
  ·exact diffs_lexN (s :: r) (List.pairwise_cons.1 h).2 e (by simpa using he)
  ·have := (List.pairwise_cons.1 h).1 s (by simp)
   unfold ltP lexP yK at this; unfold cU yK; simp only at *; grind
def xS (h : List P2) : List P2 := if 1 < h.length then jD (h ++ [gp h 0]) else []
theorem nP (a b : P2) : xB a (yK b a) = b := by unfold xB yK; rw [Prod.ext_iff]; constructor <;> simp only <;> grind
theorem jN (a : P2) : xB a (0, 0) = a := by unfold xB; rw [Prod.ext_iff]; constructor <;> simp only <;> grind
theorem qH (a b c : P2) : xB (xB a b) c = xB a (xB b c) := by unfold xB; rw [Prod.ext_iff]; constructor <;> simp only <;> grind
theorem fP (a b : P2) : xB a b = xB b a := by unfold xB; rw [Prod.ext_iff]; constructor <;> simp only <;> grind
theorem sum_to {m w : P2} {X' : List P2} (Y X : List P2) (e : Y ++ w :: X = X' ++ [m]) : xB m (jP (jD (w :: X).reverse)) = w := by
 rcases List.eq_nil_or_concat X with rfl | ⟨X, x, hX⟩
 ·have : w = m := by
   have := congrArg List.getLast? e; simpa using this
  subst this; exact jN _
 ·rw [List.concat_eq_append] at hX
  subst hX
  have : x = m := by
   have := congrArg List.getLast? e
   rw [show Y ++ w :: (X ++ [x]) = (Y ++ w :: X) ++ [x] by simp, List.getLast?_concat, List.getLast?_concat] at this
   exact Option.some.inj this
  subst this
  rw [show (w :: (X ++ [x])).reverse = x :: (X.reverse ++ [w]) by simp, fK, nP]
theorem hull_cut {l : List P2} {g : P2} (hs : l.Pairwise ltP) (hne : l ≠ []) (hg : lexP g ∨ cU g) :
  ∃ e1 e2, xS (uQ l) = e1 ++ e2 ∧ Cut g e1 e2 ∧ ∀ q ∈ l, zP (yK q (xB (gp (uQ l) 0) (jP e1))) g ≤ 0 := by
 by_cases h2 : l.length < 2
 ·match l, hne, h2 with
  | [p], _, _ =>
   refine ⟨[], [], rfl, ⟨fun _ => by simp, fun _ => by simp⟩, fun q hq => ?_⟩
   rw [List.mem_singleton.1 hq, show xB (gp (uQ [p]) 0) (jP []) = p from jN p]
   unfold zP yK; simp only; grind
 obtain ⟨mn, mx, A, B, cl, ch, eS, mnl, mxl, hlt, hmx, hmn, _⟩ := mC (by omega) hs
 have eE : xS (uQ l) = jD (mx :: (A ++ [mn])).reverse ++ jD (mn :: (B ++ [mx])).reverse := by
  unfold xS
  rw [eS, if_pos (by simp only [List.length_cons, List.length_append]; omega), show mn :: (A.reverse ++ mx :: B.reverse) ++ [gp (mn :: (A.reverse ++ mx :: B.reverse)) 0] = (mn :: A.reverse) ++ mx :: (B.reverse ++ [mn]) by simp, fL]
  congr 1 <;> congr 1 <;> simp
 have e0 : gp (uQ l) 0 = mn := by rw [eS]; rfl
 rw [e0, eE]
 have low : ∀ e ∈ jD (mx :: (A ++ [mn])).reverse, lexP e := diffs_lex _ cl.dec
 have high : ∀ e ∈ jD (mn :: (B ++ [mx])).reverse, cU e := diffs_lexN _ ch.dec
 have np : ∀ g : P2, lexP g → cU g → False := fun g a b => by unfold lexP cU at *; grind
 have cut : ∀ (Y : List P2) (w : P2) (X : List P2), jD (Y ++ w :: X).reverse = jD (w :: X).reverse ++ jD (Y ++ [w]).reverse := fun Y w X => by
  rw [show (Y ++ w :: X).reverse = X.reverse ++ w :: Y.reverse by simp, fL]; simp
 rcases hg with hg | hg
 ·obtain ⟨Y, w, X, e, h1, h3, h4⟩ := low_cut cl hg
  refine ⟨jD (w :: X).reverse, jD (Y ++ [w]).reverse ++ jD (mn :: (B ++ [mx])).reverse, ?_, ⟨fun _ => ⟨fun x hx => ⟨low x ?_, rM _ h3 x hx⟩, fun x hx => ?_⟩, fun h => (np g hg h).elim⟩, ?_⟩
  ·rw [e, cut, List.append_assoc]
  ·rw [e, cut]; exact List.mem_append_left _ hx
  ·rcases List.mem_append.1 hx with hx | hx
   ·exact .inr ⟨low x (by rw [e, cut]; exact List.mem_append_right _ hx), rL _ h1 x hx⟩
   ·exact .inl (high x hx)
  ·rw [sum_to Y X (X' := mx :: A) (m := mn) (by rw [← e]; simp)]; exact h4
 ·obtain ⟨Y, w, X, e, h1, h3, h4⟩ := high_cut ch hg
  refine ⟨jD (mx :: (A ++ [mn])).reverse ++ jD (w :: X).reverse, jD (Y ++ [w]).reverse, ?_, ⟨fun h => (np g h hg).elim, fun _ => ⟨fun x hx => ?_, fun x hx => ⟨high x ?_, rL _ h1 x hx⟩⟩⟩, ?_⟩
  ·rw [e, cut, List.append_assoc]
  ·rcases List.mem_append.1 hx with hx | hx
   ·exact .inl (low x hx)
   ·exact .inr ⟨high x (by rw [e, cut]; exact List.mem_append_left _ hx), rM _ h3 x hx⟩
  ·rw [e, cut]; exact List.mem_append_right _ hx
  ·rw [nU, ← qH, show (mx :: (A ++ [mn])).reverse = mn :: (A.reverse ++ [mx]) by simp, fK, nP, sum_to Y X (X' := mn :: B) (m := mx) (by rw [← e]; simp)]; exact h4
def mS (h k : List P2) : List P2 := xB (gp h 0) (gp k 0) :: fY (xB (gp h 0) (gp k 0)) (mrg (xS h) (xS k))
theorem edges_zero {h : List P2} : jP (xS h) = (0, 0) := by
 unfold xS; split
 ·match h with
  | a :: r =>
   rw [show a :: r ++ [gp (a :: r) 0] = a :: (r ++ [a]) from rfl, fK]
   unfold yK; rw [Prod.ext_iff]; constructor <;> simp only <;> grind
 ·rfl
theorem way_mem : ∀ (e1 e2 : List P2) (at' : P2), e1 ≠ [] → e2 ≠ [] → xB at' (jP e1) ∈ fY at' (e1 ++ e2)
 | [], _, _, h, _ => absurd rfl h
 | [e], f :: e2, a, _, _ => by simp only [List.cons_append, List.nil_append, fY, jP]; rw [jN]; simp
 | e :: f :: e1, e2, a, _, h => by
  have := way_mem (f :: e1) e2 (xB a e) (by simp) h
  rw [List.cons_append, List.cons_append, fY, jP, ← qH]
  exact List.mem_cons_of_mem _ this
 | [_], [], _, _, h => absurd rfl h
theorem out_mem {h k e1 e2 : List P2} (e : mrg (xS h) (xS k) = e1 ++ e2) : xB (xB (gp h 0) (gp k 0)) (jP e1) ∈ mS h k := by
 unfold mS
 have z : xB (jP e1) (jP e2) = (0, 0) := by rw [← nU, ← e, sumP_mrg, edges_zero, edges_zero]; exact jN _
 by_cases c1 : e1 = []
 ·subst c1; rw [show jP [] = (0, 0) from rfl, jN]; simp
 by_cases c2 : e2 = []
 ·subst c2; rw [show jP [] = (0, 0) from rfl, jN] at z; rw [z, jN]; simp
 ·rw [e]; exact List.mem_cons_of_mem _ (way_mem e1 e2 _ c1 c2)
theorem out_sup {l m : List P2} (hl : l.Pairwise ltP) (hm : m.Pairwise ltP) (nl : l ≠ []) (nm : m ≠ []) {a b : P2} (ha : a ∈ l) (hb : b ∈ m) : Sup (mS (uQ l) (uQ m)) (xB a b) := fun u v => by
 by_cases hz : lexP (-v, u) ∨ cU (-v, u)
 ·obtain ⟨e1, e2, ee, ec, eb⟩ := hull_cut hl nl hz
  obtain ⟨f1, f2, fe, fc, fb⟩ := hull_cut hm nm hz
  have h1 := cut_ahead hz ec fc
  have h2 := cut_ahead hz fc ec
  have em : mrg (xS (uQ l)) (xS (uQ m)) = mrg e1 f1 ++ mrg e2 f2 := by
   rw [ee, fe]; exact mrg_cut h1 fun y hy x hx => ahead_asym (h2 y hy x hx)
  refine ⟨_, out_mem em, ?_⟩
  rw [sumP_mrg]
  have k1 := eb a ha
  have k2 := fb b hb
  generalize gp (uQ l) 0 = p at *
  generalize gp (uQ m) 0 = q at *
  generalize jP e1 = s at *
  generalize jP f1 = t at *
  unfold zP yK xB at *; simp only at *; grind
 ·have hu : u = 0 := by unfold lexP cU at hz; simp only at hz; grind
  have hv : v = 0 := by unfold lexP cU at hz; simp only at hz; grind
  refine ⟨_, List.mem_cons_self, ?_⟩
  rw [hu, hv]; grind
theorem fJ {h : List P2} (hne : h ≠ []) {e1 e2 : List P2} (e : xS h = e1 ++ e2) : xB (gp h 0) (jP e1) ∈ h := by
 unfold xS at e
 split at e
 ·match h, hne with
  | a :: r, _ =>
   have e' : jD (a :: (r ++ [a])) = e1 ++ e2 := e
   have key : ∀ (r : List P2) (b z : P2) (e1 : List P2), jD (b :: (r ++ [z])) = e1 ++ e2 → xB b (jP e1) ∈ b :: (r ++ [z]) := fun r => by
    induction r with
    | nil =>
     intro b z e1 e
     match e1, e with
     | [], _ => rw [show jP [] = (0, 0) from rfl, jN]; simp
     | [x], e => 
      simp only [List.nil_append, jD, List.cons_append, List.cons.injEq] at e
      rw [← e.1, jP, show jP [] = (0, 0) from rfl, jN, nP]; simp
     | x :: y :: s, e => simp [jD] at e
    | cons c r ih =>
     intro b z e1 e
     match e1, e with
     | [], _ => rw [show jP [] = (0, 0) from rfl, jN]; simp
     | x :: s, e =>
      rw [List.cons_append, jD, List.cons_append, List.cons.injEq] at e
      have := ih c z s e.2
      rw [← e.1, jP, ← qH, nP]
      exact List.mem_cons_of_mem _ this
   have := key r a a e1 e'
   show xB a (jP e1) ∈ a :: r
   simp only [List.mem_cons, List.mem_append, List.mem_singleton, List.not_mem_nil, or_false] at this ⊢
   grind
 ·match h, hne with
  | a :: r, _ =>
   obtain ⟨rfl, rfl⟩ := List.append_eq_nil_iff.1 e.symm
   rw [show jP [] = (0, 0) from rfl, jN]; simp
theorem mrg_pre (p q : List P2) : ∀ {s t : List P2}, mrg p q = s ++ t → ∃ p1 p2 q1 q2, p = p1 ++ p2 ∧ q = q1 ++ q2 ∧ jP s = xB (jP p1) (jP q1) := by
 fun_induction mrg p q with
 | case1 q => exact fun {s t} e => ⟨[], [], s, t, rfl, e, by rw [show jP [] = (0, 0) from rfl, fP, jN]⟩
 | case2 a p => exact fun {s t} e => ⟨s, t, [], [], e, rfl, by rw [show jP [] = (0, 0) from rfl, jN]⟩
 | case3 a p b q h ih =>
  intro s t e
  match s, e with
  | [], e => exact ⟨[], _, [], _, rfl, rfl, by rw [show jP [] = (0, 0) from rfl, jN]⟩
  | x :: s, e =>
   rw [List.cons_append, List.cons.injEq] at e
   obtain ⟨p1, p2, q1, q2, h1, h2, h3⟩ := ih e.2
   exact ⟨a :: p1, p2, q1, q2, by rw [h1]; rfl, h2, by rw [jP, jP, h3, ← e.1, qH]⟩
 | case4 a p b q h ih =>
  intro s t e
  match s, e with
  | [], e => exact ⟨[], _, [], _, rfl, rfl, by rw [show jP [] = (0, 0) from rfl, jN]⟩
  | x :: s, e =>
   rw [List.cons_append, List.cons.injEq] at e
   obtain ⟨p1, p2, q1, q2, h1, h2, h3⟩ := ih e.2
   exact ⟨p1, p2, b :: q1, q2, h1, by rw [h2]; rfl, by rw [jP, jP, h3, ← e.1, ← qH, fP b, qH]⟩
theorem way_ex : ∀ (es : List P2) (at' c : P2), c ∈ fY at' es → ∃ s t, es = s ++ t ∧ c = xB at' (jP s)
 | [], _, _, h => by simp [fY] at h
 | [_], _, _, h => by simp [fY] at h
 | e :: f :: l, a, c, h => by
  rw [fY] at h
  rcases List.mem_cons.1 h with rfl | h
  ·exact ⟨[e], f :: l, rfl, by rw [jP, show jP [] = (0, 0) from rfl, jN]⟩
  ·obtain ⟨s, t, h1, h2⟩ := way_ex (f :: l) _ c h
   exact ⟨e :: s, t, by rw [h1]; rfl, by rw [h2, jP, qH]⟩
theorem out_of {h k : List P2} (hh : h ≠ []) (hk : k ≠ []) {c : P2} (hc : c ∈ mS h k) : ∃ a ∈ h, ∃ b ∈ k, c = xB a b := by
 have key : ∀ s t, mrg (xS h) (xS k) = s ++ t → c = xB (xB (gp h 0) (gp k 0)) (jP s) → ∃ a ∈ h, ∃ b ∈ k, c = xB a b := fun s t e ec => by
  obtain ⟨p1, p2, q1, q2, h1, h2, h3⟩ := mrg_pre _ _ e
  refine ⟨_, fJ hh h1, _, fJ hk h2, ?_⟩
  rw [ec, h3]; unfold xB; rw [Prod.ext_iff]; constructor <;> simp only <;> grind
 unfold mS at hc
 rcases List.mem_cons.1 hc with rfl | hc
 ·exact key [] _ rfl (by rw [show jP [] = (0, 0) from rfl, jN])
 ·obtain ⟨s, t, h1, h2⟩ := way_ex _ _ _ hc
  exact key s t h1 h2
theorem oS : COrd uS := ⟨fun a b => cmpP_zero, fun a b => by rw [cmpP_gt, nK], fun a b c h k => by rw [← lt_iff] at *; exact leP_of_lt_trans h.le k⟩
noncomputable def hullF (l : List P2) : List P2 := uQ (setOf uS l)
theorem nB (l : List P2) : (setOf uS l).Pairwise ltP := (fZ oS l).rise.imp fun h => lt_iff.2 h
theorem gP (l : List P2) : IsHull l (hullF l) := by
 have h := hullS_ok (nB l)
 exact ⟨h.poly, fun c hc => (cP oS).1 (h.sub c hc), fun q hq => h.sup q ((cP oS).2 hq)⟩
theorem lE {l m : List P2} (h1 : ∀ q ∈ l, Sup m q) (h2 : ∀ q ∈ m, Sup l q) : hullF l = hullF m := hull_uniq (gP l) (gP m) h1 h2
theorem iE {l m : List P2} (e : ∀ q, q ∈ l ↔ q ∈ m) : hullF l = hullF m := lE (fun q hq => uM ((e q).1 hq)) fun q hq => uM ((e q).2 hq)
theorem hull_of {l h : List P2} (k : IsHull l h) : hullF l = h := hull_uniq (gP l) k (fun q hq => uM hq) fun q hq => uM hq
theorem bO {l : List P2} : hullF l = [] ↔ l = [] := by
 constructor
 ·intro h
  match l, h with
  | [], _ => rfl
  | p :: r, h => obtain ⟨c, hc, _⟩ := (gP (p :: r)).sup p (by simp) 0 0; rw [h] at hc; cases hc
 ·intro h; subst h
  match e : hullF [], (gP []).sub with
  | [], _ => rfl
  | p :: r, k => exact absurd (k p (by simp)) (by simp)
theorem bP (l : List P2) : (hullF l).length ≤ l.length := cT (gP l).poly.nd (gP l).sub
theorem trn_add (a b c d : P2) : trn (xB a d) (xB b d) (xB c d) = trn a b c := by unfold trn zP yK xB; simp only; grind
theorem le_add {a b d : P2} : leP (xB a d) (xB b d) ↔ leP a b := by unfold leP xB; simp only; grind
theorem rE {h : List P2} (f : P2 → P2) {i : Nat} (hi : i < h.length) : gp (h.map f) i = f (gp h i) := by
 unfold gp; simp [List.getD_eq_getElem?_getD, List.getElem?_eq_getElem hi]
theorem IsHull.mov {l h : List P2} (k : IsHull l h) (d : P2) : IsHull (l.map (xB · d)) (h.map (xB · d)) := by
 have inj : ∀ a b : P2, xB a d = xB b d → a = b := fun a b e => by unfold xB at e; rw [Prod.ext_iff] at *; simp only at e; exact ⟨by grind, by grind⟩
 refine ⟨⟨fun c hc => ?_, ?_, fun h3 i k' hi hk n1 n2 => ?_⟩, fun c hc => ?_, fun q hq => ?_⟩
 ·obtain ⟨x, hx, rfl⟩ := List.mem_map.1 hc
  rw [rE _ (List.length_pos_of_mem hx)]
  exact le_add.2 (k.poly.fst x hx)
 ·exact List.pairwise_map.2 (k.poly.nd.imp fun h e => h (inj _ _ e))
 ·rw [List.length_map] at *
  unfold nx
  rw [List.length_map, rE _ hi, rE _ hk, rE _ (mO hi), trn_add]
  exact k.poly.conv h3 i k' hi hk n1 n2
 ·obtain ⟨x, hx, rfl⟩ := List.mem_map.1 hc
  exact List.mem_map.2 ⟨x, k.sub x hx, rfl⟩
 ·obtain ⟨x, hx, rfl⟩ := List.mem_map.1 hq
  exact sup_add (k.sup x hx) (uM (h := [d]) (by simp)) fun y hy z hz => by
   rw [List.mem_singleton.1 hz]; exact List.mem_map.2 ⟨y, hy, rfl⟩
theorem hull_mov (l : List P2) (d : P2) : hullF (l.map (xB · d)) = (hullF l).map (xB · d) := hull_of ((gP l).mov d)
def cF (a b : List P2) : List P2 := a.flatMap fun x => b.map fun y => xB x y
theorem jV {a b : List P2} {q : P2} : q ∈ cF a b ↔ ∃ x ∈ a, ∃ y ∈ b, q = xB x y := by
 unfold cF; simp only [List.mem_flatMap, List.mem_map]
 exact ⟨fun ⟨x, hx, y, hy, e⟩ => ⟨x, hx, y, hy, e.symm⟩, fun ⟨x, hx, y, hy, e⟩ => ⟨x, hx, y, hy, e.symm⟩⟩
noncomputable def sumF (a b : List P2) : List P2 := hullF (cF a b)
theorem sum_made {a b : List P2} (ha : a ≠ []) (hb : b ≠ []) : hullF (mS (hullF a) (hullF b)) = sumF a b := by
 refine lE (fun q hq => ?_) fun q hq => ?_
 ·obtain ⟨x, hx, y, hy, rfl⟩ := out_of (fun e => ha (bO.1 e)) (fun e => hb (bO.1 e)) hq
  exact uM (jV.2 ⟨x, (gP a).sub x hx, y, (gP b).sub y hy, rfl⟩)
 ·obtain ⟨x, hx, y, hy, rfl⟩ := jV.1 hq
  have h : ∀ {l : List P2} {x : P2}, x ∈ l → setOf uS l ≠ [] := fun {l x} hx e => by have := (cP oS (l := l)).2 hx; rw [e] at this; cases this
  exact out_sup (nB a) (nB b) (h hx) (h hy) ((cP oS).2 hx) ((cP oS).2 hy)
theorem mZ {a b : List P2} : sumF a b = [] ↔ a = [] ∨ b = [] := by
 unfold sumF; rw [bO]
 constructor
 ·intro h
  match a, b, h with
  | [], _, _ => exact .inl rfl
  | _ :: _, [], _ => exact .inr rfl
  | _ :: _, _ :: _, h => simp [cF] at h
 ·rintro (rfl | rfl)
  ·rfl
  ·simp [cF]
theorem sum_comm (a b : List P2) : sumF a b = sumF b a := iE fun q => by
 rw [jV, jV]
 exact ⟨fun ⟨x, hx, y, hy, e⟩ => ⟨y, hy, x, hx, e.trans (fP x y)⟩, fun ⟨x, hx, y, hy, e⟩ => ⟨y, hy, x, hx, e.trans (fP x y)⟩⟩
theorem mY {a b a' b' : List P2} (h1 : ∀ x ∈ a, Sup a' x) (h2 : ∀ y ∈ b, Sup b' y) : ∀ q ∈ cF a b, Sup (cF a' b') q := fun q hq => by
 obtain ⟨x, hx, y, hy, rfl⟩ := jV.1 hq
 exact sup_add (h1 x hx) (h2 y hy) fun x hx y hy => jV.2 ⟨x, hx, y, hy, rfl⟩
theorem fI {l : List P2} : (∀ x ∈ hullF l, Sup l x) ∧ ∀ x ∈ l, Sup (hullF l) x := ⟨fun x hx => uM ((gP l).sub x hx), (gP l).sup⟩
theorem iJ {l : List P2} : ∀ x ∈ l, Sup l x := fun x hx => uM hx
theorem sum_hull (a b : List P2) : sumF (hullF a) b = sumF a b := lE (mY fI.1 iJ) (mY fI.2 iJ)
theorem sum_hull' (a b : List P2) : sumF a (hullF b) = sumF a b := lE (mY iJ fI.1) (mY iJ fI.2)
theorem sum_assoc (a b c : List P2) : sumF (sumF a b) c = sumF a (sumF b c) := by
 unfold sumF
 change sumF (hullF (cF a b)) c = sumF a (hullF (cF b c))
 rw [sum_hull, sum_hull']
 refine iE fun q => ?_
 rw [jV, jV]
 constructor
 ·rintro ⟨u, hu, z, hz, rfl⟩
  obtain ⟨x, hx, y, hy, rfl⟩ := jV.1 hu
  exact ⟨x, hx, _, jV.2 ⟨y, hy, z, hz, rfl⟩, qH x y z⟩
 ·rintro ⟨x, hx, yz, hy, rfl⟩
  obtain ⟨y, hy', z, hz, rfl⟩ := jV.1 hy
  exact ⟨_, jV.2 ⟨x, hx, y, hy', rfl⟩, z, hz, (qH x y z).symm⟩
theorem sum_one (a : List P2) (d : P2) : sumF a [d] = (hullF a).map (xB · d) := by
 rw [← hull_mov]
 exact iE fun q => by rw [jV, List.mem_map]; exact ⟨fun ⟨x, hx, y, hy, e⟩ => ⟨x, hx, by rw [e, List.mem_singleton.1 hy]⟩, fun ⟨x, hx, e⟩ => ⟨x, hx, d, by simp, e.symm⟩⟩
theorem neg_add (a b : P2) : xO (xB a b) = xB (xO a) (xO b) := by unfold xO xB; rw [Prod.ext_iff]; constructor <;> simp only <;> grind
theorem sum_flip (a b : List P2) : hullF ((sumF a b).map xO) = sumF (a.map xO) (b.map xO) := by
 refine lE (fun q hq => ?_) fun q hq => ?_
 ·obtain ⟨z, hz, rfl⟩ := List.mem_map.1 hq
  obtain ⟨x, hx, y, hy, rfl⟩ := jV.1 ((gP _).sub z hz)
  rw [neg_add]
  exact uM (jV.2 ⟨_, List.mem_map.2 ⟨x, hx, rfl⟩, _, List.mem_map.2 ⟨y, hy, rfl⟩, rfl⟩)
 ·obtain ⟨x', hx', y', hy', rfl⟩ := jV.1 hq
  obtain ⟨x, hx, rfl⟩ := List.mem_map.1 hx'
  obtain ⟨y, hy, rfl⟩ := List.mem_map.1 hy'
  rw [← neg_add]
  exact sup_neg ((gP _).sup _ (jV.2 ⟨x, hx, y, hy, rfl⟩))
theorem way_len : ∀ (es : List P2) (a : P2), (fY a es).length = es.length - 1
 | [], _ => rfl
 | [_], _ => rfl
 | e :: f :: l, a => by rw [fY, List.length_cons, way_len (f :: l)]; simp
theorem diffs_len : ∀ C : List P2, (jD C).length = C.length - 1
 | [] => rfl
 | [_] => rfl
 | a :: b :: r => by rw [jD, List.length_cons, diffs_len (b :: r)]; simp
theorem cW (h : List P2) : (xS h).length = if 1 < h.length then h.length else 0 := by
 unfold xS; split
 ·rw [diffs_len]; simp
 ·rfl
theorem out_len (h k : List P2) : (mS h k).length ≤ max 1 (h.length + k.length) := by
 unfold mS; rw [List.length_cons, way_len, mrg_len, cW, cW]; split <;> split <;> omega
theorem sum_len {a b : List P2} (ha : a ≠ []) (hb : b ≠ []) : (sumF a b).length ≤ a.length + b.length := by
 rw [← sum_made ha hb]
 have h1 := bP (mS (hullF a) (hullF b))
 have h2 := out_len (hullF a) (hullF b)
 have h3 := bP a; have h4 := bP b
 have := List.length_pos_iff.2 ha
 omega
end Go.SL
set_option maxHeartbeats 4000000
namespace Go.Proofs.YtflobagimodmgaaGreatDoor
open Go.SL Go.RowKit Go.Proofs Tryz
theorem wturn {p q : P2} {n m : Nat} (hn : n ≤ 20000) (hm : m ≤ 20000) : CTy prog 133 [ag (ptq n p), ag (ptq m q)] (exP (.int .i64 (nW (zP p q)))) := by
 refine ctc func133 rfl rfl rfl rfl fun X => (zI (zL rfl (zA1 (obx rfl) (zA1 (obx rfl) (zA1 (oas rfl) (zA0 (zI (zL rfl (zA1 (old rfl rfl) ?_)))))))))
 refine zA1 (old rfl rfl) (zA1 (oca rfl rfl fun _ => kvcross (by omega) (by omega)) (zA1 (oca rfl rfl fun _ => sT (by omega)) (zA1 (oas rfl) (zA0 (yS (⟨[_], rst rfl rs0, xA (PSub.refl _)⟩))))))
theorem kturn {Ψ Φ : PV} {p q : P2} {n m : Nat} [h : QP Ψ n p] [k : QP Φ m q] (hn : n ≤ 20000) (hm : m ≤ 20000) : CTy prog 133 [Ψ, Φ] (exP (.int .i64 (nW (zP p q)))) := aR (wturn hn hm) (fs1 lV (fs1 lV fs0))
theorem wquarter {p : P2} {n : Nat} (hn : n ≤ 20000) : CTy prog 141 [ag (ptq n p)] (exP (.int .i64 (xQ p))) := by
 refine ctc func141 rfl rfl rfl rfl fun X => (zI (zL rfl (zA1 (obx rfl) (zA1 (oas rfl) (zA0 (zI (zI (jW 8 mixed rfl rfl (d1 (ofa rfl rfl) ?_)))))))))
 refine d1 (old rfl rfl) (d1 (oca rfl rfl fun _ => sT (by omega)) (d1 (ofa rfl rfl) (d1 (old rfl rfl) (d1 (oca rfl rfl fun _ => sT (by omega)) (d1 (oas rfl) (d1 (oas rfl) (d0 (zA0 (yX ?_)))))))))
 refine zI (zL rfl (zA1 (omv rfl) (zA1 (ogt rfl rfl) (zA1 (oas rfl) (zA0 ?_)))))
 refine gQ rfl (fun c0 => ?_) (fun c0 => ?_)
 refine zI (zL rfl (zA1 (oas rfl) (zA0 (yS (⟨[_], rst rfl rs0, xA ?_⟩)))))
 refine dV ?_
 rotate_left 1
 refine zI (zL rfl (zA1 (omv rfl) (zA1 (oeq rfl rfl) (zA1 (omv rfl) (t1g rfl rfl (omv rfl) (t1g rfl rfl (ogt rfl rfl) (zA1 (opk rfl rfl rfl) (zA1 (oas rfl) (zA0 ?_)))))))))
 refine gQ rfl (fun c1 => ?_) (fun c1 => ?_)
 refine zI (zL rfl (zA1 (oas rfl) (zA0 (yS (⟨[_], rst rfl rs0, xA ?_⟩)))))
 refine dV ?_
 rotate_left 1
 refine zI (zL rfl (zA1 (omv rfl) (zA1 (olt rfl rfl) (zA1 (oas rfl) (zA0 ?_)))))
 refine gQ rfl (fun c2 => ?_) (fun c2 => ?_)
 refine zI (zL rfl (zA1 (oas rfl) (zA0 (yS (⟨[_], rst rfl rs0, xA ?_⟩)))))
 refine dV ?_
 rotate_left 1
 refine xM (zI (zL rfl (zA1 (oas rfl) (zA0 (yS (⟨[_], rst rfl rs0, xA ?_⟩))))))
 refine dV ?_
 rotate_left 1
 ·exact (qt0 (iI.1 (dt c0))).symm
 ·have h := tX c1
  exact (qt1 (sgnR_zero.1 h.1) (iI.1 h.2)).symm
 ·exact (qt2 (sgnR_lt.1 (dt c2))).symm
 ·have h0 := mt iI.2 (df c0)
  have h1 := dor c1
  rw [sgnR_zero, iI] at h1
  have h2 := mt sgnR_lt.2 (df c2)
  unfold xQ; rw [if_neg h0, if_neg h1, if_neg h2]
theorem kquarter {Ψ : PV} {p : P2} {n : Nat} [h : QP Ψ n p] (hn : n ≤ 20000) : CTy prog 141 [Ψ] (exP (.int .i64 (xQ p))) := aR (wquarter hn) (fs1 lV fs0)
theorem wahead {p q : P2} {n m : Nat} (hn : n ≤ 20000) (hm : m ≤ 20000) : CTy prog 81 [ag (ptq n p), ag (ptq m q)] (exP (.bool (gW p q))) := by
 refine ctc func81 rfl rfl rfl rfl fun X => (zI (zL rfl (zA1 (obx rfl) (zA1 (obx rfl) (zA1 (oas rfl) (zA0 (zI (zI (jW 6 mixed rfl rfl ?_)))))))))
 refine d1 (old rfl rfl) (d1 (oca rfl rfl fun _ => kquarter (by omega)) (d1 (old rfl rfl) (d1 (oca rfl rfl fun _ => kquarter (by omega)) (d1 (oas rfl) (d1 (oas rfl) (d0 (zA0 (zI (zL rfl ?_)))))))))
 refine zA1 (omv rfl) (zA1 (omv rfl) (zA1 (oni rfl rfl) (zA0 ?_)))
 refine gQ rfl (fun c0 => ?_) (fun c0 => ?_)
 refine zI (zL rfl (zA1 (omv rfl) (zA1 (omv rfl) (zA1 (olt rfl rfl) (zA1 (oas rfl) (zA0 (yS (⟨[_], rst rfl rs0, xA ?_⟩))))))))
 refine psb ?_
 rotate_left 1
 refine xM (zI (zL rfl (zA1 (old rfl rfl) (zA1 (old rfl rfl) (zA1 (oca rfl rfl fun _ => kturn (by omega) (by omega)) (zA1 (ogt rfl rfl) (zA1 (oas rfl) (zA0 (yS ?_)))))))))
 refine ⟨[_], rst rfl rs0, xA ?_⟩
 refine psb ?_
 rotate_left 1
 ·have h := dt c0
  unfold gW; rw [if_pos h]
 ·have h := df c0
  unfold gW; rw [if_neg h, decide_eq_decide]; exact iI
theorem kahead {Ψ Φ : PV} {p q : P2} {n m : Nat} [h : QP Ψ n p] [k : QP Φ m q] (hn : n ≤ 20000) (hm : m ≤ 20000) : CTy prog 81 [Ψ, Φ] (exP (.bool (gW p q))) := aR (wahead hn hm) (fs1 lV (fs1 lV fs0))
theorem nC {t s : P2} {r : List P2} : (t :: s :: r).reverse.getD (r.length + 1) Df.d = t ∧ (t :: s :: r).reverse.getD r.length Df.d = s := by
 rw [show (t :: s :: r).reverse = r.reverse ++ [s, t] by simp]
 constructor <;> simp [List.getD_eq_getElem?_getD]
theorem drop_step {cur : List P2} {p : P2} (h : Tr ((decide (1 < (cur.length : Int)) && decide (nW (zP (yK (cur.reverse.getD (cur.length - 1) Df.d) (cur.reverse.getD (cur.length - 2) Df.d)) (yK p (cur.reverse.getD (cur.length - 1) Df.d))) ≤ 0)) = true)) : 1 < cur.length ∧ gU p cur.tail = gU p cur := by
 obtain ⟨h1, h2⟩ := tX h
 match cur, h1, h2 with
 | t :: s :: r, h1, h2 =>
  refine ⟨by omega, ?_⟩
  rw [show (t :: s :: r).length - 1 = r.length + 1 from rfl, show (t :: s :: r).length - 2 = r.length from rfl, nC.1, nC.2, sgnR_le] at h2
  rw [List.tail_cons]; conv => rhs; rw [gU]
  rw [if_pos h2]
theorem drop_stop {cur : List P2} {p : P2} (h : Tr ((decide (1 < (cur.length : Int)) && decide (nW (zP (yK (cur.reverse.getD (cur.length - 1) Df.d) (cur.reverse.getD (cur.length - 2) Df.d)) (yK p (cur.reverse.getD (cur.length - 1) Df.d))) ≤ 0)) = false)) : gU p cur = cur := by
 have h1 := dor h
 match cur, h1 with
 | [], _ => rfl
 | [_], _ => rfl
 | t :: s :: r, h1 =>
  rw [show (t :: s :: r).length - 1 = r.length + 1 from rfl, show (t :: s :: r).length - 2 = r.length from rfl, nC.1, nC.2, sgnR_le] at h1
  rw [gU, if_neg fun c => h1 ⟨by simp only [List.length_cons]; omega, c⟩]
theorem dx1 {n : Nat} {q : Prop} (h : q ∧ decide (1 < (n : Int)) = true) : 1 < n := by have := of_decide_eq_true h.2; omega
theorem rev_tail {cur : List P2} {f : P2 → CT} (h : 1 < cur.length) : (cur.reverse.map f).take (cur.length - 1) = cur.tail.reverse.map f := by
 match cur, h with
 | t :: r, _ => rw [List.reverse_cons, List.map_append, List.tail_cons, List.take_left' (by simp)]
theorem kdrop {acc : List P2} {p : P2} {n b : Nat} {v : Value} (hn : n ≤ 5000) (hl : acc.length ≤ 1000) : CTo prog 132 [ag (ptc n p), exP (.pointer (some ⟨b, 0, none⟩))] [.row v 35 6 (acc.reverse.map (ptc n)), .blk b 22 [xc v]] (fun ρ So => ρ = tu [] ∧ ∃ v', So = [.row v' 35 6 ((gU p acc).reverse.map (ptc n)), .blk b 22 [xc v']]) := by
 refine ctd func132 rfl rfl rfl rfl (fun _ _ _ _ _ _ _ hs hp => hP hs hp) fun X => (zI (zL rfl (zA1 (obx rfl) (zA0 (zI (zL rfl (zA1 (kA 1 rfl rfl rfl rfl) (zA1 (wA 0 rfl rfl) (zA1 (oas rfl) ?_)))))))))
 refine zA0 (yX ?_)
 rotate_left 1
 refine qI (σ := List P2 × Value) (fun s => [(3, True, exP (.int .i64 ((s.1.length : Nat) : Int)))]) (fun s => [.row s.2 35 6 (s.1.reverse.map (ptc n)), .blk b 22 [xc s.2]]) (fun s => s.1.length ≤ acc.length ∧ gU p s.1 = gU p acc) (fun s => s.1.length) ((acc, v)) (tk 1 rfl (tk 2 rfl tn)) ?_ rfl (⟨by simp, rfl⟩) (fun s hJ Y _ => ?_)
 refine tc rfl (dV (by (simp; done))) (tn)
 rotate_left 1
 obtain ⟨cur, v1⟩ := s
 dsimp only at hJ ⊢
 obtain ⟨j1, j2⟩ := hJ
 refine zI (zI (jW 24 mixed rfl rfl (d1 (omv rfl) (d1 (ogt rfl rfl) (d1 (omv rfl) (d1g rfl rfl (kA 1 rfl rfl rfl rfl) (d1g rfl rfl (omv rfl) (d1g rfl rfl (osb rfl rfl (by omega)) (d1g rfl rfl (tW 0 (cur.length - 1) rfl rfl rfl (fun h => by have := dx1 h; omega) (fun h => by have := dx1 h; simp only [List.length_map, List.length_reverse]; omega)) ?_)))))))))
 refine d1g rfl rfl (rU 0 rfl rfl (fun g => (by (have := dx1 ‹_›; simp only [List.length_map, List.length_reverse]; omega))) rfl) (d1g rfl rfl (kA 1 rfl rfl rfl rfl) (d1g rfl rfl (omv rfl) (d1g rfl rfl (osb rfl rfl (by omega)) (d1g rfl rfl (tW 0 (cur.length - 2) rfl rfl rfl (fun h => by have := dx1 h; omega) (fun h => by have := dx1 h; simp only [List.length_map, List.length_reverse]; omega)) (d1g rfl rfl (rU 0 rfl rfl (fun g => (by (have := dx1 ‹_›; simp only [List.length_map, List.length_reverse]; omega))) rfl) (d1g rfl rfl (oca rfl rfl fun g => tL (by omega) (by omega)) (d1g rfl rfl (old rfl rfl) (d1g rfl rfl (kA 1 rfl rfl rfl rfl) (d1g rfl rfl (omv rfl) ?_)))))))))
 refine d1g rfl rfl (osb rfl rfl (by omega)) (d1g rfl rfl (tW 0 (cur.length - 1) rfl rfl rfl (fun h => by have := dx1 h; omega) (fun h => by have := dx1 h; simp only [List.length_map, List.length_reverse]; omega)) (d1g rfl rfl (rU 0 rfl rfl (fun g => (by (have := dx1 ‹_›; simp only [List.length_map, List.length_reverse]; omega))) rfl) (d1g rfl rfl (oca rfl rfl fun g => tL (by omega) (by omega)) (d1g rfl rfl (oca rfl rfl fun g => kturn (by omega) (by omega)) (d1g rfl rfl (ole rfl rfl) (d1 (opk rfl rfl rfl) (d0 (zA0 ?_))))))))
 refine gQ rfl (fun c0 => ?_) (fun c0 => ?_)
 refine xM (zI (yX (zL rfl (zA1 (kA 1 rfl rfl rfl rfl) (zA1 (omv rfl) (zA1 (osb rfl rfl (by omega)) (tsh 0 (cur.length - 1) rfl rfl rfl (by (have e0 := tX c0; omega)) (by (simp; done)) fun r35 => (tsw 1 0 rfl rfl rfl rfl rfl rfl rfl (zA0 ?_)))))))))
 refine zL rfl (zA1 (omv rfl) (zA1 (osb rfl rfl (by omega)) (zA1 (oas rfl) (zA0 ?_))))
 rotate_left 1
 refine qE ?_
 rotate_left 1
 ·have hs := drop_step c0
  refine ⟨(cur.tail, r35), tes ?_ ?_ ?_, ?_, (by (simp; omega))⟩
  refine tc rfl (dV (by (simp; omega))) (tn)
  refine tc rfl (xC _) (tc rfl (xC _) (tn))
  rotate_left 1
  rotate_left 1
  ·rw [rev_tail hs.1]; exact List.Sublist.refl _
  ·exact ⟨by simp only [List.length_tail]; omega, hs.2.trans j2⟩
 ·refine ⟨[], tu [], _, rs0, List.Sublist.refl _, ⟨rfl, v1, by rw [← j2, drop_stop c0]⟩, nil_r⟩
end Go.Proofs.YtflobagimodmgaaGreatDoor
set_option maxHeartbeats 4000000
namespace Go.Proofs.YtflobagimodmgaaGreatDoor
open Go.SL Go.RowKit Go.Proofs Tryz
theorem chain_snoc : ∀ (l : List P2) (acc : List P2) (p : P2), jB acc (l ++ [p]) = p :: gU p (jB acc l)
 | [], _, _ => rfl
 | q :: l, acc, p => by rw [List.cons_append, jB, jB]; exact chain_snoc l _ p
theorem mF (p : P2) : ∀ l : List P2, (gU p l).length ≤ l.length
 | [] => Nat.le_refl _
 | [_] => Nat.le_refl _
 | t :: s :: r => by
  rw [gU]; split
  ·have := mF p (s :: r); simp only [List.length_cons] at *; omega
  ·exact Nat.le_refl _
theorem dS : ∀ (l acc : List P2), (jB acc l).length ≤ acc.length + l.length
 | [], _ => Nat.le_refl _
 | p :: l, acc => by
  rw [jB]
  have h1 := dS l (p :: gU p acc)
  have h2 := mF p acc
  simp only [List.length_cons] at *; omega
theorem kchain {l : List P2} {n : Nat} (hn : n ≤ 5000) (hl : l.length ≤ 500) : CTy prog 72 [sv (sl 6 (l.map (ptc n)))] (sv (sl 6 ((jB [] l).reverse.map (ptc n)))) := by
 refine ctc func72 rfl rfl rfl rfl fun X => (zI (zL rfl (zA1 (oas rfl) (zA0 (zI (zL rfl (tal fun b3 => (zA0 (zI ?_)))))))))
 refine zL rfl (zA1 (omf rfl) (zA1 (oas rfl) (zA0 (zI (zI (zL rfl (zA1 (omv rfl) (zA1 (oln rfl) (zA1 (omv rfl) ?_)))))))))
 refine zA0 (yX ?_)
 rotate_left 1
 refine eF (nT 35 6) ?_
 refine qI (σ := Nat × Value) (fun s => [(10, True, exP (.int .i64 ((s.1 : Nat) : Int)))]) (fun s => [.row s.2 35 6 ((jB [] (l.take s.1)).reverse.map (ptc n)), .blk b3 22 [xc s.2]]) (fun s => s.1 ≤ l.length) (fun s => l.length - s.1) ((0, .slice none 0 0)) (tk 3 rfl (tk 4 rfl (tk 8 rfl (tk 9 rfl tn)))) ?_ rfl ((by simp)) (fun s hJ Y _ => ?_)
 refine tc rfl (xC _) (tn)
 rotate_left 1
 have hc := dS (l.take s.1) []
 have hd := fun p => mF p (jB [] (l.take s.1))
 rw [List.length_take, List.length_nil] at hc
 refine zI (zL rfl (zA1 (olt rfl rfl) (zA0 (zI ?_))))
 refine gQ rfl (fun c0 => ?_) (fun c0 => ?_)
 refine xM (zI (yX (zI (zL rfl (zA1 (oix _ rfl rfl rfl (fun _ => rfl) (fun _ => (by (have e0 := dt c0; omega)))) (zA1 (old rfl rfl) (tal fun b6 => (tst 0 rfl rfl rfl rfl rfl rfl (bJ (dC (s := 6) 0 rfl rfl) ?_)))))))))
 refine zA0 (zI (zL rfl (zA1 (omv rfl) (zA1 (old rfl rfl) ?_))))
 rotate_left 1
 refine qE (zI (zL rfl (zA1 (kA 1 rfl rfl rfl rfl) (zA1 (oas rfl) (zA0 (eF (bI (s := 2) 0 rfl rfl) (yS (⟨[_], rst rfl rs0, xA ?_⟩))))))))
 rotate_left 1
 ·have h0 := dt c0
  refine tco [0, 1] rfl rfl rfl (kdrop (n := n) (acc := jB [] (l.take s.1)) (p := l.getD s.1 Df.d) (by omega) (by omega)) ?_
  rintro _ _ ⟨rfl, v', rfl⟩
  refine zA0 (zL rfl (zA1 (kA 1 rfl rfl rfl rfl) (zA1 (old rfl rfl) (zA1 (obs rfl rfl rfl rfl rfl rfl) ?_))))
  refine tap 0 rfl rfl rfl ?_ rfl fun r20 => ?_
  rotate_left 1
  refine tsw 1 0 rfl rfl rfl rfl rfl rfl rfl (zA0 (zL rfl (zA1 (oad rfl rfl (by omega)) (zA1 (omv rfl) (zA0 ?_)))))
  rotate_left 1
  ·have := hd (l.getD s.1 Df.d)
   simp only [List.length_map, List.length_reverse, List.length_cons, List.length_nil]; omega
  ·refine ⟨(s.1 + 1, r20), tes ?_ ?_ ?_, (by omega), (by omega)⟩
   refine tc rfl (xC _) (tn)
   refine tc rfl (xC _) (tc rfl (xC _) (tc rfl (xC _) (tc rfl (xC _) (tn))))
   rotate_left 1
   rw [(jT (Df.d : P2) (show s.1 < l.length by omega)).1, chain_snoc, List.reverse_cons, List.map_append]
   exact List.Sublist.refl _
 ·have h0 := df c0
  rw [List.take_of_length_le (by omega)]
  exact PSub.refl _
theorem kvnormo {Ψ : PV} {l : List P2} {n : Nat} [h : VPt Ψ n l] (hn : n ≤ 20000) (hl : l.length ≤ 1000000) : CTo prog 67 [Ψ] [] (fun ρ So => ∃ v, ρ = exP v ∧ So = [.row v 35 6 (l.map (ptc (n + 1)))]) := by
 refine cto_w (σs := [sv (sl 6 (l.map (ptq n)))]) ?_ (fs1 pA fs0)
 refine ctd func67 rfl rfl rfl rfl (fun _ _ _ _ _ _ _ hs hp => hP hs hp) fun X => (zI (zL rfl (zA1 (oas rfl) (zA0 (zI (zI (zL rfl (zA1 (omv rfl) (zA1 (oln rfl) ?_)))))))))
 refine zA1 (omv rfl) (zA0 (yX ?_))
 rotate_left 1
 refine eF (nT 35 6) ?_
 refine qI (σ := Nat × Value) (fun s => [(2, True, exP s.2), (7, True, exP (.int .i64 ((s.1 : Nat) : Int)))]) (fun s => [.row s.2 35 6 ((l.take s.1).map (ptc (n + 1)))]) (fun s => s.1 ≤ l.length) (fun s => l.length - s.1) ((0, .slice none 0 0)) (tk 5 rfl (tk 6 rfl tn)) ?_ rfl ((by simp)) (fun s hJ Y _ => ?_)
 refine tc rfl (xC _) (tc rfl (xC _) (tn))
 rotate_left 1
 refine zI (zL rfl (zA1 (olt rfl rfl) (zA0 (zI ?_))))
 refine gQ rfl (fun c0 => ?_) (fun c0 => ?_)
 refine xM (zI (yX (zI (zL rfl (zA1 (oix _ rfl rfl rfl (fun _ => rfl) (fun _ => (by (have e0 := dt c0; omega)))) (zA1 (old rfl rfl) (tal fun b4 => (tst 0 rfl rfl rfl rfl rfl rfl (bJ (dC (s := 4) 0 rfl rfl) ?_)))))))))
 refine zA0 (jW 9 mixed rfl rfl (d1 (omv rfl) (d1 (ofa rfl rfl) (d1 (old rfl rfl) (d1 (oca rfl rfl fun _ => krnorm (by omega)) (d1 (ofa rfl rfl) (d1 (old rfl rfl) (d1 (oca rfl rfl fun _ => krnorm (by omega)) ?_))))))))
 refine d1 (obd rfl rfl rfl) (d1 (obs rfl rfl rfl rfl rfl rfl) (d0 (tap 0 rfl rfl rfl (by (simp; omega)) rfl fun r20 => (zA1 (oas rfl) (zA0 (zL rfl (zA1 (oad rfl rfl (by omega)) (zA1 (omv rfl) (zA0 ?_)))))))))
 rotate_left 1
 refine qE (zI (zL rfl (zA1 (omv rfl) (zA1 (oas rfl) (zA0 (yS ?_))))))
 rotate_left 1
 ·refine ⟨(s.1 + 1, r20), tes ?_ ?_ ?_, (by (have e0 := dt c0; omega)), (by (have e0 := dt c0; omega))⟩
  refine tc rfl (xC _) (tc rfl (xC _) (tn))
  refine tc rfl (xC _) (tc rfl (xC _) (tn))
  rotate_left 1
  rw [(jT (Df.d : P2) (show s.1 < l.length by have := dt c0; omega)).1, List.map_append]
  exact List.Sublist.refl _
 ·have h0 := df c0
  exact ⟨[_], exP s.2, _, rst rfl rs0, List.Sublist.refl _, ⟨s.2, rfl, by rw [List.take_of_length_le (by omega)]⟩, xA (PSub.refl _)⟩
theorem kclone {l : List P2} {n : Nat} (h0 : 0 < l.length) (hl : l.length ≤ 1000) : CTo prog 73 [sv (sl 6 (l.map (ptc n)))] [] (fun ρ So => ∃ v, ρ = exP v ∧ So = [.row v 35 6 (l.map (ptc n))]) := by
 refine ctd func73 rfl rfl rfl rfl (fun _ _ _ _ _ _ _ hs hp => hP hs hp) fun X => (zI (zL rfl (zA1 (oas rfl) (zA0 (zI (zI (zL rfl (zA1 (omv rfl) (zA1 (oqn rfl (fun _ => (by (simp; omega)))) ?_)))))))))
 refine zA0 (t_iff rfl rfl (xM (zI (zL rfl (tbs0 fun r5 => (zA1 (omv rfl) (tap 0 rfl rfl rfl (by (simp; omega)) rfl fun r7 => (zA1 (oas rfl) (zA0 ?_)))))))))
 refine yS ?_
 rotate_left 1
 exact ⟨[_], exP r7, _, rst rfl rs0, List.Sublist.refl _, ⟨r7, rfl, rfl⟩, xA (PSub.refl _)⟩
theorem krevP {v : Value} {l : List P2} {n : Nat} (h0 : 0 < l.length) (hl : l.length ≤ 1000000) : CTo prog 74 [exP v] [.row v 35 6 (l.map (ptc n))] (fun r So => r = tu [] ∧ So = [.row v 35 6 (l.reverse.map (ptc n))]) :=
 trev (ρ := revPt_ren) revPt rfl rG (qJ rS) (fun _ => rfl) (bo func74) h0 hl
end Go.Proofs.YtflobagimodmgaaGreatDoor
set_option maxHeartbeats 4000000
namespace Go.Proofs.YtflobagimodmgaaGreatDoor
open Go.SL Go.RowKit Go.Proofs Tryz
theorem chain_two {l : List P2} (h2 : 2 ≤ l.length) (hs : l.Pairwise ltP) : 2 ≤ (jB [] l).length ∧ 2 ≤ (jB [] l.reverse).length := by
 obtain ⟨mn, mx, A, B, cl, ch, eS, mnl, mxl, hlt, hmx, hmn, eL, eH⟩ := mC h2 hs
 rw [eL, eH]; simp only [List.length_cons, List.length_append, List.length_nil]; omega
theorem mE {α β : Type} (f : α → β) (l : List α) : (l.reverse.drop 0).take (l.length - 1 - 0) = l.reverse.dropLast := by
 rw [List.drop_zero, Nat.sub_zero, List.dropLast_eq_take, List.length_reverse]
theorem mQ {Ψ : PV} {l : List P2} {n : Nat} [h : VPt Ψ n l] (hn : n ≤ 4000) (hl : l.length ≤ 400) : CTy prog 13 [Ψ] (sv (sl 6 ((hullF l).map (ptc (n + 1))))) := by
 refine aR (σs := [sv (sl 6 (l.map (ptq n)))]) ?_ (fs1 pA fs0)
 refine ctc func13 rfl rfl rfl rfl fun X => (zI (zL rfl (zA1 (oas rfl) (zA0 (zI (zL rfl (zA1 (omv rfl) (tco [] rfl rfl rfl (kvnormo (by omega) (by omega)) ?_))))))))
 rotate_left 1
 rintro _ _ ⟨v, rfl, rfl⟩
 refine zA1 (oas rfl) (zA0 (zI (zL rfl (zA1 (omv rfl) ?_))))
 rotate_left 1
 refine tco [0] rfl rfl rfl (ksortP (by omega) (by omega)) ?_
 rintro _ _ ⟨rfl, l', hp', hso, rfl⟩
 have hll := hp'.length_eq
 refine zA0 (zI (zL rfl (zA1 (omv rfl) ?_)))
 rotate_left 1
 refine tco [0] rfl rfl rfl (wcompactP (by omega) (by omega)) ?_
 rintro _ _ ⟨v3, rfl, rfl⟩
 have hsl := setOf_len tP l
 rw [show uY eqP Df.d l' l'.length = setOf uS l from (sd_of_sort tP hp' hso).eq tP]
 refine zA1 (oas rfl) (zA0 (zI (zI (zL rfl (zA1 (omv rfl) (zA1 (wA 0 rfl rfl) (zA1 (olt rfl rfl) (zA0 ?_))))))))
 refine gQ rfl (fun c0 => ?_) (fun c0 => ?_)
 refine zI (zL rfl (zA1 (omv rfl) (zA1 (oas rfl) (zA0 (eF (bI (s := 2) 0 rfl rfl) (yS (⟨[_], rst rfl rs0, xA ?_⟩)))))))
 rotate_left 1
 rotate_left 1
 ·have h0 := dt c0
  exact sM (by unfold hullF uQ; rw [if_pos (by omega)])
 have h0 := df c0
 obtain ⟨c2, c3⟩ := chain_two (l := setOf uS l) (by omega) (nB l)
 have hL := dS (setOf uS l) []
 have hH := dS (setOf uS l).reverse []
 rw [List.length_nil] at hL hH
 rw [List.length_reverse] at hH
 refine eF (bI 0 rfl (s := 3) rfl) ?_
 refine xM (zI (zL rfl (zA1 (omv rfl) (zA1 (oca rfl rfl fun _ => kchain (by omega) (by omega)) (zA1 (oas rfl) (zA0 (zI (zL rfl (zA1 (omv rfl) ?_)))))))))
 refine tco [] rfl rfl rfl (kclone (by omega) (by omega)) ?_
 rotate_left 1
 rintro _ _ ⟨v5, rfl, rfl⟩
 refine zA1 (oas rfl) (zA0 (zI (zL rfl (zA1 (omv rfl) (tco [0] rfl rfl rfl (krevP (by omega) (by omega)) ?_)))))
 rotate_left 1
 rintro _ _ ⟨rfl, rfl⟩
 refine zA0 (eF (bI 0 rfl (s := 5) rfl) ?_)
 refine zI (zL rfl (zA1 (omv rfl) (zA1 (oca rfl rfl fun _ => kchain (by omega) (by (simp; omega))) (zA1 (oas rfl) (zA0 (zI (t_drawC 1 14 [(13, 38, 0)] rfl rfl mixed rfl rfl (cx1 (omv rfl) rfl (cx1 (omv rfl) rfl ?_)))))))))
 refine cx1 (oln rfl) rfl (cx1 (osb rfl rfl (by (simp; omega))) rfl (cx1 (omv rfl) rfl (cx1 (oln rfl) rfl (cx1 (osb rfl rfl (by (simp; omega))) rfl (cx1 (osl3 ((jB [] (setOf uS l)).length - 1) rfl rfl rfl (fun _ => (by (simp; omega))) (fun _ => (by (simp; omega))) (fun _ => (by (simp; done)))) rfl (cx1 (omv rfl) rfl (cx1 (omv rfl) rfl (cx1 (oln rfl) rfl (cx1 (osb rfl rfl (by (simp; omega))) rfl ?_)))))))))
 refine cx1 (osl 0 ((jB [] (setOf uS l).reverse).length - 1) rfl rfl ⟨_, _, _, _, rfl, fun _ => ⟨⟩, inferInstance, fun _ => (by (simp; omega))⟩ (fun _ => (by omega)) (fun _ => (by (simp; done)))) rfl (cN rfl rfl (capX rfl rfl (by (simp; omega)) (by (simp; omega)) (by (simp; omega)) rfl) ?_)
 refine cE (fun r38 => ?_)
 refine zA1 (oas rfl) (zA0 (eF (bI (s := 2) 0 rfl rfl) (yS (⟨[_], rst rfl rs0, xA ?_⟩))))
 rotate_left 1
 all_goals first
  | (rw [List.length_reverse]; omega)
  | (rw [List.length_map, mE id, List.length_dropLast, List.length_reverse]; omega)
  | (rw [mE id, mE id, ← List.map_append]; exact sM (by unfold hullF uQ; rw [if_neg (by omega)]))
end Go.Proofs.YtflobagimodmgaaGreatDoor
set_option maxHeartbeats 4000000
namespace Go.Proofs.YtflobagimodmgaaGreatDoor
open Go.SL Go.RowKit Go.Proofs Tryz
theorem diffs_at : ∀ (C : List P2) (i : Nat), i + 1 < C.length → (jD C)[i]? = some (yK (gp C (i + 1)) (gp C i))
 | [], _, h => by simp at h
 | [_], _, h => by simp at h
 | a :: b :: r, 0, _ => rfl
 | a :: b :: r, i + 1, h => by
  have := diffs_at (b :: r) i (by simp only [List.length_cons] at h ⊢; omega)
  simpa [jD] using this
theorem edgesP_at {h : List P2} {i : Nat} (h1 : 1 < h.length) (hi : i < h.length) : (xS h)[i]? = some (yK (nx h i) (gp h i)) := by
 unfold xS
 rw [if_pos h1, diffs_at _ i (by simp; omega)]
 have e1 : gp (h ++ [gp h 0]) i = gp h i := by
  unfold gp; rw [List.getD_eq_getElem?_getD, List.getElem?_append_left hi, List.getD_eq_getElem?_getD]
 have e2 : gp (h ++ [gp h 0]) (i + 1) = nx h i := by
  unfold nx
  rcases Nat.lt_or_ge (i + 1) h.length with c | c
  ·rw [Nat.mod_eq_of_lt c]; unfold gp; rw [List.getD_eq_getElem?_getD, List.getElem?_append_left c, List.getD_eq_getElem?_getD]
  ·have : i + 1 = h.length := by omega
   rw [this, Nat.mod_self]; unfold gp; rw [List.getD_eq_getElem?_getD, List.getElem?_append_right (Nat.le_refl _)]; simp
 rw [e1, e2]
theorem edgesP_split {h : List P2} {i : Nat} (h1 : 1 < h.length) (hi : i < h.length) : (∃ post, xS h = (xS h).take i ++ yK (nx h i) (gp h i) :: post) ∧ (xS h).take (i + 1) = (xS h).take i ++ [yK (nx h i) (gp h i)] := by
 have h2 := edgesP_at h1 hi
 obtain ⟨hl, e⟩ := List.getElem?_eq_some_iff.1 h2
 refine ⟨⟨(xS h).drop (i + 1), ?_⟩, ?_⟩
 ·rw [← e, List.getElem_cons_drop, List.take_append_drop]
 ·rw [List.take_succ_eq_append_getElem hl, e]
theorem iminkE {h : List P2} {n : Nat} (hn : n ≤ 5000) (hl : h.length ≤ 1000000) : CIt prog 137 [pa (sl 6 (h.map (ptc n)))] (xS h) (fun e => [ag (ptc (2 * n + 3) e)]) := by
 refine cit func137 rfl rfl rfl rfl rfl fun X y YS YX hY hS => (zI (zL rfl (zA1 (old rfl rfl) (zA1 (oln rfl) (zA1 (omv rfl) (zA0 (yX ?_)))))))
 rotate_left 1
 refine t_loopYK (σ := Nat) (fun i => [(7, True, exP (.int .i64 ((i : Nat) : Int)))]) (fun i => []) (fun i Y => YS ((xS h).take i) Y ∧ i ≤ h.length) (fun i => h.length - i) (0) (tk 0 rfl (tk 1 rfl (tk 5 rfl (tk 6 rfl tn)))) ?_ rfl (⟨hS, by omega⟩) (fun i Y hG => ?_)
 refine tc rfl (xC _) (tn)
 rotate_left 1
 obtain ⟨hS, hi⟩ := hG
 refine zI (zL rfl (zA1 (olt rfl rfl) (zA0 (zI ?_))))
 refine gQ rfl (fun c0 => ?_) (fun c0 => ?_)
 refine xM (zI (yX (zI (zL rfl (zA1 (omv rfl) (zA1 (oix _ rfl rfl rfl (fun _ => rfl) (fun _ => (by (have e0 := dt c0; omega)))) (zA1 (old rfl rfl) (tal fun b4 => (zA1 (oas rfl) ?_)))))))))
 refine tst 0 rfl rfl rfl rfl rfl rfl (bJ (dC (s := 4) 0 rfl rfl) (zA0 (zI (jW 15 mixed rfl rfl (d1 (old rfl rfl) (d1 (oln rfl) (d1 (ogt rfl rfl) (d1 (omv rfl) (d1g rfl rfl (omv rfl) ?_)))))))))
 refine d1g rfl rfl (old rfl rfl) (d1g rfl rfl (omv rfl) (d1g rfl rfl (oad rfl rfl (by omega)) (d1g rfl rfl (old rfl rfl) (d1g rfl rfl (oln rfl) (d1g rfl rfl (orm rfl rfl (by (have e0 := dt c0; omega))) ?_)))))
 refine d1g rfl rfl (oix _ rfl rfl rfl (fun g => rfl) (fun g => ?_)) ?_
 rotate_left 1
 refine d1g rfl rfl (old rfl rfl) (d1g rfl rfl (old rfl rfl) (d1g rfl rfl (oca rfl rfl fun g => tL (by omega) (by omega)) (d0 ?_)))
 rotate_left 1
 refine qE ?_
 rotate_left 1
 ·have := dt c0
  exact Nat.mod_lt _ (by omega)
 have h2 : i < h.length := by have := dt c0; omega
 refine t_yieldh hY hS rfl rfl (fun e => (edgesP_split (by have := of_decide_eq_true e; omega) h2).1) rfl rfl (fs1 (vE (p := yK (nx h i) (gp h i)) rfl (by omega)) fs0) (fun e => ?_) (fun e Y hS => ?_) (fun e Y hX => ?_)
 ·refine t1g rfl rfl (ont rfl) (zA1 (opk rfl rfl rfl) (zA0 ?_))
  refine gQ rfl (fun c1 => ?_) (fun c1 => ?_)
  refine yS ?_
  rotate_left 1
  refine xM (zL rfl (zA1 (oad rfl rfl (by omega)) (zA1 (omv rfl) (zA0 ?_))))
  rotate_left 1
  ·exact absurd c1.h (by simp)
  ·have he : xS h = [] := by unfold xS; rw [if_neg fun c => e (decide_eq_true (by omega))]
   refine ⟨i + 1, tes ?_ ?_ (List.Sublist.refl _), ?_, (by omega)⟩
   refine tc rfl (xC _) (tn)
   refine tc rfl (xC _) (tc rfl (xC _) (tc rfl (xC _) (tc rfl (xC _) (tn))))
   rotate_left 1
   exact ⟨by rw [he] at hS ⊢; simpa using hS, by omega⟩
 ·have h1 : 1 < h.length := by have := of_decide_eq_true e; omega
  refine t1g rfl rfl (ont rfl) (zA1 (opk rfl rfl rfl) (zA0 ?_))
  refine gQ rfl (fun c1 => ?_) (fun c1 => ?_)
  refine yS ?_
  rotate_left 1
  refine xM (zL rfl (zA1 (oad rfl rfl (by omega)) (zA1 (omv rfl) (zA0 ?_))))
  rotate_left 1
  ·exact absurd c1.h (by simp)
  ·refine ⟨i + 1, tes ?_ ?_ (List.Sublist.refl _), ?_, (by omega)⟩
   refine tc rfl (xC _) (tn)
   refine tc rfl (xC _) (tc rfl (xC _) (tc rfl (xC _) (tc rfl (xC _) (tn))))
   rotate_left 1
   exact ⟨by rw [(edgesP_split h1 h2).2]; exact hS, by omega⟩
 ·refine t1g rfl rfl (ont rfl) (zA1 (opk rfl rfl rfl) (zA0 ?_))
  refine gQ rfl (fun c1 => ?_) (fun c1 => ?_)
  refine yS ?_
  rotate_left 1
  refine xM (zL rfl (zA1 (oad rfl rfl (by omega)) (zA1 (omv rfl) (zA0 ?_))))
  rotate_left 1
  ·exact .inr hX
  ·rw [e] at c1; exact absurd c1.h (by simp)
 ·have : i = h.length := by have := df c0; omega
  subst this
  rw [List.take_of_length_le (by rw [cW]; split <;> omega)] at hS
  exact .inl hS
theorem kminkE {h : List P2} {n : Nat} : CTy prog 79 [sv (sl 6 (h.map (ptc n)))] (fn 137 [pa (sl 6 (h.map (ptc n)))]) := by
 refine ctc func79 rfl rfl rfl rfl fun X => (zI (zL rfl (zA1 (obx rfl) (zA1 (oas rfl) (zA0 (zI (zL rfl (zA1 (omf rfl) (zA1 (oas rfl) ?_)))))))))
 refine zA0 (yS (⟨[_], rst rfl rs0, xA (PSub.refl _)⟩))
theorem kappP {g : FuncId} {caps : List PV} {xs : List P2} {m : Nat} (it : CIt prog g caps xs (fun e => [ag (ptc m e)])) (hl : xs.length ≤ 1000) : CTy prog 136 [exP (.slice none 0 0), fn g caps] (sv (sl 6 (xs.map (ptc m)))) := by
 refine ctc func136 rfl rfl rfl rfl fun X => (zI (zL rfl (tbx (hc := cts1) rfl fun b2 => (zA1 (oas rfl) (zA0 (zI (zI (zL rfl (zA1 (omv rfl) ?_)))))))))
 refine zA0 (yX ?_)
 rotate_left 1
 refine eF (nT 35 6) ?_
 refine pL (σ := List P2 × Value) (fun t => [.row t.2 35 6 (t.1.map (ptc m)), .blk b2 22 [xc t.2]]) (fun pre t => t.1 = pre) ([], .slice none 0 0) rfl it (fun _ => rfl) rfl vJ (by simp) rfl (fun pre x post t hx hJ Y y hl => ?_) (fun t hJ Y _ => ?_)
 ·obtain ⟨pr, v1⟩ := t
  obtain rfl : pr = pre := hJ
  have h1 : pr.length ≤ 1000 := by have := congrArg List.length hx; simp at this; omega
  refine zL rfl (tal fun b5 => (tst 0 rfl rfl rfl rfl rfl rfl (bJ (dC (s := 5) 0 rfl rfl) (zA0 (⟨rfl, fun Y hl => (yX (zL rfl (zA1 (kA 1 rfl rfl rfl rfl) (zA1 (old rfl rfl) ?_))))⟩)))))
  refine zA1 (obs rfl rfl rfl rfl rfl rfl) (tap 0 rfl rfl rfl (by (simp; omega)) rfl fun r11 => (tsw 1 0 rfl rfl rfl rfl rfl rfl rfl (zA0 ?_)))
  rotate_left 1
  refine ⟨(pr ++ [x], r11), (by (simp; done)), rfl⟩
 ·obtain ⟨_, v1⟩ := t
  obtain rfl : _ = xs := hJ
  refine zI (zL rfl (zA1 (kA 1 rfl rfl rfl rfl) (zA1 (oas rfl) (zA0 (eF (bI (s := 4) 0 rfl rfl) (yS (⟨[_], rst rfl rs0, xA (PSub.refl _)⟩)))))))
theorem kcolP {g : FuncId} {caps : List PV} {xs : List P2} {m : Nat} (it : CIt prog g caps xs (fun e => [ag (ptc m e)])) (hl : xs.length ≤ 1000) : CTy prog 78 [fn g caps] (sv (sl 6 (xs.map (ptc m)))) := by
 refine ctc func78 rfl rfl rfl rfl fun X => (zI (zL rfl (zA1 (oas rfl) (zA0 (zI (zL rfl (zA1 (omv rfl) (zA1 (oca rfl rfl fun _ => kappP it (by omega)) (zA1 (oas rfl) ?_)))))))))
 refine zA0 (yS (⟨[_], rst rfl rs0, xA (PSub.refl _)⟩))
end Go.Proofs.YtflobagimodmgaaGreatDoor
set_option maxHeartbeats 4000000
namespace Go.Proofs.YtflobagimodmgaaGreatDoor
open Go.SL Go.RowKit Go.Proofs Tryz
section
variable {Ψ Φ : PV} {n m N : Nat} {p q : P2} {a b : List P2}
theorem ps_pl {p q : P2} {n N : Nat} (e : p = q) (h : plen q N) : PSub (ag (st [rtc n p.1, rtc n p.2])) (ag (ptc N q)) := fun M w v ⟨us, e1, x, y, e2, ⟨s, a, d, k1, g1⟩, z, o, e3, ⟨t, b, f, k2, g2⟩, e4⟩ => by
 subst e; exact ⟨us, e1, x, y, e2, ⟨s, a, d, k1, g1.relen h.x⟩, z, o, e3, ⟨t, b, f, k2, g2.relen h.y⟩, e4⟩
theorem sR [h : QP Ψ n p] [k : QP Φ m q] (hn : n ≤ 30000) (hm : m ≤ 30000) (hr : plen (xB p q) N) : CTy prog 80 [Ψ, Φ] (ag (ptc N (xB p q))) := oR (kvadd hn hm) (ps_pl rfl hr)
theorem vpt_pl [h : VPt Ψ n a] {M : Nat → Prop} {w : World} {v : Value} (h1 : Ψ.p M w v) : ∀ x ∈ a, plen x (n + 1) := fun x hx => by
 obtain ⟨cs, h3, h2⟩ := (h.h h1).row
 obtain ⟨i, hi, rfl⟩ := List.mem_iff_getElem.1 hx
 obtain ⟨us, _, _, s, x, d, t, b, e, _, g⟩ := h2 i _ (List.getElem?_eq_getElem hi)
 exact ⟨g.x.rlen, g.y.rlen⟩
theorem cty_2pt [h : VPt Ψ n a] [k : VPt Φ m b] {P : Program} {f : FuncId} {ρ : PV} (hb : Bod P f) (hr : (∀ x ∈ a, plen x (n + 1)) → (∀ x ∈ b, plen x (m + 1)) → CTy P f [sv (sl 6 (a.map (ptq n))), sv (sl 6 (b.map (ptq m)))] ρ) : CTy P f [Ψ, Φ] ρ :=
 ⟨hb, fun M w vs hM hT hv => by
  obtain ⟨v, u, _, h1, h2⟩ := fa2 hv
  exact (hr (vpt_pl h1) (vpt_pl h2)).run M w vs hM hT ((fs1 pA (fs1 pA fs0)) _ _ _ hv)⟩
end
theorem ps_nil0 {k : Nat} : PSub (exP (.slice none 0 0)) (sv (sl k [])) := fun M w v h => by
 obtain rfl : v = .slice none 0 0 := h
 exact ⟨_, [], rfl, ⟨by simp, by simp, none, 0, rfl, Nat.le_refl _, .inl rfl⟩, rfl, by simp [aS]⟩
theorem way_at {h k s t : List P2} (hh : h ≠ []) (hk : k ≠ []) (e : mrg (xS h) (xS k) = s ++ t) : ∃ x ∈ h, ∃ y ∈ k, xB (xB (gp h 0) (gp k 0)) (jP s) = xB x y := by
 obtain ⟨p1, p2, q1, q2, h1, h2, h3⟩ := mrg_pre _ _ e
 refine ⟨_, fJ hh h1, _, fJ hk h2, ?_⟩
 rw [h3]; unfold xB; rw [Prod.ext_iff]; constructor <;> simp only <;> grind
structure MJ (h k : List P2) (p q : List P2) (at' : P2) (out : List P2) : Prop where
 way : out ++ fY at' (mrg p q) = mS h k
 at_ : ∃ s, mrg (xS h) (xS k) = s ++ mrg p q ∧ at' = xB (xB (gp h 0) (gp k 0)) (jP s)
theorem mj0 {h k : List P2} : MJ h k (xS h) (xS k) (xB (gp h 0) (gp k 0)) [xB (gp h 0) (gp k 0)] := ⟨rfl, [], rfl, (jN _).symm⟩
theorem pX {h k p q out : List P2} {d at' : P2} (j : MJ h k (d :: p) q at' out) (hc : q = [] ∨ gW d (q.getD 0 Df.d) = true) : mrg (d :: p) q = d :: mrg p q := by
 match q, hc with
 | [], _ => rw [pW, pW]
 | b :: q, hc =>
  have : gW d b = true := hc.elim (fun c => by cases c) id
  rw [mrg, if_pos this]
theorem oG {h k p q out : List P2} {d at' : P2} (j : MJ h k p (d :: q) at' out) (hc : p = [] ∨ gW (p.getD 0 Df.d) d = false) : mrg p (d :: q) = d :: mrg p q := by
 match p, hc with
 | [], _ => rw [mrg_nil', mrg_nil']
 | a :: p, hc =>
  have : gW a d = false := hc.elim (fun c => by cases c) id
  rw [mrg, if_neg (by rw [this]; simp)]
theorem fE {h k p q p' q' out : List P2} {d at' : P2} (j : MJ h k p q at' out) (e : mrg p q = d :: mrg p' q') : (mrg p' q' = [] → out = mS h k) ∧ (mrg p' q' ≠ [] → MJ h k p' q' (xB at' d) (out ++ [xB at' d])) ∧ ∃ s, mrg (xS h) (xS k) = s ++ mrg p' q' ∧ xB at' d = xB (xB (gp h 0) (gp k 0)) (jP s) := by
 obtain ⟨j1, s, j2, j3⟩ := j
 have h3 : ∃ s, mrg (xS h) (xS k) = s ++ mrg p' q' ∧ xB at' d = xB (xB (gp h 0) (gp k 0)) (jP s) := ⟨s ++ [d], by rw [j2, e]; simp, by rw [j3, nU, qH]; congr 2; rw [jP, show jP [] = (0, 0) from rfl, jN]⟩
 refine ⟨fun h0 => ?_, fun h0 => ⟨?_, h3⟩, h3⟩
 ·rw [e, h0, fY, List.append_nil] at j1; exact j1
 ·rw [e] at j1
  match hm : mrg p' q', h0 with
  | f :: l, _ => rw [hm, fY] at j1; rw [← j1]; simp
theorem vN {p q : List P2} {b : Bool} (h1 : 0 < (p.length : Int) + (q.length : Int)) (h : Tr ((decide ((q.length : Int) = 0) || (decide (0 < (p.length : Int)) && b)) = true)) : ∃ d p', p = d :: p' ∧ (q = [] ∨ b = true) := by
 have h := h.h
 rw [Bool.or_eq_true, Bool.and_eq_true, decide_eq_true_eq, decide_eq_true_eq] at h
 match p with
 | d :: p' => exact ⟨d, p', rfl, h.imp (fun h => List.length_eq_zero_iff.1 (by omega)) (·.2)⟩
 | [] => rw [List.length_nil] at h h1; omega
theorem vM {p q : List P2} {b : Bool} (h : Tr ((decide ((q.length : Int) = 0) || (decide (0 < (p.length : Int)) && b)) = false)) : ∃ d q', q = d :: q' ∧ (p = [] ∨ b = false) := by
 have h := h.h
 rw [Bool.or_eq_false_iff, Bool.and_eq_false_iff, decide_eq_false_iff_not, decide_eq_false_iff_not] at h
 match q with
 | d :: q' => exact ⟨d, q', rfl, h.2.imp (fun h => List.length_eq_zero_iff.1 (by omega)) id⟩
 | [] => exact absurd rfl h.1
theorem bE {d : P2} {l : List P2} {f : P2 → CT} : ((d :: l).drop 1).take (((d :: l).map f).length - 1) = l := by simp
theorem vL {p q : List P2} (h : p.length + q.length = 0) : mrg p q = [] := by
 rw [List.length_eq_zero_iff.1 (show p.length = 0 by omega), List.length_eq_zero_iff.1 (show q.length = 0 by omega)]; simp [mrg]
theorem mrg_00 {p q : List P2} (h : mrg p q = []) : p.length + q.length = 0 := by rw [← mrg_len, h]; rfl
theorem lU {a b : List P2} (ha : hullF a ≠ []) (hb : hullF b ≠ []) : hullF (mS (hullF a) (hullF b)) = sumF a b := sum_made (fun c => ha (bO.2 c)) fun c => hb (bO.2 c)
theorem wsum {a b : List P2} {n m : Nat} (hn : n ≤ 300) (hm : m ≤ 300) (ha : a.length ≤ 100) (hb : b.length ≤ 100) (pa' : ∀ x ∈ a, plen x (n + 1)) (pb' : ∀ x ∈ b, plen x (m + 1)) : CTy prog 22 [sv (sl 6 (a.map (ptq n))), sv (sl 6 (b.map (ptq m)))] (sv (sl 6 ((sumF a b).map (ptc (n + m + 4))))) := by
 have la := bP a
 have lb := bP b
 refine ctc func22 rfl rfl rfl rfl fun X => (zI (zL rfl (zA1 (oas rfl) (zA0 (t_scope (zI (zL rfl (zA1 (omv rfl) (zA1 (oca rfl rfl fun _ => mQ (by omega) (by omega)) ?_)))))))))
 refine zA1 (omv rfl) (zA1 (oca rfl rfl fun _ => mQ (by omega) (by omega)) (zA1 (oas rfl) (zA1 (oas rfl) (zA0 (zI (zI (zL rfl (zA1 (omv rfl) (zA1 (oln rfl) ?_)))))))))
 refine zA1 (oeq rfl rfl) (zA1 (omv rfl) (t1g rfl rfl (omv rfl) (t1g rfl rfl (oln rfl) (t1g rfl rfl (oeq rfl rfl) (zA1 (opk rfl rfl rfl) (zA0 ?_))))))
 refine gQ rfl (fun c0 => ?_) (fun c0 => ?_)
 refine zI (zL rfl (zA1 (oas rfl) (zA0 (yS (⟨[_], rst rfl rs0, xA ?_⟩)))))
 rotate_left 1
 rotate_left 1
 ·have h := c0.h
  rw [Bool.or_eq_true, decide_eq_true_eq, decide_eq_true_eq] at h
  rw [mZ.2 (h.imp (fun h => bO.1 (List.length_eq_zero_iff.1 (by omega))) fun h => bO.1 (List.length_eq_zero_iff.1 (by omega)))]
  exact ps_nil0
 have h := c0.h
 rw [Bool.or_eq_false_iff, decide_eq_false_iff_not, decide_eq_false_iff_not] at h
 have ha0 : hullF a ≠ [] := fun c => h.1 (by rw [c]; rfl)
 have hb0 : hullF b ≠ [] := fun c => h.2 (by rw [c]; rfl)
 have hA : 0 < (hullF a).length := List.length_pos_iff.2 ha0
 have hB : 0 < (hullF b).length := List.length_pos_iff.2 hb0
 have ea : (xS (hullF a)).length ≤ 100 := by rw [cW]; split <;> omega
 have eb : (xS (hullF b)).length ≤ 100 := by rw [cW]; split <;> omega
 have hpl : ∀ x ∈ hullF a, ∀ y ∈ hullF b, plen (xB x y) (n + m + 3) := fun x hx y hy => ((pa' x ((gP a).sub x hx)).add (pb' y ((gP b).sub y hy))).up (by omega)
 have hol := out_len (hullF a) (hullF b)
 refine xM (zI (zL rfl (zA1 (omv rfl) (zA1 (oca rfl rfl fun _ => kminkE) (zA1 (oca rfl rfl fun _ => kcolP (iminkE (by omega) (by omega)) (by omega)) (zA1 (omv rfl) (zA1 (oca rfl rfl fun _ => kminkE) (zA1 (oca rfl rfl fun _ => kcolP (iminkE (by omega) (by omega)) (by omega)) (zA1 (oas rfl) ?_)))))))))
 refine zA1 (oas rfl) (zA0 (zI ?_))
 apply t_drawS 1 9 8 [(7, 7, 0), (8, 1000008, 0)] rfl rfl mixed rfl rfl rfl
 refine cx1 (omv rfl) rfl (cx1 (oix _ rfl rfl rfl (fun _ => rfl) (fun _ => (by omega))) rfl (cx1 (old rfl rfl) rfl (cx1 (omv rfl) rfl (cx1 (oix _ rfl rfl rfl (fun _ => rfl) (fun _ => (by omega))) rfl (cx1 (old rfl rfl) rfl ?_)))))
 refine cx1 (oca rfl rfl fun _ => sR (N := n + m + 3) (by omega) (by omega) ?_) rfl ?_
 rotate_left 1
 refine cN rfl rfl (cal) (cS rfl rfl rfl (cst rfl rfl rfl) ?_)
 refine cE (fun b7 => ?_)
 refine zA0 (zI (zL rfl (zA1 (kA 0 rfl rfl rfl rfl) (tbs rfl rfl rfl rfl rfl rfl fun r36 => (zA1 (oas rfl) (zA0 (zI (t_label (zI ?_)))))))))
 refine yX ?_
 rotate_left 1
 ·exact hpl _ (cI hA) _ (cI hB)
 refine qI (σ := (List P2 × List P2) × P2 × List P2 × Value) (fun s => [(8, True, exP s.2.2.2), (5, True, sv (sl 6 (s.1.1.map (ptc (2 * (n + 1) + 3))))), (6, True, sv (sl 6 (s.1.2.map (ptc (2 * (m + 1) + 3)))))]) (fun s => [.row s.2.2.2 35 6 (s.2.2.1.map (ptc (n + m + 3))), .blk b7 35 [ptc (n + m + 3) s.2.1]]) (fun s => MJ (hullF a) (hullF b) s.1.1 s.1.2 s.2.1 s.2.2.1 ∧ s.1.1.length ≤ 100 ∧ s.1.2.length ≤ 100 ∧ s.2.2.1.length ≤ 250) (fun s => s.1.1.length + s.1.2.length) (((xS (hullF a), xS (hullF b)), xB (gp (hullF a) 0) (gp (hullF b) 0), [xB (gp (hullF a) 0) (gp (hullF b) 0)], r36)) (tk 7 rfl tn) ?_ rfl (⟨mj0, by simpa using ea, by simpa using eb, by simp⟩) (fun s hJ Y _ => ?_)
 refine tc rfl (xC _) (tc rfl (xC _) (tc rfl (xC _) (tn)))
 rotate_left 1
 obtain ⟨⟨p, q⟩, at1, out, v1⟩ := s
 dsimp only at hJ ⊢
 obtain ⟨j, j1, j2, j3⟩ := hJ
 refine zI (zI (zL rfl (zA1 (omv rfl) (zA1 (oln rfl) (zA1 (omv rfl) (zA1 (oln rfl) (zA1 (oad rfl rfl (by omega)) (zA1 (ogt rfl rfl) (zA0 ?_)))))))))
 refine gQ rfl (fun c1 => ?_) (fun c1 => ?_)
 refine xM (yX (zI (zL rfl (tal fun b9 => (zA0 (zI (zI (jW 17 mixed rfl rfl (d1 (omv rfl) ?_)))))))))
 refine d1 (oln rfl) (d1 (oeq rfl rfl) (d1 (omv rfl) (d1g rfl rfl (omv rfl) (d1g rfl rfl (oln rfl) (d1g rfl rfl (ogt rfl rfl) (d1g rfl rfl (omv rfl) (d1g rfl rfl (omv rfl) ?_)))))))
 refine d1g rfl rfl (oix _ rfl rfl rfl (fun g => rfl) (fun g => ?_)) ?_
 rotate_left 1
 refine d1g rfl rfl (old rfl rfl) (d1g rfl rfl (omv rfl) ?_)
 refine d1g rfl rfl (oix _ rfl rfl rfl (fun g => rfl) (fun g => ?_)) ?_
 rotate_left 1
 refine d1g rfl rfl (old rfl rfl) (d1g rfl rfl (oca rfl rfl fun g => kahead (by omega) (by omega)) (d1g rfl rfl (opk rfl rfl rfl) (d1 (opk rfl rfl rfl) (d0 (zA0 ?_)))))
 refine gQ rfl (fun c2 => ?_) (fun c2 => ?_)
 apply t_drawV 0 6 0 5 [(5, 999, 0)] rfl rfl rfl mixed rfl rfl rfl
 refine cx1 (omv rfl) rfl ?_
 refine cx1 (oix _ rfl rfl rfl (fun _ => rfl) (fun _ => ?_)) rfl ?_
 rotate_left 1
 refine cx1 (old rfl rfl) rfl (cx1 (omv rfl) rfl ?_)
 refine cx1 (osl _ _ rfl ⟨_, _, _, _, rfl, fun _ => trivial, inferInstance, fun _ => rfl⟩ (fun _ => rfl) (fun _ => ?_) (fun _ => (by omega))) rfl ?_
 rotate_left 1
 refine cV rfl rfl (cstv rfl rfl rfl rfl) ?_
 refine cE ?_
 refine zA1 (oas rfl) (zA0 (zI (zL rfl (zA1 (kA 2 rfl rfl rfl rfl) (zA1 (kA 0 rfl rfl rfl rfl) ?_)))))
 refine zA1 (oca rfl rfl fun _ => sR (N := n + m + 3) (by omega) (by omega) ?_) ?_
 rotate_left 1
 refine tst 2 rfl rfl rfl rfl rfl rfl (zA0 (zI (zI (zL rfl (zA1 (omv rfl) (zA1 (oln rfl) (zA1 (omv rfl) (zA1 (oln rfl) (zA1 (oad rfl rfl (by (simp; omega))) ?_)))))))))
 refine zA1 (oeq rfl rfl) (zA0 ?_)
 refine gQ rfl (fun c3 => ?_) (fun c3 => ?_)
 refine qE (zI (zL rfl (zA1 (omv rfl) ?_)))
 rotate_left 1
 refine xM (zL rfl (zA1 (omv rfl) (zA1 (kA 2 rfl rfl rfl rfl) (zA1 (obs rfl rfl rfl rfl rfl rfl) (tap 1 rfl rfl rfl (by (simp; omega)) rfl fun r82 => (zA1 (oas rfl) (zA0 ?_)))))))
 rotate_left 1
 apply t_drawV 0 6 0 5 [(5, 999, 0)] rfl rfl rfl mixed rfl rfl rfl
 refine cx1 (omv rfl) rfl ?_
 refine cx1 (oix _ rfl rfl rfl (fun _ => rfl) (fun _ => ?_)) rfl ?_
 rotate_left 1
 refine cx1 (old rfl rfl) rfl (cx1 (omv rfl) rfl ?_)
 refine cx1 (osl _ _ rfl ⟨_, _, _, _, rfl, fun _ => trivial, inferInstance, fun _ => rfl⟩ (fun _ => rfl) (fun _ => ?_) (fun _ => (by omega))) rfl ?_
 rotate_left 1
 refine cV rfl rfl (cstv rfl rfl rfl rfl) ?_
 refine cE ?_
 refine zA1 (oas rfl) (zA0 (zI (zL rfl (zA1 (kA 2 rfl rfl rfl rfl) (zA1 (kA 0 rfl rfl rfl rfl) ?_)))))
 refine zA1 (oca rfl rfl fun _ => sR (N := n + m + 3) (by omega) (by omega) ?_) ?_
 rotate_left 1
 refine tst 2 rfl rfl rfl rfl rfl rfl (zA0 (zI (zI (zL rfl (zA1 (omv rfl) (zA1 (oln rfl) (zA1 (omv rfl) (zA1 (oln rfl) (zA1 (oad rfl rfl (by (simp; omega))) ?_)))))))))
 refine zA1 (oeq rfl rfl) (zA0 ?_)
 refine gQ rfl (fun c4 => ?_) (fun c4 => ?_)
 refine qE (zI (zL rfl (zA1 (omv rfl) ?_)))
 rotate_left 1
 refine xM (zL rfl (zA1 (omv rfl) (zA1 (kA 2 rfl rfl rfl rfl) (zA1 (obs rfl rfl rfl rfl rfl rfl) (tap 1 rfl rfl rfl (by (simp; omega)) rfl fun r82 => (zA1 (oas rfl) (zA0 ?_)))))))
 rotate_left 1
 refine qE (zI (zL rfl (zA1 (omv rfl) ?_)))
 rotate_left 1
 ·exact Int.ofNat_lt.1 (of_decide_eq_true g.2)
 ·have h2 := of_decide_eq_false g.1.2
  exact Nat.pos_of_ne_zero fun c => h2 (by rw [c]; rfl)
 ·obtain ⟨d, p', rfl, h3⟩ := vN (dt c1) c2; simp
 ·obtain ⟨d, p', rfl, h3⟩ := vN (dt c1) c2; simp
 ·obtain ⟨d, p', rfl, h3⟩ := vN (dt c1) c2
  obtain ⟨_, _, s, h4, h5⟩ := fE j (pX j h3)
  obtain ⟨x, hx, y, hy, e⟩ := way_at ha0 hb0 h4
  show plen (xB at1 d) _
  rw [h5, e]; exact hpl x hx y hy
 ·obtain ⟨d, p', rfl, h3⟩ := vN (dt c1) c2
  have h4 := (fE j (pX j h3)).1 (vL (by have := dt c3; rw [bE] at this; omega))
  rw [h4]
  refine bJ (bI 1 rfl (s := 83) rfl) ?_
  refine zA1 (oca rfl rfl fun _ => mQ (by omega) (by omega)) (zA1 (oas rfl) (zA0 (yS (⟨[_], rst rfl rs0, xA ?_⟩))))
  rotate_left 1
  rw [lU ha0 hb0]; exact PSub.refl _
 ·obtain ⟨d, p', rfl, h3⟩ := vN (dt c1) c2
  have h4 := (fE j (pX j h3)).2.1 fun c => df c3 (by rw [bE]; have := mrg_00 c; omega)
  have h5 := congrArg List.length h4.way
  rw [List.length_append] at h5
  refine ⟨((p', q), xB at1 d, out ++ [xB at1 d], r82), tes ?_ ?_ (by (simp; done)), ?_, (by (simp; done))⟩
  refine tc rfl (xC _) ?_
  refine tc rfl ?_ ?_
  rotate_left 1
  refine tc rfl (xC _) (tn)
  refine tc rfl (xC _) (tn)
  rotate_left 1
  ·rw [bE]; exact PSub.refl _
  ·simp only [List.length_cons] at j1
   refine ⟨h4, ?_, j2, ?_⟩ <;> dsimp only <;> omega
 ·obtain ⟨d, q', rfl, h3⟩ := vM c2; simp
 ·obtain ⟨d, q', rfl, h3⟩ := vM c2; simp
 ·obtain ⟨d, q', rfl, h3⟩ := vM c2
  obtain ⟨_, _, s, h4, h5⟩ := fE j (oG j h3)
  obtain ⟨x, hx, y, hy, e⟩ := way_at ha0 hb0 h4
  show plen (xB at1 d) _
  rw [h5, e]; exact hpl x hx y hy
 ·obtain ⟨d, q', rfl, h3⟩ := vM c2
  have h4 := (fE j (oG j h3)).1 (vL (by have := dt c4; rw [bE] at this; omega))
  rw [h4]
  refine bJ (bI 1 rfl (s := 83) rfl) ?_
  refine zA1 (oca rfl rfl fun _ => mQ (by omega) (by omega)) (zA1 (oas rfl) (zA0 (yS (⟨[_], rst rfl rs0, xA ?_⟩))))
  rotate_left 1
  rw [lU ha0 hb0]; exact PSub.refl _
 ·obtain ⟨d, q', rfl, h3⟩ := vM c2
  have h4 := (fE j (oG j h3)).2.1 fun c => df c4 (by rw [bE]; have := mrg_00 c; omega)
  have h5 := congrArg List.length h4.way
  rw [List.length_append] at h5
  refine ⟨((p, q'), xB at1 d, out ++ [xB at1 d], r82), tes ?_ ?_ (by (simp; done)), ?_, (by (simp; done))⟩
  refine tc rfl (xC _) (tc rfl (xC _) ?_)
  refine tc rfl ?_ ?_
  rotate_left 1
  refine tn
  refine tc rfl (xC _) (tn)
  rotate_left 1
  ·rw [bE]; exact PSub.refl _
  ·simp only [List.length_cons] at j2
   refine ⟨h4, j1, ?_, ?_⟩ <;> dsimp only <;> omega
 ·have h4 := j.way
  rw [vL (by have := df c1; omega), fY, List.append_nil] at h4
  rw [h4]
  refine bJ (bI 0 rfl (s := 83) rfl) ?_
  refine zA1 (oca rfl rfl fun _ => mQ (by omega) (by omega)) (zA1 (oas rfl) (zA0 (yS (⟨[_], rst rfl rs0, xA ?_⟩))))
  rotate_left 1
  rw [lU ha0 hb0]; exact PSub.refl _
theorem rB {Ψ Φ : PV} {a b : List P2} {n m : Nat} [h : VPt Ψ n a] [k : VPt Φ m b] (hn : n ≤ 300) (hm : m ≤ 300) (ha : a.length ≤ 100) (hb : b.length ≤ 100) : CTy prog 22 [Ψ, Φ] (sv (sl 6 ((sumF a b).map (ptc (n + m + 4))))) := cty_2pt (bo func22) fun h1 h2 => wsum hn hm ha hb h1 h2
end Go.Proofs.YtflobagimodmgaaGreatDoor
set_option maxHeartbeats 4000000
namespace Go.Proofs.YtflobagimodmgaaGreatDoor
open Go.SL Go.RowKit Go.Proofs Tryz
theorem k5ofn {k : Nat} (h0 : 0 < k) (hk : k < 1000000) : CTy prog 149 [exP (.int .i64 (-((k : Nat) : Int)))] (ag (ztc 2 (-((k : Nat) : Int)))) := by
 refine ctc func149 rfl rfl rfl rfl fun X => (zI (zL rfl (tal fun b2 => (zA0 (zI (zI (zL rfl (zA1 (omv rfl) (zA1 (olt rfl rfl) ?_)))))))))
 refine zA0 ?_
 refine gQ rfl (fun c0 => ?_) (fun c0 => ?_)
 refine zI (zL rfl (zA1 (omv rfl) (zA1 (oad rfl rfl (by omega)) (zA1 (iT (ong rfl (fun _ => by omega)) (dV (show -(-((k : Nat) : Int) + 1) = (((k - 1 : Nat)) : Int) by omega))) (zA1 (ocv64 rfl (by omega)) (zA1 (iT (oadv rfl rfl (by omega)) (dV (show (((k - 1 + 1 : Nat)) : Int) = ((k : Nat) : Int) by omega))) (zA1 (oca rfl rfl fun _ => wQ (n := k) (by omega)) ?_)))))))
 refine zA1 (obd rfl rfl rfl) (tst 0 rfl rfl rfl rfl rfl rfl (zA0 (yS (⟨[_], rsc 0 rfl rfl rfl rfl rs0, xA ?_⟩))))
 rotate_left 1
 refine xM (zI (zL rfl (zA1 (omv rfl) ?_)))
 rotate_left 1
 ·exact ps_z (decide_eq_true (by omega)).symm (by omega) (limbs2 (by omega))
 ·exact absurd (by omega : (-(k : Int)) < 0) (df c0)
theorem sub_nought (p : P2) : yK (((0 : Nat) : Rat), ((0 : Nat) : Rat)) p = xO p := by
 unfold yK xO; rw [Prod.ext_iff]; constructor <;> simp only <;> grind
theorem kvneg {Ψ : PV} {p : P2} {n : Nat} [h : QP Ψ n p] (hn : n ≤ 800) : CTy prog 82 [Ψ] (ag (ptc (n + 5) (xO p))) := by
 refine aR (σs := [ag (ptq n p)]) ?_ (fs1 lV fs0)
 refine ctc func82 rfl rfl rfl rfl fun X => (zI (zL rfl (zA1 (obx rfl) (tal fun b2 => (zA0 (zI (jW 3 mixed rfl rfl (d1 (oca rfl rfl fun _ => kvof (by (simp; done)) (by (simp; done))) (d1 (old rfl rfl) ?_)))))))))
 refine d1 (oca rfl rfl fun _ => tL (by omega) (by omega)) (d0 (tst 0 rfl rfl rfl rfl rfl rfl (zA0 (yS (⟨[_], rsc 0 rfl rfl rfl rfl rs0, xA ?_⟩)))))
 rotate_left 1
 exact vE (p := yK (((0 : Nat) : Rat), ((0 : Nat) : Rat)) p) (sub_nought p) (by omega)
theorem k8alike {p q : P2} {n m : Nat} (hn : n ≤ 1990) (hm : m ≤ 1990) : CTy prog 75 [ag (ptc n p), ag (ptc m q)] (exP (.bool (decide (p = q)))) := by
 refine ctc func75 rfl rfl rfl rfl fun X => (zI (zL rfl (zA1 (obx rfl) (zA1 (obx rfl) (zA1 (oas rfl) (zA0 (zI (zL rfl (zA1 (ofa rfl rfl) ?_)))))))))
 refine zA1 (old rfl rfl) (zA1 (ofa rfl rfl) (zA1 (old rfl rfl) (zA1 (oca rfl rfl fun _ => k7told (by omega) (by omega)) (zA1 (omv rfl) (t1g rfl rfl (ofa rfl rfl) (t1g rfl rfl (old rfl rfl) (t1g rfl rfl (ofa rfl rfl) (t1g rfl rfl (old rfl rfl) (t1g rfl rfl (oca rfl rfl fun g => k7told (by omega) (by omega)) ?_)))))))))
 refine zA1 (opk rfl rfl rfl) (zA1 (oas rfl) (zA0 (yS (⟨[_], rst rfl rs0, xA ?_⟩))))
 refine psb ?_
 rotate_left 1
 rw [← Bool.decide_and, decide_eq_decide, Prod.ext_iff]
theorem oO {l k : List P2} {n m : Nat} (hn : n ≤ 1990) (hm : m ≤ 1990) : CTy prog 14 [sv (sl 6 (l.map (ptc n))), sv (sl 6 (k.map (ptc m)))] (exP (.bool (decide (l = k)))) := by
 refine ctc func14 rfl rfl rfl rfl fun X => (zI (zL rfl (zA1 (oas rfl) (zA0 (zI (zI (zL rfl (zA1 (omv rfl) (zA1 (oln rfl) ?_)))))))))
 refine zA1 (omv rfl) (zA1 (oln rfl) (zA1 (oni rfl rfl) (zA0 ?_)))
 refine gQ rfl (fun c0 => ?_) (fun c0 => ?_)
 refine zI (zL rfl (zA1 (oas rfl) (zA0 (yS (⟨[_], rst rfl rs0, xA ?_⟩)))))
 refine psb ?_
 rotate_left 1
 refine xM (zI (zI (zL rfl (zA1 (oas rfl) (zA0 (yX ?_))))))
 rotate_left 1
 ·have := dt c0
  rw [decide_eq_false fun e => this (by rw [e])]
 ·have hlk : l.length = k.length := by have := df c0; omega
  refine t_len 0 rfl fun hL => ?_
  rw [List.length_map] at hL
  refine qI (σ := Nat) (fun i => [(5, True, exP (.int .i64 ((i : Nat) : Int)))]) (fun i => []) (fun i => i ≤ l.length ∧ l.take i = k.take i) (fun i => l.length - i) (0) (tk 0 rfl (tk 1 rfl tn)) ?_ rfl (⟨by omega, by simp⟩) (fun i hJ Y _ => ?_)
  refine tc rfl (xC _) (tn)
  rotate_left 1
  obtain ⟨hi, hs⟩ := hJ
  refine zI (zI (zL rfl (zA1 (omv rfl) (zA1 (omv rfl) (zA1 (oln rfl) (zA1 (olt rfl rfl) (zA0 ?_)))))))
  refine gQ rfl (fun c1 => ?_) (fun c1 => ?_)
  refine xM (zI (yX (zI (jW 10 mixed rfl rfl (d1 (omv rfl) (d1 (omv rfl) (d1 (oix _ rfl rfl rfl (fun _ => rfl) (fun _ => (by (have e0 := dt c1; omega)))) (d1 (old rfl rfl) (d1 (omv rfl) ?_)))))))))
  refine d1 (omv rfl) (d1 (oix _ rfl rfl rfl (fun _ => rfl) (fun _ => (by (have e0 := dt c1; omega)))) (d1 (old rfl rfl) (d1 (oca rfl rfl fun _ => k8alike (by omega) (by omega)) (d1 (ont rfl) (d0 (zA0 ?_))))))
  refine gQ rfl (fun c2 => ?_) (fun c2 => ?_)
  refine zI (zL rfl (zA1 (oas rfl) (zA0 (yS (⟨[_], rst rfl rs0, xA ?_⟩)))))
  refine psb ?_
  rotate_left 1
  refine xM (zL rfl (zA1 (omv rfl) (zA1 (oad rfl rfl (by (have e0 := dt c1; omega))) (zA1 (oas rfl) (zA0 ?_)))))
  rotate_left 1
  refine qE (zI (zL rfl (zA1 (oas rfl) (zA0 (yS (⟨[_], rst rfl rs0, xA ?_⟩))))))
  refine psb ?_
  rotate_left 1
  ·rw [decide_eq_false fun e => by have h := c2.h; rw [e] at h; simp at h]
  ·have h2 : l.getD i Df.d = k.getD i Df.d := by have h := c2.h; simpa using h
   refine ⟨i + 1, tes ?_ ?_ (List.Sublist.refl _), ?_, (by (have e0 := dt c1; omega))⟩
   refine tc rfl (xC _) (tn)
   refine tc rfl (xC _) (tc rfl (xC _) (tn))
   rotate_left 1
   have h3 := dt c1
   exact ⟨by omega, by rw [(jT (Df.d : P2) (l := l) (by omega)).1, (jT (Df.d : P2) (l := k) (by omega)).1, hs, h2]⟩
  ·have h3 := df c1
   rw [List.take_of_length_le (by omega), List.take_of_length_le (by omega)] at hs
   exact (decide_eq_true hs).symm
theorem kmflip {l : List P2} {n : Nat} (hn : n ≤ 300) (hl : l.length ≤ 100) : CTy prog 24 [sv (sl 6 (l.map (ptq n)))] (sv (sl 6 ((l.map xO).map (ptc (n + 5))))) := by
 refine ctc func24 rfl rfl rfl rfl fun X => (zI (zL rfl (zA1 (oas rfl) (zA0 (zI (zI (zL rfl (zA1 (omv rfl) (zA1 (oln rfl) ?_)))))))))
 refine zA1 (omv rfl) (zA0 (yX ?_))
 rotate_left 1
 refine eF (nT 35 6) ?_
 refine qI (σ := Nat × Value) (fun s => [(2, True, exP s.2), (7, True, exP (.int .i64 ((s.1 : Nat) : Int)))]) (fun s => [.row s.2 35 6 (((l.take s.1).map xO).map (ptc (n + 5)))]) (fun s => s.1 ≤ l.length) (fun s => l.length - s.1) ((0, .slice none 0 0)) (tk 5 rfl (tk 6 rfl tn)) ?_ rfl ((by simp)) (fun s hJ Y _ => ?_)
 refine tc rfl (xC _) (tc rfl (xC _) (tn))
 rotate_left 1
 refine zI (zL rfl (zA1 (olt rfl rfl) (zA0 (zI ?_))))
 refine gQ rfl (fun c0 => ?_) (fun c0 => ?_)
 refine xM (zI (yX (zI (zL rfl (zA1 (oix _ rfl rfl rfl (fun _ => rfl) (fun _ => (by (have e0 := dt c0; omega)))) (zA1 (old rfl rfl) (tal fun b4 => (tst 0 rfl rfl rfl rfl rfl rfl (bJ (dC (s := 4) 0 rfl rfl) ?_)))))))))
 refine zA0 (zL rfl (zA1 (omv rfl) (zA1 (old rfl rfl) (zA1 (oca rfl rfl fun _ => kvneg (by omega)) (zA1 (obs rfl rfl rfl rfl rfl rfl) (tap 0 rfl rfl rfl (by (simp; omega)) rfl fun r15 => (zA1 (oas rfl) (zA0 (zL rfl ?_)))))))))
 refine zA1 (oad rfl rfl (by omega)) (zA1 (omv rfl) (zA0 ?_))
 rotate_left 1
 refine qE (zI (zL rfl (zA1 (omv rfl) (zA1 (oas rfl) (zA0 (eF (bI (s := 2) 0 rfl rfl) (yS (⟨[_], rst rfl rs0, xA ?_⟩))))))))
 rotate_left 1
 ·refine ⟨(s.1 + 1, r15), tes ?_ ?_ ?_, (by (have e0 := dt c0; omega)), (by (have e0 := dt c0; omega))⟩
  refine tc rfl (xC _) (tc rfl (xC _) (tn))
  refine tc rfl (xC _) (tc rfl (xC _) (tn))
  rotate_left 1
  rw [(jT (Df.d : P2) (show s.1 < l.length by have := dt c0; omega)).1, List.map_append, List.map_append]
  rw [Nat.max_self]
  exact List.Sublist.refl _
 ·have h0 := df c0
  rw [List.take_of_length_le (by omega)]
  exact PSub.refl _
end Go.Proofs.YtflobagimodmgaaGreatDoor
set_option maxHeartbeats 4000000
namespace Go.Proofs.YtflobagimodmgaaGreatDoor
open Go.SL Go.RowKit Go.Proofs Tryz
theorem one_nat {M : Nat → Prop} {w : World} {us : List Value} (h : (sl 1 [xc (.int .u32 1)]).p M w us) : (ntc 1 1).p M w us := by
 obtain ⟨u, vs, rfl, h1, ⟨x, y, e1, e2, h2⟩, _⟩ := h
 obtain rfl : y = [] := h2
 have h3 : x = [.int .u32 1] := e2.1
 subst h3 e1
 have h4 : IsNat M w u [1] := ⟨h1, by simp⟩
 refine ⟨u, rfl, ⟨[1], h4, by simp, by simp [val]⟩, ?_⟩
 rw [show limbs 1 = [1] by rw [uE (by decide)]; simp [yT]]; exact h4
theorem ps_int {n N : Nat} {q : Rat} {z : Int} (h1 : z = q.num) (h2 : 1 = q.den) (hn : n ≤ N) (hm : 1 ≤ N) : PSub (ag (st [ztc n z, sl 1 [xc (.int .u32 1)]])) (ag (rtc N q)) := fun M w v ⟨us, e, x, y, e1, k1, u, o, e2, k2, e3⟩ => ps_num h1 h2 hn hm M w v ⟨us, e, x, y, e1, k1, u, o, e2, one_nat k2, e3⟩
theorem neg_int (k : Nat) : (-((k : Nat) : Int)) = (-((k : Nat) : Rat)).num ∧ 1 = (-((k : Nat) : Rat)).den := by
 rw [Rat.neg_num, Rat.neg_den]; exact ⟨rfl, rfl⟩
theorem k7ofn {k : Nat} (h0 : 0 < k) (hk : k < 1000000) : CTy prog 94 [exP (.int .i64 (-((k : Nat) : Int)))] (ag (rtc 2 (-((k : Nat) : Rat)))) := by
 refine ctc func94 rfl rfl rfl rfl fun X => (zI (zL rfl (tal fun b2 => (zA0 (zI (zL rfl (zA1 (omv rfl) (zA1 (oca rfl rfl fun _ => k5ofn (by omega) (by omega)) (zA1 (obs rfl rfl rfl rfl rfl rfl) ?_)))))))))
 refine zA1 (obd rfl rfl rfl) (tst 0 rfl rfl rfl rfl rfl rfl (zA0 (yS (⟨[_], rsc 0 rfl rfl rfl rfl rs0, xA ?_⟩))))
 rotate_left 1
 exact ps_int (neg_int k).1 (neg_int k).2 (Nat.le_refl _) (by omega)
theorem kpt {x y : Nat} (hx : x < 1000000) (hy : y < 1000000) : CTy prog 32 [exP (.int .i64 ((x : Nat) : Int)), exP (.int .i64 ((y : Nat) : Int))] (ag (ptc 2 (((x : Nat) : Rat), ((y : Nat) : Rat)))) := by
 refine ctc func32 rfl rfl rfl rfl fun X => (zI (zL rfl (tal fun b4 => (zA0 (zI (zL rfl (zA1 (omv rfl) (zA1 (omv rfl) (zA1 (oca rfl rfl fun _ => k8of (by omega) (by omega)) ?_)))))))))
 refine tst 0 rfl rfl rfl rfl rfl rfl (zA0 (yS (⟨[_], rsc 0 rfl rfl rfl rfl rs0, xA (PSub.refl _)⟩)))
theorem k8ofx {x y : Nat} (h0 : 0 < x) (hx : x < 1000000) (hy : y < 1000000) : CTy prog 85 [exP (.int .i64 (-((x : Nat) : Int))), exP (.int .i64 ((y : Nat) : Int))] (ag (ptc 2 (-((x : Nat) : Rat), ((y : Nat) : Rat)))) := by
 refine ctc func85 rfl rfl rfl rfl fun X => (zI (zL rfl (tal fun b4 => (zA0 (zI (zL rfl (zA1 (omv rfl) (zA1 (oca rfl rfl fun _ => k7ofn (by omega) (by omega)) (zA1 (omv rfl) ?_)))))))))
 refine zA1 (oca rfl rfl fun _ => wD (by omega)) ?_
 refine zA1 (obd rfl rfl rfl) (tst 0 rfl rfl rfl rfl rfl rfl (zA0 (yS (⟨[_], rsc 0 rfl rfl rfl rfl rs0, xA (PSub.refl _)⟩))))
theorem k8ofy {x y : Nat} (h0 : 0 < y) (hx : x < 1000000) (hy : y < 1000000) : CTy prog 85 [exP (.int .i64 ((x : Nat) : Int)), exP (.int .i64 (-((y : Nat) : Int)))] (ag (ptc 2 (((x : Nat) : Rat), -((y : Nat) : Rat)))) := by
 refine ctc func85 rfl rfl rfl rfl fun X => (zI (zL rfl (tal fun b4 => (zA0 (zI (zL rfl (zA1 (omv rfl) (zA1 (oca rfl rfl fun _ => wD (by omega)) (zA1 (omv rfl) ?_)))))))))
 refine zA1 (oca rfl rfl fun _ => k7ofn (by omega) (by omega)) ?_
 refine zA1 (obd rfl rfl rfl) (tst 0 rfl rfl rfl rfl rfl rfl (zA0 (yS (⟨[_], rsc 0 rfl rfl rfl rfl rs0, xA (PSub.refl _)⟩))))
theorem kptx {x y : Nat} (h0 : 0 < x) (hx : x < 1000000) (hy : y < 1000000) : CTy prog 32 [exP (.int .i64 (-((x : Nat) : Int))), exP (.int .i64 ((y : Nat) : Int))] (ag (ptc 2 (-((x : Nat) : Rat), ((y : Nat) : Rat)))) := by
 refine ctc func32 rfl rfl rfl rfl fun X => (zI (zL rfl (tal fun b4 => (zA0 (zI (zL rfl (zA1 (omv rfl) (zA1 (omv rfl) (zA1 (oca rfl rfl fun _ => k8ofx (by omega) (by omega) (by omega)) ?_)))))))))
 refine tst 0 rfl rfl rfl rfl rfl rfl (zA0 (yS (⟨[_], rsc 0 rfl rfl rfl rfl rs0, xA (PSub.refl _)⟩)))
theorem kpty {x y : Nat} (h0 : 0 < y) (hx : x < 1000000) (hy : y < 1000000) : CTy prog 32 [exP (.int .i64 ((x : Nat) : Int)), exP (.int .i64 (-((y : Nat) : Int)))] (ag (ptc 2 (((x : Nat) : Rat), -((y : Nat) : Rat)))) := by
 refine ctc func32 rfl rfl rfl rfl fun X => (zI (zL rfl (tal fun b4 => (zA0 (zI (zL rfl (zA1 (omv rfl) (zA1 (omv rfl) (zA1 (oca rfl rfl fun _ => k8ofy (by omega) (by omega) (by omega)) ?_)))))))))
 refine tst 0 rfl rfl rfl rfl rfl rfl (zA0 (yS (⟨[_], rsc 0 rfl rfl rfl rfl rs0, xA (PSub.refl _)⟩)))
abbrev wkT : List P2 := [(((0 : Nat) : Rat), ((0 : Nat) : Rat)), (((2 : Nat) : Rat), ((0 : Nat) : Rat)), (((1 : Nat) : Rat), ((0 : Nat) : Rat)), (((0 : Nat) : Rat), ((2 : Nat) : Rat))]
abbrev wkH : List P2 := [(((0 : Nat) : Rat), ((0 : Nat) : Rat)), (((2 : Nat) : Rat), ((0 : Nat) : Rat)), (((0 : Nat) : Rat), ((2 : Nat) : Rat))]
abbrev wkE : List P2 := [(((0 : Nat) : Rat), ((0 : Nat) : Rat)), (((1 : Nat) : Rat), ((0 : Nat) : Rat))]
abbrev wkS : List P2 := [(((0 : Nat) : Rat), ((0 : Nat) : Rat)), (((3 : Nat) : Rat), ((0 : Nat) : Rat)), (((1 : Nat) : Rat), ((2 : Nat) : Rat)), (((0 : Nat) : Rat), ((2 : Nat) : Rat))]
theorem hull_sorted {l m h : List P2} (h1 : m.Pairwise fun a b => uS a b < 0) (h2 : ∀ x, x ∈ m ↔ x ∈ l) (h3 : uQ m = h) : hullF l = h := by
 unfold hullF; rw [← IsSet.eq oS ⟨h1, h2⟩, h3]
theorem wk_hull : hullF wkT = wkH := hull_sorted (m := [(0, 0), (0, 2), (1, 0), (2, 0)]) (by decide) (fun x => by simp; grind) (by decide +kernel)
theorem wk_sum : sumF wkH wkE = wkS := hull_sorted (m := [(0, 0), (0, 2), (1, 0), (1, 2), (2, 0), (3, 0)]) (by decide) (fun x => by simp [cF, xB]; grind) (by decide +kernel)
abbrev wkF : List P2 := [(((0 : Nat) : Rat), ((0 : Nat) : Rat)), (-((2 : Nat) : Rat), ((0 : Nat) : Rat)), (((0 : Nat) : Rat), -((2 : Nat) : Rat))]
theorem wk_flip : wkH.map xO = wkF := by decide
theorem nF {Ψ : PV} {l : List P2} {n : Nat} [h : VPt Ψ n l] (hn : n ≤ 300) (hl : l.length ≤ 100) : CTy prog 24 [Ψ] (sv (sl 6 ((l.map xO).map (ptc (n + 5))))) := aR (kmflip hn hl) (fs1 pA fs0)
theorem kwk20 : CTy prog 12 [] (exP (.bool true)) := by
 have hs : (hullF wkT).length ≤ 100 := by rw [wk_hull]; decide
 refine ctc func12 rfl rfl rfl rfl fun X => (zI (zL rfl (zA1 (oas rfl) (zA0 (zI (zL rfl (zA1 (oca rfl rfl fun _ => kpt (x := 0) (y := 0) (by omega) (by omega)) (zA1 (oca rfl rfl fun _ => kpt (x := 2) (y := 0) (by omega) (by omega)) (zA1 (oca rfl rfl fun _ => kpt (x := 1) (y := 0) (by omega) (by omega)) ?_)))))))))
 refine zA1 (oca rfl rfl fun _ => kpt (x := 0) (y := 2) (by omega) (by omega)) (zA1 (iT (obs rfl rfl rfl rfl rfl rfl) (sM (show _ = sv (sl 6 (wkT.map (ptc 2))) from rfl))) (zA1 (oca rfl rfl fun _ => mQ (l := wkT) (by omega) (by (simp; done))) (zA1 (oas rfl) (zA0 (zI (zL rfl (zA1 (omv rfl) (zA1 (oca rfl rfl fun _ => kpt (x := 0) (y := 0) (by omega) (by omega)) (zA1 (oca rfl rfl fun _ => kpt (x := 1) (y := 0) (by omega) (by omega)) ?_)))))))))
 refine zA1 (iT (obs rfl rfl rfl rfl rfl rfl) (sM (show _ = sv (sl 6 (wkE.map (ptc 2))) from rfl))) (zA1 (oca rfl rfl fun _ => rB (b := wkE) (by omega) (by omega) (by omega) (by (simp; done))) (zA1 (oas rfl) (zA0 (zI (zL rfl (zA1 (omv rfl) (zA1 (oca rfl rfl fun _ => kpt (x := 0) (y := 0) (by omega) (by omega)) (zA1 (oca rfl rfl fun _ => kpt (x := 2) (y := 0) (by omega) (by omega)) (zA1 (oca rfl rfl fun _ => kpt (x := 0) (y := 2) (by omega) (by omega)) ?_)))))))))
 refine zA1 (iT (obs rfl rfl rfl rfl rfl rfl) (sM (show _ = sv (sl 6 (wkH.map (ptc 2))) from rfl))) (zA1 (oca rfl rfl fun _ => oO (by omega) (by omega)) (zA1 (omv rfl) (t1g rfl rfl (omv rfl) (t1g rfl rfl (oca rfl rfl fun _ => kpt (x := 0) (y := 0) (by omega) (by omega)) (t1g rfl rfl (oca rfl rfl fun _ => kpt (x := 3) (y := 0) (by omega) (by omega)) (t1g rfl rfl (oca rfl rfl fun _ => kpt (x := 1) (y := 2) (by omega) (by omega)) (t1g rfl rfl (oca rfl rfl fun _ => kpt (x := 0) (y := 2) (by omega) (by omega)) (t1g rfl rfl (iT (obs rfl rfl rfl rfl rfl rfl) (sM (show _ = sv (sl 6 (wkS.map (ptc 2))) from rfl))) (t1g rfl rfl (oca rfl rfl fun g => oO (by omega) (by omega)) ?_)))))))))
 refine zA1 (opk rfl rfl rfl) (zA1 (omv rfl) (t1g rfl rfl (omv rfl) (t1g rfl rfl (oca rfl rfl fun g => nF (by omega) (by omega)) (t1g rfl rfl (oca rfl rfl fun _ => kpt (x := 0) (y := 0) (by omega) (by omega)) (t1g rfl rfl (oca rfl rfl fun _ => kptx (x := 2) (y := 0) (by omega) (by omega) (by omega)) (t1g rfl rfl (oca rfl rfl fun _ => kpty (x := 0) (y := 2) (by omega) (by omega) (by omega)) (t1g rfl rfl (iT (obs rfl rfl rfl rfl rfl rfl) (sM (show _ = sv (sl 6 (wkF.map (ptc 2))) from rfl))) (t1g rfl rfl (oca rfl rfl fun g => oO (by omega) (by omega)) (zA1 (opk rfl rfl rfl) ?_)))))))))
 refine zA1 (oas rfl) (zA0 (yS (⟨[_], rst rfl rs0, xA ?_⟩)))
 refine psb ?_
 rotate_left 1
 rw [wk_hull, wk_sum, wk_flip]; simp
end Go.Proofs.YtflobagimodmgaaGreatDoor
set_option maxHeartbeats 4000000
namespace Go.Proofs.YtflobagimodmgaaGreatDoor
open Go.SL Go.RowKit Go.Proofs Tryz
def vP (l : List PX) : Bool := l.any fun a => decide (2 < mV a)
theorem long_at {l : List PX} {i : Nat} (h : i < l.length) (k : 2 < mV (l.getD i Df.d)) : vP l = true := by
 rw [List.getD_eq_getElem?_getD, List.getElem?_eq_getElem h, Option.getD_some] at k
 exact List.any_eq_true.2 ⟨_, List.getElem_mem h, decide_eq_true k⟩
theorem tM {l : List PX} : CTy prog 21 [sv (pcx l)] (exP (.bool (vP l))) := by
 refine ctc func21 rfl rfl rfl rfl fun X => (zI (zL rfl (zA1 (oas rfl) (zA0 (zI (zI (zL rfl (zA1 (oas rfl) (zA0 ?_)))))))))
 refine yX ?_
 rotate_left 1
 refine t_len 0 rfl fun hL => ?_
 rw [List.length_map] at hL
 refine qI (σ := Nat) (fun i => [(3, True, exP (.int .i64 ((i : Nat) : Int)))]) (fun i => []) (fun i => i ≤ l.length ∧ ∀ j, j < i → mV (l.getD j Df.d) ≤ 2) (fun i => l.length - i) (0) (tk 0 rfl tn) ?_ rfl (⟨by omega, by omega⟩) (fun i hJ Y _ => ?_)
 refine tc rfl (xC _) (tn)
 rotate_left 1
 obtain ⟨hi, hs⟩ := hJ
 refine zI (zI (zL rfl (zA1 (omv rfl) (zA1 (omv rfl) (zA1 (oln rfl) (zA1 (olt rfl rfl) (zA0 ?_)))))))
 refine gQ rfl (fun c0 => ?_) (fun c0 => ?_)
 refine xM (zI (yX (zI (jW 32 mixed rfl rfl (d1 (omv rfl) (d1 (omv rfl) (d1 (oix _ rfl rfl rfl (fun _ => rfl) (fun _ => (by (have e0 := dt c0; omega)))) (d1 (ofa rfl rfl) (d1 (ofa rfl rfl) ?_)))))))))
 refine d1 (ofa rfl rfl) (d1 (old rfl rfl) (d1 (oln rfl) (d1 (omv rfl) (d1 (omv rfl) (d1 (oix _ rfl rfl rfl (fun _ => rfl) (fun _ => (by (have e0 := dt c0; omega)))) (d1 (ofa rfl rfl) (d1 (ofa rfl rfl) (d1 (old rfl rfl) (d1 (oln rfl) ?_)))))))))
 refine d1 (omv rfl) (d1 (omv rfl) (d1 (oix _ rfl rfl rfl (fun _ => rfl) (fun _ => (by (have e0 := dt c0; omega)))) (d1 (ofa rfl rfl) (d1 (ofa rfl rfl) (d1 (ofa rfl rfl) (d1 (old rfl rfl) (d1 (oln rfl) (d1 (omv rfl) (d1 (omv rfl) ?_)))))))))
 refine d1 (oix _ rfl rfl rfl (fun _ => rfl) (fun _ => (by (have e0 := dt c0; omega)))) (d1 (ofa rfl rfl) (d1 (ofa rfl rfl) (d1 (old rfl rfl) (d1 (oln rfl) (d1 (omx4 rfl rfl rfl rfl) (d1 (ogt rfl rfl) (d0 (zA0 ?_))))))))
 refine gQ rfl (fun c1 => ?_) (fun c1 => ?_)
 refine zI (zL rfl (zA1 (oas rfl) (zA0 (yS (⟨[_], rst rfl rs0, xA ?_⟩)))))
 refine psb ?_
 rotate_left 1
 refine xM (zL rfl (zA1 (omv rfl) (zA1 (oad rfl rfl (by (have e0 := dt c0; have e1 := df c1; omega))) (zA1 (oas rfl) (zA0 ?_)))))
 rotate_left 1
 refine qE (zI (zL rfl (zA1 (oas rfl) (zA0 (yS (⟨[_], rst rfl rs0, xA ?_⟩))))))
 refine psb ?_
 rotate_left 1
 ·exact (long_at (i := i) (by have := dt c0; omega) (by have := dt c1; unfold mV; omega)).symm
 ·refine ⟨i + 1, tes ?_ ?_ (List.Sublist.refl _), ?_, (by (have e0 := dt c0; have e1 := df c1; omega))⟩
  refine tc rfl (xC _) (tn)
  refine tc rfl (xC _) (tn)
  rotate_left 1
  refine ⟨by have := dt c0; omega, fun j hj => ?_⟩
  rcases Nat.lt_or_ge j i with c | c
  ·exact hs j c
  ·rw [show j = i by omega]; have := df c1; unfold mV; omega
 ·have := df c0
  symm; rw [Bool.eq_false_iff]; intro h
  obtain ⟨a, ha, h⟩ := List.any_eq_true.1 h
  obtain ⟨k, hk, rfl⟩ := List.mem_iff_getElem.1 ha
  have h1 := hs k (by omega)
  rw [List.getD_eq_getElem?_getD, List.getElem?_eq_getElem hk, Option.getD_some] at h1
  have := of_decide_eq_true h; omega
end Go.Proofs.YtflobagimodmgaaGreatDoor
set_option maxHeartbeats 4000000
namespace Go.Proofs.YtflobagimodmgaaGreatDoor
open Go.SL Go.RowKit Go.Proofs Tryz
theorem tH {n : Nat} {l : List PX} (h : ∀ a ∈ l, mV a ≤ n) : PSub (sv (pcx l)) (sv (pcs n (l.map px))) := fun M w v k => by
 unfold pcx pcs at *
 rw [List.map_map]
 exact ct_row (f := ptx) (g := ptq n ∘ px) (fun a ha _ _ _ => by
  have := h a ha
  unfold mV m4 at this
  dsimp only at this
  exact ptx_q a (by omega) (by omega) (by omega) (by omega)) (fun _ => rfl) k
end Go.Proofs.YtflobagimodmgaaGreatDoor
set_option maxHeartbeats 4000000
namespace Go.Proofs.YtflobagimodmgaaGreatDoor
open Go.SL Go.RowKit Go.Proofs Tryz
theorem k18shc {Ψ Φ : PV} {l : List P2} {d : P2} {n m : Nat} [h : VPt Ψ n l] [k : QP Φ m d] (hn : n ≤ 400) (hm : m ≤ 400) (hl : l.length ≤ 100) : CTy prog 23 [Ψ, Φ] (sv (sl 6 ((l.map (xB · d)).map (ptc (2 * max n m + 8))))) :=
 aR (k18shift hn hm hl) (fs1 pA (fs1 lV fs0))
theorem sum_len' (a b : List P2) : (sumF a b).length ≤ a.length + b.length := by
 by_cases ha : a = []
 ·rw [mZ.2 (.inl ha)]; simp
 by_cases hb : b = []
 ·rw [mZ.2 (.inr hb)]; simp
 exact Go.SL.sum_len ha hb
theorem ptx_n {d : PX} {n : Nat} (h : mV d ≤ n) : PSub (ag (ptx d)) (ag (ptq n (px d))) := fun M w v ⟨us, e, k⟩ => by
 unfold mV m4 at h
 dsimp only at h
 exact ⟨us, e, ptx_q d (by omega) (by omega) (by omega) (by omega) k⟩
theorem one_n {d : PX} {n : Nat} (h : mV d ≤ n) : PSub (sv (sl 6 [ptx d])) (sv (sl 6 ([px d].map (ptq n)))) := tH (l := [d]) (by simpa using h)
instance vpt_nil : VPt (exP (.slice none 0 0)) 1 [] := ⟨fun h => (inferInstance : VPt (sv (sl 6 (([] : List P2).map (ptq 1)))) 1 []).h (ps_nil0 _ _ _ h)⟩
theorem law_MinkSums {a b c : List PX} {d : PX} : CTy prog 4 [sv (pcx a), sv (pcx b), sv (pcx c), ag (ptx d)] (exP (.bool true)) := by
 refine ctc func4 rfl rfl rfl rfl fun X => (zI (zL rfl (zA1 (obx rfl) (zA1 (oas rfl) (zA0 (zI (zI (zL rfl (zA1 (omv rfl) ?_)))))))))
 refine zA1 (oln rfl) (zA1 (omv rfl) (zA1 (oln rfl) (zA1 (omx rfl rfl) (zA1 (ogt rfl rfl) (zA1 (omv rfl) (t1g rfl rfl (omv rfl) (t1g rfl rfl (oln rfl) (t1g rfl rfl (ogt rfl rfl) (zA1 (opk rfl rfl rfl) ?_)))))))))
 refine zA1 (omv rfl) (t1g rfl rfl (omv rfl) (t1g rfl rfl (oca rfl rfl fun g => tM) (zA1 (opk rfl rfl rfl) (zA1 (omv rfl) (t1g rfl rfl (omv rfl) (t1g rfl rfl (oca rfl rfl fun g => tM) (zA1 (opk rfl rfl rfl) (zA1 (omv rfl) (t1g rfl rfl (omv rfl) ?_)))))))))
 refine t1g rfl rfl (oca rfl rfl fun g => tM) (zA1 (opk rfl rfl rfl) (zA1 (omv rfl) (t1g rfl rfl (old rfl rfl) (t1g rfl rfl (obs rfl rfl rfl rfl rfl rfl) (t1g rfl rfl (oca rfl rfl fun _ => tM (l := [d])) (zA1 (opk rfl rfl rfl) (zA0 ?_)))))))
 refine gQ rfl (fun c0 => ?_) (fun c0 => ?_)
 refine zI (zL rfl (zA1 (oca rfl rfl fun _ => kwk20) (zA1 (oas rfl) (zA0 (yS (⟨[_], rst rfl rs0, xA (PSub.refl _)⟩))))))
 rotate_left 1
 have h := c0.h
 simp only [Bool.or_eq_false_iff, decide_eq_false_iff_not] at h
 obtain ⟨⟨⟨⟨⟨h1, h2⟩, h3⟩, h4⟩, h5⟩, h6⟩ := h
 have long : ∀ {l : List PX}, vP l = false → ∀ x ∈ l, mV x ≤ 2 := fun {l} h x hx => by
  have := (List.any_eq_false.1 h) x hx
  simpa using this
 have hd : mV d ≤ 2 := long h6 d (by simp)
 have la : (a.map px).length ≤ 4 := by rw [List.length_map]; omega
 have lb : (b.map px).length ≤ 4 := by rw [List.length_map]; omega
 have lc : (c.map px).length ≤ 3 := by rw [List.length_map]; omega
 refine eF (vB (s := 0) rfl (tH (long h3))) ?_
 refine eF (vB (s := 1) rfl (tH (long h4))) ?_
 refine eF (vB (s := 2) rfl (tH (long h5))) ?_
 generalize a.map px = A at *
 generalize b.map px = B at *
 generalize c.map px = C at *
 have l1 := sum_len' A B
 have l2 := sum_len' B C
 have lA := bP A
 have lf : (hullF ((sumF A B).map xO)).length ≤ 100 := by have := bP ((sumF A B).map xO); rw [List.length_map] at this; omega
 have e0 : sumF A ([] : List P2) = [] := mZ.2 (.inr rfl)
 refine xM (zI (zL rfl (zA1 (omv rfl) (zA1 (omv rfl) (zA1 (oca rfl rfl fun _ => rB (by omega) (by omega) (by omega) (by omega)) (zA1 (oas rfl) (zA0 (zI (zI ?_)))))))))
 refine zL rfl (zA1 (omv rfl) (zA1 (omv rfl) (zA1 (omv rfl) (zA1 (oca rfl rfl fun _ => rB (by omega) (by omega) (by omega) (by omega)) (zA1 (oca rfl rfl fun _ => oO (by omega) (by omega)) (zA1 (ont rfl) (zA1 (omv rfl) (t1g rfl rfl (omv rfl) (t1g rfl rfl (omv rfl) ?_)))))))))
 refine t1g rfl rfl (oca rfl rfl fun g => rB (by omega) (by omega) (by omega) (by omega)) (t1g rfl rfl (omv rfl) (t1g rfl rfl (omv rfl) (t1g rfl rfl (omv rfl) (t1g rfl rfl (oca rfl rfl fun g => rB (by omega) (by omega) (by omega) (by omega)) (t1g rfl rfl (oca rfl rfl fun g => rB (by omega) (by omega) (by omega) (by omega)) (t1g rfl rfl (oca rfl rfl fun g => oO (by omega) (by omega)) (t1g rfl rfl (ont rfl) (zA1 (opk rfl rfl rfl) (zA0 ?_)))))))))
 refine gQ rfl (fun c1 => ?_) (fun c1 => ?_)
 refine zI (zL rfl (zA1 (oas rfl) (zA0 (yS (⟨[_], rst rfl rs0, xA ?_⟩)))))
 refine psb ?_
 rotate_left 1
 refine xM (zI (zL rfl (zA1 (omv rfl) (zA1 (old rfl rfl) (zA1 (iT (obs rfl rfl rfl rfl rfl rfl) (one_n hd)) (zA1 (oca rfl rfl fun _ => rB (by omega) (by omega) (by omega) (by (simp; done))) (zA1 (oas rfl) (zA0 (zI ?_)))))))))
 refine jW 27 mixed rfl rfl (d1 (omv rfl) (d1 (omv rfl) (d1 (oca rfl rfl fun _ => mQ (by omega) (by omega)) (d1 (iT (old rfl rfl) (ptx_n hd)) (d1 (oca rfl rfl fun _ => k18shc (by omega) (by omega) (by omega)) (d1 (oca rfl rfl fun _ => oO (by omega) (by omega)) (d1 (omv rfl) (d1g rfl rfl (omv rfl) (d1g rfl rfl (oca rfl rfl fun g => nF (by omega) (by omega)) ?_)))))))))
 refine d1g rfl rfl (oca rfl rfl fun g => mQ (by omega) (by (simp; omega))) (d1g rfl rfl (omv rfl) (d1g rfl rfl (oca rfl rfl fun g => nF (by omega) (by omega)) (d1g rfl rfl (omv rfl) (d1g rfl rfl (oca rfl rfl fun g => nF (by omega) (by omega)) (d1g rfl rfl (oca rfl rfl fun g => rB (by omega) (by omega) (by (simp; omega)) (by (simp; omega))) (d1g rfl rfl (oca rfl rfl fun g => oO (by omega) (by omega)) (d1 (opk rfl rfl rfl) (d1 (omv rfl) (d1g rfl rfl (omv rfl) ?_)))))))))
 refine d1g rfl rfl (oca rfl rfl fun _ => rB (b := []) (by omega) (by omega) (by omega) (by (simp; done))) (d1g rfl rfl (oln rfl) (d1g rfl rfl (oeq rfl rfl) (d1 (opk rfl rfl rfl) (d1 (omv rfl) (d1g rfl rfl (oca rfl rfl fun g => kwk20) (d1 (opk rfl rfl rfl) (d1 (oas rfl) (d0 (zA0 ?_)))))))))
 refine yS (⟨[_], rst rfl rs0, xA ?_⟩)
 refine psb ?_
 rotate_left 1 
 ·have h := c1.h
  rw [sum_comm B A, sum_assoc] at h
  simp at h
 ·rw [sum_one, sum_flip, e0]; simp
end Go.Proofs.YtflobagimodmgaaGreatDoor
namespace Go.Proofs.YtflobagimodmgaaGreatDoor
open Go Go.SL Go.RowKit Go.Proofs Go.ChangeShapes Go.WideShapes Go.ChangeAt Go.Deep Tryz
section
variable {H : Type} {enc : TypeId × Value → H} {P : Program} {W : World} {B : Nat} {tp tr ti tn tb tw : TypeId}
abbrev BdX (B : Nat) (a : RX) : Prop := (True ∧ a.1.2.length ≤ B) ∧ a.2.length ≤ B
abbrev BpX (B : Nat) (a : PX) : Prop := BdX B a.1 ∧ BdX B a.2
theorem opn_ratx (T : NumTypes P tp tr ti tn tb tw) : Opn enc P W B tr 3 rtx (BdX B) :=
 pV T.r (pV T.i (opn_bool T.b T.cb) (opn_nat T.n T.w T.cw T.cn T.hb)) (opn_nat T.n T.w T.cw T.cn T.hb)
theorem opn_ptx (T : NumTypes P tp tr ti tn tb tw) : Opn enc P W B tp 6 ptx (BpX B) :=
 pV T.p (opn_ratx T) (opn_ratx T)
theorem opn_pcx {t : TypeId} (T : NumTypes P tp tr ti tn tb tw) (ht : P.underlying t = some (.slice tp)) (c : P.cellsOf t = 1) : Opn enc P W B t 1 pcx (fun l => l.length * P.bytesOf tp ≤ B ∧ ∀ a ∈ l, BpX B a) :=
 opn_slicew ht c (opn_ptx T) (by omega)
end
end Go.Proofs.YtflobagimodmgaaGreatDoor
