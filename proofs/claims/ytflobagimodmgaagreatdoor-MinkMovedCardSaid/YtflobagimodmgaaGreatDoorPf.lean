/- Lemmas and walks of functions; no statement. -/
import Derived.Test.YtflobagimodmgaaGreatDoorPe
set_option linter.unusedVariables false
set_option linter.unusedSimpArgs false
set_option maxRecDepth 100000
namespace Go.SL
def xR (d : P2) : Int := if 0 < d.1 then 0 else if d.1 = 0 ∧ 0 < d.2 then 1 else if d.1 < 0 then 2 else 3
def gW (a b : P2) : Bool := if xR a ≠ xR b then decide (xR a < xR b) else decide (0 < zP a b)
def cU (v : P2) : Prop := v.1 < 0 ∨ v.1 = 0 ∧ v.2 < 0
theorem qt0 {d : P2} (h : 0 < d.1) : xR d = 0 := if_pos h
theorem qt1 {d : P2} (h : d.1 = 0) (k : 0 < d.2) : xR d = 1 := by unfold xR; rw [if_neg (by grind), if_pos ⟨h, k⟩]
theorem qt2 {d : P2} (h : d.1 < 0) : xR d = 2 := by unfold xR; rw [if_neg (by grind), if_neg (by grind), if_pos h]
theorem qt3 {d : P2} (h : d.1 = 0) (k : d.2 < 0) : xR d = 3 := by unfold xR; rw [if_neg (by grind), if_neg (by grind), if_neg (by grind)]
theorem dU {a b : P2} (h : xR a = xR b) : gW a b = true ↔ 0 < zP a b := by
 unfold gW; rw [if_neg (by simp [h]), decide_eq_true_eq]
theorem kX {a b : P2} (h : xR a ≠ xR b) : gW a b = true ↔ xR a < xR b := by
 unfold gW; rw [if_pos h, decide_eq_true_eq]
theorem ahead_pp {a b : P2} (ha : lexP a) (hb : lexP b) : gW a b = true ↔ 0 < zP a b := by
 rcases ha with ha | ⟨ha, ha2⟩ <;> rcases hb with hb | ⟨hb, hb2⟩
 ·exact dU ((qt0 ha).trans (qt0 hb).symm)
 ·have h := Rat.mul_pos ha hb2
  rw [kX (by rw [qt0 ha, qt1 hb hb2]; decide), qt0 ha, qt1 hb hb2]
  unfold zP; rw [hb]; exact iff_of_true (by decide) (by grind)
 ·have h := Rat.mul_pos ha2 hb
  rw [kX (by rw [qt1 ha ha2, qt0 hb]; decide), qt1 ha ha2, qt0 hb]
  unfold zP; rw [ha]; exact iff_of_false (by decide) (by grind)
 ·exact dU ((qt1 ha ha2).trans (qt1 hb hb2).symm)
theorem ahead_pn {a b : P2} (ha : lexP a) (hb : cU b) : gW a b = true ∧ gW b a = false := by
 have h1 : xR a = 0 ∨ xR a = 1 := by rcases ha with ha | ⟨ha, ha2⟩; exact .inl (qt0 ha); exact .inr (qt1 ha ha2)
 have h2 : xR b = 2 ∨ xR b = 3 := by rcases hb with hb | ⟨hb, hb2⟩; exact .inl (qt2 hb); exact .inr (qt3 hb hb2)
 have h3 : xR b ≠ xR a := by omega
 refine ⟨(kX h3.symm).2 (by omega), ?_⟩
 rw [Bool.eq_false_iff]; exact fun c => by have := (kX h3).1 c; omega
theorem ahead_nn {a b : P2} (ha : cU a) (hb : cU b) : gW a b = true ↔ 0 < zP a b := by
 have k : ∀ x y : Rat, x < 0 → y < 0 → 0 < x * y := fun x y hx hy => by
  have h := Rat.mul_pos (show 0 < -x by grind) (show 0 < -y by grind)
  rw [Rat.neg_mul, Rat.mul_neg, Rat.neg_neg] at h; exact h
 rcases ha with ha | ⟨ha, ha2⟩ <;> rcases hb with hb | ⟨hb, hb2⟩
 ·exact dU ((qt2 ha).trans (qt2 hb).symm)
 ·have h := k _ _ ha hb2
  clear k
  rw [kX (by rw [qt2 ha, qt3 hb hb2]; decide), qt2 ha, qt3 hb hb2]
  unfold zP; rw [hb]; exact iff_of_true (by decide) (by grind)
 ·have h := k _ _ ha2 hb
  clear k
  rw [kX (by rw [qt3 ha ha2, qt2 hb]; decide), qt3 ha ha2, qt2 hb]
  unfold zP; rw [ha]; exact iff_of_false (by decide) (by grind)
 ·exact dU ((qt3 ha ha2).trans (qt3 hb hb2).symm)
def mrg : List P2 → List P2 → List P2
 | [], q => q
 | a :: p, [] => a :: p
 | a :: p, b :: q => if gW a b then a :: mrg p (b :: q) else b :: mrg (a :: p) q
termination_by p q => p.length + q.length
theorem pX (p : List P2) : mrg p [] = p := by cases p <;> simp [mrg]
theorem mrg_nil' (q : List P2) : mrg [] q = q := by simp [mrg]
theorem mrg_len (p q : List P2) : (mrg p q).length = p.length + q.length := by
 fun_induction mrg p q <;> simp_all <;> omega
theorem mrg_cut {p1 p2 q1 q2 : List P2} (h1 : ∀ x ∈ p1, ∀ y ∈ q2, gW x y = true) (h2 : ∀ y ∈ q1, ∀ x ∈ p2, gW x y = false) : mrg (p1 ++ p2) (q1 ++ q2) = mrg p1 q1 ++ mrg p2 q2 := by
 fun_induction mrg p1 q1 with
 | case1 q =>
  induction q with
  | nil => rfl
  | cons b q ih =>
   cases p2 with
   | nil => simp [mrg]
   | cons a p =>
    have := h2 b (by simp) a (by simp)
    have ih' := ih fun y hy => h2 y (by simp [hy])
    simp only [List.nil_append, List.cons_append] at ih' ⊢
    rw [mrg, this, if_neg (by simp), ih']
 | case2 a p =>
  clear h2
  generalize ha : a :: p = p' at *
  clear ha
  induction p' with
  | nil => simp [mrg]
  | cons a p ih =>
   have ih' := ih fun x hx y hy => h1 x (by simp [hx]) y hy
   cases q2 with
   | nil => simp [pX]
   | cons b q =>
    have := h1 a (by simp) b (by simp)
    simp only [List.nil_append, List.cons_append] at ih' ⊢
    rw [mrg, this, if_pos rfl, ih']
 | case3 a p b q h ih =>
  simp only [List.cons_append] at ih ⊢
  rw [mrg, if_pos h, ih (fun x hx y hy => h1 x (by simp [hx]) y hy) h2]
 | case4 a p b q h ih =>
  simp only [List.cons_append] at ih ⊢
  rw [mrg, if_neg h, ih h1 fun y hy x hx => h2 y (by simp [hy]) x hx]
def jQ : List P2 → P2
 | [] => (0, 0)
 | e :: l => yV e (jQ l)
theorem nS (l m : List P2) : jQ (l ++ m) = yV (jQ l) (jQ m) := by
 induction l with
 | nil => unfold yV jQ; rw [Prod.ext_iff]; constructor <;> simp [Rat.zero_add]
 | cons a l ih => rw [List.cons_append, jQ, ih, jQ]; unfold yV; rw [Prod.ext_iff]; constructor <;> simp only <;> grind
theorem sumP_mrg (p q : List P2) : jQ (mrg p q) = yV (jQ p) (jQ q) := by
 fun_induction mrg p q with
 | case1 q => unfold yV; rw [Prod.ext_iff]; constructor <;> simp [jQ, Rat.zero_add]
 | case2 a p => unfold yV; rw [Prod.ext_iff]; constructor <;> simp [jQ, yV, Rat.add_zero]
 | case3 a p b q h ih => rw [jQ, ih]; unfold yV; rw [Prod.ext_iff]; constructor <;> simp only [jQ, yV] <;> grind
 | case4 a p b q h ih => rw [jQ, ih]; unfold yV; rw [Prod.ext_iff]; constructor <;> simp only [jQ, yV] <;> grind
def fZ (at' : P2) : List P2 → List P2
 | [] => []
 | [_] => []
 | e :: f :: l => yV at' e :: fZ (yV at' e) (f :: l)
def jE : List P2 → List P2
 | a :: b :: r => yK b a :: jE (b :: r)
 | _ => []
theorem fN : ∀ (X : List P2) (m : P2) (Y : List P2), jE (X ++ m :: Y) = jE (X ++ [m]) ++ jE (m :: Y)
 | [], m, Y => by simp [jE]
 | [x], m, Y => by simp [jE]
 | x :: y :: X, m, Y => by
  have := fN (y :: X) m Y
  simp only [List.cons_append, jE] at this ⊢
  rw [this]
theorem fM : ∀ (a : P2) (X : List P2) (b : P2), jQ (jE (a :: (X ++ [b]))) = yK b a
 | a, [], b => by simp only [List.nil_append, jE, jQ]; unfold yV yK; rw [Prod.ext_iff]; constructor <;> simp only <;> grind
 | a, x :: X, b => by
  rw [List.cons_append, jE, jQ, fM x X b]
  unfold yV yK; rw [Prod.ext_iff]; constructor <;> simp only <;> grind
def rI (w : P2) : List P2 → Prop
 | t :: s :: r => zP (yK t s) w ≤ 0 ∧ rI w (s :: r)
 | _ => True
theorem dS (X : List P2) (a b : P2) : jE (X ++ [a, b]) = jE (X ++ [a]) ++ [yK b a] := by
 rw [show X ++ [a, b] = X ++ a :: [b] by rfl, fN]; rfl
theorem rM {g : P2} : ∀ acc : List P2, oY g acc → ∀ e ∈ jE acc.reverse, 0 < zP e g
 | [], _, e, he => by simp [jE] at he
 | [_], _, e, he => by simp [jE] at he
 | t :: s :: r, h, e, he => by
  rw [show (t :: s :: r).reverse = r.reverse ++ [s, t] by simp, dS, List.mem_append, List.mem_singleton] at he
  rcases he with he | rfl
  ·exact rM (s :: r) h.2 e (by simpa using he)
  ·exact h.1
theorem rL {g : P2} : ∀ acc : List P2, rI g acc → ∀ e ∈ jE acc.reverse, zP e g ≤ 0
 | [], _, e, he => by simp [jE] at he
 | [_], _, e, he => by simp [jE] at he
 | t :: s :: r, h, e, he => by
  rw [show (t :: s :: r).reverse = r.reverse ++ [s, t] by simp, dS, List.mem_append, List.mem_singleton] at he
  rcases he with he | rfl
  ·exact rL (s :: r) h.2 e (by simpa using he)
  ·exact h.1
theorem diffs_lex : ∀ acc : List P2, acc.Pairwise (fun a b => ltP b a) → ∀ e ∈ jE acc.reverse, lexP e
 | [], _, e, he => by simp [jE] at he
 | [_], _, e, he => by simp [jE] at he
 | t :: s :: r, h, e, he => by
  rw [show (t :: s :: r).reverse = r.reverse ++ [s, t] by simp, dS, List.mem_append, List.mem_singleton] at he
  rcases he with he | rfl
  ·exact diffs_lex (s :: r) (List.pairwise_cons.1 h).2 e (by simpa using he)
  ·exact (List.pairwise_cons.1 h).1 s (by simp)
theorem split_ex {g : P2} (hg : lexP g) : ∀ acc : List P2, acc ≠ [] → qR acc → acc.Pairwise (fun a b => ltP b a) → ∃ Y w X, acc = Y ++ w :: X ∧ rI g (Y ++ [w]) ∧ oY g (w :: X)
 | [], h, _, _ => absurd rfl h
 | [t], _, _, _ => ⟨[], t, [], rfl, trivial, trivial⟩
 | t :: s :: r, _, ht, hd => by
  by_cases c : 0 < zP (yK t s) g
  ·exact ⟨[], t, s :: r, rfl, trivial, rJ hg _ ht hd fun t' s' r' e => by injection e with e1 e2; injection e2 with e2 e3; subst e1 e2; exact c⟩
  ·have ht' : qR (s :: r) := by
    cases r with
    | nil => trivial
    | cons u r => exact ht.2
   obtain ⟨Y, w, X, e, h1, h2⟩ := split_ex hg (s :: r) (by simp) ht' (List.pairwise_cons.1 hd).2
   refine ⟨t :: Y, w, X, by rw [e]; rfl, ?_, h2⟩
   cases Y with
   | nil => injection e with e1 e2; subst e1; exact ⟨by grind, trivial⟩
   | cons y Y => injection e with e1 e2; subst e1; exact ⟨by grind, h1⟩
theorem low_cut {S acc : List P2} {g : P2} (hc : ChOk S acc) (hg : lexP g) : ∃ Y w X, acc = Y ++ w :: X ∧ rI g (Y ++ [w]) ∧ oY g (w :: X) ∧ ∀ q ∈ S, zP (yK q w) g ≤ 0 := by
 obtain ⟨Y, w, X, rfl, h1, h2⟩ := split_ex hg acc hc.ne hc.trs hc.dec
 refine ⟨Y, w, X, rfl, h1, h2, fun q hq => ?_⟩
 have hl := hc.lef q hq
 have hd := hc.dec
 rcases leP_total w q with k | k
 ·rcases List.eq_nil_or_concat Y with rfl | ⟨Y', n, rfl⟩
  ·have := uN (hc.top q hq w rfl) k
   subst this; unfold zP yK; simp only; grind
  ·rw [List.concat_eq_append] at hl hd h1
   rw [List.append_assoc] at hl hd
   have k1 := (bP Y' _ hl).1
   have k2 : zP (yK n w) g ≤ 0 := by
    have : ∀ Z : List P2, rI g (Z ++ [n, w]) → zP (yK n w) g ≤ 0 := fun Z => by
     induction Z with
     | nil => exact fun h => h.1
     | cons z Z ih => intro h; cases Z with
      | nil => exact h.2.1
      | cons z' Z => exact ih h.2
    exact this Y' (by simpa using h1)
   have k3 : ltP w n := (List.pairwise_cons.1 (List.pairwise_append.1 hd).2.1).1 w (by simp)
   have := pA (a := g) (b := yK n w) (c := yK q w) (lexP.le hg) k3 (iE.1 k) (by unfold zP at *; grind) k1
   unfold zP at *; grind
 ·rcases X with _ | ⟨p, X⟩
  ·have := uN (hc.bot q hq w (by simp)) k
   subst this; unfold zP yK; simp only; grind
  ·have k1 := (bP Y _ hl).1
   have k2 := h2.1
   have k3 : ltP p w := (List.pairwise_cons.1 (List.pairwise_append.1 hd).2.1).1 p (by simp)
   have := pA (a := yK w q) (b := yK w p) (c := g) (iE.1 k) k3 (lexP.le hg) (by unfold trn zP yK at *; simp only at *; grind) (Rat.le_of_lt k2)
   unfold trn zP yK at *; simp only at *; grind
theorem ahead_asym {a b : P2} (h : gW a b = true) : gW b a = false := by
 unfold gW at *
 by_cases c : xR a = xR b
 ·rw [if_neg (by simp [c])] at h
  rw [if_neg (by simp [c]), decide_eq_false]
  have := of_decide_eq_true h
  unfold zP at *; grind
 ·rw [if_pos c] at h
  rw [if_pos (Ne.symm c), decide_eq_false]
  have := of_decide_eq_true h; omega
theorem iX {a : P2} : lexP (xG a) ↔ cU a := by unfold lexP cU xG; simp only; grind
structure Cut (g : P2) (e1 e2 : List P2) : Prop where
 pos : lexP g → (∀ e ∈ e1, lexP e ∧ 0 < zP e g) ∧ ∀ e ∈ e2, cU e ∨ lexP e ∧ zP e g ≤ 0
 neg : cU g → (∀ e ∈ e1, lexP e ∨ cU e ∧ 0 < zP e g) ∧ ∀ e ∈ e2, cU e ∧ zP e g ≤ 0
theorem cut_ahead {g : P2} {e1 e2 f1 f2 : List P2} (hg : lexP g ∨ cU g) (a : Cut g e1 e2) (b : Cut g f1 f2) : ∀ x ∈ e1, ∀ y ∈ f2, gW x y = true := fun x hx y hy => by
 rcases hg with hg | hg
 ·obtain ⟨h1, h2⟩ := (a.pos hg).1 x hx
  rcases (b.pos hg).2 y hy with h3 | ⟨h3, h4⟩
  ·exact (ahead_pn h1 h3).1
  ·exact (ahead_pp h1 h3).2 (vA (lexP.le h1) hg h3 h2 (by unfold zP at *; grind))
 ·obtain ⟨h3, h4⟩ := (b.neg hg).2 y hy
  rcases (a.neg hg).1 x hx with h1 | ⟨h1, h2⟩
  ·exact (ahead_pn h1 h3).1
  ·have := vA (lexP.le (iX.2 h1)) (iX.2 hg) (iX.2 h3) (by unfold zP xG at *; simp only; grind) (by unfold zP xG at *; simp only; grind)
   exact (ahead_nn h1 h3).2 (by unfold zP xG at *; simp only at this; grind)
theorem ChOk'.flip {S acc : List P2} (h : ChOk' S acc) : ChOk (S.map xG) (acc.map xG) := by
 refine ⟨fun x hx => ?_, ?_, fun q hq t e => ?_, fun q hq t e => ?_, fun q hq => ?_, (lS acc).2 h.trs, fun c => h.ne (List.map_eq_nil_iff.1 c)⟩
 ·obtain ⟨y, hy, rfl⟩ := List.mem_map.1 hx
  exact List.mem_map.2 ⟨y, h.sub y hy, rfl⟩
 ·rw [List.pairwise_map]; exact h.dec.imp fun h => oI.2 h
 ·obtain ⟨y, hy, rfl⟩ := List.mem_map.1 hq
  rw [List.head?_map] at e
  obtain ⟨u, hu, rfl⟩ := Option.map_eq_some_iff.1 e
  exact oM.2 (h.top y hy u hu)
 ·obtain ⟨y, hy, rfl⟩ := List.mem_map.1 hq
  rw [List.getLast?_map] at e
  obtain ⟨u, hu, rfl⟩ := Option.map_eq_some_iff.1 e
  exact oM.2 (h.bot y hy u hu)
 ·obtain ⟨y, hy, rfl⟩ := List.mem_map.1 hq
  exact (oL acc).2 (h.lef y hy)
theorem edgD_neg {g : P2} : ∀ l : List P2, oY (xG g) (l.map xG) ↔ oY g l
 | [] => .rfl
 | [_] => .rfl
 | t :: s :: r => by
  have e : zP (yK (xG t) (xG s)) (xG g) = zP (yK t s) g := by unfold zP yK xG; simp only; grind
  simp only [List.map_cons, oY, e]; exact and_congr .rfl (edgD_neg (s :: r))
theorem edgN_neg {g : P2} : ∀ l : List P2, rI (xG g) (l.map xG) ↔ rI g l
 | [] => .rfl
 | [_] => .rfl
 | t :: s :: r => by
  have e : zP (yK (xG t) (xG s)) (xG g) = zP (yK t s) g := by unfold zP yK xG; simp only; grind
  simp only [List.map_cons, rI, e]; exact and_congr .rfl (edgN_neg (s :: r))
theorem high_cut {S acc : List P2} {g : P2} (hc : ChOk' S acc) (hg : cU g) : ∃ Y w X, acc = Y ++ w :: X ∧ rI g (Y ++ [w]) ∧ oY g (w :: X) ∧ ∀ q ∈ S, zP (yK q w) g ≤ 0 := by
 obtain ⟨Y, w, X, e, h1, h2, h3⟩ := low_cut hc.flip (iX.2 hg)
 have hn : ∀ l : List P2, (l.map xG).map xG = l := fun l => by
  rw [List.map_map]; conv => rhs; rw [← List.map_id l]
  exact List.map_congr_left fun x _ => iU x
 have e' : acc = Y.map xG ++ xG w :: X.map xG := by
  have := congrArg (List.map xG) e
  rw [hn] at this; simpa using this
 refine ⟨Y.map xG, xG w, X.map xG, e', ?_, ?_, fun q hq => ?_⟩
 ·refine (edgN_neg _).1 ?_
  rw [List.map_append, hn, List.map_cons, iU]; exact h1
 ·refine (edgD_neg _).1 ?_
  rw [List.map_cons, iU, hn]; exact h2
 ·have := h3 (xG q) (List.mem_map.2 ⟨q, hq, rfl⟩)
  unfold zP yK xG at *; simp only at *; grind
theorem diffs_lexN : ∀ acc : List P2, acc.Pairwise (fun a b => ltP a b) → ∀ e ∈ jE acc.reverse, cU e
 | [], _, e, he => by simp [jE] at he
 | [_], _, e, he => by simp [jE] at he
 | t :: s :: r, h, e, he => by
  rw [show (t :: s :: r).reverse = r.reverse ++ [s, t] by simp, dS, List.mem_append, List.mem_singleton] at he
  rcases he with he | rfl
  ·exact diffs_lexN (s :: r) (List.pairwise_cons.1 h).2 e (by simpa using he)
  ·have := (List.pairwise_cons.1 h).1 s (by simp)
   unfold ltP lexP yK at this; unfold cU yK; simp only at *; grind
def xT (h : List P2) : List P2 := if 1 < h.length then jE (h ++ [gp h 0]) else []
theorem nL (a b : P2) : yV a (yK b a) = b := by unfold yV yK; rw [Prod.ext_iff]; constructor <;> simp only <;> grind
theorem jO (a : P2) : yV a (0, 0) = a := by unfold yV; rw [Prod.ext_iff]; constructor <;> simp only <;> grind
theorem gN (a b c : P2) : yV (yV a b) c = yV a (yV b c) := by unfold yV; rw [Prod.ext_iff]; constructor <;> simp only <;> grind
theorem bF (a b : P2) : yV a b = yV b a := by unfold yV; rw [Prod.ext_iff]; constructor <;> simp only <;> grind
theorem sum_to {m w : P2} {X' : List P2} (Y X : List P2) (e : Y ++ w :: X = X' ++ [m]) : yV m (jQ (jE (w :: X).reverse)) = w := by
 rcases List.eq_nil_or_concat X with rfl | ⟨X, x, hX⟩
 ·have : w = m := by
   have := congrArg List.getLast? e; simpa using this
  subst this; exact jO _
 ·rw [List.concat_eq_append] at hX
  subst hX
  have : x = m := by
   have := congrArg List.getLast? e
   rw [show Y ++ w :: (X ++ [x]) = (Y ++ w :: X) ++ [x] by simp, List.getLast?_concat, List.getLast?_concat] at this
   exact Option.some.inj this
  subst this
  rw [show (w :: (X ++ [x])).reverse = x :: (X.reverse ++ [w]) by simp, fM, nL]
theorem hull_cut {l : List P2} {g : P2} (hs : l.Pairwise ltP) (hne : l ≠ []) (hg : lexP g ∨ cU g) :
  ∃ e1 e2, xT (uO l) = e1 ++ e2 ∧ Cut g e1 e2 ∧ ∀ q ∈ l, zP (yK q (yV (gp (uO l) 0) (jQ e1))) g ≤ 0 := by
 by_cases h2 : l.length < 2
 ·match l, hne, h2 with
  | [p], _, _ =>
   refine ⟨[], [], rfl, ⟨fun _ => by simp, fun _ => by simp⟩, fun q hq => ?_⟩
   rw [List.mem_singleton.1 hq, show yV (gp (uO [p]) 0) (jQ []) = p from jO p]
   unfold zP yK; simp only; grind
 obtain ⟨mn, mx, A, B, cl, ch, eS, mnl, mxl, hlt, hmx, hmn, _⟩ := mC (by omega) hs
 have eE : xT (uO l) = jE (mx :: (A ++ [mn])).reverse ++ jE (mn :: (B ++ [mx])).reverse := by
  unfold xT
  rw [eS, if_pos (by simp only [List.length_cons, List.length_append]; omega), show mn :: (A.reverse ++ mx :: B.reverse) ++ [gp (mn :: (A.reverse ++ mx :: B.reverse)) 0] = (mn :: A.reverse) ++ mx :: (B.reverse ++ [mn]) by simp, fN]
  congr 1 <;> congr 1 <;> simp
 have e0 : gp (uO l) 0 = mn := by rw [eS]; rfl
 rw [e0, eE]
 have low : ∀ e ∈ jE (mx :: (A ++ [mn])).reverse, lexP e := diffs_lex _ cl.dec
 have high : ∀ e ∈ jE (mn :: (B ++ [mx])).reverse, cU e := diffs_lexN _ ch.dec
 have np : ∀ g : P2, lexP g → cU g → False := fun g a b => by unfold lexP cU at *; grind
 have cut : ∀ (Y : List P2) (w : P2) (X : List P2), jE (Y ++ w :: X).reverse = jE (w :: X).reverse ++ jE (Y ++ [w]).reverse := fun Y w X => by
  rw [show (Y ++ w :: X).reverse = X.reverse ++ w :: Y.reverse by simp, fN]; simp
 rcases hg with hg | hg
 ·obtain ⟨Y, w, X, e, h1, h3, h4⟩ := low_cut cl hg
  refine ⟨jE (w :: X).reverse, jE (Y ++ [w]).reverse ++ jE (mn :: (B ++ [mx])).reverse, ?_, ⟨fun _ => ⟨fun x hx => ⟨low x ?_, rM _ h3 x hx⟩, fun x hx => ?_⟩, fun h => (np g hg h).elim⟩, ?_⟩
  ·rw [e, cut, List.append_assoc]
  ·rw [e, cut]; exact List.mem_append_left _ hx
  ·rcases List.mem_append.1 hx with hx | hx
   ·exact .inr ⟨low x (by rw [e, cut]; exact List.mem_append_right _ hx), rL _ h1 x hx⟩
   ·exact .inl (high x hx)
  ·rw [sum_to Y X (X' := mx :: A) (m := mn) (by rw [← e]; simp)]; exact h4
 ·obtain ⟨Y, w, X, e, h1, h3, h4⟩ := high_cut ch hg
  refine ⟨jE (mx :: (A ++ [mn])).reverse ++ jE (w :: X).reverse, jE (Y ++ [w]).reverse, ?_, ⟨fun h => (np g h hg).elim, fun _ => ⟨fun x hx => ?_, fun x hx => ⟨high x ?_, rL _ h1 x hx⟩⟩⟩, ?_⟩
  ·rw [e, cut, List.append_assoc]
  ·rcases List.mem_append.1 hx with hx | hx
   ·exact .inl (low x hx)
   ·exact .inr ⟨high x (by rw [e, cut]; exact List.mem_append_left _ hx), rM _ h3 x hx⟩
  ·rw [e, cut]; exact List.mem_append_right _ hx
  ·rw [nS, ← gN, show (mx :: (A ++ [mn])).reverse = mn :: (A.reverse ++ [mx]) by simp, fM, nL, sum_to Y X (X' := mn :: B) (m := mx) (by rw [← e]; simp)]; exact h4
def mR (h k : List P2) : List P2 := yV (gp h 0) (gp k 0) :: fZ (yV (gp h 0) (gp k 0)) (mrg (xT h) (xT k))
theorem edges_zero {h : List P2} : jQ (xT h) = (0, 0) := by
 unfold xT; split
 ·match h with
  | a :: r =>
   rw [show a :: r ++ [gp (a :: r) 0] = a :: (r ++ [a]) from rfl, fM]
   unfold yK; rw [Prod.ext_iff]; constructor <;> simp only <;> grind
 ·rfl
theorem way_mem : ∀ (e1 e2 : List P2) (at' : P2), e1 ≠ [] → e2 ≠ [] → yV at' (jQ e1) ∈ fZ at' (e1 ++ e2)
 | [], _, _, h, _ => absurd rfl h
 | [e], f :: e2, a, _, _ => by simp only [List.cons_append, List.nil_append, fZ, jQ]; rw [jO]; simp
 | e :: f :: e1, e2, a, _, h => by
  have := way_mem (f :: e1) e2 (yV a e) (by simp) h
  rw [List.cons_append, List.cons_append, fZ, jQ, ← gN]
  exact List.mem_cons_of_mem _ this
 | [_], [], _, _, h => absurd rfl h
theorem out_mem {h k e1 e2 : List P2} (e : mrg (xT h) (xT k) = e1 ++ e2) : yV (yV (gp h 0) (gp k 0)) (jQ e1) ∈ mR h k := by
 unfold mR
 have z : yV (jQ e1) (jQ e2) = (0, 0) := by rw [← nS, ← e, sumP_mrg, edges_zero, edges_zero]; exact jO _
 by_cases c1 : e1 = []
 ·subst c1; rw [show jQ [] = (0, 0) from rfl, jO]; simp
 by_cases c2 : e2 = []
 ·subst c2; rw [show jQ [] = (0, 0) from rfl, jO] at z; rw [z, jO]; simp
 ·rw [e]; exact List.mem_cons_of_mem _ (way_mem e1 e2 _ c1 c2)
theorem out_sup {l m : List P2} (hl : l.Pairwise ltP) (hm : m.Pairwise ltP) (nl : l ≠ []) (nm : m ≠ []) {a b : P2} (ha : a ∈ l) (hb : b ∈ m) : Sup (mR (uO l) (uO m)) (yV a b) := fun u v => by
 by_cases hz : lexP (-v, u) ∨ cU (-v, u)
 ·obtain ⟨e1, e2, ee, ec, eb⟩ := hull_cut hl nl hz
  obtain ⟨f1, f2, fe, fc, fb⟩ := hull_cut hm nm hz
  have h1 := cut_ahead hz ec fc
  have h2 := cut_ahead hz fc ec
  have em : mrg (xT (uO l)) (xT (uO m)) = mrg e1 f1 ++ mrg e2 f2 := by
   rw [ee, fe]; exact mrg_cut h1 fun y hy x hx => ahead_asym (h2 y hy x hx)
  refine ⟨_, out_mem em, ?_⟩
  rw [sumP_mrg]
  have k1 := eb a ha
  have k2 := fb b hb
  generalize gp (uO l) 0 = p at *
  generalize gp (uO m) 0 = q at *
  generalize jQ e1 = s at *
  generalize jQ f1 = t at *
  unfold zP yK yV at *; simp only at *; grind
 ·have hu : u = 0 := by unfold lexP cU at hz; simp only at hz; grind
  have hv : v = 0 := by unfold lexP cU at hz; simp only at hz; grind
  refine ⟨_, List.mem_cons_self, ?_⟩
  rw [hu, hv]; grind
theorem fL {h : List P2} (hne : h ≠ []) {e1 e2 : List P2} (e : xT h = e1 ++ e2) : yV (gp h 0) (jQ e1) ∈ h := by
 unfold xT at e
 split at e
 ·match h, hne with
  | a :: r, _ =>
   have e' : jE (a :: (r ++ [a])) = e1 ++ e2 := e
   have key : ∀ (r : List P2) (b z : P2) (e1 : List P2), jE (b :: (r ++ [z])) = e1 ++ e2 → yV b (jQ e1) ∈ b :: (r ++ [z]) := fun r => by
    induction r with
    | nil =>
     intro b z e1 e
     match e1, e with
     | [], _ => rw [show jQ [] = (0, 0) from rfl, jO]; simp
     | [x], e => 
      simp only [List.nil_append, jE, List.cons_append, List.cons.injEq] at e
      rw [← e.1, jQ, show jQ [] = (0, 0) from rfl, jO, nL]; simp
     | x :: y :: s, e => simp [jE] at e
    | cons c r ih =>
     intro b z e1 e
     match e1, e with
     | [], _ => rw [show jQ [] = (0, 0) from rfl, jO]; simp
     | x :: s, e =>
      rw [List.cons_append, jE, List.cons_append, List.cons.injEq] at e
      have := ih c z s e.2
      rw [← e.1, jQ, ← gN, nL]
      exact List.mem_cons_of_mem _ this
   have := key r a a e1 e'
   show yV a (jQ e1) ∈ a :: r
   simp only [List.mem_cons, List.mem_append, List.mem_singleton, List.not_mem_nil, or_false] at this ⊢
   grind
 ·match h, hne with
  | a :: r, _ =>
   obtain ⟨rfl, rfl⟩ := List.append_eq_nil_iff.1 e.symm
   rw [show jQ [] = (0, 0) from rfl, jO]; simp
theorem mrg_pre (p q : List P2) : ∀ {s t : List P2}, mrg p q = s ++ t → ∃ p1 p2 q1 q2, p = p1 ++ p2 ∧ q = q1 ++ q2 ∧ jQ s = yV (jQ p1) (jQ q1) := by
 fun_induction mrg p q with
 | case1 q => exact fun {s t} e => ⟨[], [], s, t, rfl, e, by rw [show jQ [] = (0, 0) from rfl, bF, jO]⟩
 | case2 a p => exact fun {s t} e => ⟨s, t, [], [], e, rfl, by rw [show jQ [] = (0, 0) from rfl, jO]⟩
 | case3 a p b q h ih =>
  intro s t e
  match s, e with
  | [], e => exact ⟨[], _, [], _, rfl, rfl, by rw [show jQ [] = (0, 0) from rfl, jO]⟩
  | x :: s, e =>
   rw [List.cons_append, List.cons.injEq] at e
   obtain ⟨p1, p2, q1, q2, h1, h2, h3⟩ := ih e.2
   exact ⟨a :: p1, p2, q1, q2, by rw [h1]; rfl, h2, by rw [jQ, jQ, h3, ← e.1, gN]⟩
 | case4 a p b q h ih =>
  intro s t e
  match s, e with
  | [], e => exact ⟨[], _, [], _, rfl, rfl, by rw [show jQ [] = (0, 0) from rfl, jO]⟩
  | x :: s, e =>
   rw [List.cons_append, List.cons.injEq] at e
   obtain ⟨p1, p2, q1, q2, h1, h2, h3⟩ := ih e.2
   exact ⟨p1, p2, b :: q1, q2, h1, by rw [h2]; rfl, by rw [jQ, jQ, h3, ← e.1, ← gN, bF b, gN]⟩
theorem way_ex : ∀ (es : List P2) (at' c : P2), c ∈ fZ at' es → ∃ s t, es = s ++ t ∧ c = yV at' (jQ s)
 | [], _, _, h => by simp [fZ] at h
 | [_], _, _, h => by simp [fZ] at h
 | e :: f :: l, a, c, h => by
  rw [fZ] at h
  rcases List.mem_cons.1 h with rfl | h
  ·exact ⟨[e], f :: l, rfl, by rw [jQ, show jQ [] = (0, 0) from rfl, jO]⟩
  ·obtain ⟨s, t, h1, h2⟩ := way_ex (f :: l) _ c h
   exact ⟨e :: s, t, by rw [h1]; rfl, by rw [h2, jQ, gN]⟩
theorem out_of {h k : List P2} (hh : h ≠ []) (hk : k ≠ []) {c : P2} (hc : c ∈ mR h k) : ∃ a ∈ h, ∃ b ∈ k, c = yV a b := by
 have key : ∀ s t, mrg (xT h) (xT k) = s ++ t → c = yV (yV (gp h 0) (gp k 0)) (jQ s) → ∃ a ∈ h, ∃ b ∈ k, c = yV a b := fun s t e ec => by
  obtain ⟨p1, p2, q1, q2, h1, h2, h3⟩ := mrg_pre _ _ e
  refine ⟨_, fL hh h1, _, fL hk h2, ?_⟩
  rw [ec, h3]; unfold yV; rw [Prod.ext_iff]; constructor <;> simp only <;> grind
 unfold mR at hc
 rcases List.mem_cons.1 hc with rfl | hc
 ·exact key [] _ rfl (by rw [show jQ [] = (0, 0) from rfl, jO])
 ·obtain ⟨s, t, h1, h2⟩ := way_ex _ _ _ hc
  exact key s t h1 h2
theorem oS : COrd uR := ⟨fun a b => cmpP_zero, fun a b => by rw [cmpP_gt, nH], fun a b c h k => by rw [← lt_iff] at *; exact leP_of_lt_trans h.le k⟩
noncomputable def hullF (l : List P2) : List P2 := uO (setOf uR l)
theorem mX (l : List P2) : (setOf uR l).Pairwise ltP := (hP oS l).rise.imp fun h => lt_iff.2 h
theorem qO (l : List P2) : IsHull l (hullF l) := by
 have h := hullS_ok (mX l)
 exact ⟨h.poly, fun c hc => (cP oS).1 (h.sub c hc), fun q hq => h.sup q ((cP oS).2 hq)⟩
theorem hull_eq {l m : List P2} (h1 : ∀ q ∈ l, Sup m q) (h2 : ∀ q ∈ m, Sup l q) : hullF l = hullF m := hull_uniq (qO l) (qO m) h1 h2
theorem iF {l m : List P2} (e : ∀ q, q ∈ l ↔ q ∈ m) : hullF l = hullF m := hull_eq (fun q hq => bL ((e q).1 hq)) fun q hq => bL ((e q).2 hq)
theorem hull_of {l h : List P2} (k : IsHull l h) : hullF l = h := hull_uniq (qO l) k (fun q hq => bL hq) fun q hq => bL hq
theorem bR {l : List P2} : hullF l = [] ↔ l = [] := by
 constructor
 ·intro h
  match l, h with
  | [], _ => rfl
  | p :: r, h => obtain ⟨c, hc, _⟩ := (qO (p :: r)).sup p (by simp) 0 0; rw [h] at hc; cases hc
 ·intro h; subst h
  match e : hullF [], (qO []).sub with
  | [], _ => rfl
  | p :: r, k => exact absurd (k p (by simp)) (by simp)
theorem cW (l : List P2) : (hullF l).length ≤ l.length := cT (qO l).poly.nd (qO l).sub
theorem trn_add (a b c d : P2) : trn (yV a d) (yV b d) (yV c d) = trn a b c := by unfold trn zP yK yV; simp only; grind
theorem le_add {a b d : P2} : leP (yV a d) (yV b d) ↔ leP a b := by unfold leP yV; simp only; grind
theorem rF {h : List P2} (f : P2 → P2) {i : Nat} (hi : i < h.length) : gp (h.map f) i = f (gp h i) := by
 unfold gp; simp [List.getD_eq_getElem?_getD, List.getElem?_eq_getElem hi]
theorem IsHull.mov {l h : List P2} (k : IsHull l h) (d : P2) : IsHull (l.map (yV · d)) (h.map (yV · d)) := by
 have inj : ∀ a b : P2, yV a d = yV b d → a = b := fun a b e => by unfold yV at e; rw [Prod.ext_iff] at *; simp only at e; exact ⟨by grind, by grind⟩
 refine ⟨⟨fun c hc => ?_, ?_, fun h3 i k' hi hk n1 n2 => ?_⟩, fun c hc => ?_, fun q hq => ?_⟩
 ·obtain ⟨x, hx, rfl⟩ := List.mem_map.1 hc
  rw [rF _ (List.length_pos_of_mem hx)]
  exact le_add.2 (k.poly.fst x hx)
 ·exact List.pairwise_map.2 (k.poly.nd.imp fun h e => h (inj _ _ e))
 ·rw [List.length_map] at *
  unfold nx
  rw [List.length_map, rF _ hi, rF _ hk, rF _ (mP hi), trn_add]
  exact k.poly.conv h3 i k' hi hk n1 n2
 ·obtain ⟨x, hx, rfl⟩ := List.mem_map.1 hc
  exact List.mem_map.2 ⟨x, k.sub x hx, rfl⟩
 ·obtain ⟨x, hx, rfl⟩ := List.mem_map.1 hq
  exact sup_add (k.sup x hx) (bL (h := [d]) (by simp)) fun y hy z hz => by
   rw [List.mem_singleton.1 hz]; exact List.mem_map.2 ⟨y, hy, rfl⟩
theorem hull_mov (l : List P2) (d : P2) : hullF (l.map (yV · d)) = (hullF l).map (yV · d) := hull_of ((qO l).mov d)
def lW (a b : List P2) : List P2 := a.flatMap fun x => b.map fun y => yV x y
theorem uY {a b : List P2} {q : P2} : q ∈ lW a b ↔ ∃ x ∈ a, ∃ y ∈ b, q = yV x y := by
 unfold lW; simp only [List.mem_flatMap, List.mem_map]
 exact ⟨fun ⟨x, hx, y, hy, e⟩ => ⟨x, hx, y, hy, e.symm⟩, fun ⟨x, hx, y, hy, e⟩ => ⟨x, hx, y, hy, e.symm⟩⟩
noncomputable def sumF (a b : List P2) : List P2 := hullF (lW a b)
theorem sum_made {a b : List P2} (ha : a ≠ []) (hb : b ≠ []) : hullF (mR (hullF a) (hullF b)) = sumF a b := by
 refine hull_eq (fun q hq => ?_) fun q hq => ?_
 ·obtain ⟨x, hx, y, hy, rfl⟩ := out_of (fun e => ha (bR.1 e)) (fun e => hb (bR.1 e)) hq
  exact bL (uY.2 ⟨x, (qO a).sub x hx, y, (qO b).sub y hy, rfl⟩)
 ·obtain ⟨x, hx, y, hy, rfl⟩ := uY.1 hq
  have h : ∀ {l : List P2} {x : P2}, x ∈ l → setOf uR l ≠ [] := fun {l x} hx e => by have := (cP oS (l := l)).2 hx; rw [e] at this; cases this
  exact out_sup (mX a) (mX b) (h hx) (h hy) ((cP oS).2 hx) ((cP oS).2 hy)
theorem mV {a b : List P2} : sumF a b = [] ↔ a = [] ∨ b = [] := by
 unfold sumF; rw [bR]
 constructor
 ·intro h
  match a, b, h with
  | [], _, _ => exact .inl rfl
  | _ :: _, [], _ => exact .inr rfl
  | _ :: _, _ :: _, h => simp [lW] at h
 ·rintro (rfl | rfl)
  ·rfl
  ·simp [lW]
theorem sum_comm (a b : List P2) : sumF a b = sumF b a := iF fun q => by
 rw [uY, uY]
 exact ⟨fun ⟨x, hx, y, hy, e⟩ => ⟨y, hy, x, hx, e.trans (bF x y)⟩, fun ⟨x, hx, y, hy, e⟩ => ⟨y, hy, x, hx, e.trans (bF x y)⟩⟩
theorem sum_one (a : List P2) (d : P2) : sumF a [d] = (hullF a).map (yV · d) := by
 rw [← hull_mov]
 exact iF fun q => by rw [uY, List.mem_map]; exact ⟨fun ⟨x, hx, y, hy, e⟩ => ⟨x, hx, by rw [e, List.mem_singleton.1 hy]⟩, fun ⟨x, hx, e⟩ => ⟨x, hx, d, by simp, e.symm⟩⟩
theorem neg_add (a b : P2) : xG (yV a b) = yV (xG a) (xG b) := by unfold xG yV; rw [Prod.ext_iff]; constructor <;> simp only <;> grind
theorem sum_mov (a b : List P2) (d : P2) : sumF (a.map (yV · d)) b = (sumF a b).map (yV · d) := by
 unfold sumF; rw [← hull_mov]
 refine iF fun q => ?_
 rw [uY, List.mem_map]
 constructor
 ·rintro ⟨u, hu, y, hy, rfl⟩
  obtain ⟨x, hx, rfl⟩ := List.mem_map.1 hu
  exact ⟨_, uY.2 ⟨x, hx, y, hy, rfl⟩, by rw [gN, gN, bF y]⟩
 ·rintro ⟨u, hu, rfl⟩
  obtain ⟨x, hx, y, hy, rfl⟩ := uY.1 hu
  exact ⟨_, List.mem_map.2 ⟨x, hx, rfl⟩, y, hy, by rw [gN, gN, bF y]⟩
theorem sum_mov' (a b : List P2) (d : P2) : sumF a (b.map (yV · d)) = (sumF a b).map (yV · d) := by rw [sum_comm, sum_mov, sum_comm]
theorem flip_mov (l : List P2) (d : P2) : (l.map (yV · d)).map xG = (l.map xG).map (yV · (xG d)) := by
 rw [List.map_map, List.map_map]; exact List.map_congr_left fun x _ => neg_add x d
theorem way_len : ∀ (es : List P2) (a : P2), (fZ a es).length = es.length - 1
 | [], _ => rfl
 | [_], _ => rfl
 | e :: f :: l, a => by rw [fZ, List.length_cons, way_len (f :: l)]; simp
theorem diffs_len : ∀ C : List P2, (jE C).length = C.length - 1
 | [] => rfl
 | [_] => rfl
 | a :: b :: r => by rw [jE, List.length_cons, diffs_len (b :: r)]; simp
theorem cX (h : List P2) : (xT h).length = if 1 < h.length then h.length else 0 := by
 unfold xT; split
 ·rw [diffs_len]; simp
 ·rfl
theorem out_len (h k : List P2) : (mR h k).length ≤ max 1 (h.length + k.length) := by
 unfold mR; rw [List.length_cons, way_len, mrg_len, cX, cX]; split <;> split <;> omega
theorem sum_len {a b : List P2} (ha : a ≠ []) (hb : b ≠ []) : (sumF a b).length ≤ a.length + b.length := by
 rw [← sum_made ha hb]
 have h1 := cW (mR (hullF a) (hullF b))
 have h2 := out_len (hullF a) (hullF b)
 have h3 := cW a; have h4 := cW b
 have := List.length_pos_iff.2 ha
 omega
end Go.SL
set_option maxHeartbeats 4000000
namespace Go.Proofs.YtflobagimodmgaaGreatDoor
open Go.SL Go.RowKit Go.Proofs Tryz
theorem wturn {p q : P2} {n m : Nat} (hn : n ≤ 20000) (hm : m ≤ 20000) : CTy prog 133 [ag (ptq n p), ag (ptq m q)] (exP (.int .i64 (nU (zP p q)))) := by
 refine ctc func133 rfl rfl rfl rfl fun X => (zI (zK rfl (zA1 (obx rfl) (zA1 (obx rfl) (zA1 (oas rfl) (zA0 (zI (zK rfl (zA1 (old rfl rfl) ?_)))))))))
 refine zA1 (old rfl rfl) (zA1 (oca rfl rfl fun _ => kvcross (by omega) (by omega)) (zA1 (oca rfl rfl fun _ => sQ (by omega)) (zA1 (oas rfl) (zA0 (yO (⟨[_], rst rfl rs0, yX (PSub.refl _)⟩))))))
theorem kturn {Ψ Φ : PV} {p q : P2} {n m : Nat} [h : QP Ψ n p] [k : QP Φ m q] (hn : n ≤ 20000) (hm : m ≤ 20000) : CTy prog 133 [Ψ, Φ] (exP (.int .i64 (nU (zP p q)))) := uQ (wturn hn hm) (fs1 eQ (fs1 eQ fs0))
theorem wquarter {p : P2} {n : Nat} (hn : n ≤ 20000) : CTy prog 141 [ag (ptq n p)] (exP (.int .i64 (xR p))) := by
 refine ctc func141 rfl rfl rfl rfl fun X => (zI (zK rfl (zA1 (obx rfl) (zA1 (oas rfl) (zA0 (zI (zI (xZ 8 mixed rfl rfl (d1 (ofa rfl rfl) ?_)))))))))
 refine d1 (old rfl rfl) (d1 (oca rfl rfl fun _ => sQ (by omega)) (d1 (ofa rfl rfl) (d1 (old rfl rfl) (d1 (oca rfl rfl fun _ => sQ (by omega)) (d1 (oas rfl) (d1 (oas rfl) (d0 (zA0 (yZ ?_)))))))))
 refine zI (zK rfl (zA1 (omv rfl) (zA1 (ogt rfl rfl) (zA1 (oas rfl) (zA0 ?_)))))
 refine gP rfl (fun c0 => ?_) (fun c0 => ?_)
 refine zI (zK rfl (zA1 (oas rfl) (zA0 (yO (⟨[_], rst rfl rs0, yX ?_⟩)))))
 refine dX ?_
 rotate_left 1
 refine zI (zK rfl (zA1 (omv rfl) (zA1 (oeq rfl rfl) (zA1 (omv rfl) (t1g rfl rfl (omv rfl) (t1g rfl rfl (ogt rfl rfl) (zA1 (opk rfl rfl rfl) (zA1 (oas rfl) (zA0 ?_)))))))))
 refine gP rfl (fun c1 => ?_) (fun c1 => ?_)
 refine zI (zK rfl (zA1 (oas rfl) (zA0 (yO (⟨[_], rst rfl rs0, yX ?_⟩)))))
 refine dX ?_
 rotate_left 1
 refine zI (zK rfl (zA1 (omv rfl) (zA1 (olt rfl rfl) (zA1 (oas rfl) (zA0 ?_)))))
 refine gP rfl (fun c2 => ?_) (fun c2 => ?_)
 refine zI (zK rfl (zA1 (oas rfl) (zA0 (yO (⟨[_], rst rfl rs0, yX ?_⟩)))))
 refine dX ?_
 rotate_left 1
 refine xO (zI (zK rfl (zA1 (oas rfl) (zA0 (yO (⟨[_], rst rfl rs0, yX ?_⟩))))))
 refine dX ?_
 rotate_left 1
 ·exact (qt0 (iK.1 (dt c0))).symm
 ·have h := tV c1
  exact (qt1 (sgnR_zero.1 h.1) (iK.1 h.2)).symm
 ·exact (qt2 (sgnR_lt.1 (dt c2))).symm
 ·have h0 := mt iK.2 (df c0)
  have h1 := dor c1
  rw [sgnR_zero, iK] at h1
  have h2 := mt sgnR_lt.2 (df c2)
  unfold xR; rw [if_neg h0, if_neg h1, if_neg h2]
theorem kquarter {Ψ : PV} {p : P2} {n : Nat} [h : QP Ψ n p] (hn : n ≤ 20000) : CTy prog 141 [Ψ] (exP (.int .i64 (xR p))) := uQ (wquarter hn) (fs1 eQ fs0)
theorem wahead {p q : P2} {n m : Nat} (hn : n ≤ 20000) (hm : m ≤ 20000) : CTy prog 81 [ag (ptq n p), ag (ptq m q)] (exP (.bool (gW p q))) := by
 refine ctc func81 rfl rfl rfl rfl fun X => (zI (zK rfl (zA1 (obx rfl) (zA1 (obx rfl) (zA1 (oas rfl) (zA0 (zI (zI (xZ 6 mixed rfl rfl ?_)))))))))
 refine d1 (old rfl rfl) (d1 (oca rfl rfl fun _ => kquarter (by omega)) (d1 (old rfl rfl) (d1 (oca rfl rfl fun _ => kquarter (by omega)) (d1 (oas rfl) (d1 (oas rfl) (d0 (zA0 (zI (zK rfl ?_)))))))))
 refine zA1 (omv rfl) (zA1 (omv rfl) (zA1 (oni rfl rfl) (zA0 ?_)))
 refine gP rfl (fun c0 => ?_) (fun c0 => ?_)
 refine zI (zK rfl (zA1 (omv rfl) (zA1 (omv rfl) (zA1 (olt rfl rfl) (zA1 (oas rfl) (zA0 (yO (⟨[_], rst rfl rs0, yX ?_⟩))))))))
 refine psb ?_
 rotate_left 1
 refine xO (zI (zK rfl (zA1 (old rfl rfl) (zA1 (old rfl rfl) (zA1 (oca rfl rfl fun _ => kturn (by omega) (by omega)) (zA1 (ogt rfl rfl) (zA1 (oas rfl) (zA0 (yO ?_)))))))))
 refine ⟨[_], rst rfl rs0, yX ?_⟩
 refine psb ?_
 rotate_left 1
 ·have h := dt c0
  unfold gW; rw [if_pos h]
 ·have h := df c0
  unfold gW; rw [if_neg h, decide_eq_decide]; exact iK
theorem kahead {Ψ Φ : PV} {p q : P2} {n m : Nat} [h : QP Ψ n p] [k : QP Φ m q] (hn : n ≤ 20000) (hm : m ≤ 20000) : CTy prog 81 [Ψ, Φ] (exP (.bool (gW p q))) := uQ (wahead hn hm) (fs1 eQ (fs1 eQ fs0))
theorem mY {t s : P2} {r : List P2} : (t :: s :: r).reverse.getD (r.length + 1) Df.d = t ∧ (t :: s :: r).reverse.getD r.length Df.d = s := by
 rw [show (t :: s :: r).reverse = r.reverse ++ [s, t] by simp]
 constructor <;> simp [List.getD_eq_getElem?_getD]
theorem drop_step {cur : List P2} {p : P2} (h : Tr ((decide (1 < (cur.length : Int)) && decide (nU (zP (yK (cur.reverse.getD (cur.length - 1) Df.d) (cur.reverse.getD (cur.length - 2) Df.d)) (yK p (cur.reverse.getD (cur.length - 1) Df.d))) ≤ 0)) = true)) : 1 < cur.length ∧ gU p cur.tail = gU p cur := by
 obtain ⟨h1, h2⟩ := tV h
 match cur, h1, h2 with
 | t :: s :: r, h1, h2 =>
  refine ⟨by omega, ?_⟩
  rw [show (t :: s :: r).length - 1 = r.length + 1 from rfl, show (t :: s :: r).length - 2 = r.length from rfl, mY.1, mY.2, sgnR_le] at h2
  rw [List.tail_cons]; conv => rhs; rw [gU]
  rw [if_pos h2]
theorem drop_stop {cur : List P2} {p : P2} (h : Tr ((decide (1 < (cur.length : Int)) && decide (nU (zP (yK (cur.reverse.getD (cur.length - 1) Df.d) (cur.reverse.getD (cur.length - 2) Df.d)) (yK p (cur.reverse.getD (cur.length - 1) Df.d))) ≤ 0)) = false)) : gU p cur = cur := by
 have h1 := dor h
 match cur, h1 with
 | [], _ => rfl
 | [_], _ => rfl
 | t :: s :: r, h1 =>
  rw [show (t :: s :: r).length - 1 = r.length + 1 from rfl, show (t :: s :: r).length - 2 = r.length from rfl, mY.1, mY.2, sgnR_le] at h1
  rw [gU, if_neg fun c => h1 ⟨by simp only [List.length_cons]; omega, c⟩]
theorem dx1 {n : Nat} {q : Prop} (h : q ∧ decide (1 < (n : Int)) = true) : 1 < n := by have := of_decide_eq_true h.2; omega
theorem rev_tail {cur : List P2} {f : P2 → CT} (h : 1 < cur.length) : (cur.reverse.map f).take (cur.length - 1) = cur.tail.reverse.map f := by
 match cur, h with
 | t :: r, _ => rw [List.reverse_cons, List.map_append, List.tail_cons, List.take_left' (by simp)]
theorem kdrop {acc : List P2} {p : P2} {n b : Nat} {v : Value} (hn : n ≤ 5000) (hl : acc.length ≤ 1000) : CTo prog 132 [ag (ptc n p), exP (.pointer (some ⟨b, 0, none⟩))] [.row v 35 6 (acc.reverse.map (ptc n)), .blk b 22 [xc v]] (fun ρ So => ρ = tu [] ∧ ∃ v', So = [.row v' 35 6 ((gU p acc).reverse.map (ptc n)), .blk b 22 [xc v']]) := by
 refine ctd func132 rfl rfl rfl rfl (fun _ _ _ _ _ _ _ hs hp => iA hs hp) fun X => (zI (zK rfl (zA1 (obx rfl) (zA0 (zI (zK rfl (zA1 (uT 1 rfl rfl rfl rfl) (zA1 (vY 0 rfl rfl) (zA1 (oas rfl) ?_)))))))))
 refine zA0 (yZ ?_)
 rotate_left 1
 refine qH (σ := List P2 × Value) (fun s => [(3, True, exP (.int .i64 ((s.1.length : Nat) : Int)))]) (fun s => [.row s.2 35 6 (s.1.reverse.map (ptc n)), .blk b 22 [xc s.2]]) (fun s => s.1.length ≤ acc.length ∧ gU p s.1 = gU p acc) (fun s => s.1.length) ((acc, v)) (tk 1 rfl (tk 2 rfl tn)) ?_ rfl (⟨by simp, rfl⟩) (fun s hJ Y _ => ?_)
 refine tc rfl (dX (by (simp; done))) (tn)
 rotate_left 1
 obtain ⟨cur, v1⟩ := s
 dsimp only at hJ ⊢
 obtain ⟨j1, j2⟩ := hJ
 refine zI (zI (xZ 24 mixed rfl rfl (d1 (omv rfl) (d1 (ogt rfl rfl) (d1 (omv rfl) (d1g rfl rfl (uT 1 rfl rfl rfl rfl) (d1g rfl rfl (omv rfl) (d1g rfl rfl (osb rfl rfl (by omega)) (d1g rfl rfl (tU 0 (cur.length - 1) rfl rfl rfl (fun h => by have := dx1 h; omega) (fun h => by have := dx1 h; simp only [List.length_map, List.length_reverse]; omega)) ?_)))))))))
 refine d1g rfl rfl (rT 0 rfl rfl (fun g => (by (have := dx1 ‹_›; simp only [List.length_map, List.length_reverse]; omega))) rfl) (d1g rfl rfl (uT 1 rfl rfl rfl rfl) (d1g rfl rfl (omv rfl) (d1g rfl rfl (osb rfl rfl (by omega)) (d1g rfl rfl (tU 0 (cur.length - 2) rfl rfl rfl (fun h => by have := dx1 h; omega) (fun h => by have := dx1 h; simp only [List.length_map, List.length_reverse]; omega)) (d1g rfl rfl (rT 0 rfl rfl (fun g => (by (have := dx1 ‹_›; simp only [List.length_map, List.length_reverse]; omega))) rfl) (d1g rfl rfl (oca rfl rfl fun g => tK (by omega) (by omega)) (d1g rfl rfl (old rfl rfl) (d1g rfl rfl (uT 1 rfl rfl rfl rfl) (d1g rfl rfl (omv rfl) ?_)))))))))
 refine d1g rfl rfl (osb rfl rfl (by omega)) (d1g rfl rfl (tU 0 (cur.length - 1) rfl rfl rfl (fun h => by have := dx1 h; omega) (fun h => by have := dx1 h; simp only [List.length_map, List.length_reverse]; omega)) (d1g rfl rfl (rT 0 rfl rfl (fun g => (by (have := dx1 ‹_›; simp only [List.length_map, List.length_reverse]; omega))) rfl) (d1g rfl rfl (oca rfl rfl fun g => tK (by omega) (by omega)) (d1g rfl rfl (oca rfl rfl fun g => kturn (by omega) (by omega)) (d1g rfl rfl (ole rfl rfl) (d1 (opk rfl rfl rfl) (d0 (zA0 ?_))))))))
 refine gP rfl (fun c0 => ?_) (fun c0 => ?_)
 refine xO (zI (yZ (zK rfl (zA1 (uT 1 rfl rfl rfl rfl) (zA1 (omv rfl) (zA1 (osb rfl rfl (by omega)) (tsh 0 (cur.length - 1) rfl rfl rfl (by (have e0 := tV c0; omega)) (by (simp; done)) fun r35 => (tsw 1 0 rfl rfl rfl rfl rfl rfl rfl (zA0 ?_)))))))))
 refine zK rfl (zA1 (omv rfl) (zA1 (osb rfl rfl (by omega)) (zA1 (oas rfl) (zA0 ?_))))
 rotate_left 1
 refine qE ?_
 rotate_left 1
 ·have hs := drop_step c0
  refine ⟨(cur.tail, r35), tes ?_ ?_ ?_, ?_, (by (simp; omega))⟩
  refine tc rfl (dX (by (simp; omega))) (tn)
  refine tc rfl (xC _) (tc rfl (xC _) (tn))
  rotate_left 1
  rotate_left 1
  ·rw [rev_tail hs.1]; exact List.Sublist.refl _
  ·exact ⟨by simp only [List.length_tail]; omega, hs.2.trans j2⟩
 ·refine ⟨[], tu [], _, rs0, List.Sublist.refl _, ⟨rfl, v1, by rw [← j2, drop_stop c0]⟩, nil_r⟩
end Go.Proofs.YtflobagimodmgaaGreatDoor
set_option maxHeartbeats 4000000
namespace Go.Proofs.YtflobagimodmgaaGreatDoor
open Go.SL Go.RowKit Go.Proofs Tryz
theorem chain_snoc : ∀ (l : List P2) (acc : List P2) (p : P2), jC acc (l ++ [p]) = p :: gU p (jC acc l)
 | [], _, _ => rfl
 | q :: l, acc, p => by rw [List.cons_append, jC, jC]; exact chain_snoc l _ p
theorem mF (p : P2) : ∀ l : List P2, (gU p l).length ≤ l.length
 | [] => Nat.le_refl _
 | [_] => Nat.le_refl _
 | t :: s :: r => by
  rw [gU]; split
  ·have := mF p (s :: r); simp only [List.length_cons] at *; omega
  ·exact Nat.le_refl _
theorem dT : ∀ (l acc : List P2), (jC acc l).length ≤ acc.length + l.length
 | [], _ => Nat.le_refl _
 | p :: l, acc => by
  rw [jC]
  have h1 := dT l (p :: gU p acc)
  have h2 := mF p acc
  simp only [List.length_cons] at *; omega
theorem kchain {l : List P2} {n : Nat} (hn : n ≤ 5000) (hl : l.length ≤ 500) : CTy prog 72 [sv (sl 6 (l.map (ptc n)))] (sv (sl 6 ((jC [] l).reverse.map (ptc n)))) := by
 refine ctc func72 rfl rfl rfl rfl fun X => (zI (zK rfl (zA1 (oas rfl) (zA0 (zI (zK rfl (tal fun b3 => (zA0 (zI ?_)))))))))
 refine zK rfl (zA1 (omf rfl) (zA1 (oas rfl) (zA0 (zI (zI (zK rfl (zA1 (omv rfl) (zA1 (oln rfl) (zA1 (omv rfl) ?_)))))))))
 refine zA0 (yZ ?_)
 rotate_left 1
 refine dW (nR 35 6) ?_
 refine qH (σ := Nat × Value) (fun s => [(10, True, exP (.int .i64 ((s.1 : Nat) : Int)))]) (fun s => [.row s.2 35 6 ((jC [] (l.take s.1)).reverse.map (ptc n)), .blk b3 22 [xc s.2]]) (fun s => s.1 ≤ l.length) (fun s => l.length - s.1) ((0, .slice none 0 0)) (tk 3 rfl (tk 4 rfl (tk 8 rfl (tk 9 rfl tn)))) ?_ rfl ((by simp)) (fun s hJ Y _ => ?_)
 refine tc rfl (xC _) (tn)
 rotate_left 1
 have hc := dT (l.take s.1) []
 have hd := fun p => mF p (jC [] (l.take s.1))
 rw [List.length_take, List.length_nil] at hc
 refine zI (zK rfl (zA1 (olt rfl rfl) (zA0 (zI ?_))))
 refine gP rfl (fun c0 => ?_) (fun c0 => ?_)
 refine xO (zI (yZ (zI (zK rfl (zA1 (oix _ rfl rfl rfl (fun _ => rfl) (fun _ => (by (have e0 := dt c0; omega)))) (zA1 (old rfl rfl) (tal fun b6 => (tst 0 rfl rfl rfl rfl rfl rfl (bJ (cF (s := 6) 0 rfl rfl) ?_)))))))))
 refine zA0 (zI (zK rfl (zA1 (omv rfl) (zA1 (old rfl rfl) ?_))))
 rotate_left 1
 refine qE (zI (zK rfl (zA1 (uT 1 rfl rfl rfl rfl) (zA1 (oas rfl) (zA0 (dW (bI (s := 2) 0 rfl rfl) (yO (⟨[_], rst rfl rs0, yX ?_⟩))))))))
 rotate_left 1
 ·have h0 := dt c0
  refine tco [0, 1] rfl rfl rfl (kdrop (n := n) (acc := jC [] (l.take s.1)) (p := l.getD s.1 Df.d) (by omega) (by omega)) ?_
  rintro _ _ ⟨rfl, v', rfl⟩
  refine zA0 (zK rfl (zA1 (uT 1 rfl rfl rfl rfl) (zA1 (old rfl rfl) (zA1 (obs rfl rfl rfl rfl rfl rfl) ?_))))
  refine tap 0 rfl rfl rfl ?_ rfl fun r20 => ?_
  rotate_left 1
  refine tsw 1 0 rfl rfl rfl rfl rfl rfl rfl (zA0 (zK rfl (zA1 (oad rfl rfl (by omega)) (zA1 (omv rfl) (zA0 ?_)))))
  rotate_left 1
  ·have := hd (l.getD s.1 Df.d)
   simp only [List.length_map, List.length_reverse, List.length_cons, List.length_nil]; omega
  ·refine ⟨(s.1 + 1, r20), tes ?_ ?_ ?_, (by omega), (by omega)⟩
   refine tc rfl (xC _) (tn)
   refine tc rfl (xC _) (tc rfl (xC _) (tc rfl (xC _) (tc rfl (xC _) (tn))))
   rotate_left 1
   rw [(jU (Df.d : P2) (show s.1 < l.length by omega)).1, chain_snoc, List.reverse_cons, List.map_append]
   exact List.Sublist.refl _
 ·have h0 := df c0
  rw [List.take_of_length_le (by omega)]
  exact PSub.refl _
theorem kvnormo {Ψ : PV} {l : List P2} {n : Nat} [h : VPt Ψ n l] (hn : n ≤ 20000) (hl : l.length ≤ 1000000) : CTo prog 67 [Ψ] [] (fun ρ So => ∃ v, ρ = exP v ∧ So = [.row v 35 6 (l.map (ptc (n + 1)))]) := by
 refine cto_w (σs := [sv (sl 6 (l.map (ptq n)))]) ?_ (fs1 nO fs0)
 refine ctd func67 rfl rfl rfl rfl (fun _ _ _ _ _ _ _ hs hp => iA hs hp) fun X => (zI (zK rfl (zA1 (oas rfl) (zA0 (zI (zI (zK rfl (zA1 (omv rfl) (zA1 (oln rfl) ?_)))))))))
 refine zA1 (omv rfl) (zA0 (yZ ?_))
 rotate_left 1
 refine dW (nR 35 6) ?_
 refine qH (σ := Nat × Value) (fun s => [(2, True, exP s.2), (7, True, exP (.int .i64 ((s.1 : Nat) : Int)))]) (fun s => [.row s.2 35 6 ((l.take s.1).map (ptc (n + 1)))]) (fun s => s.1 ≤ l.length) (fun s => l.length - s.1) ((0, .slice none 0 0)) (tk 5 rfl (tk 6 rfl tn)) ?_ rfl ((by simp)) (fun s hJ Y _ => ?_)
 refine tc rfl (xC _) (tc rfl (xC _) (tn))
 rotate_left 1
 refine zI (zK rfl (zA1 (olt rfl rfl) (zA0 (zI ?_))))
 refine gP rfl (fun c0 => ?_) (fun c0 => ?_)
 refine xO (zI (yZ (zI (zK rfl (zA1 (oix _ rfl rfl rfl (fun _ => rfl) (fun _ => (by (have e0 := dt c0; omega)))) (zA1 (old rfl rfl) (tal fun b4 => (tst 0 rfl rfl rfl rfl rfl rfl (bJ (cF (s := 4) 0 rfl rfl) ?_)))))))))
 refine zA0 (xZ 9 mixed rfl rfl (d1 (omv rfl) (d1 (ofa rfl rfl) (d1 (old rfl rfl) (d1 (oca rfl rfl fun _ => krnorm (by omega)) (d1 (ofa rfl rfl) (d1 (old rfl rfl) (d1 (oca rfl rfl fun _ => krnorm (by omega)) ?_))))))))
 refine d1 (obd rfl rfl rfl) (d1 (obs rfl rfl rfl rfl rfl rfl) (d0 (tap 0 rfl rfl rfl (by (simp; omega)) rfl fun r20 => (zA1 (oas rfl) (zA0 (zK rfl (zA1 (oad rfl rfl (by omega)) (zA1 (omv rfl) (zA0 ?_)))))))))
 rotate_left 1
 refine qE (zI (zK rfl (zA1 (omv rfl) (zA1 (oas rfl) (zA0 (yO ?_))))))
 rotate_left 1
 ·refine ⟨(s.1 + 1, r20), tes ?_ ?_ ?_, (by (have e0 := dt c0; omega)), (by (have e0 := dt c0; omega))⟩
  refine tc rfl (xC _) (tc rfl (xC _) (tn))
  refine tc rfl (xC _) (tc rfl (xC _) (tn))
  rotate_left 1
  rw [(jU (Df.d : P2) (show s.1 < l.length by have := dt c0; omega)).1, List.map_append]
  exact List.Sublist.refl _
 ·have h0 := df c0
  exact ⟨[_], exP s.2, _, rst rfl rs0, List.Sublist.refl _, ⟨s.2, rfl, by rw [List.take_of_length_le (by omega)]⟩, yX (PSub.refl _)⟩
theorem kclone {l : List P2} {n : Nat} (h0 : 0 < l.length) (hl : l.length ≤ 1000) : CTo prog 73 [sv (sl 6 (l.map (ptc n)))] [] (fun ρ So => ∃ v, ρ = exP v ∧ So = [.row v 35 6 (l.map (ptc n))]) := by
 refine ctd func73 rfl rfl rfl rfl (fun _ _ _ _ _ _ _ hs hp => iA hs hp) fun X => (zI (zK rfl (zA1 (oas rfl) (zA0 (zI (zI (zK rfl (zA1 (omv rfl) (zA1 (oqn rfl (fun _ => (by (simp; omega)))) ?_)))))))))
 refine zA0 (t_iff rfl rfl (xO (zI (zK rfl (tbs0 fun r5 => (zA1 (omv rfl) (tap 0 rfl rfl rfl (by (simp; omega)) rfl fun r7 => (zA1 (oas rfl) (zA0 ?_)))))))))
 refine yO ?_
 rotate_left 1
 exact ⟨[_], exP r7, _, rst rfl rs0, List.Sublist.refl _, ⟨r7, rfl, rfl⟩, yX (PSub.refl _)⟩
theorem krevP {v : Value} {l : List P2} {n : Nat} (h0 : 0 < l.length) (hl : l.length ≤ 1000000) : CTo prog 74 [exP v] [.row v 35 6 (l.map (ptc n))] (fun r So => r = tu [] ∧ So = [.row v 35 6 (l.reverse.map (ptc n))]) :=
 trev (ρ := revPt_ren) revPt rfl rG (gR pL) (fun _ => rfl) (bo func74) h0 hl
end Go.Proofs.YtflobagimodmgaaGreatDoor
set_option maxHeartbeats 4000000
namespace Go.Proofs.YtflobagimodmgaaGreatDoor
open Go.SL Go.RowKit Go.Proofs Tryz
theorem chain_two {l : List P2} (h2 : 2 ≤ l.length) (hs : l.Pairwise ltP) : 2 ≤ (jC [] l).length ∧ 2 ≤ (jC [] l.reverse).length := by
 obtain ⟨mn, mx, A, B, cl, ch, eS, mnl, mxl, hlt, hmx, hmn, eL, eH⟩ := mC h2 hs
 rw [eL, eH]; simp only [List.length_cons, List.length_append, List.length_nil]; omega
theorem mE {α β : Type} (f : α → β) (l : List α) : (l.reverse.drop 0).take (l.length - 1 - 0) = l.reverse.dropLast := by
 rw [List.drop_zero, Nat.sub_zero, List.dropLast_eq_take, List.length_reverse]
theorem oN {Ψ : PV} {l : List P2} {n : Nat} [h : VPt Ψ n l] (hn : n ≤ 4000) (hl : l.length ≤ 400) : CTy prog 13 [Ψ] (sv (sl 6 ((hullF l).map (ptc (n + 1))))) := by
 refine uQ (σs := [sv (sl 6 (l.map (ptq n)))]) ?_ (fs1 nO fs0)
 refine ctc func13 rfl rfl rfl rfl fun X => (zI (zK rfl (zA1 (oas rfl) (zA0 (zI (zK rfl (zA1 (omv rfl) (tco [] rfl rfl rfl (kvnormo (by omega) (by omega)) ?_))))))))
 rotate_left 1
 rintro _ _ ⟨v, rfl, rfl⟩
 refine zA1 (oas rfl) (zA0 (zI (zK rfl (zA1 (omv rfl) ?_))))
 rotate_left 1
 refine tco [0] rfl rfl rfl (ksortP (by omega) (by omega)) ?_
 rintro _ _ ⟨rfl, l', hp', hso, rfl⟩
 have hll := hp'.length_eq
 refine zA0 (zI (zK rfl (zA1 (omv rfl) ?_)))
 rotate_left 1
 refine tco [0] rfl rfl rfl (wcompactP (by omega) (by omega)) ?_
 rintro _ _ ⟨v3, rfl, rfl⟩
 have hsl := setOf_len tN l
 rw [show uZ eqP Df.d l' l'.length = setOf uR l from (sd_of_sort tN hp' hso).eq tN]
 refine zA1 (oas rfl) (zA0 (zI (zI (zK rfl (zA1 (omv rfl) (zA1 (vY 0 rfl rfl) (zA1 (olt rfl rfl) (zA0 ?_))))))))
 refine gP rfl (fun c0 => ?_) (fun c0 => ?_)
 refine zI (zK rfl (zA1 (omv rfl) (zA1 (oas rfl) (zA0 (dW (bI (s := 2) 0 rfl rfl) (yO (⟨[_], rst rfl rs0, yX ?_⟩)))))))
 rotate_left 1
 rotate_left 1
 ·have h0 := dt c0
  exact sL (by unfold hullF uO; rw [if_pos (by omega)])
 have h0 := df c0
 obtain ⟨c2, c3⟩ := chain_two (l := setOf uR l) (by omega) (mX l)
 have hL := dT (setOf uR l) []
 have hH := dT (setOf uR l).reverse []
 rw [List.length_nil] at hL hH
 rw [List.length_reverse] at hH
 refine dW (bI 0 rfl (s := 3) rfl) ?_
 refine xO (zI (zK rfl (zA1 (omv rfl) (zA1 (oca rfl rfl fun _ => kchain (by omega) (by omega)) (zA1 (oas rfl) (zA0 (zI (zK rfl (zA1 (omv rfl) ?_)))))))))
 refine tco [] rfl rfl rfl (kclone (by omega) (by omega)) ?_
 rotate_left 1
 rintro _ _ ⟨v5, rfl, rfl⟩
 refine zA1 (oas rfl) (zA0 (zI (zK rfl (zA1 (omv rfl) (tco [0] rfl rfl rfl (krevP (by omega) (by omega)) ?_)))))
 rotate_left 1
 rintro _ _ ⟨rfl, rfl⟩
 refine zA0 (dW (bI 0 rfl (s := 5) rfl) ?_)
 refine zI (zK rfl (zA1 (omv rfl) (zA1 (oca rfl rfl fun _ => kchain (by omega) (by (simp; omega))) (zA1 (oas rfl) (zA0 (zI (t_drawC 1 14 [(13, 38, 0)] rfl rfl mixed rfl rfl (cx1 (omv rfl) rfl (cx1 (omv rfl) rfl ?_)))))))))
 refine cx1 (oln rfl) rfl (cx1 (osb rfl rfl (by (simp; omega))) rfl (cx1 (omv rfl) rfl (cx1 (oln rfl) rfl (cx1 (osb rfl rfl (by (simp; omega))) rfl (cx1 (osl3 ((jC [] (setOf uR l)).length - 1) rfl rfl rfl (fun _ => (by (simp; omega))) (fun _ => (by (simp; omega))) (fun _ => (by (simp; done)))) rfl (cx1 (omv rfl) rfl (cx1 (omv rfl) rfl (cx1 (oln rfl) rfl (cx1 (osb rfl rfl (by (simp; omega))) rfl ?_)))))))))
 refine cx1 (osl 0 ((jC [] (setOf uR l).reverse).length - 1) rfl rfl ⟨_, _, _, _, rfl, fun _ => ⟨⟩, inferInstance, fun _ => (by (simp; omega))⟩ (fun _ => (by omega)) (fun _ => (by (simp; done)))) rfl (cN rfl rfl (capX rfl rfl (by (simp; omega)) (by (simp; omega)) (by (simp; omega)) rfl) ?_)
 refine cE (fun r38 => ?_)
 refine zA1 (oas rfl) (zA0 (dW (bI (s := 2) 0 rfl rfl) (yO (⟨[_], rst rfl rs0, yX ?_⟩))))
 rotate_left 1
 all_goals first
  | (rw [List.length_reverse]; omega)
  | (rw [List.length_map, mE id, List.length_dropLast, List.length_reverse]; omega)
  | (rw [mE id, mE id, ← List.map_append]; exact sL (by unfold hullF uO; rw [if_neg (by omega)]))
end Go.Proofs.YtflobagimodmgaaGreatDoor
set_option maxHeartbeats 4000000
namespace Go.Proofs.YtflobagimodmgaaGreatDoor
open Go.SL Go.RowKit Go.Proofs Tryz
theorem diffs_at : ∀ (C : List P2) (i : Nat), i + 1 < C.length → (jE C)[i]? = some (yK (gp C (i + 1)) (gp C i))
 | [], _, h => by simp at h
 | [_], _, h => by simp at h
 | a :: b :: r, 0, _ => rfl
 | a :: b :: r, i + 1, h => by
  have := diffs_at (b :: r) i (by simp only [List.length_cons] at h ⊢; omega)
  simpa [jE] using this
theorem edgesP_at {h : List P2} {i : Nat} (h1 : 1 < h.length) (hi : i < h.length) : (xT h)[i]? = some (yK (nx h i) (gp h i)) := by
 unfold xT
 rw [if_pos h1, diffs_at _ i (by simp; omega)]
 have e1 : gp (h ++ [gp h 0]) i = gp h i := by
  unfold gp; rw [List.getD_eq_getElem?_getD, List.getElem?_append_left hi, List.getD_eq_getElem?_getD]
 have e2 : gp (h ++ [gp h 0]) (i + 1) = nx h i := by
  unfold nx
  rcases Nat.lt_or_ge (i + 1) h.length with c | c
  ·rw [Nat.mod_eq_of_lt c]; unfold gp; rw [List.getD_eq_getElem?_getD, List.getElem?_append_left c, List.getD_eq_getElem?_getD]
  ·have : i + 1 = h.length := by omega
   rw [this, Nat.mod_self]; unfold gp; rw [List.getD_eq_getElem?_getD, List.getElem?_append_right (Nat.le_refl _)]; simp
 rw [e1, e2]
theorem edgesP_split {h : List P2} {i : Nat} (h1 : 1 < h.length) (hi : i < h.length) : (∃ post, xT h = (xT h).take i ++ yK (nx h i) (gp h i) :: post) ∧ (xT h).take (i + 1) = (xT h).take i ++ [yK (nx h i) (gp h i)] := by
 have h2 := edgesP_at h1 hi
 obtain ⟨hl, e⟩ := List.getElem?_eq_some_iff.1 h2
 refine ⟨⟨(xT h).drop (i + 1), ?_⟩, ?_⟩
 ·rw [← e, List.getElem_cons_drop, List.take_append_drop]
 ·rw [List.take_succ_eq_append_getElem hl, e]
theorem iminkE {h : List P2} {n : Nat} (hn : n ≤ 5000) (hl : h.length ≤ 1000000) : CIt prog 137 [pa (sl 6 (h.map (ptc n)))] (xT h) (fun e => [ag (ptc (2 * n + 3) e)]) := by
 refine cit func137 rfl rfl rfl rfl rfl fun X y YS YX hY hS => (zI (zK rfl (zA1 (old rfl rfl) (zA1 (oln rfl) (zA1 (omv rfl) (zA0 (yZ ?_)))))))
 rotate_left 1
 refine t_loopYK (σ := Nat) (fun i => [(7, True, exP (.int .i64 ((i : Nat) : Int)))]) (fun i => []) (fun i Y => YS ((xT h).take i) Y ∧ i ≤ h.length) (fun i => h.length - i) (0) (tk 0 rfl (tk 1 rfl (tk 5 rfl (tk 6 rfl tn)))) ?_ rfl (⟨hS, by omega⟩) (fun i Y hG => ?_)
 refine tc rfl (xC _) (tn)
 rotate_left 1
 obtain ⟨hS, hi⟩ := hG
 refine zI (zK rfl (zA1 (olt rfl rfl) (zA0 (zI ?_))))
 refine gP rfl (fun c0 => ?_) (fun c0 => ?_)
 refine xO (zI (yZ (zI (zK rfl (zA1 (omv rfl) (zA1 (oix _ rfl rfl rfl (fun _ => rfl) (fun _ => (by (have e0 := dt c0; omega)))) (zA1 (old rfl rfl) (tal fun b4 => (zA1 (oas rfl) ?_)))))))))
 refine tst 0 rfl rfl rfl rfl rfl rfl (bJ (cF (s := 4) 0 rfl rfl) (zA0 (zI (xZ 15 mixed rfl rfl (d1 (old rfl rfl) (d1 (oln rfl) (d1 (ogt rfl rfl) (d1 (omv rfl) (d1g rfl rfl (omv rfl) ?_)))))))))
 refine d1g rfl rfl (old rfl rfl) (d1g rfl rfl (omv rfl) (d1g rfl rfl (oad rfl rfl (by omega)) (d1g rfl rfl (old rfl rfl) (d1g rfl rfl (oln rfl) (d1g rfl rfl (orm rfl rfl (by (have e0 := dt c0; omega))) ?_)))))
 refine d1g rfl rfl (oix _ rfl rfl rfl (fun g => rfl) (fun g => ?_)) ?_
 rotate_left 1
 refine d1g rfl rfl (old rfl rfl) (d1g rfl rfl (old rfl rfl) (d1g rfl rfl (oca rfl rfl fun g => tK (by omega) (by omega)) (d0 ?_)))
 rotate_left 1
 refine qE ?_
 rotate_left 1
 ·have := dt c0
  exact Nat.mod_lt _ (by omega)
 have h2 : i < h.length := by have := dt c0; omega
 refine t_yieldh hY hS rfl rfl (fun e => (edgesP_split (by have := of_decide_eq_true e; omega) h2).1) rfl rfl (fs1 (tF (p := yK (nx h i) (gp h i)) rfl (by omega)) fs0) (fun e => ?_) (fun e Y hS => ?_) (fun e Y hX => ?_)
 ·refine t1g rfl rfl (ont rfl) (zA1 (opk rfl rfl rfl) (zA0 ?_))
  refine gP rfl (fun c1 => ?_) (fun c1 => ?_)
  refine yO ?_
  rotate_left 1
  refine xO (zK rfl (zA1 (oad rfl rfl (by omega)) (zA1 (omv rfl) (zA0 ?_))))
  rotate_left 1
  ·exact absurd c1.h (by simp)
  ·have he : xT h = [] := by unfold xT; rw [if_neg fun c => e (decide_eq_true (by omega))]
   refine ⟨i + 1, tes ?_ ?_ (List.Sublist.refl _), ?_, (by omega)⟩
   refine tc rfl (xC _) (tn)
   refine tc rfl (xC _) (tc rfl (xC _) (tc rfl (xC _) (tc rfl (xC _) (tn))))
   rotate_left 1
   exact ⟨by rw [he] at hS ⊢; simpa using hS, by omega⟩
 ·have h1 : 1 < h.length := by have := of_decide_eq_true e; omega
  refine t1g rfl rfl (ont rfl) (zA1 (opk rfl rfl rfl) (zA0 ?_))
  refine gP rfl (fun c1 => ?_) (fun c1 => ?_)
  refine yO ?_
  rotate_left 1
  refine xO (zK rfl (zA1 (oad rfl rfl (by omega)) (zA1 (omv rfl) (zA0 ?_))))
  rotate_left 1
  ·exact absurd c1.h (by simp)
  ·refine ⟨i + 1, tes ?_ ?_ (List.Sublist.refl _), ?_, (by omega)⟩
   refine tc rfl (xC _) (tn)
   refine tc rfl (xC _) (tc rfl (xC _) (tc rfl (xC _) (tc rfl (xC _) (tn))))
   rotate_left 1
   exact ⟨by rw [(edgesP_split h1 h2).2]; exact hS, by omega⟩
 ·refine t1g rfl rfl (ont rfl) (zA1 (opk rfl rfl rfl) (zA0 ?_))
  refine gP rfl (fun c1 => ?_) (fun c1 => ?_)
  refine yO ?_
  rotate_left 1
  refine xO (zK rfl (zA1 (oad rfl rfl (by omega)) (zA1 (omv rfl) (zA0 ?_))))
  rotate_left 1
  ·exact .inr hX
  ·rw [e] at c1; exact absurd c1.h (by simp)
 ·have : i = h.length := by have := df c0; omega
  subst this
  rw [List.take_of_length_le (by rw [cX]; split <;> omega)] at hS
  exact .inl hS
theorem kminkE {h : List P2} {n : Nat} : CTy prog 79 [sv (sl 6 (h.map (ptc n)))] (fn 137 [pa (sl 6 (h.map (ptc n)))]) := by
 refine ctc func79 rfl rfl rfl rfl fun X => (zI (zK rfl (zA1 (obx rfl) (zA1 (oas rfl) (zA0 (zI (zK rfl (zA1 (omf rfl) (zA1 (oas rfl) ?_)))))))))
 refine zA0 (yO (⟨[_], rst rfl rs0, yX (PSub.refl _)⟩))
theorem kappP {g : FuncId} {caps : List PV} {xs : List P2} {m : Nat} (it : CIt prog g caps xs (fun e => [ag (ptc m e)])) (hl : xs.length ≤ 1000) : CTy prog 136 [exP (.slice none 0 0), fn g caps] (sv (sl 6 (xs.map (ptc m)))) := by
 refine ctc func136 rfl rfl rfl rfl fun X => (zI (zK rfl (tbx (hc := cts1) rfl fun b2 => (zA1 (oas rfl) (zA0 (zI (zI (zK rfl (zA1 (omv rfl) ?_)))))))))
 refine zA0 (yZ ?_)
 rotate_left 1
 refine dW (nR 35 6) ?_
 refine pK (σ := List P2 × Value) (fun t => [.row t.2 35 6 (t.1.map (ptc m)), .blk b2 22 [xc t.2]]) (fun pre t => t.1 = pre) ([], .slice none 0 0) rfl it (fun _ => rfl) rfl vH (by simp) rfl (fun pre x post t hx hJ Y y hl => ?_) (fun t hJ Y _ => ?_)
 ·obtain ⟨pr, v1⟩ := t
  obtain rfl : pr = pre := hJ
  have h1 : pr.length ≤ 1000 := by have := congrArg List.length hx; simp at this; omega
  refine zK rfl (tal fun b5 => (tst 0 rfl rfl rfl rfl rfl rfl (bJ (cF (s := 5) 0 rfl rfl) (zA0 (⟨rfl, fun Y hl => (yZ (zK rfl (zA1 (uT 1 rfl rfl rfl rfl) (zA1 (old rfl rfl) ?_))))⟩)))))
  refine zA1 (obs rfl rfl rfl rfl rfl rfl) (tap 0 rfl rfl rfl (by (simp; omega)) rfl fun r11 => (tsw 1 0 rfl rfl rfl rfl rfl rfl rfl (zA0 ?_)))
  rotate_left 1
  refine ⟨(pr ++ [x], r11), (by (simp; done)), rfl⟩
 ·obtain ⟨_, v1⟩ := t
  obtain rfl : _ = xs := hJ
  refine zI (zK rfl (zA1 (uT 1 rfl rfl rfl rfl) (zA1 (oas rfl) (zA0 (dW (bI (s := 4) 0 rfl rfl) (yO (⟨[_], rst rfl rs0, yX (PSub.refl _)⟩)))))))
theorem kcolP {g : FuncId} {caps : List PV} {xs : List P2} {m : Nat} (it : CIt prog g caps xs (fun e => [ag (ptc m e)])) (hl : xs.length ≤ 1000) : CTy prog 78 [fn g caps] (sv (sl 6 (xs.map (ptc m)))) := by
 refine ctc func78 rfl rfl rfl rfl fun X => (zI (zK rfl (zA1 (oas rfl) (zA0 (zI (zK rfl (zA1 (omv rfl) (zA1 (oca rfl rfl fun _ => kappP it (by omega)) (zA1 (oas rfl) ?_)))))))))
 refine zA0 (yO (⟨[_], rst rfl rs0, yX (PSub.refl _)⟩))
end Go.Proofs.YtflobagimodmgaaGreatDoor
set_option maxHeartbeats 4000000
namespace Go.Proofs.YtflobagimodmgaaGreatDoor
open Go.SL Go.RowKit Go.Proofs Tryz
section
variable {Ψ Φ : PV} {n m N : Nat} {p q : P2} {a b : List P2}
theorem ps_pl {p q : P2} {n N : Nat} (e : p = q) (h : plen q N) : PSub (ag (st [rtc n p.1, rtc n p.2])) (ag (ptc N q)) := fun M w v ⟨us, e1, x, y, e2, ⟨s, a, d, k1, g1⟩, z, o, e3, ⟨t, b, f, k2, g2⟩, e4⟩ => by
 subst e; exact ⟨us, e1, x, y, e2, ⟨s, a, d, k1, g1.relen h.x⟩, z, o, e3, ⟨t, b, f, k2, g2.relen h.y⟩, e4⟩
theorem sO [h : QP Ψ n p] [k : QP Φ m q] (hn : n ≤ 30000) (hm : m ≤ 30000) (hr : plen (yV p q) N) : CTy prog 80 [Ψ, Φ] (ag (ptc N (yV p q))) := oR (kvadd hn hm) (ps_pl rfl hr)
theorem vpt_pl [h : VPt Ψ n a] {M : Nat → Prop} {w : World} {v : Value} (h1 : Ψ.p M w v) : ∀ x ∈ a, plen x (n + 1) := fun x hx => by
 obtain ⟨cs, h3, h2⟩ := (h.h h1).row
 obtain ⟨i, hi, rfl⟩ := List.mem_iff_getElem.1 hx
 obtain ⟨us, _, _, s, x, d, t, b, e, _, g⟩ := h2 i _ (List.getElem?_eq_getElem hi)
 exact ⟨g.x.rlen, g.y.rlen⟩
theorem cty_2pt [h : VPt Ψ n a] [k : VPt Φ m b] {P : Program} {f : FuncId} {ρ : PV} (hb : Bod P f) (hr : (∀ x ∈ a, plen x (n + 1)) → (∀ x ∈ b, plen x (m + 1)) → CTy P f [sv (sl 6 (a.map (ptq n))), sv (sl 6 (b.map (ptq m)))] ρ) : CTy P f [Ψ, Φ] ρ :=
 ⟨hb, fun M w vs hM hT hv => by
  obtain ⟨v, u, _, h1, h2⟩ := fa2 hv
  exact (hr (vpt_pl h1) (vpt_pl h2)).run M w vs hM hT ((fs1 nO (fs1 nO fs0)) _ _ _ hv)⟩
end
theorem ps_nil0 {k : Nat} : PSub (exP (.slice none 0 0)) (sv (sl k [])) := fun M w v h => by
 obtain rfl : v = .slice none 0 0 := h
 exact ⟨_, [], rfl, ⟨by simp, by simp, none, 0, rfl, Nat.le_refl _, .inl rfl⟩, rfl, by simp [aO]⟩
theorem way_at {h k s t : List P2} (hh : h ≠ []) (hk : k ≠ []) (e : mrg (xT h) (xT k) = s ++ t) : ∃ x ∈ h, ∃ y ∈ k, yV (yV (gp h 0) (gp k 0)) (jQ s) = yV x y := by
 obtain ⟨p1, p2, q1, q2, h1, h2, h3⟩ := mrg_pre _ _ e
 refine ⟨_, fL hh h1, _, fL hk h2, ?_⟩
 rw [h3]; unfold yV; rw [Prod.ext_iff]; constructor <;> simp only <;> grind
structure MJ (h k : List P2) (p q : List P2) (at' : P2) (out : List P2) : Prop where
 way : out ++ fZ at' (mrg p q) = mR h k
 at_ : ∃ s, mrg (xT h) (xT k) = s ++ mrg p q ∧ at' = yV (yV (gp h 0) (gp k 0)) (jQ s)
theorem mj0 {h k : List P2} : MJ h k (xT h) (xT k) (yV (gp h 0) (gp k 0)) [yV (gp h 0) (gp k 0)] := ⟨rfl, [], rfl, (jO _).symm⟩
theorem pY {h k p q out : List P2} {d at' : P2} (j : MJ h k (d :: p) q at' out) (hc : q = [] ∨ gW d (q.getD 0 Df.d) = true) : mrg (d :: p) q = d :: mrg p q := by
 match q, hc with
 | [], _ => rw [pX, pX]
 | b :: q, hc =>
  have : gW d b = true := hc.elim (fun c => by cases c) id
  rw [mrg, if_pos this]
theorem oF {h k p q out : List P2} {d at' : P2} (j : MJ h k p (d :: q) at' out) (hc : p = [] ∨ gW (p.getD 0 Df.d) d = false) : mrg p (d :: q) = d :: mrg p q := by
 match p, hc with
 | [], _ => rw [mrg_nil', mrg_nil']
 | a :: p, hc =>
  have : gW a d = false := hc.elim (fun c => by cases c) id
  rw [mrg, if_neg (by rw [this]; simp)]
theorem fH {h k p q p' q' out : List P2} {d at' : P2} (j : MJ h k p q at' out) (e : mrg p q = d :: mrg p' q') : (mrg p' q' = [] → out = mR h k) ∧ (mrg p' q' ≠ [] → MJ h k p' q' (yV at' d) (out ++ [yV at' d])) ∧ ∃ s, mrg (xT h) (xT k) = s ++ mrg p' q' ∧ yV at' d = yV (yV (gp h 0) (gp k 0)) (jQ s) := by
 obtain ⟨j1, s, j2, j3⟩ := j
 have h3 : ∃ s, mrg (xT h) (xT k) = s ++ mrg p' q' ∧ yV at' d = yV (yV (gp h 0) (gp k 0)) (jQ s) := ⟨s ++ [d], by rw [j2, e]; simp, by rw [j3, nS, gN]; congr 2; rw [jQ, show jQ [] = (0, 0) from rfl, jO]⟩
 refine ⟨fun h0 => ?_, fun h0 => ⟨?_, h3⟩, h3⟩
 ·rw [e, h0, fZ, List.append_nil] at j1; exact j1
 ·rw [e] at j1
  match hm : mrg p' q', h0 with
  | f :: l, _ => rw [hm, fZ] at j1; rw [← j1]; simp
theorem vL {p q : List P2} {b : Bool} (h1 : 0 < (p.length : Int) + (q.length : Int)) (h : Tr ((decide ((q.length : Int) = 0) || (decide (0 < (p.length : Int)) && b)) = true)) : ∃ d p', p = d :: p' ∧ (q = [] ∨ b = true) := by
 have h := h.h
 rw [Bool.or_eq_true, Bool.and_eq_true, decide_eq_true_eq, decide_eq_true_eq] at h
 match p with
 | d :: p' => exact ⟨d, p', rfl, h.imp (fun h => List.length_eq_zero_iff.1 (by omega)) (·.2)⟩
 | [] => rw [List.length_nil] at h h1; omega
theorem vK {p q : List P2} {b : Bool} (h : Tr ((decide ((q.length : Int) = 0) || (decide (0 < (p.length : Int)) && b)) = false)) : ∃ d q', q = d :: q' ∧ (p = [] ∨ b = false) := by
 have h := h.h
 rw [Bool.or_eq_false_iff, Bool.and_eq_false_iff, decide_eq_false_iff_not, decide_eq_false_iff_not] at h
 match q with
 | d :: q' => exact ⟨d, q', rfl, h.2.imp (fun h => List.length_eq_zero_iff.1 (by omega)) id⟩
 | [] => exact absurd rfl h.1
theorem bD {d : P2} {l : List P2} {f : P2 → CT} : ((d :: l).drop 1).take (((d :: l).map f).length - 1) = l := by simp
theorem vJ {p q : List P2} (h : p.length + q.length = 0) : mrg p q = [] := by
 rw [List.length_eq_zero_iff.1 (show p.length = 0 by omega), List.length_eq_zero_iff.1 (show q.length = 0 by omega)]; simp [mrg]
theorem mrg_00 {p q : List P2} (h : mrg p q = []) : p.length + q.length = 0 := by rw [← mrg_len, h]; rfl
theorem lU {a b : List P2} (ha : hullF a ≠ []) (hb : hullF b ≠ []) : hullF (mR (hullF a) (hullF b)) = sumF a b := sum_made (fun c => ha (bR.2 c)) fun c => hb (bR.2 c)
theorem wsum {a b : List P2} {n m : Nat} (hn : n ≤ 300) (hm : m ≤ 300) (ha : a.length ≤ 100) (hb : b.length ≤ 100) (pa' : ∀ x ∈ a, plen x (n + 1)) (pb' : ∀ x ∈ b, plen x (m + 1)) : CTy prog 22 [sv (sl 6 (a.map (ptq n))), sv (sl 6 (b.map (ptq m)))] (sv (sl 6 ((sumF a b).map (ptc (n + m + 4))))) := by
 have la := cW a
 have lb := cW b
 refine ctc func22 rfl rfl rfl rfl fun X => (zI (zK rfl (zA1 (oas rfl) (zA0 (t_scope (zI (zK rfl (zA1 (omv rfl) (zA1 (oca rfl rfl fun _ => oN (by omega) (by omega)) ?_)))))))))
 refine zA1 (omv rfl) (zA1 (oca rfl rfl fun _ => oN (by omega) (by omega)) (zA1 (oas rfl) (zA1 (oas rfl) (zA0 (zI (zI (zK rfl (zA1 (omv rfl) (zA1 (oln rfl) ?_)))))))))
 refine zA1 (oeq rfl rfl) (zA1 (omv rfl) (t1g rfl rfl (omv rfl) (t1g rfl rfl (oln rfl) (t1g rfl rfl (oeq rfl rfl) (zA1 (opk rfl rfl rfl) (zA0 ?_))))))
 refine gP rfl (fun c0 => ?_) (fun c0 => ?_)
 refine zI (zK rfl (zA1 (oas rfl) (zA0 (yO (⟨[_], rst rfl rs0, yX ?_⟩)))))
 rotate_left 1
 rotate_left 1
 ·have h := c0.h
  rw [Bool.or_eq_true, decide_eq_true_eq, decide_eq_true_eq] at h
  rw [mV.2 (h.imp (fun h => bR.1 (List.length_eq_zero_iff.1 (by omega))) fun h => bR.1 (List.length_eq_zero_iff.1 (by omega)))]
  exact ps_nil0
 have h := c0.h
 rw [Bool.or_eq_false_iff, decide_eq_false_iff_not, decide_eq_false_iff_not] at h
 have ha0 : hullF a ≠ [] := fun c => h.1 (by rw [c]; rfl)
 have hb0 : hullF b ≠ [] := fun c => h.2 (by rw [c]; rfl)
 have hA : 0 < (hullF a).length := List.length_pos_iff.2 ha0
 have hB : 0 < (hullF b).length := List.length_pos_iff.2 hb0
 have ea : (xT (hullF a)).length ≤ 100 := by rw [cX]; split <;> omega
 have eb : (xT (hullF b)).length ≤ 100 := by rw [cX]; split <;> omega
 have hpl : ∀ x ∈ hullF a, ∀ y ∈ hullF b, plen (yV x y) (n + m + 3) := fun x hx y hy => ((pa' x ((qO a).sub x hx)).add (pb' y ((qO b).sub y hy))).up (by omega)
 have hol := out_len (hullF a) (hullF b)
 refine xO (zI (zK rfl (zA1 (omv rfl) (zA1 (oca rfl rfl fun _ => kminkE) (zA1 (oca rfl rfl fun _ => kcolP (iminkE (by omega) (by omega)) (by omega)) (zA1 (omv rfl) (zA1 (oca rfl rfl fun _ => kminkE) (zA1 (oca rfl rfl fun _ => kcolP (iminkE (by omega) (by omega)) (by omega)) (zA1 (oas rfl) ?_)))))))))
 refine zA1 (oas rfl) (zA0 (zI ?_))
 apply t_drawS 1 9 8 [(7, 7, 0), (8, 1000008, 0)] rfl rfl mixed rfl rfl rfl
 refine cx1 (omv rfl) rfl (cx1 (oix _ rfl rfl rfl (fun _ => rfl) (fun _ => (by omega))) rfl (cx1 (old rfl rfl) rfl (cx1 (omv rfl) rfl (cx1 (oix _ rfl rfl rfl (fun _ => rfl) (fun _ => (by omega))) rfl (cx1 (old rfl rfl) rfl ?_)))))
 refine cx1 (oca rfl rfl fun _ => sO (N := n + m + 3) (by omega) (by omega) ?_) rfl ?_
 rotate_left 1
 refine cN rfl rfl (cal) (cS rfl rfl rfl (cst rfl rfl rfl) ?_)
 refine cE (fun b7 => ?_)
 refine zA0 (zI (zK rfl (zA1 (uT 0 rfl rfl rfl rfl) (tbs rfl rfl rfl rfl rfl rfl fun r36 => (zA1 (oas rfl) (zA0 (zI (t_label (zI ?_)))))))))
 refine yZ ?_
 rotate_left 1
 ·exact hpl _ (cI hA) _ (cI hB)
 refine qH (σ := (List P2 × List P2) × P2 × List P2 × Value) (fun s => [(8, True, exP s.2.2.2), (5, True, sv (sl 6 (s.1.1.map (ptc (2 * (n + 1) + 3))))), (6, True, sv (sl 6 (s.1.2.map (ptc (2 * (m + 1) + 3)))))]) (fun s => [.row s.2.2.2 35 6 (s.2.2.1.map (ptc (n + m + 3))), .blk b7 35 [ptc (n + m + 3) s.2.1]]) (fun s => MJ (hullF a) (hullF b) s.1.1 s.1.2 s.2.1 s.2.2.1 ∧ s.1.1.length ≤ 100 ∧ s.1.2.length ≤ 100 ∧ s.2.2.1.length ≤ 250) (fun s => s.1.1.length + s.1.2.length) (((xT (hullF a), xT (hullF b)), yV (gp (hullF a) 0) (gp (hullF b) 0), [yV (gp (hullF a) 0) (gp (hullF b) 0)], r36)) (tk 7 rfl tn) ?_ rfl (⟨mj0, by simpa using ea, by simpa using eb, by simp⟩) (fun s hJ Y _ => ?_)
 refine tc rfl (xC _) (tc rfl (xC _) (tc rfl (xC _) (tn)))
 rotate_left 1
 obtain ⟨⟨p, q⟩, at1, out, v1⟩ := s
 dsimp only at hJ ⊢
 obtain ⟨j, j1, j2, j3⟩ := hJ
 refine zI (zI (zK rfl (zA1 (omv rfl) (zA1 (oln rfl) (zA1 (omv rfl) (zA1 (oln rfl) (zA1 (oad rfl rfl (by omega)) (zA1 (ogt rfl rfl) (zA0 ?_)))))))))
 refine gP rfl (fun c1 => ?_) (fun c1 => ?_)
 refine xO (yZ (zI (zK rfl (tal fun b9 => (zA0 (zI (zI (xZ 17 mixed rfl rfl (d1 (omv rfl) ?_)))))))))
 refine d1 (oln rfl) (d1 (oeq rfl rfl) (d1 (omv rfl) (d1g rfl rfl (omv rfl) (d1g rfl rfl (oln rfl) (d1g rfl rfl (ogt rfl rfl) (d1g rfl rfl (omv rfl) (d1g rfl rfl (omv rfl) ?_)))))))
 refine d1g rfl rfl (oix _ rfl rfl rfl (fun g => rfl) (fun g => ?_)) ?_
 rotate_left 1
 refine d1g rfl rfl (old rfl rfl) (d1g rfl rfl (omv rfl) ?_)
 refine d1g rfl rfl (oix _ rfl rfl rfl (fun g => rfl) (fun g => ?_)) ?_
 rotate_left 1
 refine d1g rfl rfl (old rfl rfl) (d1g rfl rfl (oca rfl rfl fun g => kahead (by omega) (by omega)) (d1g rfl rfl (opk rfl rfl rfl) (d1 (opk rfl rfl rfl) (d0 (zA0 ?_)))))
 refine gP rfl (fun c2 => ?_) (fun c2 => ?_)
 apply t_drawV 0 6 0 5 [(5, 999, 0)] rfl rfl rfl mixed rfl rfl rfl
 refine cx1 (omv rfl) rfl ?_
 refine cx1 (oix _ rfl rfl rfl (fun _ => rfl) (fun _ => ?_)) rfl ?_
 rotate_left 1
 refine cx1 (old rfl rfl) rfl (cx1 (omv rfl) rfl ?_)
 refine cx1 (osl _ _ rfl ⟨_, _, _, _, rfl, fun _ => trivial, inferInstance, fun _ => rfl⟩ (fun _ => rfl) (fun _ => ?_) (fun _ => (by omega))) rfl ?_
 rotate_left 1
 refine cV rfl rfl (cstv rfl rfl rfl rfl) ?_
 refine cE ?_
 refine zA1 (oas rfl) (zA0 (zI (zK rfl (zA1 (uT 2 rfl rfl rfl rfl) (zA1 (uT 0 rfl rfl rfl rfl) ?_)))))
 refine zA1 (oca rfl rfl fun _ => sO (N := n + m + 3) (by omega) (by omega) ?_) ?_
 rotate_left 1
 refine tst 2 rfl rfl rfl rfl rfl rfl (zA0 (zI (zI (zK rfl (zA1 (omv rfl) (zA1 (oln rfl) (zA1 (omv rfl) (zA1 (oln rfl) (zA1 (oad rfl rfl (by (simp; omega))) ?_)))))))))
 refine zA1 (oeq rfl rfl) (zA0 ?_)
 refine gP rfl (fun c3 => ?_) (fun c3 => ?_)
 refine qE (zI (zK rfl (zA1 (omv rfl) ?_)))
 rotate_left 1
 refine xO (zK rfl (zA1 (omv rfl) (zA1 (uT 2 rfl rfl rfl rfl) (zA1 (obs rfl rfl rfl rfl rfl rfl) (tap 1 rfl rfl rfl (by (simp; omega)) rfl fun r82 => (zA1 (oas rfl) (zA0 ?_)))))))
 rotate_left 1
 apply t_drawV 0 6 0 5 [(5, 999, 0)] rfl rfl rfl mixed rfl rfl rfl
 refine cx1 (omv rfl) rfl ?_
 refine cx1 (oix _ rfl rfl rfl (fun _ => rfl) (fun _ => ?_)) rfl ?_
 rotate_left 1
 refine cx1 (old rfl rfl) rfl (cx1 (omv rfl) rfl ?_)
 refine cx1 (osl _ _ rfl ⟨_, _, _, _, rfl, fun _ => trivial, inferInstance, fun _ => rfl⟩ (fun _ => rfl) (fun _ => ?_) (fun _ => (by omega))) rfl ?_
 rotate_left 1
 refine cV rfl rfl (cstv rfl rfl rfl rfl) ?_
 refine cE ?_
 refine zA1 (oas rfl) (zA0 (zI (zK rfl (zA1 (uT 2 rfl rfl rfl rfl) (zA1 (uT 0 rfl rfl rfl rfl) ?_)))))
 refine zA1 (oca rfl rfl fun _ => sO (N := n + m + 3) (by omega) (by omega) ?_) ?_
 rotate_left 1
 refine tst 2 rfl rfl rfl rfl rfl rfl (zA0 (zI (zI (zK rfl (zA1 (omv rfl) (zA1 (oln rfl) (zA1 (omv rfl) (zA1 (oln rfl) (zA1 (oad rfl rfl (by (simp; omega))) ?_)))))))))
 refine zA1 (oeq rfl rfl) (zA0 ?_)
 refine gP rfl (fun c4 => ?_) (fun c4 => ?_)
 refine qE (zI (zK rfl (zA1 (omv rfl) ?_)))
 rotate_left 1
 refine xO (zK rfl (zA1 (omv rfl) (zA1 (uT 2 rfl rfl rfl rfl) (zA1 (obs rfl rfl rfl rfl rfl rfl) (tap 1 rfl rfl rfl (by (simp; omega)) rfl fun r82 => (zA1 (oas rfl) (zA0 ?_)))))))
 rotate_left 1
 refine qE (zI (zK rfl (zA1 (omv rfl) ?_)))
 rotate_left 1
 ·exact Int.ofNat_lt.1 (of_decide_eq_true g.2)
 ·have h2 := of_decide_eq_false g.1.2
  exact Nat.pos_of_ne_zero fun c => h2 (by rw [c]; rfl)
 ·obtain ⟨d, p', rfl, h3⟩ := vL (dt c1) c2; simp
 ·obtain ⟨d, p', rfl, h3⟩ := vL (dt c1) c2; simp
 ·obtain ⟨d, p', rfl, h3⟩ := vL (dt c1) c2
  obtain ⟨_, _, s, h4, h5⟩ := fH j (pY j h3)
  obtain ⟨x, hx, y, hy, e⟩ := way_at ha0 hb0 h4
  show plen (yV at1 d) _
  rw [h5, e]; exact hpl x hx y hy
 ·obtain ⟨d, p', rfl, h3⟩ := vL (dt c1) c2
  have h4 := (fH j (pY j h3)).1 (vJ (by have := dt c3; rw [bD] at this; omega))
  rw [h4]
  refine bJ (bI 1 rfl (s := 83) rfl) ?_
  refine zA1 (oca rfl rfl fun _ => oN (by omega) (by omega)) (zA1 (oas rfl) (zA0 (yO (⟨[_], rst rfl rs0, yX ?_⟩))))
  rotate_left 1
  rw [lU ha0 hb0]; exact PSub.refl _
 ·obtain ⟨d, p', rfl, h3⟩ := vL (dt c1) c2
  have h4 := (fH j (pY j h3)).2.1 fun c => df c3 (by rw [bD]; have := mrg_00 c; omega)
  have h5 := congrArg List.length h4.way
  rw [List.length_append] at h5
  refine ⟨((p', q), yV at1 d, out ++ [yV at1 d], r82), tes ?_ ?_ (by (simp; done)), ?_, (by (simp; done))⟩
  refine tc rfl (xC _) ?_
  refine tc rfl ?_ ?_
  rotate_left 1
  refine tc rfl (xC _) (tn)
  refine tc rfl (xC _) (tn)
  rotate_left 1
  ·rw [bD]; exact PSub.refl _
  ·simp only [List.length_cons] at j1
   refine ⟨h4, ?_, j2, ?_⟩ <;> dsimp only <;> omega
 ·obtain ⟨d, q', rfl, h3⟩ := vK c2; simp
 ·obtain ⟨d, q', rfl, h3⟩ := vK c2; simp
 ·obtain ⟨d, q', rfl, h3⟩ := vK c2
  obtain ⟨_, _, s, h4, h5⟩ := fH j (oF j h3)
  obtain ⟨x, hx, y, hy, e⟩ := way_at ha0 hb0 h4
  show plen (yV at1 d) _
  rw [h5, e]; exact hpl x hx y hy
 ·obtain ⟨d, q', rfl, h3⟩ := vK c2
  have h4 := (fH j (oF j h3)).1 (vJ (by have := dt c4; rw [bD] at this; omega))
  rw [h4]
  refine bJ (bI 1 rfl (s := 83) rfl) ?_
  refine zA1 (oca rfl rfl fun _ => oN (by omega) (by omega)) (zA1 (oas rfl) (zA0 (yO (⟨[_], rst rfl rs0, yX ?_⟩))))
  rotate_left 1
  rw [lU ha0 hb0]; exact PSub.refl _
 ·obtain ⟨d, q', rfl, h3⟩ := vK c2
  have h4 := (fH j (oF j h3)).2.1 fun c => df c4 (by rw [bD]; have := mrg_00 c; omega)
  have h5 := congrArg List.length h4.way
  rw [List.length_append] at h5
  refine ⟨((p, q'), yV at1 d, out ++ [yV at1 d], r82), tes ?_ ?_ (by (simp; done)), ?_, (by (simp; done))⟩
  refine tc rfl (xC _) (tc rfl (xC _) ?_)
  refine tc rfl ?_ ?_
  rotate_left 1
  refine tn
  refine tc rfl (xC _) (tn)
  rotate_left 1
  ·rw [bD]; exact PSub.refl _
  ·simp only [List.length_cons] at j2
   refine ⟨h4, j1, ?_, ?_⟩ <;> dsimp only <;> omega
 ·have h4 := j.way
  rw [vJ (by have := df c1; omega), fZ, List.append_nil] at h4
  rw [h4]
  refine bJ (bI 0 rfl (s := 83) rfl) ?_
  refine zA1 (oca rfl rfl fun _ => oN (by omega) (by omega)) (zA1 (oas rfl) (zA0 (yO (⟨[_], rst rfl rs0, yX ?_⟩))))
  rotate_left 1
  rw [lU ha0 hb0]; exact PSub.refl _
theorem ksum {Ψ Φ : PV} {a b : List P2} {n m : Nat} [h : VPt Ψ n a] [k : VPt Φ m b] (hn : n ≤ 300) (hm : m ≤ 300) (ha : a.length ≤ 100) (hb : b.length ≤ 100) : CTy prog 22 [Ψ, Φ] (sv (sl 6 ((sumF a b).map (ptc (n + m + 4))))) := cty_2pt (bo func22) fun h1 h2 => wsum hn hm ha hb h1 h2
end Go.Proofs.YtflobagimodmgaaGreatDoor
set_option maxHeartbeats 4000000
namespace Go.Proofs.YtflobagimodmgaaGreatDoor
open Go.SL Go.RowKit Go.Proofs Tryz
theorem k5ofn {k : Nat} (h0 : 0 < k) (hk : k < 1000000) : CTy prog 149 [exP (.int .i64 (-((k : Nat) : Int)))] (ag (ztc 2 (-((k : Nat) : Int)))) := by
 refine ctc func149 rfl rfl rfl rfl fun X => (zI (zK rfl (tal fun b2 => (zA0 (zI (zI (zK rfl (zA1 (omv rfl) (zA1 (olt rfl rfl) ?_)))))))))
 refine zA0 ?_
 refine gP rfl (fun c0 => ?_) (fun c0 => ?_)
 refine zI (zK rfl (zA1 (omv rfl) (zA1 (oad rfl rfl (by omega)) (zA1 (iT (ong rfl (fun _ => by omega)) (dX (show -(-((k : Nat) : Int) + 1) = (((k - 1 : Nat)) : Int) by omega))) (zA1 (ocv64 rfl (by omega)) (zA1 (iT (oadv rfl rfl (by omega)) (dX (show (((k - 1 + 1 : Nat)) : Int) = ((k : Nat) : Int) by omega))) (zA1 (oca rfl rfl fun _ => wO (n := k) (by omega)) ?_)))))))
 refine zA1 (obd rfl rfl rfl) (tst 0 rfl rfl rfl rfl rfl rfl (zA0 (yO (⟨[_], rsc 0 rfl rfl rfl rfl rs0, yX ?_⟩))))
 rotate_left 1
 refine xO (zI (zK rfl (zA1 (omv rfl) ?_)))
 rotate_left 1
 ·exact ps_z (decide_eq_true (by omega)).symm (by omega) (limbs2 (by omega))
 ·exact absurd (by omega : (-(k : Int)) < 0) (df c0)
theorem sub_nought (p : P2) : yK (((0 : Nat) : Rat), ((0 : Nat) : Rat)) p = xG p := by
 unfold yK xG; rw [Prod.ext_iff]; constructor <;> simp only <;> grind
theorem k8neg {Ψ : PV} {p : P2} {n : Nat} [h : QP Ψ n p] (hn : n ≤ 800) : CTy prog 33 [Ψ] (ag (ptc (n + 5) (xG p))) := by
 refine uQ (σs := [ag (ptq n p)]) ?_ (fs1 eQ fs0)
 refine ctc func33 rfl rfl rfl rfl fun X => (zI (zK rfl (zA1 (obx rfl) (tal fun b2 => (zA0 (zI (xZ 3 mixed rfl rfl (d1 (oca rfl rfl fun _ => k8of (by (simp; done)) (by (simp; done))) (d1 (old rfl rfl) ?_)))))))))
 refine d1 (oca rfl rfl fun _ => k8subc (by omega) (by omega)) (d0 (tst 0 rfl rfl rfl rfl rfl rfl (zA0 (yO (⟨[_], rsc 0 rfl rfl rfl rfl rs0, yX ?_⟩)))))
 rotate_left 1
 exact tF (p := yK (((0 : Nat) : Rat), ((0 : Nat) : Rat)) p) (sub_nought p) (by omega)
theorem kvneg {Ψ : PV} {p : P2} {n : Nat} [h : QP Ψ n p] (hn : n ≤ 800) : CTy prog 82 [Ψ] (ag (ptc (n + 5) (xG p))) := by
 refine uQ (σs := [ag (ptq n p)]) ?_ (fs1 eQ fs0)
 refine ctc func82 rfl rfl rfl rfl fun X => (zI (zK rfl (zA1 (obx rfl) (tal fun b2 => (zA0 (zI (xZ 3 mixed rfl rfl (d1 (oca rfl rfl fun _ => kvof (by (simp; done)) (by (simp; done))) (d1 (old rfl rfl) ?_)))))))))
 refine d1 (oca rfl rfl fun _ => tK (by omega) (by omega)) (d0 (tst 0 rfl rfl rfl rfl rfl rfl (zA0 (yO (⟨[_], rsc 0 rfl rfl rfl rfl rs0, yX ?_⟩)))))
 rotate_left 1
 exact tF (p := yK (((0 : Nat) : Rat), ((0 : Nat) : Rat)) p) (sub_nought p) (by omega)
theorem k8alike {p q : P2} {n m : Nat} (hn : n ≤ 1990) (hm : m ≤ 1990) : CTy prog 75 [ag (ptc n p), ag (ptc m q)] (exP (.bool (decide (p = q)))) := by
 refine ctc func75 rfl rfl rfl rfl fun X => (zI (zK rfl (zA1 (obx rfl) (zA1 (obx rfl) (zA1 (oas rfl) (zA0 (zI (zK rfl (zA1 (ofa rfl rfl) ?_)))))))))
 refine zA1 (old rfl rfl) (zA1 (ofa rfl rfl) (zA1 (old rfl rfl) (zA1 (oca rfl rfl fun _ => k7told (by omega) (by omega)) (zA1 (omv rfl) (t1g rfl rfl (ofa rfl rfl) (t1g rfl rfl (old rfl rfl) (t1g rfl rfl (ofa rfl rfl) (t1g rfl rfl (old rfl rfl) (t1g rfl rfl (oca rfl rfl fun g => k7told (by omega) (by omega)) ?_)))))))))
 refine zA1 (opk rfl rfl rfl) (zA1 (oas rfl) (zA0 (yO (⟨[_], rst rfl rs0, yX ?_⟩))))
 refine psb ?_
 rotate_left 1
 rw [← Bool.decide_and, decide_eq_decide, Prod.ext_iff]
theorem pD {l k : List P2} {n m : Nat} (hn : n ≤ 1990) (hm : m ≤ 1990) : CTy prog 14 [sv (sl 6 (l.map (ptc n))), sv (sl 6 (k.map (ptc m)))] (exP (.bool (decide (l = k)))) := by
 refine ctc func14 rfl rfl rfl rfl fun X => (zI (zK rfl (zA1 (oas rfl) (zA0 (zI (zI (zK rfl (zA1 (omv rfl) (zA1 (oln rfl) ?_)))))))))
 refine zA1 (omv rfl) (zA1 (oln rfl) (zA1 (oni rfl rfl) (zA0 ?_)))
 refine gP rfl (fun c0 => ?_) (fun c0 => ?_)
 refine zI (zK rfl (zA1 (oas rfl) (zA0 (yO (⟨[_], rst rfl rs0, yX ?_⟩)))))
 refine psb ?_
 rotate_left 1
 refine xO (zI (zI (zK rfl (zA1 (oas rfl) (zA0 (yZ ?_))))))
 rotate_left 1
 ·have := dt c0
  rw [decide_eq_false fun e => this (by rw [e])]
 ·have hlk : l.length = k.length := by have := df c0; omega
  refine t_len 0 rfl fun hL => ?_
  rw [List.length_map] at hL
  refine qH (σ := Nat) (fun i => [(5, True, exP (.int .i64 ((i : Nat) : Int)))]) (fun i => []) (fun i => i ≤ l.length ∧ l.take i = k.take i) (fun i => l.length - i) (0) (tk 0 rfl (tk 1 rfl tn)) ?_ rfl (⟨by omega, by simp⟩) (fun i hJ Y _ => ?_)
  refine tc rfl (xC _) (tn)
  rotate_left 1
  obtain ⟨hi, hs⟩ := hJ
  refine zI (zI (zK rfl (zA1 (omv rfl) (zA1 (omv rfl) (zA1 (oln rfl) (zA1 (olt rfl rfl) (zA0 ?_)))))))
  refine gP rfl (fun c1 => ?_) (fun c1 => ?_)
  refine xO (zI (yZ (zI (xZ 10 mixed rfl rfl (d1 (omv rfl) (d1 (omv rfl) (d1 (oix _ rfl rfl rfl (fun _ => rfl) (fun _ => (by (have e0 := dt c1; omega)))) (d1 (old rfl rfl) (d1 (omv rfl) ?_)))))))))
  refine d1 (omv rfl) (d1 (oix _ rfl rfl rfl (fun _ => rfl) (fun _ => (by (have e0 := dt c1; omega)))) (d1 (old rfl rfl) (d1 (oca rfl rfl fun _ => k8alike (by omega) (by omega)) (d1 (ont rfl) (d0 (zA0 ?_))))))
  refine gP rfl (fun c2 => ?_) (fun c2 => ?_)
  refine zI (zK rfl (zA1 (oas rfl) (zA0 (yO (⟨[_], rst rfl rs0, yX ?_⟩)))))
  refine psb ?_
  rotate_left 1
  refine xO (zK rfl (zA1 (omv rfl) (zA1 (oad rfl rfl (by (have e0 := dt c1; omega))) (zA1 (oas rfl) (zA0 ?_)))))
  rotate_left 1
  refine qE (zI (zK rfl (zA1 (oas rfl) (zA0 (yO (⟨[_], rst rfl rs0, yX ?_⟩))))))
  refine psb ?_
  rotate_left 1
  ·rw [decide_eq_false fun e => by have h := c2.h; rw [e] at h; simp at h]
  ·have h2 : l.getD i Df.d = k.getD i Df.d := by have h := c2.h; simpa using h
   refine ⟨i + 1, tes ?_ ?_ (List.Sublist.refl _), ?_, (by (have e0 := dt c1; omega))⟩
   refine tc rfl (xC _) (tn)
   refine tc rfl (xC _) (tc rfl (xC _) (tn))
   rotate_left 1
   have h3 := dt c1
   exact ⟨by omega, by rw [(jU (Df.d : P2) (l := l) (by omega)).1, (jU (Df.d : P2) (l := k) (by omega)).1, hs, h2]⟩
  ·have h3 := df c1
   rw [List.take_of_length_le (by omega), List.take_of_length_le (by omega)] at hs
   exact (decide_eq_true hs).symm
theorem kmflip {l : List P2} {n : Nat} (hn : n ≤ 300) (hl : l.length ≤ 100) : CTy prog 24 [sv (sl 6 (l.map (ptq n)))] (sv (sl 6 ((l.map xG).map (ptc (n + 5))))) := by
 refine ctc func24 rfl rfl rfl rfl fun X => (zI (zK rfl (zA1 (oas rfl) (zA0 (zI (zI (zK rfl (zA1 (omv rfl) (zA1 (oln rfl) ?_)))))))))
 refine zA1 (omv rfl) (zA0 (yZ ?_))
 rotate_left 1
 refine dW (nR 35 6) ?_
 refine qH (σ := Nat × Value) (fun s => [(2, True, exP s.2), (7, True, exP (.int .i64 ((s.1 : Nat) : Int)))]) (fun s => [.row s.2 35 6 (((l.take s.1).map xG).map (ptc (n + 5)))]) (fun s => s.1 ≤ l.length) (fun s => l.length - s.1) ((0, .slice none 0 0)) (tk 5 rfl (tk 6 rfl tn)) ?_ rfl ((by simp)) (fun s hJ Y _ => ?_)
 refine tc rfl (xC _) (tc rfl (xC _) (tn))
 rotate_left 1
 refine zI (zK rfl (zA1 (olt rfl rfl) (zA0 (zI ?_))))
 refine gP rfl (fun c0 => ?_) (fun c0 => ?_)
 refine xO (zI (yZ (zI (zK rfl (zA1 (oix _ rfl rfl rfl (fun _ => rfl) (fun _ => (by (have e0 := dt c0; omega)))) (zA1 (old rfl rfl) (tal fun b4 => (tst 0 rfl rfl rfl rfl rfl rfl (bJ (cF (s := 4) 0 rfl rfl) ?_)))))))))
 refine zA0 (zK rfl (zA1 (omv rfl) (zA1 (old rfl rfl) (zA1 (oca rfl rfl fun _ => kvneg (by omega)) (zA1 (obs rfl rfl rfl rfl rfl rfl) (tap 0 rfl rfl rfl (by (simp; omega)) rfl fun r15 => (zA1 (oas rfl) (zA0 (zK rfl ?_)))))))))
 refine zA1 (oad rfl rfl (by omega)) (zA1 (omv rfl) (zA0 ?_))
 rotate_left 1
 refine qE (zI (zK rfl (zA1 (omv rfl) (zA1 (oas rfl) (zA0 (dW (bI (s := 2) 0 rfl rfl) (yO (⟨[_], rst rfl rs0, yX ?_⟩))))))))
 rotate_left 1
 ·refine ⟨(s.1 + 1, r15), tes ?_ ?_ ?_, (by (have e0 := dt c0; omega)), (by (have e0 := dt c0; omega))⟩
  refine tc rfl (xC _) (tc rfl (xC _) (tn))
  refine tc rfl (xC _) (tc rfl (xC _) (tn))
  rotate_left 1
  rw [(jU (Df.d : P2) (show s.1 < l.length by have := dt c0; omega)).1, List.map_append, List.map_append]
  rw [Nat.max_self]
  exact List.Sublist.refl _
 ·have h0 := df c0
  rw [List.take_of_length_le (by omega)]
  exact PSub.refl _
end Go.Proofs.YtflobagimodmgaaGreatDoor
set_option maxHeartbeats 4000000
namespace Go.Proofs.YtflobagimodmgaaGreatDoor
open Go.SL Go.RowKit Go.Proofs Tryz
theorem one_nat {M : Nat → Prop} {w : World} {us : List Value} (h : (sl 1 [xc (.int .u32 1)]).p M w us) : (ntc 1 1).p M w us := by
 obtain ⟨u, vs, rfl, h1, ⟨x, y, e1, e2, h2⟩, _⟩ := h
 obtain rfl : y = [] := h2
 have h3 : x = [.int .u32 1] := e2.1
 subst h3 e1
 have h4 : IsNat M w u [1] := ⟨h1, by simp⟩
 refine ⟨u, rfl, ⟨[1], h4, by simp, by simp [val]⟩, ?_⟩
 rw [show limbs 1 = [1] by rw [uD (by decide)]; simp [yT]]; exact h4
theorem ps_int {n N : Nat} {q : Rat} {z : Int} (h1 : z = q.num) (h2 : 1 = q.den) (hn : n ≤ N) (hm : 1 ≤ N) : PSub (ag (st [ztc n z, sl 1 [xc (.int .u32 1)]])) (ag (rtc N q)) := fun M w v ⟨us, e, x, y, e1, k1, u, o, e2, k2, e3⟩ => ps_num h1 h2 hn hm M w v ⟨us, e, x, y, e1, k1, u, o, e2, one_nat k2, e3⟩
theorem neg_int (k : Nat) : (-((k : Nat) : Int)) = (-((k : Nat) : Rat)).num ∧ 1 = (-((k : Nat) : Rat)).den := by
 rw [Rat.neg_num, Rat.neg_den]; exact ⟨rfl, rfl⟩
theorem k7ofn {k : Nat} (h0 : 0 < k) (hk : k < 1000000) : CTy prog 94 [exP (.int .i64 (-((k : Nat) : Int)))] (ag (rtc 2 (-((k : Nat) : Rat)))) := by
 refine ctc func94 rfl rfl rfl rfl fun X => (zI (zK rfl (tal fun b2 => (zA0 (zI (zK rfl (zA1 (omv rfl) (zA1 (oca rfl rfl fun _ => k5ofn (by omega) (by omega)) (zA1 (obs rfl rfl rfl rfl rfl rfl) ?_)))))))))
 refine zA1 (obd rfl rfl rfl) (tst 0 rfl rfl rfl rfl rfl rfl (zA0 (yO (⟨[_], rsc 0 rfl rfl rfl rfl rs0, yX ?_⟩))))
 rotate_left 1
 exact ps_int (neg_int k).1 (neg_int k).2 (Nat.le_refl _) (by omega)
theorem kpt {x y : Nat} (hx : x < 1000000) (hy : y < 1000000) : CTy prog 32 [exP (.int .i64 ((x : Nat) : Int)), exP (.int .i64 ((y : Nat) : Int))] (ag (ptc 2 (((x : Nat) : Rat), ((y : Nat) : Rat)))) := by
 refine ctc func32 rfl rfl rfl rfl fun X => (zI (zK rfl (tal fun b4 => (zA0 (zI (zK rfl (zA1 (omv rfl) (zA1 (omv rfl) (zA1 (oca rfl rfl fun _ => k8of (by omega) (by omega)) ?_)))))))))
 refine tst 0 rfl rfl rfl rfl rfl rfl (zA0 (yO (⟨[_], rsc 0 rfl rfl rfl rfl rs0, yX (PSub.refl _)⟩)))
theorem k8ofx {x y : Nat} (h0 : 0 < x) (hx : x < 1000000) (hy : y < 1000000) : CTy prog 85 [exP (.int .i64 (-((x : Nat) : Int))), exP (.int .i64 ((y : Nat) : Int))] (ag (ptc 2 (-((x : Nat) : Rat), ((y : Nat) : Rat)))) := by
 refine ctc func85 rfl rfl rfl rfl fun X => (zI (zK rfl (tal fun b4 => (zA0 (zI (zK rfl (zA1 (omv rfl) (zA1 (oca rfl rfl fun _ => k7ofn (by omega) (by omega)) (zA1 (omv rfl) ?_)))))))))
 refine zA1 (oca rfl rfl fun _ => wB (by omega)) ?_
 refine zA1 (obd rfl rfl rfl) (tst 0 rfl rfl rfl rfl rfl rfl (zA0 (yO (⟨[_], rsc 0 rfl rfl rfl rfl rs0, yX (PSub.refl _)⟩))))
theorem k8ofy {x y : Nat} (h0 : 0 < y) (hx : x < 1000000) (hy : y < 1000000) : CTy prog 85 [exP (.int .i64 ((x : Nat) : Int)), exP (.int .i64 (-((y : Nat) : Int)))] (ag (ptc 2 (((x : Nat) : Rat), -((y : Nat) : Rat)))) := by
 refine ctc func85 rfl rfl rfl rfl fun X => (zI (zK rfl (tal fun b4 => (zA0 (zI (zK rfl (zA1 (omv rfl) (zA1 (oca rfl rfl fun _ => wB (by omega)) (zA1 (omv rfl) ?_)))))))))
 refine zA1 (oca rfl rfl fun _ => k7ofn (by omega) (by omega)) ?_
 refine zA1 (obd rfl rfl rfl) (tst 0 rfl rfl rfl rfl rfl rfl (zA0 (yO (⟨[_], rsc 0 rfl rfl rfl rfl rs0, yX (PSub.refl _)⟩))))
theorem kptx {x y : Nat} (h0 : 0 < x) (hx : x < 1000000) (hy : y < 1000000) : CTy prog 32 [exP (.int .i64 (-((x : Nat) : Int))), exP (.int .i64 ((y : Nat) : Int))] (ag (ptc 2 (-((x : Nat) : Rat), ((y : Nat) : Rat)))) := by
 refine ctc func32 rfl rfl rfl rfl fun X => (zI (zK rfl (tal fun b4 => (zA0 (zI (zK rfl (zA1 (omv rfl) (zA1 (omv rfl) (zA1 (oca rfl rfl fun _ => k8ofx (by omega) (by omega) (by omega)) ?_)))))))))
 refine tst 0 rfl rfl rfl rfl rfl rfl (zA0 (yO (⟨[_], rsc 0 rfl rfl rfl rfl rs0, yX (PSub.refl _)⟩)))
theorem kpty {x y : Nat} (h0 : 0 < y) (hx : x < 1000000) (hy : y < 1000000) : CTy prog 32 [exP (.int .i64 ((x : Nat) : Int)), exP (.int .i64 (-((y : Nat) : Int)))] (ag (ptc 2 (((x : Nat) : Rat), -((y : Nat) : Rat)))) := by
 refine ctc func32 rfl rfl rfl rfl fun X => (zI (zK rfl (tal fun b4 => (zA0 (zI (zK rfl (zA1 (omv rfl) (zA1 (omv rfl) (zA1 (oca rfl rfl fun _ => k8ofy (by omega) (by omega) (by omega)) ?_)))))))))
 refine tst 0 rfl rfl rfl rfl rfl rfl (zA0 (yO (⟨[_], rsc 0 rfl rfl rfl rfl rs0, yX (PSub.refl _)⟩)))
abbrev wkT : List P2 := [(((0 : Nat) : Rat), ((0 : Nat) : Rat)), (((2 : Nat) : Rat), ((0 : Nat) : Rat)), (((1 : Nat) : Rat), ((0 : Nat) : Rat)), (((0 : Nat) : Rat), ((2 : Nat) : Rat))]
abbrev wkH : List P2 := [(((0 : Nat) : Rat), ((0 : Nat) : Rat)), (((2 : Nat) : Rat), ((0 : Nat) : Rat)), (((0 : Nat) : Rat), ((2 : Nat) : Rat))]
abbrev wkE : List P2 := [(((0 : Nat) : Rat), ((0 : Nat) : Rat)), (((1 : Nat) : Rat), ((0 : Nat) : Rat))]
abbrev wkS : List P2 := [(((0 : Nat) : Rat), ((0 : Nat) : Rat)), (((3 : Nat) : Rat), ((0 : Nat) : Rat)), (((1 : Nat) : Rat), ((2 : Nat) : Rat)), (((0 : Nat) : Rat), ((2 : Nat) : Rat))]
theorem hull_sorted {l m h : List P2} (h1 : m.Pairwise fun a b => uR a b < 0) (h2 : ∀ x, x ∈ m ↔ x ∈ l) (h3 : uO m = h) : hullF l = h := by
 unfold hullF; rw [← IsSet.eq oS ⟨h1, h2⟩, h3]
theorem wk_hull : hullF wkT = wkH := hull_sorted (m := [(0, 0), (0, 2), (1, 0), (2, 0)]) (by decide) (fun x => by simp; grind) (by decide +kernel)
theorem wk_sum : sumF wkH wkE = wkS := hull_sorted (m := [(0, 0), (0, 2), (1, 0), (1, 2), (2, 0), (3, 0)]) (by decide) (fun x => by simp [lW, yV]; grind) (by decide +kernel)
abbrev wkF : List P2 := [(((0 : Nat) : Rat), ((0 : Nat) : Rat)), (-((2 : Nat) : Rat), ((0 : Nat) : Rat)), (((0 : Nat) : Rat), -((2 : Nat) : Rat))]
theorem wk_flip : wkH.map xG = wkF := by decide
theorem kmflipc {Ψ : PV} {l : List P2} {n : Nat} [h : VPt Ψ n l] (hn : n ≤ 300) (hl : l.length ≤ 100) : CTy prog 24 [Ψ] (sv (sl 6 ((l.map xG).map (ptc (n + 5))))) := uQ (kmflip hn hl) (fs1 nO fs0)
theorem kwk20 : CTy prog 12 [] (exP (.bool true)) := by
 have hs : (hullF wkT).length ≤ 100 := by rw [wk_hull]; decide
 refine ctc func12 rfl rfl rfl rfl fun X => (zI (zK rfl (zA1 (oas rfl) (zA0 (zI (zK rfl (zA1 (oca rfl rfl fun _ => kpt (x := 0) (y := 0) (by omega) (by omega)) (zA1 (oca rfl rfl fun _ => kpt (x := 2) (y := 0) (by omega) (by omega)) (zA1 (oca rfl rfl fun _ => kpt (x := 1) (y := 0) (by omega) (by omega)) ?_)))))))))
 refine zA1 (oca rfl rfl fun _ => kpt (x := 0) (y := 2) (by omega) (by omega)) (zA1 (iT (obs rfl rfl rfl rfl rfl rfl) (sL (show _ = sv (sl 6 (wkT.map (ptc 2))) from rfl))) (zA1 (oca rfl rfl fun _ => oN (l := wkT) (by omega) (by (simp; done))) (zA1 (oas rfl) (zA0 (zI (zK rfl (zA1 (omv rfl) (zA1 (oca rfl rfl fun _ => kpt (x := 0) (y := 0) (by omega) (by omega)) (zA1 (oca rfl rfl fun _ => kpt (x := 1) (y := 0) (by omega) (by omega)) ?_)))))))))
 refine zA1 (iT (obs rfl rfl rfl rfl rfl rfl) (sL (show _ = sv (sl 6 (wkE.map (ptc 2))) from rfl))) (zA1 (oca rfl rfl fun _ => ksum (b := wkE) (by omega) (by omega) (by omega) (by (simp; done))) (zA1 (oas rfl) (zA0 (zI (zK rfl (zA1 (omv rfl) (zA1 (oca rfl rfl fun _ => kpt (x := 0) (y := 0) (by omega) (by omega)) (zA1 (oca rfl rfl fun _ => kpt (x := 2) (y := 0) (by omega) (by omega)) (zA1 (oca rfl rfl fun _ => kpt (x := 0) (y := 2) (by omega) (by omega)) ?_)))))))))
 refine zA1 (iT (obs rfl rfl rfl rfl rfl rfl) (sL (show _ = sv (sl 6 (wkH.map (ptc 2))) from rfl))) (zA1 (oca rfl rfl fun _ => pD (by omega) (by omega)) (zA1 (omv rfl) (t1g rfl rfl (omv rfl) (t1g rfl rfl (oca rfl rfl fun _ => kpt (x := 0) (y := 0) (by omega) (by omega)) (t1g rfl rfl (oca rfl rfl fun _ => kpt (x := 3) (y := 0) (by omega) (by omega)) (t1g rfl rfl (oca rfl rfl fun _ => kpt (x := 1) (y := 2) (by omega) (by omega)) (t1g rfl rfl (oca rfl rfl fun _ => kpt (x := 0) (y := 2) (by omega) (by omega)) (t1g rfl rfl (iT (obs rfl rfl rfl rfl rfl rfl) (sL (show _ = sv (sl 6 (wkS.map (ptc 2))) from rfl))) (t1g rfl rfl (oca rfl rfl fun g => pD (by omega) (by omega)) ?_)))))))))
 refine zA1 (opk rfl rfl rfl) (zA1 (omv rfl) (t1g rfl rfl (omv rfl) (t1g rfl rfl (oca rfl rfl fun g => kmflipc (by omega) (by omega)) (t1g rfl rfl (oca rfl rfl fun _ => kpt (x := 0) (y := 0) (by omega) (by omega)) (t1g rfl rfl (oca rfl rfl fun _ => kptx (x := 2) (y := 0) (by omega) (by omega) (by omega)) (t1g rfl rfl (oca rfl rfl fun _ => kpty (x := 0) (y := 2) (by omega) (by omega) (by omega)) (t1g rfl rfl (iT (obs rfl rfl rfl rfl rfl rfl) (sL (show _ = sv (sl 6 (wkF.map (ptc 2))) from rfl))) (t1g rfl rfl (oca rfl rfl fun g => pD (by omega) (by omega)) (zA1 (opk rfl rfl rfl) ?_)))))))))
 refine zA1 (oas rfl) (zA0 (yO (⟨[_], rst rfl rs0, yX ?_⟩)))
 refine psb ?_
 rotate_left 1
 rw [wk_hull, wk_sum, wk_flip]; simp
end Go.Proofs.YtflobagimodmgaaGreatDoor
set_option maxHeartbeats 4000000
namespace Go.Proofs.YtflobagimodmgaaGreatDoor
open Go.SL Go.RowKit Go.Proofs Tryz
def vN (l : List PX) : Bool := l.any fun a => decide (2 < mK a)
theorem long_at {l : List PX} {i : Nat} (h : i < l.length) (k : 2 < mK (l.getD i Df.d)) : vN l = true := by
 rw [List.getD_eq_getElem?_getD, List.getElem?_eq_getElem h, Option.getD_some] at k
 exact List.any_eq_true.2 ⟨_, List.getElem_mem h, decide_eq_true k⟩
theorem klong {l : List PX} : CTy prog 21 [sv (pcx l)] (exP (.bool (vN l))) := by
 refine ctc func21 rfl rfl rfl rfl fun X => (zI (zK rfl (zA1 (oas rfl) (zA0 (zI (zI (zK rfl (zA1 (oas rfl) (zA0 ?_)))))))))
 refine yZ ?_
 rotate_left 1
 refine t_len 0 rfl fun hL => ?_
 rw [List.length_map] at hL
 refine qH (σ := Nat) (fun i => [(3, True, exP (.int .i64 ((i : Nat) : Int)))]) (fun i => []) (fun i => i ≤ l.length ∧ ∀ j, j < i → mK (l.getD j Df.d) ≤ 2) (fun i => l.length - i) (0) (tk 0 rfl tn) ?_ rfl (⟨by omega, by omega⟩) (fun i hJ Y _ => ?_)
 refine tc rfl (xC _) (tn)
 rotate_left 1
 obtain ⟨hi, hs⟩ := hJ
 refine zI (zI (zK rfl (zA1 (omv rfl) (zA1 (omv rfl) (zA1 (oln rfl) (zA1 (olt rfl rfl) (zA0 ?_)))))))
 refine gP rfl (fun c0 => ?_) (fun c0 => ?_)
 refine xO (zI (yZ (zI (xZ 32 mixed rfl rfl (d1 (omv rfl) (d1 (omv rfl) (d1 (oix _ rfl rfl rfl (fun _ => rfl) (fun _ => (by (have e0 := dt c0; omega)))) (d1 (ofa rfl rfl) (d1 (ofa rfl rfl) ?_)))))))))
 refine d1 (ofa rfl rfl) (d1 (old rfl rfl) (d1 (oln rfl) (d1 (omv rfl) (d1 (omv rfl) (d1 (oix _ rfl rfl rfl (fun _ => rfl) (fun _ => (by (have e0 := dt c0; omega)))) (d1 (ofa rfl rfl) (d1 (ofa rfl rfl) (d1 (old rfl rfl) (d1 (oln rfl) ?_)))))))))
 refine d1 (omv rfl) (d1 (omv rfl) (d1 (oix _ rfl rfl rfl (fun _ => rfl) (fun _ => (by (have e0 := dt c0; omega)))) (d1 (ofa rfl rfl) (d1 (ofa rfl rfl) (d1 (ofa rfl rfl) (d1 (old rfl rfl) (d1 (oln rfl) (d1 (omv rfl) (d1 (omv rfl) ?_)))))))))
 refine d1 (oix _ rfl rfl rfl (fun _ => rfl) (fun _ => (by (have e0 := dt c0; omega)))) (d1 (ofa rfl rfl) (d1 (ofa rfl rfl) (d1 (old rfl rfl) (d1 (oln rfl) (d1 (omx4 rfl rfl rfl rfl) (d1 (ogt rfl rfl) (d0 (zA0 ?_))))))))
 refine gP rfl (fun c1 => ?_) (fun c1 => ?_)
 refine zI (zK rfl (zA1 (oas rfl) (zA0 (yO (⟨[_], rst rfl rs0, yX ?_⟩)))))
 refine psb ?_
 rotate_left 1
 refine xO (zK rfl (zA1 (omv rfl) (zA1 (oad rfl rfl (by (have e0 := dt c0; have e1 := df c1; omega))) (zA1 (oas rfl) (zA0 ?_)))))
 rotate_left 1
 refine qE (zI (zK rfl (zA1 (oas rfl) (zA0 (yO (⟨[_], rst rfl rs0, yX ?_⟩))))))
 refine psb ?_
 rotate_left 1
 ·exact (long_at (i := i) (by have := dt c0; omega) (by have := dt c1; unfold mK; omega)).symm
 ·refine ⟨i + 1, tes ?_ ?_ (List.Sublist.refl _), ?_, (by (have e0 := dt c0; have e1 := df c1; omega))⟩
  refine tc rfl (xC _) (tn)
  refine tc rfl (xC _) (tn)
  rotate_left 1
  refine ⟨by have := dt c0; omega, fun j hj => ?_⟩
  rcases Nat.lt_or_ge j i with c | c
  ·exact hs j c
  ·rw [show j = i by omega]; have := df c1; unfold mK; omega
 ·have := df c0
  symm; rw [Bool.eq_false_iff]; intro h
  obtain ⟨a, ha, h⟩ := List.any_eq_true.1 h
  obtain ⟨k, hk, rfl⟩ := List.mem_iff_getElem.1 ha
  have h1 := hs k (by omega)
  rw [List.getD_eq_getElem?_getD, List.getElem?_eq_getElem hk, Option.getD_some] at h1
  have := of_decide_eq_true h; omega
end Go.Proofs.YtflobagimodmgaaGreatDoor
set_option maxHeartbeats 4000000
namespace Go.Proofs.YtflobagimodmgaaGreatDoor
open Go.SL Go.RowKit Go.Proofs Tryz
theorem pcx_n {n : Nat} {l : List PX} (h : ∀ a ∈ l, mK a ≤ n) : PSub (sv (pcx l)) (sv (pcs n (l.map px))) := fun M w v k => by
 unfold pcx pcs at *
 rw [List.map_map]
 exact ct_row (f := ptx) (g := ptq n ∘ px) (fun a ha _ _ _ => by
  have := h a ha
  unfold mK m4 at this
  dsimp only at this
  exact ptx_q a (by omega) (by omega) (by omega) (by omega)) (fun _ => rfl) k
theorem len_bools {a b : Nat} (h : a = 0 ↔ b = 0) : (decide ((a : Int) = 0) == decide ((b : Int) = 0)) = true := by
 by_cases c : b = 0
 ·simp [c, h.2 c]
 ·have : a ≠ 0 := fun e => c (h.1 e)
  simp [c, this]
end Go.Proofs.YtflobagimodmgaaGreatDoor
set_option maxHeartbeats 4000000
namespace Go.Proofs.YtflobagimodmgaaGreatDoor
open Go.SL Go.RowKit Go.Proofs Tryz
theorem rD {Ψ Φ : PV} {l : List P2} {d : P2} {n m : Nat} [h : VPt Ψ n l] [k : QP Φ m d] (hn : n ≤ 400) (hm : m ≤ 400) (hl : l.length ≤ 100) : CTy prog 23 [Ψ, Φ] (sv (sl 6 ((l.map (yV · d)).map (ptc (2 * max n m + 8))))) :=
 uQ (k18shift hn hm hl) (fs1 nO (fs1 eQ fs0))
theorem sum_len' (a b : List P2) : (sumF a b).length ≤ a.length + b.length := by
 by_cases ha : a = []
 ·rw [mV.2 (.inl ha)]; simp
 by_cases hb : b = []
 ·rw [mV.2 (.inr hb)]; simp
 exact Go.SL.sum_len ha hb
end Go.Proofs.YtflobagimodmgaaGreatDoor
set_option maxHeartbeats 4000000
namespace Go.SL
open Go.RowKit
section arr
variable {P : Program} {r : Option Nat} {N : Nat} {all : Array Oper} {K : Pd} {D : List Deferred} {E : Env} {w : World} {rest : List Oper}
theorem ops_idxarr {d len sz bytes b o : Nat} {x ix : Operand} {t e t' : TypeId} {pos : String} {af : Array Edge} {z : Value} {k : IntKind} {i : Int} (j : Nat) (hd : Nat.blt d N = true) (ht : P.underlying t = some (.array len e)) (he : Sz P e sz bytes z)
  (hx : ev E x = some (.pointer (some ⟨b, o, none⟩))) (hi : ev E ix = some (.int k i)) (hij : i = (j : Int)) (hj : j < len) (h : Ops P r N all K rest D ((d, .pointer (some ⟨b, o + j * sz, none⟩)) :: E) w) :
  Ops P r N all K (⟨some d, .indexAddr t x ix, t', pos, af, none⟩ :: rest) D E w := by
 refine yW hd (by intro c hc; cases hc) (fun a ha => ?_) h
 have e1 : (Instr.indexAt t (.pointer (some ⟨b, o, none⟩)) (.int k i)).run P w = .ok (.pointer (some ⟨b, o + j * sz, none⟩)) w := by
  subst hij
  simp [Instr.indexAt, Instr.sureAddr, asIntOf, run_underlying ht, Result.andThen, gR he, hj, jW]
 simp only [execOp, ha.ev hx, ha.ev hi, Sem.run_bind, e1, Result.andThen]; rfl
theorem ops_slicea {d len sz bytes b o : Nat} {x : Operand} {t e t' : TypeId} {pos : String} {af : Array Edge} {z : Value} (hd : Nat.blt d N = true) (ht : P.underlying t = some (.array len e)) (he : Sz P e sz bytes z)
  (hx : ev E x = some (.pointer (some ⟨b, o, none⟩))) (h : Ops P r N all K rest D ((d, .slice (some ⟨b, o, none⟩) len len) :: E) w) :
  Ops P r N all K (⟨some d, .slice t x none none none, t', pos, af, none⟩ :: rest) D E w := by
 refine yW hd (by intro c hc; cases hc) (fun a ha => ?_) h
 have e1 : (Instr.sliceAt t (.pointer (some ⟨b, o, none⟩)) none none none).run P w = .ok (.slice (some ⟨b, o, none⟩) len len) w := by
  have e2 : (Instr.sliceBounds false len len none none none).run P w = .ok (0, len, len) w := rfl
  have e3 : (if len = 0 then (⟨b, o, none⟩ : Addr) else (⟨b, o, none⟩ : Addr).add (0 * sz)) = ⟨b, o, none⟩ := by
   split
   ·rfl
   ·rw [Nat.zero_mul, jW]; rfl
  simp only [Instr.sliceAt, Sem.run_bind, run_underlying ht, Result.andThen, Instr.sureAddr, Sem.run_pure, e2, gR he, e3, Nat.sub_zero]
 simp only [execOp, ha.ev hx, Option.map_none, Sem.run_bind, e1, Result.andThen]; rfl
theorem ops_builda {d len sz bytes bytes' : Nat} {t e t' : TypeId} {pos : String} {af : Array Edge} {z z' : Value} {parts : Array (Nat × Operand)} {vs : List Value} {cs : List (List Value)} (hd : Nat.blt d N = true)
  (ht : P.underlying t = some (.array len e)) (hz : Sz P t (len * sz) bytes' z') (hzz : z'.cells.size = len * sz) (he : Sz P e sz bytes z) (hi : parts.toList.map (·.1) = List.range len) (hx : evs E (parts.toList.map (·.2)) = some vs) (hc : Cls vs cs) (hsz : ∀ c ∈ cs, c.length = sz)
  (h : Ops P r N all K rest D ((d, .agg cs.flatten.toArray) :: E) w) : Ops P r N all K (⟨some d, .build t parts, t', pos, af, none⟩ :: rest) D E w := by
 refine yW hd (by intro c hc; cases hc) (fun a ha => ?_) h
 have hlen : ∀ (vs : List Value) (cs : List (List Value)), Cls vs cs → vs.length = cs.length := by
  intro vs
  induction vs with
  | nil => intro cs h; cases cs with
   | nil => rfl
   | cons => exact h.elim
  | cons v vs ih => intro cs h; cases cs with
   | nil => exact h.elim
   | cons c cs => simp [ih cs h.2]
 have hvl : vs.length = len := by
  have := congrArg List.length (ha.evs hx)
  have h2 := congrArg List.length hi
  simp at this h2; omega
 have hparts : parts.toList.map (fun x => (x.1, a.eval x.2)) = vs.zipIdx.map fun x => (x.2, x.1) := by
  have h3 := ha.evs hx
  apply List.ext_getElem
  ·have h2 := congrArg List.length hi; simp at h2; simp; omega
  ·intro n hn1 hn2
   simp at hn1 hn2
   have e1 : (parts.toList.map (·.1))[n]'(by simpa using hn1) = n := by simp [hi]
   have e2 : ((parts.toList.map (·.2)).map a.eval)[n]'(by simpa using hn1) = vs[n]'(by omega) := by simp [h3]
   simp at e1 e2
   simp [e1, e2]
 obtain ⟨q, q1, q2, q3, q4⟩ := he
 obtain ⟨q', p1, p2, p3, p4⟩ := hz
 have hf := oP (pl := fun i => some (i * sz, sz)) (sz := sz) (fun _ => rfl) vs cs [] z'.cells.toList 0 hc hsz (by simp) (by rw [← hlen _ _ hc, hvl]; simpa using hzz)
 simp only [List.nil_append, Array.toArray_toList] at hf
 have e1 : (Instr.build t (parts.map fun (i, x) => (i, a.eval x))).run P w = .ok (.agg cs.flatten.toArray) w := by
  refine run_build (P := P) w t _ _ ?_
  unfold Program.built
  rw [p1, ht]
  simp only [p4, q1, q2]
  rw [Array.toList_map, show (List.map (fun (x : Nat × Operand) => match x with | (i, x) => (i, a.eval x)) parts.toList) = vs.zipIdx.map fun x => (x.2, x.1) from hparts]
  exact hf
 simp only [execOp, Sem.run_bind, e1, Result.andThen]; rfl
end arr
class TAr (P : Program) (t : TypeId) (len sz : outParam Nat) : Prop where
 h : ∃ e z z' bytes bytes', P.underlying t = some (.array len e) ∧ Sz P e sz bytes z ∧ Sz P t (len * sz) bytes' z' ∧ z'.cells.size = len * sz
theorem oia {P : Program} {r : Option Nat} {N : Nat} {Γ : TE} {S : List Ow} {ops : Array Oper} {M : Nat → Prop} {p qx qi : Prop} {Ψi : PV} {d len sz : Nat} {x ix : Operand} {t t' : TypeId} {pos : String} {af : Array Edge} {l : List CT} {c : CT} {ki : IntKind} {i : Int} (j : Nat) (hx : tv Γ x = some (qx, pa (st l))) (hi : tv Γ ix = some (qi, Ψi)) [Im p qx] [Im p qi]
  [ht : TAr P t len sz] [hki : VI Ψi ki i] (hij : i = (j : Int)) (hj : Nat.blt j len = true) (ha : lI l (j * sz) = some c) : Ob P r N ops M S p ⟨some d, .indexAddr t x ix, t', pos, af, none⟩ Γ (pa c) :=
 ob2 hx hi (by simp [Op.operands]) (by simp [Op.operands]) fun D E w u v hN hg e1 e2 ⟨b, o, us, e, h1, h2, h3⟩ h4 => by
  subst e
  obtain ⟨el, z, z', bytes, bytes', k1, k2, k3, k4⟩ := ht.h
  rw [hki.h h4] at e2
  exact ops_idxarr j hN k1 k2 e1 e2 hij (by simpa [Nat.blt_eq] using hj) (fin ⟨b, o + j * sz, _, rfl, h1, h2.sub (j * sz) c.sz, aD h3 ha⟩)
theorem osa {P : Program} {r : Option Nat} {N : Nat} {Γ : TE} {S : List Ow} {ops : Array Oper} {M : Nat → Prop} {p qx : Prop} {d len sz : Nat} {x : Operand} {t t' : TypeId} {pos : String} {af : Array Edge} {l : List CT} (hx : tv Γ x = some (qx, pa (st l))) [Im p qx]
  [ht : TAr P t len sz] (hl : Nat.beq l.length len = true) (hs : (l.all fun c => Nat.beq c.sz sz) = true) (hm : Nat.ble len 1000 = true) : Ob P r N ops M S p ⟨some d, .slice t x none none none, t', pos, af, none⟩ Γ (sv (sl sz l)) :=
 ob1 hx (by simp [Op.operands]) fun D E w u hN hg e1 ⟨b, o, us, e, h1, h2, h3⟩ => by
  subst e
  obtain ⟨el, z, z', bytes, bytes', k1, k2, k3, k4⟩ := ht.h
  have hl := Nat.eq_of_beq_eq_true hl
  have hall : aO sz l := fun c hc => Nat.eq_of_beq_eq_true (List.all_eq_true.1 hs c hc)
  have hlen := kY h3
  rw [iI hall] at hlen
  have hm := Nat.le_of_ble_eq_true hm
  refine ops_slicea hN k1 k2 e1 (fin ⟨_, us, rfl, ⟨hlen, by omega, _, len, by rw [hl], by omega, .inr ⟨b, o, rfl, h1, h2⟩⟩, h3, hall⟩)
theorem oba {P : Program} {r : Option Nat} {N : Nat} {Γ : TE} {S : List Ow} {ops : Array Oper} {M : Nat → Prop} {p q : Prop} {d len sz : Nat} {t t' : TypeId} {pos : String} {af : Array Edge} {parts : List (Nat × Operand)} {τs : List PV} {cs : List CT} (hx : tvs Γ (parts.map (·.2)) = some (q, τs)) [hi : Im p q] [ht : TAr P t len sz] [hc : CtL τs cs]
  (hp : parts.map (·.1) = List.range len) (hs : (cs.all fun c => Nat.beq c.sz sz) = true) : Ob P r N ops M S p ⟨some d, .build t parts.toArray, t', pos, af, none⟩ Γ (ag (st cs)) := fun D E w d' hd hN hg hp' hT => by
 obtain rfl := Option.some.inj hd
 obtain ⟨vs, e1, h1⟩ := bK hT hx (hi.h hp') fun x hx => dG (by simpa [Op.operands] using hx)
 obtain ⟨uss, g1, g2, g3⟩ := hc.h h1
 obtain ⟨el, z, z', bytes, bytes', k1, k2, k3, k4⟩ := ht.h
 refine ops_builda hN k1 k3 k4 k2 (by simpa using hp) (by simpa using e1) g1 (fun c hc => ?_) (fin ⟨_, rfl, g2⟩)
 have : c.length ∈ uss.map List.length := List.mem_map_of_mem hc
 rw [g3] at this
 obtain ⟨c', h5, h6⟩ := List.mem_map.1 this
 rw [← h6]; exact Nat.eq_of_beq_eq_true (List.all_eq_true.1 hs c' h5)
end Go.SL
namespace Go.Proofs.YtflobagimodmgaaGreatDoor
open Go.SL Go.RowKit Go.Proofs Tryz
instance : TAr prog 47 3 6 := ⟨_, _, _, _, _, underlying47, pL, sz47, rfl⟩
end Go.Proofs.YtflobagimodmgaaGreatDoor
set_option maxHeartbeats 4000000
namespace Go.Proofs.YtflobagimodmgaaGreatDoor
open Go.SL Go.RowKit Go.Proofs Tryz
theorem wQ {c : CT} {n : Nat} {q : P2} [h : CP c n q] {M : Nat → Prop} {w : World} {us : List Value} (k : c.p M w us) : (ptq n q).p M w us := by
 obtain ⟨us', e, k'⟩ := eQ (Ψ := ag c) (n := n) (q := q) M w (.agg us.toArray) ⟨us, rfl, k⟩
 have : us = us' := by simpa using e
 rw [this]; exact k'
theorem tri_q {c1 c2 c3 : CT} {m : Nat} {a b c : P2} [h1 : CP c1 m a] [h2 : CP c2 m b] [h3 : CP c3 m c] : PSub (ag (st [c1, c2, c3])) (ag (st [ptq m a, ptq m b, ptq m c])) := fun M w v ⟨us, e, x, y, e1, k1, x2, y2, e2, k2, x3, y3, e3, k3, k4⟩ =>
 ⟨us, e, x, y, e1, wQ k1, x2, y2, e2, wQ k2, x3, y3, e3, wQ k3, k4⟩
theorem k18corn {n : Nat} {a b c : P2} : CTy prog 28 [ag (st [ptq n a, ptq n b, ptq n c])] (sv (sl 6 ([a, b, c].map (ptq n)))) := by
 refine ctc func28 rfl rfl rfl rfl fun X => (zI (zK rfl (zA1 (obx rfl) (zA1 (oas rfl) (zA0 (zI (zK rfl (zA1 (oia 0 rfl rfl rfl rfl rfl) (zA1 (old rfl rfl) ?_)))))))))
 refine zA1 (oia 1 rfl rfl rfl rfl rfl) (zA1 (old rfl rfl) (zA1 (oia 2 rfl rfl rfl rfl rfl) (zA1 (old rfl rfl) (zA1 (obs rfl rfl rfl rfl rfl rfl) (zA1 (oas rfl) (zA0 (yO (⟨[_], rst rfl rs0, yX (PSub.refl _)⟩))))))))
theorem kpiece {l : List P2} {a b c : P2} {n m : Nat} (hn : n ≤ 200) (hm : m ≤ 200) (hl : l.length ≤ 90) : CTy prog 29 [sv (sl 6 (l.map (ptq n))), ag (st [ptq m a, ptq m b, ptq m c])] (sv (sl 6 ((sumF [a, b, c] (l.map xG)).map (ptc (m + (n + 5) + 4))))) := by
 have h3 : ([a, b, c] : List P2).length ≤ 100 := by simp
 have h4 : (l.map xG).length ≤ 100 := by rw [List.length_map]; omega
 refine ctc func29 rfl rfl rfl rfl fun X => (zI (zK rfl (zA1 (obx rfl) (zA1 (oas rfl) (zA0 (zI (xZ 5 mixed rfl rfl (d1 (iT (osa rfl rfl rfl rfl) (show PSub _ (sv (sl 6 ([a, b, c].map (ptq m)))) from PSub.refl _)) (d1 (omv rfl) ?_)))))))))
 refine d1 (oca rfl rfl fun _ => kmflipc (by omega) (by omega)) (d1 (oca rfl rfl fun _ => ksum (by omega) (by omega) (by omega) (by omega)) (d1 (oas rfl) (d0 (zA0 (yO (⟨[_], rst rfl rs0, yX (PSub.refl _)⟩))))))
theorem nB {Ψ : PV} {c1 c2 c3 : CT} {l : List P2} {a b c : P2} {n m : Nat} [h : VPt Ψ n l] [h1 : CP c1 m a] [h2 : CP c2 m b] [h3 : CP c3 m c] (hn : n ≤ 200) (hm : m ≤ 200) (hl : l.length ≤ 90) : CTy prog 29 [Ψ, ag (st [c1, c2, c3])] (sv (sl 6 ((sumF [a, b, c] (l.map xG)).map (ptc (m + (n + 5) + 4))))) :=
 uQ (kpiece hn hm hl) (fs1 nO (fs1 tri_q fs0))
theorem pa_sub {c c' : CT} (h : ∀ M w us, c.p M w us → c'.p M w us) : PSub (pa c) (pa c') := fun M w v ⟨b, o, us, e, h1, h2, h3⟩ => ⟨b, o, us, e, h1, h2, h _ _ _ h3⟩
theorem tD {d : PX} {n : Nat} (h : mK d ≤ n) {M : Nat → Prop} {w : World} {us : List Value} (k : (ptx d).p M w us) : (ptq n (px d)).p M w us := by
 unfold mK m4 at h
 dsimp only at h
 exact ptx_q d (by omega) (by omega) (by omega) (by omega) k
theorem trx_c {a b c : PX} {n : Nat} (h1 : mK a ≤ n) (h2 : mK b ≤ n) (h3 : mK c ≤ n) : ∀ M w us, (st [ptx a, ptx b, ptx c]).p M w us → (st [ptq n (px a), ptq n (px b), ptq n (px c)]).p M w us := fun M w us ⟨x, y, e1, k1, x2, y2, e2, k2, x3, y3, e3, k3, k4⟩ =>
 ⟨x, y, e1, tD h1 k1, x2, y2, e2, tD h2 k2, x3, y3, e3, tD h3 k3, k4⟩
theorem k18cornc {c1 c2 c3 : CT} {m : Nat} {a b c : P2} [h1 : CP c1 m a] [h2 : CP c2 m b] [h3 : CP c3 m c] : CTy prog 28 [ag (st [c1, c2, c3])] (sv (sl 6 ([a, b, c].map (ptq m)))) := uQ k18corn (fs1 tri_q fs0)
theorem law_MinkMoved {r : List PX} {t : PX × PX × PX} {d : PX} : CTy prog 7 [sv (pcx r), ag (st [ptx t.1, ptx t.2.1, ptx t.2.2]), ag (ptx d)] (exP (.bool true)) := by
 obtain ⟨a, b, c⟩ := t
 dsimp only
 refine ctc func7 rfl rfl rfl rfl fun X => (zI (zK rfl (zA1 (obx rfl) (zA1 (obx rfl) (zA1 (oas rfl) (zA0 (zI (zI (zK rfl ?_)))))))))
 refine zA1 (omv rfl) (zA1 (oln rfl) (zA1 (ogt rfl rfl) (zA1 (omv rfl) (t1g rfl rfl (omv rfl) (t1g rfl rfl (oca rfl rfl fun g => klong) (zA1 (opk rfl rfl rfl) (zA1 (omv rfl) (t1g rfl rfl (oia 0 rfl rfl rfl rfl rfl) (t1g rfl rfl (old rfl rfl) ?_)))))))))
 refine t1g rfl rfl (oia 1 rfl rfl rfl rfl rfl) (t1g rfl rfl (old rfl rfl) (t1g rfl rfl (oia 2 rfl rfl rfl rfl rfl) (t1g rfl rfl (old rfl rfl) (t1g rfl rfl (old rfl rfl) (t1g rfl rfl (obs rfl rfl rfl rfl rfl rfl) (t1g rfl rfl (oca rfl rfl fun _ => klong (l := [a, b, c, d])) (zA1 (opk rfl rfl rfl) (zA0 ?_))))))))
 refine gP rfl (fun c0 => ?_) (fun c0 => ?_)
 refine zI (zK rfl (zA1 (oca rfl rfl fun _ => kwk20) (zA1 (oas rfl) (zA0 (yO (⟨[_], rst rfl rs0, yX (PSub.refl _)⟩))))))
 rotate_left 1
 have h := c0.h
 simp only [Bool.or_eq_false_iff, decide_eq_false_iff_not] at h
 obtain ⟨⟨h1, h2⟩, h3⟩ := h
 have long : ∀ {l : List PX}, vN l = false → ∀ x ∈ l, mK x ≤ 2 := fun {l} h x hx => by
  have := (List.any_eq_false.1 h) x hx
  simpa using this
 have h4 := long h3
 have lr : (r.map px).length ≤ 6 := by rw [List.length_map]; omega
 refine dW (tZ (s := 0) rfl (pcx_n (long h2))) ?_
 refine dW (tZ (s := 4) rfl (pa_sub (trx_c (h4 a (by simp)) (h4 b (by simp)) (h4 c (by simp))))) ?_
 refine dW (tZ (s := 5) rfl (pa_sub fun _ _ _ => tD (h4 d (by simp)))) ?_
 generalize r.map px = R at *
 generalize px a = a at *
 generalize px b = b at *
 generalize px c = c at *
 generalize px d = d at *
 have l1 : (sumF [a, b, c] (R.map xG)).length ≤ 9 := by have := sum_len' [a, b, c] (R.map xG); rw [List.length_map] at this; simp at this; omega
 have l3 : ([a, b, c] : List P2).length ≤ 100 := by simp
 have e0 : sumF [a, b, c] ([(((0 : Nat) : Rat), ((0 : Nat) : Rat))].map xG) = hullF [a, b, c] := by
  rw [List.map_cons, List.map_nil, sum_one]
  exact (List.map_congr_left fun x _ => by unfold yV xG; rw [Prod.ext_iff]; constructor <;> simp only <;> grind).trans (List.map_id _)
 have e1 : sumF ([a, b, c].map (yV · d)) (R.map xG) = (sumF [a, b, c] (R.map xG)).map (yV · d) := sum_mov _ _ _
 have e2 : sumF [a, b, c] ((R.map (yV · d)).map xG) = (sumF [a, b, c] (R.map xG)).map (yV · (xG d)) := by rw [flip_mov, sum_mov']
 have l2 := cW [a, b, c]
 refine xO (zI (zK rfl (zA1 (omv rfl) (zA1 (old rfl rfl) (zA1 (oca rfl rfl fun _ => nB (by omega) (by omega) (by omega)) (zA1 (oas rfl) (zA0 (zI (xZ 5 mixed rfl rfl ?_)))))))))
 refine d1 (old rfl rfl) (d1 (oca rfl rfl fun _ => k18cornc) (d1 (old rfl rfl) (d1 (oca rfl rfl fun _ => rD (by omega) (by omega) (by omega)) (d1 (oas rfl) (d0 (zA0 (zI (xZ 13 mixed rfl rfl (d1 (omv rfl) ?_)))))))))
 refine d1 (omv rfl) (d1 (oix _ rfl rfl rfl (fun _ => rfl) (fun _ => (by (simp; done)))) (d1 (old rfl rfl) (d1 (omv rfl) (d1 (oix _ rfl rfl rfl (fun _ => rfl) (fun _ => (by (simp; done)))) (d1 (old rfl rfl) (d1 (omv rfl) (d1 (oix _ rfl rfl rfl (fun _ => rfl) (fun _ => (by (simp; done)))) (d1 (old rfl rfl) (d1 (oba rfl rfl rfl) ?_)))))))))
 refine d1 (oca rfl rfl fun _ => nB (by omega) (by omega) (by omega)) (d1 (oas rfl) (d0 (zA0 (zI (xZ 6 mixed rfl rfl (d1 (omv rfl) (d1 (old rfl rfl) (d1 (oca rfl rfl fun _ => rD (by omega) (by omega) (by omega)) (d1 (old rfl rfl) ?_)))))))))
 refine d1 (oca rfl rfl fun _ => nB (by omega) (by omega) (by (simp; omega))) (d1 (oas rfl) (d0 (zA0 (zI (xZ 5 mixed rfl rfl (d1 (oca rfl rfl fun _ => kpt (x := 0) (y := 0) (by omega) (by omega)) (d1 (iT (obs rfl rfl rfl rfl rfl rfl) (show PSub _ (sv (sl 6 ([(((0 : Nat) : Rat), ((0 : Nat) : Rat))].map (ptc 2)))) from PSub.refl _)) (d1 (old rfl rfl) (d1 (oca rfl rfl fun _ => nB (by omega) (by omega) (by (simp; done))) ?_)))))))))
 refine d1 (oas rfl) (d0 (zA0 (zI (zK rfl (zA1 (omv rfl) (zA1 (omv rfl) (zA1 (old rfl rfl) ?_)))))))
 refine zA1 (oca rfl rfl fun _ => rD (by omega) (by omega) ?_) ?_
 rotate_left 1
 refine zA1 (oca rfl rfl fun _ => pD (by omega) (by omega)) (zA1 (omv rfl) (t1g rfl rfl (omv rfl) (t1g rfl rfl (omv rfl) (t1g rfl rfl (old rfl rfl) (t1g rfl rfl (oca rfl rfl fun g => k8neg (by omega)) ?_)))))
 refine t1g rfl rfl (oca rfl rfl fun g => rD (by omega) (by omega) ?_) ?_
 rotate_left 1
 refine t1g rfl rfl (oca rfl rfl fun g => pD (by omega) (by omega)) (zA1 (opk rfl rfl rfl) (zA1 (omv rfl) (t1g rfl rfl (omv rfl) (t1g rfl rfl (old rfl rfl) (t1g rfl rfl (oca rfl rfl fun g => k18cornc) (t1g rfl rfl (oca rfl rfl fun g => oN (by omega) (by (simp; done))) (t1g rfl rfl (oca rfl rfl fun g => pD (by omega) (by omega)) (zA1 (opk rfl rfl rfl) (zA1 (omv rfl) ?_)))))))))
 refine t1g rfl rfl (omv rfl) (t1g rfl rfl (oln rfl) (t1g rfl rfl (oeq rfl rfl) (t1g rfl rfl (omv rfl) (t1g rfl rfl (oln rfl) (t1g rfl rfl (oeq rfl rfl) (t1g rfl rfl (obe rfl rfl) (zA1 (opk rfl rfl rfl) (zA1 (omv rfl) (t1g rfl rfl (oca rfl rfl fun g => kwk20) ?_)))))))))
 refine zA1 (opk rfl rfl rfl) (zA1 (oas rfl) (zA0 (yO (⟨[_], rst rfl rs0, yX ?_⟩))))
 refine psb ?_
 rotate_left 1
 ·show (sumF [a, b, c] (R.map xG)).length ≤ 100
  omega
 ·show (sumF [a, b, c] (R.map xG)).length ≤ 100
  omega
 ·simp only [List.map_cons, List.map_nil, List.getD_cons_zero, List.getD_cons_succ] at e1 e0 ⊢
  rw [e1, e2, e0]
  have h6 := len_bools (a := R.length) (b := (sumF [a, b, c] (R.map xG)).length) (by
   rw [List.length_eq_zero_iff, List.length_eq_zero_iff, mV, List.map_eq_nil_iff]
   exact ⟨.inr, fun h => h.elim (fun h => by cases h) id⟩)
  generalize sumF [a, b, c] (R.map xG) = C at *
  show (decide (C.map (yV · d) = C.map (yV · d)) && decide (C.map (yV · (xG d)) = C.map (yV · (xG d))) && decide (hullF [a, b, c] = hullF [a, b, c]) && (decide ((R.length : Int) = 0) == decide ((C.length : Int) = 0)) || false) = true
  rw [decide_eq_true rfl, decide_eq_true rfl, decide_eq_true rfl, h6]; rfl
end Go.Proofs.YtflobagimodmgaaGreatDoor
namespace Go.Proofs.YtflobagimodmgaaGreatDoor
open Go Go.SL Go.RowKit Go.Proofs Go.ChangeShapes Go.WideShapes Go.ChangeAt Go.Deep Tryz
section
variable {H : Type} {enc : TypeId × Value → H} {P : Program} {W : World} {B : Nat} {tp tr ti tn tb tw : TypeId}
abbrev BdX (B : Nat) (a : RX) : Prop := (True ∧ a.1.2.length ≤ B) ∧ a.2.length ≤ B
abbrev BpX (B : Nat) (a : PX) : Prop := BdX B a.1 ∧ BdX B a.2
theorem opn_ratx (T : NumTypes P tp tr ti tn tb tw) : Opn enc P W B tr 3 rtx (BdX B) :=
 pW T.r (pW T.i (opn_bool T.b T.cb) (opn_nat T.n T.w T.cw T.cn T.hb)) (opn_nat T.n T.w T.cw T.cn T.hb)
theorem opn_ptx (T : NumTypes P tp tr ti tn tb tw) : Opn enc P W B tp 6 ptx (BpX B) :=
 pW T.p (opn_ratx T) (opn_ratx T)
theorem opn_pcx {t : TypeId} (T : NumTypes P tp tr ti tn tb tw) (ht : P.underlying t = some (.slice tp)) (c : P.cellsOf t = 1) : Opn enc P W B t 1 pcx (fun l => l.length * P.bytesOf tp ≤ B ∧ ∀ a ∈ l, BpX B a) :=
 opn_slicew ht c (opn_ptx T) (by omega)
end
section
variable {H : Type} {enc : TypeId × Value → H} {P : Program} {W : World} {B : Nat}
theorem trod_arr3 {base : Nat} {spare : Nat → Bool} {held : Bool} {fuel : Nat} {t e : TypeId} {cs : List Value} {x : DataW H × List MemPlace} (ht : P.underlying t = some (.array 3 e)) (h : DataW.trod enc P W base spare held fuel t cs = some x) :
  ∃ (xs : List (DataW H × List MemPlace)) (n : Nat), fuel = n + 1 ∧ x = (.agg (xs.map (·.1)), xs.flatMap (·.2)) ∧ cs.length = P.cellsOf t ∧ xs.length = 3 ∧
   ∀ i, i < 3 → DataW.trod enc P W base spare held n e ((cs.drop (i * P.cellsOf e)).take (P.cellsOf e)) = xs[i]? := by
 cases fuel with
 | zero => simp [DataW.trod] at h
 | succ n =>
  unfold DataW.trod at h
  rw [ht] at h
  split at h <;> simp_all
  obtain ⟨hl, xs, hp, hd⟩ := h
  exact ⟨xs, hd.symm, by simpa using mapM_some_length hp, fun i hi => by have := mapM_some_get hp i i (by simp [hi]); simpa using this⟩
theorem opn_tri {α : Type} {t e : TypeId} {k : Nat} {f : α → CT} {Bf : α → Prop} (ht : P.underlying t = some (.array 3 e)) (hc : P.cellsOf t = k + (k + k)) (h0 : Opn enc P W B e k f Bf) :
  Opn enc P W B t (k + (k + k)) (fun a : α × α × α => st [f a.1, f a.2.1, f a.2.2]) (fun a => Bf a.1 ∧ Bf a.2.1 ∧ Bf a.2.2) := by
 refine ⟨hc, fun a => by show (f a.1).sz + ((f a.2.1).sz + ((f a.2.2).sz + 0)) = _; rw [h0.s, h0.s, h0.s]; rfl, fun {fuel cs x} hw h => ?_⟩
 obtain ⟨xs, n, _, hxe, hl, hx, hall⟩ := trod_arr3 ht h
 have n0 := h0.c
 have e0 := hall 0 (by omega)
 have e1 := hall 1 (by omega)
 have e2 := hall 2 (by omega)
 rw [n0] at e0 e1 e2
 rw [Nat.zero_mul, List.drop_zero] at e0
 rw [Nat.one_mul] at e1
 have hd : (cs.drop (2 * k)).length = k := by rw [List.length_drop]; omega
 rw [List.take_of_length_le (by omega)] at e2
 have hwi : ∀ (i : Nat) (hi : i < xs.length), ∀ m ∈ (xs[i]'hi).1.weights P e, m ≤ B := fun i hi m hm => hw m (by
  rw [hxe]; simp only [DataW.weights, ht]
  exact eF hm (List.mem_map_of_mem (List.getElem_mem hi)))
 rw [List.getElem?_eq_getElem (show 0 < xs.length by omega)] at e0
 rw [List.getElem?_eq_getElem (show 1 < xs.length by omega)] at e1
 rw [List.getElem?_eq_getElem (show 2 < xs.length by omega)] at e2
 obtain ⟨a, p0, b0⟩ := h0.o (hwi 0 (by omega)) e0
 obtain ⟨b, p1, b1⟩ := h0.o (hwi 1 (by omega)) e1
 obtain ⟨c, p2, b2⟩ := h0.o (hwi 2 (by omega)) e2
 refine ⟨(a, b, c), ⟨cs.take k, cs.drop k, (List.take_append_drop _ _).symm, p0, (cs.drop k).take k, (cs.drop k).drop k, (List.take_append_drop _ _).symm, p1, cs.drop (2 * k), [], ?_, p2, rfl⟩, b0, b1, b2⟩
 rw [List.drop_drop, List.append_nil]; congr 1; omega
theorem top_arr {α : Type} {t : TypeId} {k n : Nat} {te : TypeId} {f : α → CT} {Bf : α → Prop} {r : Reach} {b0 : Nat} {v : Value} {d : DataW H} {ps : List MemPlace} (ho : Opn enc P W B t k f Bf) (ht : P.underlying t = some (.array n te)) (hval : Value.okWide P W r b0 t v) (hw : ∀ m ∈ d.weights P t, m ≤ B) (h : DataW.Trod enc P W 0 (fun _ => true) true t v d ps) :
  ∃ a, (ag (f a)).p F0 W v ∧ Bf a := by
 simp only [Value.okWide, ht] at hval
 obtain ⟨cs, rfl, _⟩ := hval
 obtain ⟨fuel, hf⟩ := h
 obtain ⟨a, h1, h2⟩ := ho.o (x := (d, ps)) hw hf
 exact ⟨a, ⟨_, by simp [Value.cells], h1⟩, h2⟩
end
end Go.Proofs.YtflobagimodmgaaGreatDoor
