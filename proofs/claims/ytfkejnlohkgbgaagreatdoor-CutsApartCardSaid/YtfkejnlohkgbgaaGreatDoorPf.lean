/- Lemmas and walks of functions; no statement. -/
import Derived.Test.YtfkejnlohkgbgaaGreatDoorPe
set_option linter.unusedVariables false
set_option linter.unusedSimpArgs false
set_option maxRecDepth 100000
set_option maxHeartbeats 4000000
namespace Go.Proofs.YtfkejnlohkgbgaaGreatDoor
open Go.SL Go.RowKit Go.Proofs Tryz
theorem ts_frc {X : Cx} {Γ : TE} {S : List Ow} {v : Value} {ty tb : TypeId} {k b : Nat} {l : List CT} (i j : Nat) (hi : S[i]? = some (.row v ty k l)) (hj : (S.eraseIdx i)[j]? = some (.blk b tb [xc v])) : Ts X Γ S Γ ((S.eraseIdx i).set j (.blk b tb [sl k l])) := fun E w h => by
 have h1 := h.frz hi
 have h2 := h.sub (List.eraseIdx_sublist S i)
 generalize S.eraseIdx i = T at *
 have hm : ∀ o ∈ T.set j (.blk b tb [sl k l]), o ∈ T ∨ o = .blk b tb [sl k l] := fun o ho => List.mem_or_eq_of_mem_set ho
 have hjT : Ow.blk b tb [xc v] ∈ T := List.mem_of_getElem? hj
 have hmk : Mk (T.set j (.blk b tb [sl k l])) X.M = Mk T X.M := funext fun c => propext ⟨fun h => h.imp (fun ⟨o, ho, e⟩ => by
  rcases hm o ho with ho | rfl
  ·exact ⟨o, ho, e⟩
  ·exact ⟨_, hjT, e⟩) id, fun h => h.imp (fun ⟨o, ho, e⟩ => by
  obtain ⟨m, hm⟩ := List.mem_iff_getElem?.1 ho
  by_cases c : j = m
  ·subst c
   obtain rfl := Option.some.inj (hm.symm.trans hj)
   exact ⟨.blk b tb [sl k l], List.mem_of_getElem? (List.getElem?_set_self (List.getElem?_eq_some_iff.1 hj).1), e⟩
  ·exact ⟨o, List.mem_of_getElem? (by rw [List.getElem?_set_ne c]; exact hm), e⟩) id⟩
 refine ⟨h2.bel, ⟨by rw [hmk]; exact h2.gd.ok, by rw [hmk]; exact h2.gd.tab, fun o ho => ?_⟩, fun o ho b' e => ?_, fO h2.apt hj (fun b' e => .inl e), h2.ok0, h2.zm, h2.mko, by rw [hmk]; exact h2.tm⟩
 ·rw [hmk]
  rcases hm o ho with ho | rfl
  ·exact h2.gd.own o ho
  ·obtain ⟨us, g1, x, y, rfl, g2, g3⟩ := h2.gd.own _ hjT
   obtain ⟨rfl, _⟩ := g2
   obtain rfl : y = [] := g3
   exact ⟨_, g1, [v], [], rfl, h1, rfl⟩
 ·rcases hm o ho with ho | rfl
  ·exact h2.new o ho b' e
  ·exact h2.new _ hjT b' e
abbrev pcs (n : Nat) (l : List P2) : CT := sl 6 (l.map (ptq n))
theorem iedges {p : List P2} {n : Nat} (hn : n ≤ 400) (hl : p.length ≤ 1000000) : CIt prog 164 [pa (pcs n p)] (jE p) (fun s => [ag (sgq n s)]) := by
 refine cit func164 rfl rfl rfl rfl rfl fun X y YS YX hY hS => (zI (zJ rfl (mZ (old rfl rfl) (mZ (oln rfl) (mZ (omv rfl) (mY (yD ?_)))))))
 rotate_left 1
 refine dP (σ := Nat) (fun i => [(7, True, exP (.int .i64 ((i : Nat) : Int)))]) (fun i => []) (fun i Y => YS ((jE p).take i) Y ∧ i ≤ p.length) (fun i => p.length - i) (0) (tk 0 rfl (tk 1 rfl (tk 5 rfl (tk 6 rfl tn)))) ?_ rfl (⟨hS, by omega⟩) (fun i Y hG => ?_)
 refine tc rfl (zW _) (tn)
 rotate_left 1
 obtain ⟨hS, hi⟩ := hG
 refine zI (zJ rfl (mZ (olt rfl rfl) (mY (zI ?_))))
 refine jA rfl (fun c0 => ?_) (fun c0 => ?_)
 refine yM (zI (yD (zI (zJ rfl (mZ (omv rfl) (mZ (oix _ rfl rfl rfl (fun _ => rfl) (fun _ => (by (have e0 := dt c0; omega)))) (mZ (old rfl rfl) (tal fun b4 => (mZ (oas rfl) ?_)))))))))
 refine tst 0 rfl rfl rfl rfl rfl rfl (gY (gC (s := 4) 0 rfl rfl) (mY (zI (xF 11 mixed rfl rfl (d1 (omv rfl) (d1 (old rfl rfl) (d1 (old rfl rfl) (d1 (omv rfl) (d1 (oad rfl rfl (by omega)) ?_)))))))))
 refine d1 (old rfl rfl) (d1 (oln rfl) (d1 (orm rfl rfl (by (have e0 := dt c0; omega))) ?_))
 refine d1 (oix _ rfl rfl rfl (fun _ => rfl) (fun _ => ?_)) ?_
 rotate_left 1
 refine d1 (old rfl rfl) (d1 (oca rfl rfl fun _ => wfrom (by omega) (by omega)) (d0 ?_))
 rotate_left 1
 refine jJ ?_
 rotate_left 1
 ·have := dt c0
  exact Nat.mod_lt _ (by omega)
 ·have h2 : i < p.length := by have := dt c0; omega
  refine t_yield hY hS (edges_split h2).1 rfl rfl (fs1 (ps_sg (by unfold iI; rfl) (by omega) (by omega)) fs0) (fun Y hS => ?_) (fun Y hX => ?_)
  ·refine mZ (ont rfl) (mY (lT rfl rfl (yM (zJ rfl (mZ (oad rfl rfl (by omega)) (mZ (omv rfl) (mY ?_)))))))
   rotate_left 1
   refine ⟨i + 1, tes ?_ ?_ (List.Sublist.refl _), ?_, (by omega)⟩
   refine tc rfl (zW _) (tn)
   refine tc rfl (zW _) (tc rfl (zW _) (tc rfl (zW _) (tc rfl (zW _) (tn))))
   rotate_left 1
   exact ⟨by rw [(edges_split h2).2]; exact hS, by omega⟩
  ·refine mZ (ont rfl) (mY (t_ift rfl rfl (yI ?_)))
   rotate_left 1
   exact .inr hX
 ·have : i = p.length := by have := df c0; omega
  subst this
  rw [List.take_of_length_le (by rw [uW]; omega)] at hS
  exact .inl hS
theorem kedges {p : List P2} {n : Nat} : CTy prog 99 [sv (pcs n p)] (fn 164 [pa (pcs n p)]) := by
 refine ctc func99 rfl rfl rfl rfl fun X => (zI (zJ rfl (mZ (obx rfl) (mZ (oas rfl) (mY (zI (zJ rfl (mZ (omf rfl) (mZ (oas rfl) ?_)))))))))
 refine mY (yI (⟨[_], rst rfl rs0, yV (PSub.refl _)⟩))
theorem lD : COrd uX := ⟨fun a b => cmpP_zero, fun a b => by rw [dF, eK], fun a b c h k => cmpP_lt_trans h k⟩
theorem kvcmp2 {p q : P2} {m : Nat} (hm : m ≤ 80000) : CTy prog 101 [ag (ptc m p), ag (ptc m q)] (exP (.int .i64 (uX p q))) := by
 have := iY (Ψ := ag (ptc m p)) (Φ := ag (ptc m q)) (show max m m ≤ 80000 by omega) (show max m m ≤ 80000 by omega)
 exact this
theorem ksortP {v : Value} {l : List P2} {m : Nat} (hm : m ≤ 80000) (hl : l.length ≤ 1000000) : CTo prog 100 [exP v, exP (.func (.func 101) #[] #[])] [.row v 39 6 (l.map (ptc m))] (fun r So => r = tu [] ∧ ∃ l' : List P2, l'.Perm l ∧ (∀ i j, i < j → j < l'.length → ¬ uX l'[j]! l'[i]! < 0) ∧ So = [.row v 39 6 (l'.map (ptc m))]) :=
 tsort (ρ := sortPt_ren) sortPt rfl dE (qJ fU) (fun _ => rfl) lD.swo (bo func100) (fun x y => kvcmp2 hm) hl
abbrev eqP (a b : P2) : Bool := decide (uX a b = 0)
theorem wcompactP {v : Value} {l : List P2} {m : Nat} (hm : m ≤ 80000) (hl : l.length ≤ 100000) : CTo prog 102 [exP v, exP (.func (.func 103) #[] #[])] [.row v 39 6 (l.map (ptc m))] (fun ρ So => ∃ v', ρ = exP v' ∧ So = [.row v' 39 6 ((uA eqP Df.d l l.length).map (ptc m))]) := by
 refine ctd func102 rfl rfl rfl rfl (fun _ _ _ _ _ _ _ hs hp => fV hs hp) fun X => (zI (zJ rfl (mZ (oas rfl) (mY (zI (zI (zJ rfl (mZ (omv rfl) (mZ (olno 0 rfl rfl) ?_)))))))))
 refine mZ (olt rfl rfl) (mY ?_)
 refine jA rfl (fun c0 => ?_) (fun c0 => ?_)
 refine zI (zJ rfl (mZ (omv rfl) (mZ (oas rfl) (mY (yI ?_)))))
 rotate_left 1
 refine yM (zI (zI (zJ rfl (mZ (oas rfl) (mY (yD ?_))))))
 rotate_left 1
 ·have h2 := dt c0
  exact ⟨[_], exP v, _, rst rfl rs0, List.Sublist.refl _, ⟨v, rfl, by rw [bA (Nat.le_refl _) fun i h1 h3 => by omega, List.take_length]⟩, yV (PSub.refl _)⟩
 have h2 := df c0
 refine jV (σ := Nat) (fun s => [(5, True, exP (.int .i64 ((s : Nat) : Int)))]) (fun s => [.row v 39 6 (l.map (ptc m))]) (fun s => 1 ≤ s ∧ s ≤ l.length ∧ ∀ i, 0 < i → i < s → eqP (l.getD i Df.d) (l.getD (i - 1) Df.d) = false) (fun s => l.length - s) (1) (tk 0 rfl (tk 1 rfl tn)) ?_ rfl (⟨by omega, by omega, fun i h1 h3 => by omega⟩) (fun s hJ Y _ => ?_)
 refine tc rfl (zW _) (tn)
 rotate_left 1
 obtain ⟨j1, j2, j3⟩ := hJ
 refine zI (zI (zJ rfl (mZ (omv rfl) (mZ (omv rfl) (mZ (olno 0 rfl rfl) (mZ (olt rfl rfl) (mY ?_)))))))
 refine jA rfl (fun c1 => ?_) (fun c1 => ?_)
 refine yM (zI (yD (zI (xF 11 mixed rfl rfl (d1 (omv rfl) (d1 (omv rfl) (d1 (omv rfl) (d1 (mP 0 _ rfl rfl rfl (fun _ => rfl) (fun _ => (by (have e0 := dt c1; simp; omega)))) (d1 (lI 0 rfl rfl (fun _ => (by (have e0 := dt c1; simp; omega))) rfl) ?_)))))))))
 refine d1 (omv rfl) (d1 (omv rfl) (d1 (osb rfl rfl (by omega)) (d1 (mP 0 (s - 1) rfl rfl rfl (fun _ => (by omega)) (fun _ => (by (simp; omega)))) (d1 (lI 0 rfl rfl (fun _ => (by (simp; omega))) rfl) (d1 (oca rfl rfl fun _ => kvsame (by omega) (by omega)) (d0 (mY ?_)))))))
 refine jA rfl (fun c2 => ?_) (fun c2 => ?_)
 refine zI (zJ rfl (mZ (omv rfl) (mZ (omv rfl) (mZ (osv 0 _ rfl rfl rfl (fun _ => rfl) (fun _ => (by (have e0 := df c0; have e1 := dt c1; have e2 := dt c2; simp; omega)))) (mZ (oas rfl) (mY (zI (zI (zJ rfl ?_)))))))))
 refine mZ (oas rfl) (mY (yD ?_))
 rotate_left 1
 refine yM (zJ rfl (mZ (omv rfl) (mZ (oad rfl rfl (by omega)) (mZ (oas rfl) (mY ?_)))))
 rotate_left 1
 refine jJ (zI (zJ rfl (mZ (omv rfl) (mZ (oas rfl) (mY (yI ?_))))))
 rotate_left 1
 ·have h3 := dt c1
  refine jV (σ := Nat × Nat × List P2) (fun t => [(5, True, exP (.int .i64 ((t.1 : Nat) : Int))), (7, True, exP (.int .i64 ((t.2.1 : Nat) : Int)))]) (fun t => [.row v 39 6 (t.2.2.map (ptc m))]) (fun t => 1 ≤ t.2.1 ∧ s + t.2.1 ≤ l.length ∧ s ≤ t.1 ∧ t.1 < s + t.2.1 ∧ t.2.2.length = l.length ∧ t.2.2.take t.1 = uA eqP Df.d l (s + t.2.1) ∧ ∀ i, s + t.2.1 ≤ i + 1 → t.2.2.getD i Df.d = l.getD i Df.d) (fun t => l.length - t.2.1) ((s, 1, l)) (tk 0 rfl (tk 1 rfl (tk 6 rfl tn))) ?_ rfl (⟨by simp, by simp only; omega, by simp, by simp, rfl, keepE_same (l := l) (s := s) (by omega) (by omega) j3 c2.h, fun _ _ => rfl⟩) (fun t hJ Y _ => ?_)
  refine tc rfl (zW _) (tc rfl (zW _) (tn))
  rotate_left 1
  obtain ⟨kk, m', l2⟩ := t
  dsimp only at hJ ⊢
  obtain ⟨j4, j5, j6, j7, j8, j9, j10⟩ := hJ
  refine zI (zI (zJ rfl (mZ (omv rfl) (mZ (omv rfl) (mZ (olv 0 rfl rfl) (mZ (olt rfl rfl) (mY ?_)))))))
  refine jA rfl (fun c3 => ?_) (fun c3 => ?_)
  refine yM (zI (yD (zI (xF 12 mixed rfl rfl (d1 (omv rfl) (d1 (omv rfl) (d1 (omv rfl) (d1 (mO 0 m' rfl rfl rfl (fun _ => (by omega)) (fun _ => (by (have e0 := dt c3; omega)))) (d1 (lI 0 rfl rfl (fun _ => (by (have e0 := dt c3; omega))) rfl) ?_)))))))))
  refine d1 (omv rfl) (d1 (omv rfl) (d1 (osb rfl rfl (by omega)) (d1 (mO 0 (m' - 1) rfl rfl rfl (fun _ => (by omega)) (fun _ => (by (simp; omega)))) (d1 (lI 0 rfl rfl (fun _ => (by (simp; omega))) rfl) (d1 (oca rfl rfl fun _ => kvsame (by omega) (by omega)) (d1 (ont rfl) (d0 (mY ?_))))))))
  refine jA rfl (fun c4 => ?_) (fun c4 => ?_)
  refine zI (zJ rfl (mZ (omv rfl) (mZ (omv rfl) (mZ (omv rfl) (mZ (omv rfl) (mZ (mO 0 m' rfl rfl rfl (fun _ => (by omega)) (fun _ => (by (have e0 := dt c3; omega)))) (mZ (lI 0 rfl rfl (fun _ => (by (have e0 := dt c3; omega))) rfl) (mZ (mP 0 _ rfl rfl rfl (fun _ => rfl) (fun _ => (by (simp; omega)))) (tsr 0 _ rfl rfl rfl rfl rfl (by (simp; omega)) rfl ?_)))))))))
  refine mY (zJ rfl (mZ (omv rfl) (mZ (oad rfl rfl (by omega)) (mZ (oas rfl) (mY (zJ rfl (mZ (omv rfl) (mZ (oad rfl rfl (by omega)) (mZ (oas rfl) ?_)))))))))
  refine mY ?_
  rotate_left 1
  refine yM (zJ rfl (mZ (omv rfl) (mZ (oad rfl rfl (by omega)) (mZ (oas rfl) (mY ?_)))))
  rotate_left 1
  refine jJ (zI (zJ rfl (mZ (omv rfl) (mZ (omv rfl) (mZ (osv 0 _ rfl rfl rfl (fun _ => rfl) (fun _ => (by (simp; omega)))) (tclr 0 rfl rfl (by (simp; omega)) (mY (zI (zJ rfl ?_)))))))))
  refine mZ (omv rfl) (mZ (omv rfl) (tsh 0 _ rfl rfl rfl rfl (by (simp; omega)) fun r64 => (mZ (oas rfl) (mY (yI ?_)))))
  rotate_left 1
  ·have h5 : m' < l2.length - s := by have := dt c3; simp at this; omega
   have hd : l2.getD (s + m') Df.d = l.getD (s + m') Df.d := j10 _ (by omega)
   have hd2 : l2.getD (s + (m' - 1)) Df.d = l.getD (s + m' - 1) Df.d := by rw [show s + (m' - 1) = s + m' - 1 by omega]; exact j10 _ (by omega)
   have hc : ¬ eqP (l.getD (s + m') Df.d) (l.getD (s + m' - 1) Df.d) = true := by rw [← hd, ← hd2, Bool.not_eq_true]; exact (Bool.not_eq_true' _) ▸ c4.h
   refine ⟨(kk + 1, m' + 1, l2.set kk (l2.getD (s + m') Df.d)), tes ?_ ?_ (by (simp; done)), ?_, (by (simp; omega))⟩
   refine tc rfl (zW _) (tc rfl (zW _) (tn))
   refine tc rfl (zW _) (tc rfl (zW _) (tc rfl (zW _) (tn)))
   rotate_left 1
   ·refine ⟨by simp, by simp only; omega, by simp only; omega, by simp only; omega, by simp [j8], ?_, fun i hi => ?_⟩
    ·simp only [← Nat.add_assoc]; rw [hd]; exact keepE_put (by omega) j9 hc
    ·simp only at hi ⊢; rw [getD_set_ne' (by omega)]; exact j10 i (by omega)
  ·have h5 : m' < l2.length - s := by have := dt c3; simp at this; omega
   have hd : l2.getD (s + m') Df.d = l.getD (s + m') Df.d := j10 _ (by omega)
   have hd2 : l2.getD (s + (m' - 1)) Df.d = l.getD (s + m' - 1) Df.d := by rw [show s + (m' - 1) = s + m' - 1 by omega]; exact j10 _ (by omega)
   have hc : eqP (l.getD (s + m') Df.d) (l.getD (s + m' - 1) Df.d) = true := by rw [← hd, ← hd2]; exact (Bool.not_eq_false' _) ▸ c4.h
   refine ⟨(kk, m' + 1, l2), tes ?_ ?_ (List.Sublist.refl _), ?_, (by (simp; omega))⟩
   refine tc rfl (zW _) (tc rfl (zW _) (tn))
   refine tc rfl (zW _) (tc rfl (zW _) (tc rfl (zW _) (tn)))
   rotate_left 1
   exact ⟨by simp, by simp only; omega, j6, by simp only; omega, j8, by simp only [← Nat.add_assoc]; exact keepE_skip (by omega) j9 hc, fun i hi => j10 i (by simp only at hi; omega)⟩
  ·have h5 : ¬ m' < l2.length - s := by have := df c3; simp at this; omega
   have e : s + m' = l.length := by omega
   refine ⟨[_], exP r64, _, rst rfl rs0, List.Sublist.refl _, ⟨r64, rfl, ?_⟩, yV (PSub.refl _)⟩
   rw [← e, ← j9]
   simp [List.take_append, Nat.min_eq_left (show kk ≤ l2.length by omega)]
 ·have h3 := dt c1
  refine ⟨s + 1, tes ?_ ?_ (List.Sublist.refl _), ?_, (by omega)⟩
  refine tc rfl (zW _) (tn)
  refine tc rfl (zW _) (tc rfl (zW _) (tn))
  rotate_left 1
  refine ⟨by omega, by omega, fun i h1 h4 => ?_⟩
  rcases Nat.lt_or_ge i s with h | h
  ·exact j3 i h1 h
  ·obtain rfl : i = s := by omega
   exact c2.h
 ·have h3 := df c1
  exact ⟨[_], exP v, _, rst rfl rs0, List.Sublist.refl _, ⟨v, rfl, by rw [bA (Nat.le_refl _) fun i h1 h4 => j3 i h1 (by omega), List.take_length]⟩, yV (PSub.refl _)⟩
noncomputable def allOf (p q : List P2) : List P2 := setOf uX (dI (jE p) (jE q))
theorem allOf_set (p q : List P2) : allOf p q = setOf uX (dI (jE p) (jE q)) := rfl
theorem allOf_len (p q : List P2) : (allOf p q).length ≤ 2 * q.length * p.length := by
 rw [allOf_set]
 have h1 := setOf_len lD (dI (jE p) (jE q))
 have h2 := rawL_len (jE q) (jE p)
 rw [uW, uW] at h2; omega
theorem raw_next {es fs : List (P2 × P2)} {x : P2 × P2} : dI (es ++ [x]) fs = dI es fs ++ fs.flatMap fun t => kH (xO x t) := by simp [dI]
theorem kmall {p q : List P2} {n m : Nat} (hn : n ≤ 400) (hm : m ≤ 400) (hp : p.length ≤ 200) (hq : q.length ≤ 200) : CTy prog 42 [sv (pcs n p), sv (pcs m q)] (sv (sl 6 ((allOf p q).map (ptc (32 * max n m + 80))))) := by
 refine ctc func42 rfl rfl rfl rfl fun X => (zI (zJ rfl (mZ (obx rfl) (tal fun b4 => (mY (zI (zI (zJ rfl (mZ (omv rfl) ?_)))))))))
 refine mZ (oca rfl rfl fun _ => kedges) (mY (yD ?_))
 rotate_left 1
 refine eY (ts_nil 39 6) ?_
 have hrl := rawL_len (jE q) (jE p)
 rw [uW, uW] at hrl
 have hpq : 2 * q.length * p.length ≤ 2 * 200 * 200 := Nat.mul_le_mul (by omega) hp
 refine fC (σ := List (P2 × P2) × Value) (fun t => [.row t.2 39 6 ((dI t.1 (jE q)).map (ptc (32 * max n m + 80))), .blk b4 63 [xc t.2]]) (fun pre t => t.1 = pre) ([], .slice none 0 0) rfl (iedges hn (by omega)) (fun _ => rfl) rfl lX (by simp [dI]; rfl) rfl (fun pre x post t hx hJ Y y hl => ?_) (fun t hJ Y _ => ?_)
 ·refine zJ rfl (tal fun b5 => (tst 0 rfl rfl rfl rfl rfl rfl (gY (gC (s := 5) 0 rfl rfl) (mY (⟨rfl, fun Y hl => (yD (t_scope (zI (t_label ?_))))⟩)))))
  refine zI (zJ rfl (mZ (old rfl rfl) (mZ (oca rfl rfl fun _ => kedges) (mY (yD ?_)))))
  rotate_left 1
  obtain ⟨pr, v1⟩ := t
  obtain rfl : pr = pre := hJ
  refine fC (σ := List (P2 × P2) × Value) (fun t => [.row t.2 39 6 ((dI pr (jE q) ++ t.1.flatMap fun u => kH (xO x u)).map (ptc (32 * max n m + 80))), .blk b4 63 [xc t.2]]) (fun pre t => t.1 = pre) ([], v1) rfl (iedges hm (by omega)) (fun _ => rfl) rfl (fun _ h => by cases h; exact hl) (by simp) rfl (fun pre2 x2 post2 t hx2 hJ Y y2 hl2 => ?_) (fun t hJ Y _ => ?_)
  ·obtain ⟨pr2, v2⟩ := t
   obtain rfl : pr2 = pre2 := hJ
   have h1 : (dI pr (jE q) ++ pr2.flatMap fun u => kH (xO x u)).length ≤ 1000000 := by
    have a1 := rawL_len (jE q) pr
    have a2 := rowL_len x pr2
    have a3 := congrArg List.length hx
    have a4 := congrArg List.length hx2
    rw [uW, List.length_append] at a3 a4
    rw [uW] at a1
    have a5 : 2 * q.length * pr.length ≤ 2 * 200 * 200 := Nat.mul_le_mul (by omega) (by omega)
    rw [List.length_append]; omega
   have e1 : (pr2 ++ [x2]).flatMap (fun u => kH (xO x u)) = pr2.flatMap (fun u => kH (xO x u)) ++ kH (xO x x2) := by simp
   refine zJ rfl (tal fun b6 => (tst 0 rfl rfl rfl rfl rfl rfl (gY (gC (s := 6) 0 rfl rfl) (mY (⟨rfl, fun Y hl => (yD (zI (zJ rfl (mZ (old rfl rfl) ?_))))⟩)))))
   refine mZ (old rfl rfl) (mZ (oca rfl rfl fun _ => kmeets (by omega) (by omega)) (tal fun b7 => (tst 0 rfl rfl rfl rfl rfl rfl (gY (gC (s := 7) 0 rfl rfl) (mY (zI (zI (zJ rfl (mZ (ofa rfl rfl) ?_)))))))))
   refine mZ (old rfl rfl) (mZ (oeq rfl rfl) (mY ?_))
   refine jA rfl (fun c0 => ?_) (fun c0 => ?_)
   refine jJ ?_
   rotate_left 1
   refine yM (zJ rfl (mZ (gB 1 rfl rfl rfl rfl) (mZ (ofa rfl rfl) (mZ (old rfl rfl) (mZ (ofa rfl rfl) (mZ (old rfl rfl) (mZ (obs rfl rfl rfl rfl rfl rfl) ?_)))))))
   refine tap 0 rfl rfl rfl ?_ rfl fun r26 => ?_
   rotate_left 1
   refine tsw 1 0 rfl rfl rfl rfl rfl rfl rfl (mY ?_)
   rotate_left 1
   ·have e2 : kH (xO x x2) = [] := by unfold kH; rw [if_pos (dt c0)]
    refine ⟨(pr2 ++ [x2], v2), ?_, rfl⟩
    rotate_left 1
    simp only [e1, e2, List.append_nil]; exact List.Sublist.refl _
   ·dsimp only; simp only [List.length_map, List.length_cons, List.length_nil]; omega
   ·have e2 : kH (xO x x2) = [(xO x x2).2.1, (xO x x2).2.2] := by unfold kH; rw [if_neg (df c0)]
    refine ⟨(pr2 ++ [x2], r26), ?_, rfl⟩
    rotate_left 1
    simp only [e1, e2, ← List.append_assoc, List.map_append (l₂ := [_, _])]; exact List.Sublist.refl _
  ·obtain ⟨_, v2⟩ := t
   obtain rfl : _ = jE q := hJ
   rotate_left 1
   refine ⟨(pr ++ [x], v2), ?_, rfl⟩
   rotate_left 1
   simp only [raw_next]; exact List.Sublist.refl _
 ·obtain ⟨_, v2⟩ := t
  obtain rfl : _ = jE p := hJ
  refine zI (zJ rfl (mZ (gB 1 rfl rfl rfl rfl) ?_))
  rotate_left 1
  dsimp only
  refine tco [0] rfl rfl rfl (ksortP (by omega) (by omega)) ?_
  rintro _ _ ⟨rfl, l', hp', hso, rfl⟩
  have hll := hp'.length_eq
  refine mY (zI (zJ rfl (mZ (gB 1 rfl rfl rfl rfl) ?_)))
  rotate_left 1
  refine tco [0] rfl rfl rfl (wcompactP (by omega) (by omega)) ?_
  rintro _ _ ⟨v3, rfl, rfl⟩
  rw [show uA eqP Df.d l' l'.length = allOf p q from (sd_of_sort lD hp' hso).eq lD]
  refine tsw 1 0 rfl rfl rfl rfl rfl rfl rfl (mY (eY (ts_frc 0 0 rfl rfl) ?_))
  refine yI (⟨[_], rsc 0 rfl rfl rfl rfl rs0, yV (PSub.refl _)⟩)
end Go.Proofs.YtfkejnlohkgbgaaGreatDoor
set_option maxHeartbeats 4000000
namespace Go.Proofs.YtfkejnlohkgbgaaGreatDoor
open Go.SL Go.RowKit Go.Proofs Tryz
theorem tup3 {a b c : PV} : ∀ M w vs, Fa [a, b, c] M w vs → (tu [a, b, c]).p M w (xD vs) := fun M w vs h => by
 have h0 := h
 obtain ⟨v, us, rfl, h1, u, us2, rfl, h2, z, us3, rfl, h3, e4⟩ := h
 obtain rfl : us3 = [] := e4
 exact ⟨_, rfl, h0⟩
abbrev fnd (l : List Rat) (x : Rat) : PV := tu [exP (.int .i64 ((bN l x).1 : Int)), exP (.bool (bN l x).2.1), exP (.bool (bN l x).2.2)]
def FS (l : List Rat) (x : Rat) (s : Nat) (a : Int) : Prop :=
 (a = -1 ∧ ∀ j, j < s → ¬ dR l x j = true) ∨ ∃ k : Nat, a = (k : Int) ∧ k < s ∧ dR l x k = true ∧ ∀ j, j < k → ¬ dR l x j = true
theorem cJ {l : List Rat} {x : Rat} {s : Nat} : dR l x s = true ↔ s + 1 < l.length ∧ l.getD s 0 < x ∧ x < l.getD (s + 1) 0 := by
 unfold dR; simp only [Bool.and_eq_true, decide_eq_true_eq, and_assoc]
theorem fs_next {l : List Rat} {x : Rat} {s : Nat} {a : Int} (h : FS l x s a) (hn : 0 ≤ a ∨ ¬ dR l x s = true) : FS l x (s + 1) a := by
 rcases h with ⟨h1, h2⟩ | ⟨k, h1, h2, h3, h4⟩
 ·refine .inl ⟨h1, fun j hj => ?_⟩
  rcases Nat.lt_or_ge j s with c | c
  ·exact h2 j c
  ·obtain rfl : j = s := by omega
   rcases hn with hn | hn
   ·omega
   ·exact hn
 ·exact .inr ⟨k, h1, by omega, h3, h4⟩
theorem fs_hit {l : List Rat} {x : Rat} {s : Nat} {a : Int} (h : FS l x s a) (ha : ¬ 0 ≤ a) (hs : dR l x s = true) : FS l x (s + 1) (s : Int) := by
 rcases h with ⟨h1, h2⟩ | ⟨k, h1, h2, h3, h4⟩
 ·exact .inr ⟨s, rfl, by omega, hs, h2⟩
 ·omega
theorem fs_wall {l : List Rat} {x : Rat} {s : Nat} (hs : s < l.length) (hx : l.getD s 0 = x) (hn : ∀ j, j < s → l.getD j 0 ≠ x) : bN l x = (s, true, true) := by
 unfold bN; rw [wall_some hs hx hn]
theorem fs_none {l : List Rat} {x : Rat} {a : Int} (h : FS l x l.length a) (ha : a < 0) (hn : ∀ j, j < l.length → l.getD j 0 ≠ x) : bN l x = (0, false, false) := by
 rcases h with ⟨h1, h2⟩ | ⟨k, h1, h2, h3, h4⟩
 ·unfold bN; rw [wall_none hn, slab_none h2]
 ·omega
theorem fs_slab {l : List Rat} {x : Rat} {a : Int} (h : FS l x l.length a) (ha : ¬ a < 0) (hn : ∀ j, j < l.length → l.getD j 0 ≠ x) : ∃ k : Nat, a = (k : Int) ∧ bN l x = (k, false, true) := by
 rcases h with ⟨h1, h2⟩ | ⟨k, h1, h2, h3, h4⟩
 ·omega
 ·obtain ⟨i1, i2, i3⟩ := cJ.1 h3
  refine ⟨k, h1, ?_⟩
  unfold bN; rw [wall_none hn, slab_some i1 i2 i3 h4]
theorem ne_step {l : List Rat} {x : Rat} {s : Nat} (h : ∀ j, j < s → l.getD j 0 ≠ x) (hs : l.getD s 0 ≠ x) : ∀ j, j < s + 1 → l.getD j 0 ≠ x := fun j hj => by
 rcases Nat.lt_or_ge j s with c | c
 ·exact h j c
 ·obtain rfl : j = s := by omega
  exact hs
theorem wcrises {l : List Rat} {n : Nat} (hn : n ≤ 90000) (hl : l.length ≤ 1000000) : CTy prog 19 [sv (sl 3 (l.map (rtq n)))] (exP (.bool (decide (dA l)))) := by
 refine ctc func19 rfl rfl rfl rfl fun X => (zI (zJ rfl (mZ (oas rfl) (mY (zI (zI (zJ rfl (mZ (omv rfl) (mZ (oln rfl) ?_)))))))))
 refine mZ (osb rfl rfl (by omega)) (mZ (omx rfl rfl) (mZ (omv rfl) (mY (yD ?_))))
 rotate_left 1
 refine jV (σ := Nat) (fun i => [(8, True, exP (.int .i64 ((i : Nat) : Int)))]) (fun i => []) (fun i => i ≤ l.length - 1 ∧ ∀ j, j < i → l.getD j 0 < l.getD (j + 1) 0) (fun i => l.length - i) (0) (tk 0 rfl (tk 7 rfl tn)) ?_ rfl (⟨by omega, by omega⟩) (fun i hJ Y _ => ?_)
 refine tc rfl (zW _) (tn)
 rotate_left 1
 obtain ⟨hi, hs⟩ := hJ
 refine zI (zJ rfl (mZ (olt rfl rfl) (mY (zI ?_))))
 refine jA rfl (fun c0 => ?_) (fun c0 => ?_)
 refine yM (zI (yD (zI (zJ rfl (mZ (omv rfl) (mZ (oas rfl) (mY (zI (xF 11 mixed rfl rfl ?_)))))))))
 refine d1 (omv rfl) (d1 (omv rfl) (d1 (oix _ rfl rfl rfl (fun _ => rfl) (fun _ => (by (have e0 := dt c0; omega)))) (d1 (old rfl rfl) (d1 (omv rfl) (d1 (omv rfl) (d1 (oad rfl rfl (by omega)) (d1 (oix _ rfl rfl rfl (fun _ => rfl) (fun _ => (by (have e0 := dt c0; simp; omega)))) (d1 (old rfl rfl) (d1 (oca rfl rfl fun _ => fI (by omega) (by omega)) ?_)))))))))
 refine d1 (oge rfl rfl) (d0 (mY ?_))
 refine jA rfl (fun c1 => ?_) (fun c1 => ?_)
 refine zI (zJ rfl (mZ (oas rfl) (mY (yI (⟨[_], rst rfl rs0, yV ?_⟩)))))
 refine psb ?_
 rotate_left 1
 refine yM (zJ rfl (mZ (oad rfl rfl (by omega)) (mZ (omv rfl) (mY ?_))))
 rotate_left 1
 refine jJ (zI (zJ rfl (mZ (oas rfl) (mY (yI (⟨[_], rst rfl rs0, yV ?_⟩))))))
 refine psb ?_
 rotate_left 1
 ·have h1 := dt c1
  have h2 := dt c0
  rw [decide_eq_false fun h => by
   have := h i (by omega)
   rw [← qI] at this
   change 0 ≤ qH (l.getD i 0) (l.getD (i + 1) 0) at h1
   omega]
 ·have h1 := df c1
  have h2 := dt c0
  refine ⟨i + 1, tes ?_ ?_ (List.Sublist.refl _), ?_, (by omega)⟩
  refine tc rfl (zW _) (tn)
  refine tc rfl (zW _) (tc rfl (zW _) (tn))
  rotate_left 1
  refine ⟨by omega, fun j hj => ?_⟩
  rcases Nat.lt_or_ge j i with c | c
  ·exact hs j c
  ·obtain rfl : j = i := by omega
   rw [← qI]
   change ¬ 0 ≤ qH (l.getD j 0) (l.getD (j + 1) 0) at h1
   omega
 ·have h1 := df c0
  rw [decide_eq_true (show dA l from fun j hj => hs j (by omega))]
theorem wcfind {l : List Rat} {x : Rat} {n m : Nat} (hn : n ≤ 90000) (hm : m ≤ 90000) (hl : l.length ≤ 1000000) : CTy prog 20 [sv (sl 3 (l.map (rtq n))), ag (rtq m x)] (fnd l x) := by
 refine ctc func20 rfl rfl rfl rfl fun X => (zI (zJ rfl (mZ (obx rfl) (mZ (oas rfl) (mZ (oas rfl) (mZ (oas rfl) (mY (t_scope (zI ?_)))))))))
 refine zJ rfl (mZ (oas rfl) (mY (zI (t_label (zI (zI (zJ rfl (mZ (omv rfl) (mZ (oln rfl) ?_)))))))))
 refine mZ (omv rfl) (mY (yD ?_))
 rotate_left 1
 refine jV (σ := Nat × Int) (fun s => [(4, True, exP (.int .i64 s.2)), (12, True, exP (.int .i64 ((s.1 : Nat) : Int)))]) (fun s => []) (fun s => s.1 ≤ l.length ∧ (∀ j, j < s.1 → l.getD j 0 ≠ x) ∧ FS l x s.1 s.2) (fun s => l.length - s.1) ((0, -1)) (tk 0 rfl (tk 3 rfl (tk 10 rfl (tk 11 rfl tn)))) ?_ rfl (⟨by simp, by simp, .inl ⟨rfl, by simp⟩⟩) (fun s hJ Y _ => ?_)
 refine tc rfl (zW _) (tc rfl (zW _) (tn))
 rotate_left 1
 obtain ⟨i, a⟩ := s
 dsimp only at hJ ⊢
 obtain ⟨hi, hs, hF⟩ := hJ
 refine zI (zJ rfl (mZ (olt rfl rfl) (mY (zI ?_))))
 refine jA rfl (fun c0 => ?_) (fun c0 => ?_)
 refine yM (zI (yD (zI (zJ rfl (mZ (omv rfl) (mZ (oix _ rfl rfl rfl (fun _ => rfl) (fun _ => (by (have e0 := dt c0; omega)))) (mZ (old rfl rfl) (tal fun b8 => (mZ (oas rfl) ?_)))))))))
 refine tst 0 rfl rfl rfl rfl rfl rfl (gY (gC (s := 8) 0 rfl rfl) (mY (zI (zI (zJ rfl (mZ (old rfl rfl) (mZ (old rfl rfl) (mZ (oca rfl rfl fun _ => fI (by omega) (by omega)) (mZ (oas rfl) ?_)))))))))
 refine mY (yD (zI (zJ rfl (mZ (omv rfl) (mZ (oeq rfl rfl) (mZ (oas rfl) (mY ?_)))))))
 refine jA rfl (fun c1 => ?_) (fun c1 => ?_)
 refine zI (zJ rfl (mZ (omv rfl) (mZ (oas rfl) (mZ (oas rfl) (mZ (oas rfl) (mY (yI (⟨[_, _, _], rst rfl (rst rfl (rst rfl rs0)), ?_⟩))))))))
 rotate_left 1
 refine zI (xF 24 mixed rfl rfl (d1 (omv rfl) (d1 (oge rfl rfl) (d1 (omv rfl) (d1g rfl rfl (omv rfl) (d1g rfl rfl (oad rfl rfl (by omega)) (d1g rfl rfl (omv rfl) (d1g rfl rfl (oln rfl) (d1g rfl rfl (oge rfl rfl) ?_)))))))))
 refine d1 (opk rfl rfl rfl) (d1 (omv rfl) (d1g rfl rfl (omv rfl) (d1g rfl rfl (ogt rfl rfl) (d1 (opk rfl rfl rfl) (d1 (omv rfl) (d1g rfl rfl (old rfl rfl) (d1g rfl rfl (omv rfl) (d1g rfl rfl (omv rfl) (d1g rfl rfl (oad rfl rfl (by omega)) ?_)))))))))
 refine d1g rfl rfl (oix _ rfl rfl rfl (fun g => rfl) (fun g => ?_)) ?_
 rotate_left 1
 refine d1g rfl rfl (old rfl rfl) (d1g rfl rfl (oca rfl rfl fun g => fI (by omega) (by omega)) (d1g rfl rfl (oge rfl rfl) (d1 (opk rfl rfl rfl) (d1 (oas rfl) (d0 (mY ?_))))))
 refine jA rfl (fun c2 => ?_) (fun c2 => ?_)
 refine jJ (zJ rfl (mZ (oad rfl rfl (by omega)) (mZ (omv rfl) (mY ?_))))
 rotate_left 1
 refine yM (zJ rfl (mZ (omv rfl) (mZ (oas rfl) (mY (zJ rfl (mZ (oad rfl rfl (by omega)) (mZ (omv rfl) (mY ?_))))))))
 rotate_left 1
 refine jJ (zI (zI (zJ rfl (mZ (omv rfl) (mZ (olt rfl rfl) (mY ?_))))))
 refine jA rfl (fun c3 => ?_) (fun c3 => ?_)
 refine zI (zJ rfl (mZ (oas rfl) (mZ (oas rfl) (mZ (oas rfl) (mY (yI (⟨[_, _, _], rst rfl (rst rfl (rst rfl rs0)), ?_⟩)))))))
 rotate_left 1
 refine yM (zI (zJ rfl (mZ (omv rfl) (mZ (oas rfl) (mZ (oas rfl) (mZ (oas rfl) (mY (yI (⟨[_, _, _], rst rfl (rst rfl (rst rfl rs0)), ?_⟩)))))))))
 rotate_left 1
 ·unfold fnd; rw [fs_wall (by have := dt c0; omega) (qK.1 (dt c1)) hs]; exact tup3
 ·have := g.2
  simp only [Bool.or_eq_false_iff, decide_eq_false_iff_not] at this
  change i + 1 < l.length
  omega
 ·have h0 := dt c0
  have h1 := c2.h
  simp only [Bool.or_eq_true, decide_eq_true_eq] at h1
  refine ⟨(i + 1, a), tes ?_ ?_ (List.Sublist.refl _), ?_, (by omega)⟩
  refine tc rfl (zW _) (tc rfl (zW _) (tn))
  refine tc rfl (zW _) (tc rfl (zW _) (tc rfl (zW _) (tc rfl (zW _) (tn))))
  rotate_left 1
  refine ⟨by omega, ne_step hs fun e => df c1 (qK.2 e), fs_next hF ?_⟩
  rcases h1 with ((h1 | h1) | h1) | h1
  ·exact .inl h1
  ·exact .inr fun c => by have := (cJ.1 c).1; omega
  ·refine .inr fun c => ?_
   have := (cJ.1 c).2.1
   rw [← qI] at this
   change 0 < qH (l.getD i 0) x at h1
   omega
  ·refine .inr fun c => ?_
   have := (cJ.1 c).2.2
   rw [← qI] at this
   change 0 ≤ qH x (l.getD (i + 1) 0) at h1
   omega
 ·have h0 := dt c0
  have h1 := c2.h
  simp only [Bool.or_eq_false_iff, decide_eq_false_iff_not] at h1
  obtain ⟨⟨⟨h1, h2⟩, h3⟩, h4⟩ := h1
  refine ⟨(i + 1, (i : Int)), tes ?_ ?_ (List.Sublist.refl _), ?_, (by omega)⟩
  refine tc rfl (zW _) (tc rfl (zW _) (tn))
  refine tc rfl (zW _) (tc rfl (zW _) (tc rfl (zW _) (tc rfl (zW _) (tn))))
  rotate_left 1
  have hne : l.getD i 0 ≠ x := fun e => df c1 (qK.2 e)
  refine ⟨by omega, ne_step hs hne, fs_hit hF h1 (cJ.2 ⟨by omega, ?_, ?_⟩)⟩
  ·rw [← qI]
   have : qH (l.getD i 0) x ≠ 0 := fun e => hne (qK.1 e)
   change ¬ 0 < qH (l.getD i 0) x at h3
   omega
  ·rw [← qI]
   change ¬ 0 ≤ qH x (l.getD (i + 1) 0) at h4
   omega
 ·have hi2 : i = l.length := by have := df c0; omega
  subst hi2
  unfold fnd; rw [fs_none hF (dt c3) hs]; exact tup3
 ·have hi2 : i = l.length := by have := df c0; omega
  subst hi2
  obtain ⟨k, rfl, e⟩ := fs_slab hF (df c3) hs
  unfold fnd; rw [e]; exact tup3
theorem wmids {l : List Rat} {n : Nat} (hn : n ≤ 298) (hl : l.length ≤ 1000000) (hp : ∀ i, i + 1 < l.length → 0 < l.getD (i + 1) 0) : CTy prog 18 [sv (sl 3 (l.map (rtq n)))] (sv (sl 3 ((aO l).map (rtc (4 * n + 50))))) := by
 refine ctc func18 rfl rfl rfl rfl fun X => (zI (zJ rfl (mZ (oas rfl) (mY (zI (zI (zJ rfl (mZ (omv rfl) (mZ (oln rfl) ?_)))))))))
 refine mZ (osb rfl rfl (by omega)) (mZ (omx rfl rfl) (mZ (omv rfl) (mY (yD ?_))))
 rotate_left 1
 refine eY (ts_nil 33 3) ?_
 refine jV (σ := Nat × Value) (fun s => [(2, True, exP s.2), (10, True, exP (.int .i64 ((s.1 : Nat) : Int)))]) (fun s => [.row s.2 33 3 (((aO l).take s.1).map (rtc (4 * n + 50)))]) (fun s => s.1 ≤ l.length - 1) (fun s => l.length - s.1) ((0, .slice none 0 0)) (tk 0 rfl (tk 9 rfl tn)) ?_ rfl ((by simp)) (fun s hJ Y _ => ?_)
 refine tc rfl (zW _) (tc rfl (zW _) (tn))
 rotate_left 1
 refine zI (zJ rfl (mZ (olt rfl rfl) (mY (zI ?_))))
 refine jA rfl (fun c0 => ?_) (fun c0 => ?_)
 refine yM (zI (yD (zI (zJ rfl (mZ (omv rfl) (mZ (oas rfl) (mY (zI ?_))))))))
 apply bX 1 16 14 [(13, 4, 0), (14, 1000014, 0)] rfl rfl mixed rfl rfl rfl
 refine cx1 (omv rfl) rfl (cx1 (omv rfl) rfl (cx1 (oix _ rfl rfl rfl (fun _ => rfl) (fun _ => (by (have e0 := dt c0; omega)))) rfl (cx1 (old rfl rfl) rfl (cx1 (omv rfl) rfl (cx1 (omv rfl) rfl (cx1 (oad rfl rfl (by omega)) rfl (cx1 (oix _ rfl rfl rfl (fun _ => rfl) (fun _ => (by (have e0 := dt c0; simp; omega)))) rfl (cx1 (old rfl rfl) rfl (cx1 (oca rfl rfl fun _ => kbetw (K := 4 * n + 50) (by omega) (by omega) (by omega) (hp _ (by have := dt c0; omega))) rfl ?_)))))))))
 refine cx1 (omv rfl) rfl (cx1 (oex rfl rfl) rfl (cx1 (oex rfl rfl) rfl (cN rfl rfl (cal) (cS rfl rfl rfl (cst rfl rfl rfl) (cx1 (oas rfl) rfl ?_)))))
 refine cE (fun b4 => ?_)
 refine mY (zI (zI (zJ rfl (mZ (omv rfl) (mZ (ont rfl) (mY ?_))))))
 refine jA rfl (fun c1 => ?_) (fun c1 => ?_)
 refine zJ rfl (mZ (oca rfl rfl fun _ => krofM (k := 0) (K := 4 * n + 50) (by omega) (by omega)) (tst 0 rfl rfl rfl rfl rfl rfl (mY (zJ rfl (mZ (omv rfl) (mZ (gB 0 rfl rfl rfl rfl) (mZ (obs rfl rfl rfl rfl rfl rfl) (tap 1 rfl rfl rfl (by (simp; omega)) rfl fun r32 => (mZ (oas rfl) ?_)))))))))
 refine mY (zJ rfl (mZ (oad rfl rfl (by omega)) (mZ (omv rfl) (mY ?_))))
 rotate_left 1
 refine yM (zJ rfl (mZ (omv rfl) (mZ (gB 0 rfl rfl rfl rfl) (mZ (obs rfl rfl rfl rfl rfl rfl) (tap 1 rfl rfl rfl (by (simp; omega)) rfl fun r32 => (mZ (oas rfl) (mY (zJ rfl (mZ (oad rfl rfl (by omega)) ?_)))))))))
 refine mZ (omv rfl) (mY ?_)
 rotate_left 1
 refine jJ (zI (zJ rfl (mZ (omv rfl) (mZ (oas rfl) (mY (eY (ts_frz (s := 2) 0 rfl rfl) (yI (⟨[_], rst rfl rs0, yV ?_⟩))))))))
 rotate_left 1
 ·have h0 := dt c0
  have h1 : ¬ l.getD s.1 0 < l.getD (s.1 + 1) 0 := of_decide_eq_false (by have := c1.h; rw [Bool.not_eq_true'] at this; exact this)
  refine ⟨(s.1 + 1, r32), tes ?_ ?_ ?_, (by omega), (by omega)⟩
  refine tc rfl (zW _) (tc rfl (zW _) (tn))
  refine tc rfl (zW _) (tc rfl (zW _) (tn))
  rotate_left 1
  rw [(xZ (Df.d : Rat) (l := aO l) (s := s.1) (by rw [midsQ_len]; omega)).1]
  rw [show (aO l).getD s.1 Df.d = ((0 : Nat) : Rat) by rw [show (aO l).getD s.1 Df.d = dH (l.getD s.1 0) (l.getD (s.1 + 1) 0) from midsQ_getD (by omega)]; unfold dH; rw [if_neg h1]; rfl, List.map_append]
  exact List.sublist_cons_self _ _
 ·have h0 := dt c0
  refine ⟨(s.1 + 1, r32), tes ?_ ?_ ?_, (by omega), (by omega)⟩
  refine tc rfl (zW _) (tc rfl (zW _) (tn))
  refine tc rfl (zW _) (tc rfl (zW _) (tn))
  rotate_left 1
  rw [(xZ (Df.d : Rat) (l := aO l) (s := s.1) (by rw [midsQ_len]; omega)).1]
  rw [show (aO l).getD s.1 Df.d = dH (l.getD s.1 0) (l.getD (s.1 + 1) 0) from midsQ_getD (by omega), List.map_append]
  exact List.sublist_cons_self _ _
 ·have h0 := df c0
  rw [List.take_of_length_le (by rw [midsQ_len]; omega)]
  exact PSub.refl _
section
variable {Ψ Φ : PV} {n m : Nat} {x : Rat} {l : List Rat}
theorem kcrises [h : VQ Ψ n l] (hn : n ≤ 90000) (hl : l.length ≤ 1000000) : CTy prog 19 [Ψ] (exP (.bool (decide (dA l)))) := qP (wcrises hn hl) (fs1 mT fs0)
theorem kcfind [h : VQ Ψ n l] [k : QR Φ m x] (hn : n ≤ 90000) (hm : m ≤ 90000) (hl : l.length ≤ 1000000) : CTy prog 20 [Ψ, Φ] (fnd l x) := qP (wcfind hn hm hl) (fs1 mT (fs1 eM fs0))
theorem kmids [h : VQ Ψ n l] (hn : n ≤ 298) (hl : l.length ≤ 1000000) (hp : ∀ i, i + 1 < l.length → 0 < l.getD (i + 1) 0) : CTy prog 18 [Ψ] (sv (sl 3 ((aO l).map (rtc (4 * n + 50))))) := qP (wmids hn hl hp) (fs1 mT fs0)
end
abbrev ntl (l : List Nat) : List Rat := l.map fun k => ((k : Nat) : Rat)
theorem k22of {l : List Nat} (hl : l.length ≤ 1000000) (hb : ∀ k ∈ l, k < 9223372036854775808) : CTy prog 75 [sv (sl 1 (l.map fun k => xc (.int .i64 ((k : Nat) : Int))))] (sv (sl 3 ((ntl l).map (rtc 2)))) := by
 refine ctc func75 rfl rfl rfl rfl fun X => (zI (zJ rfl (mZ (oas rfl) (mY (zI (zJ rfl (mZ (oas rfl) (mY (zI ?_)))))))))
 refine zI (zJ rfl (mZ (oas rfl) (mY (yD ?_))))
 rotate_left 1
 refine eY (ts_nil 33 3) ?_
 refine jV (σ := Nat × Value) (fun s => [(3, True, exP s.2), (4, True, exP (.int .i64 ((s.1 : Nat) : Int)))]) (fun s => [.row s.2 33 3 ((ntl (l.take s.1)).map (rtc 2))]) (fun s => s.1 ≤ l.length) (fun s => l.length - s.1) ((0, .slice none 0 0)) (tk 0 rfl tn) ?_ rfl ((by simp)) (fun s hJ Y _ => ?_)
 refine tc rfl (zW _) (tc rfl (zW _) (tn))
 rotate_left 1
 refine zI (zI (zJ rfl (mZ (omv rfl) (mZ (omv rfl) (mZ (oln rfl) (mZ (olt rfl rfl) (mY ?_)))))))
 refine jA rfl (fun c0 => ?_) (fun c0 => ?_)
 refine yM (zI (yD (zJ rfl (mZ (omv rfl) (mZ (omv rfl) (mZ (omv rfl) (mZ (oix _ rfl rfl rfl (fun _ => rfl) (fun _ => (by (have e0 := dt c0; omega)))) (mZ (old rfl rfl) ?_))))))))
 refine mZ (oca rfl rfl fun _ => lJ (k := l.getD s.1 Df.d) ?_) ?_
 rotate_left 1
 refine mZ (obs rfl rfl rfl rfl rfl rfl) (tap 0 rfl rfl rfl (by (simp; omega)) rfl fun r18 => (mZ (oas rfl) (mY (zJ rfl (mZ (omv rfl) (mZ (oad rfl rfl (by omega)) (mZ (oas rfl) (mY ?_))))))))
 rotate_left 1
 refine jJ (zI (zJ rfl (mZ (omv rfl) (mZ (oas rfl) (mY (eY (ts_frz (s := 2) 0 rfl rfl) (yI (⟨[_], rst rfl rs0, yV ?_⟩))))))))
 rotate_left 1
 ·exact hb _ (by rw [List.getD_eq_getElem?_getD, List.getElem?_eq_getElem (show s.1 < l.length by have := dt c0; omega)]; exact List.getElem_mem _)
 ·refine ⟨(s.1 + 1, r18), tes ?_ ?_ ?_, (by (have e0 := dt c0; omega)), (by (have e0 := dt c0; omega))⟩
  refine tc rfl (zW _) (tc rfl (zW _) (tn))
  refine tc rfl (zW _) (tn)
  rotate_left 1
  rw [(xZ (Df.d : Nat) (show s.1 < l.length by have := dt c0; omega)).1, ntl, List.map_append, List.map_append]
  exact List.Sublist.refl _
 ·have h0 := df c0
  rw [List.take_of_length_le (by omega)]
  exact PSub.refl _
theorem kwakes22 : CTy prog 17 [] (exP (.bool true)) := by
 have e0 : bN (ntl [0, 1, 3]) ((1 : Nat) : Rat) = (1, true, true) := by decide
 have e1 : bN (ntl [0, 1, 3]) ((2 : Nat) : Rat) = (1, false, true) := by decide
 have e2 : (aO (ntl [0, 1, 3])).length = 2 := by decide
 have e3 : qH ((aO (ntl [0, 1, 3])).getD 1 Df.d) ((2 : Nat) : Rat) = 0 := by decide +kernel
 have e4 : dA (ntl [0, 1, 3]) := by decide
 have e5 : qH ((aO (ntl [0, 1, 3])).getD 0 Df.d + (aO (ntl [0, 1, 3])).getD 0 Df.d) ((1 : Nat) : Rat) = 0 := by decide +kernel
 have e6 : ∀ i, i + 1 < (ntl [0, 1, 3]).length → 0 < (ntl [0, 1, 3]).getD (i + 1) 0
  | 0, _ => by decide
  | 1, _ => by decide
  | i + 2, h => by simp at h; omega
 refine ctc func17 rfl rfl rfl rfl fun X => (zI (zJ rfl (mZ (oas rfl) (mY (zI (zJ rfl (mZ (obs rfl rfl rfl rfl rfl rfl) (mZ (oca rfl rfl fun _ => k22of (l := [0, 1, 3]) (by (simp; done)) (by (simp; done))) (mZ (oas rfl) ?_)))))))))
 refine mY (zI (zJ rfl (mZ (omv rfl) (mZ (oca rfl rfl fun _ => lJ (by (simp; done))) (mZ (oca rfl rfl fun _ => kcfind (by omega) (by omega) (by (simp; done))) (mZ (omv rfl) (mZ (oex rfl rfl) (mZ (oex rfl rfl) (mZ (oex rfl rfl) ?_)))))))))
 refine mZ (oas rfl) (mZ (oas rfl) (mZ (oas rfl) (mY (zI (zJ rfl (mZ (omv rfl) (mZ (oca rfl rfl fun _ => lJ (by (simp; done))) (mZ (oca rfl rfl fun _ => kcfind (by omega) (by omega) (by (simp; done))) (mZ (omv rfl) ?_)))))))))
 refine mZ (oex rfl rfl) (mZ (oex rfl rfl) (mZ (oex rfl rfl) (mZ (oas rfl) (mZ (oas rfl) (mZ (oas rfl) (mY (zI (zJ rfl (mZ (omv rfl) ?_)))))))))
 refine mZ (oca rfl rfl fun _ => kmids (by omega) (by (simp; done)) e6) (mZ (oas rfl) (mY (zI (xF 48 mixed rfl rfl (d1 (omv rfl) (d1 (oeq rfl rfl) (d1 (omv rfl) (d1g rfl rfl (omv rfl) (d1 (opk rfl rfl rfl) ?_)))))))))
 refine d1 (omv rfl) (d1g rfl rfl (omv rfl) (d1 (opk rfl rfl rfl) (d1 (omv rfl) (d1g rfl rfl (omv rfl) (d1g rfl rfl (oeq rfl rfl) (d1 (opk rfl rfl rfl) (d1 (omv rfl) (d1g rfl rfl (omv rfl) (d1g rfl rfl (ont rfl) ?_)))))))))
 refine d1 (opk rfl rfl rfl) (d1 (omv rfl) (d1g rfl rfl (omv rfl) (d1 (opk rfl rfl rfl) (d1 (omv rfl) (d1g rfl rfl (omv rfl) (d1g rfl rfl (oln rfl) (d1g rfl rfl (oeq rfl rfl) (d1 (opk rfl rfl rfl) (d1 (omv rfl) ?_)))))))))
 refine d1g rfl rfl (omv rfl) (d1g rfl rfl (oix _ rfl rfl rfl (fun g => rfl) (fun g => (by (simp only [lN]; omega)))) (d1g rfl rfl (old rfl rfl) (d1g rfl rfl (oca rfl rfl fun g => lJ (by (simp; done))) (d1g rfl rfl (oca rfl rfl fun g => k7same (by omega) (by omega)) (d1 (opk rfl rfl rfl) (d1 (omv rfl) (d1g rfl rfl (omv rfl) (d1g rfl rfl (oca rfl rfl fun g => kcrises (by omega) (by (simp; done))) (d1 (opk rfl rfl rfl) ?_)))))))))
 refine d1 (omv rfl) (d1g rfl rfl (omv rfl) (d1g rfl rfl (oix _ rfl rfl rfl (fun g => rfl) (fun g => (by (simp only [lN]; omega)))) (d1g rfl rfl (old rfl rfl) (d1g rfl rfl (omv rfl) (d1g rfl rfl (oix _ rfl rfl rfl (fun g => rfl) (fun g => (by (simp only [lN]; omega)))) (d1g rfl rfl (old rfl rfl) (d1g rfl rfl (obs rfl rfl rfl rfl rfl rfl) (d1g rfl rfl (oca rfl rfl fun g => k7add (by omega)) (d1g rfl rfl (oca rfl rfl fun g => lJ (by (simp; done))) ?_)))))))))
 refine d1g rfl rfl (oca rfl rfl fun g => k7same (by omega) (by omega)) (d1 (opk rfl rfl rfl) (d1 (oas rfl) (d0 (mY (yI (⟨[_], rst rfl rs0, yV ?_⟩))))))
 refine psb ?_
 rotate_left 1
 rw [e0, e1, e2, e3, e5, decide_eq_true e4]; rfl
end Go.Proofs.YtfkejnlohkgbgaaGreatDoor
set_option maxHeartbeats 4000000
namespace Go.Proofs.YtfkejnlohkgbgaaGreatDoor
open Go.SL Go.RowKit Go.Proofs Tryz
instance : Df (List P2) := ⟨[]⟩
def gW (ls : List (List P2)) (i : Nat) : List (List P2 × List P2) := (List.range i).flatMap fun k => (ls.take k).map fun p => (p, ls.getD k [])
def xG (ls : List (List P2)) : List (List P2 × List P2) := gW ls ls.length
theorem pairs_next {ls : List (List P2)} {i : Nat} : gW ls (i + 1) = gW ls i ++ (ls.take i).map fun p => (p, ls.getD i []) := by
 unfold gW; rw [List.range_succ, List.flatMap_append]; simp
theorem pairs_to {ls : List (List P2)} {i : Nat} : ∀ {k : Nat}, ∃ post, gW ls (i + k) = gW ls i ++ post
 | 0 => ⟨[], by simp⟩
 | k + 1 => let ⟨p, h⟩ := @pairs_to ls i k; ⟨p ++ (ls.take (i + k)).map fun p => (p, ls.getD (i + k) []), by rw [← Nat.add_assoc, pairs_next, h, List.append_assoc]⟩
theorem pairs_at {ls : List (List P2)} {i j : Nat} (hi : i < ls.length) (hj : j < i) : ∃ post, xG ls = (gW ls i ++ ((ls.take i).take j).map fun p => (p, ls.getD i [])) ++ (((ls.take i).getD j []), ls.getD i []) :: post := by
 obtain ⟨p, h⟩ := @pairs_to ls (i + 1) (ls.length - (i + 1))
 have e : i + 1 + (ls.length - (i + 1)) = ls.length := by omega
 rw [e] at h
 have hj2 : j < (ls.take i).length := by simp; omega
 refine ⟨((ls.take i).drop (j + 1)).map (fun p => (p, ls.getD i [])) ++ p, ?_⟩
 unfold xG
 rw [h, pairs_next]
 have h2 : ls.take i = (ls.take i).take j ++ (ls.take i).getD j [] :: (ls.take i).drop (j + 1) := by
  rw [List.getD_eq_getElem?_getD, List.getElem?_eq_getElem hj2, Option.getD_some, List.getElem_cons_drop, List.take_append_drop]
 conv => lhs; rw [h2]
 simp [List.map_append, List.append_assoc]
theorem pairs_in {ls : List (List P2)} {i j : Nat} (hj : j < (ls.take i).length) : ((ls.take i).take (j + 1)).map (fun p => (p, ls.getD i [])) = ((ls.take i).take j).map (fun p => (p, ls.getD i [])) ++ [((ls.take i).getD j [], ls.getD i [])] := by
 rw [List.take_succ_eq_append_getElem hj]; simp [List.getElem?_eq_getElem hj]
theorem ipairs {ls : List (List P2)} {n : Nat} (hl : ls.length ≤ 1000000) : CIt prog 183 [pa (sl 1 (ls.map (pcs n)))] (xG ls) (fun x => [sv (pcs n x.1), sv (pcs n x.2)]) := by
 refine cit func183 rfl rfl rfl rfl rfl fun X y YS YX hY hS => (zI (zJ rfl (mZ (old rfl rfl) (mZ (oln rfl) (mZ (omv rfl) (mY (yD ?_)))))))
 rotate_left 1
 refine dP (σ := Nat) (fun i => [(9, True, exP (.int .i64 ((i : Nat) : Int)))]) (fun i => []) (fun i Y => YS (gW ls i) Y ∧ i ≤ ls.length) (fun i => ls.length - i) (0) (tk 0 rfl (tk 1 rfl (tk 7 rfl (tk 8 rfl tn)))) ?_ rfl (⟨hS, by omega⟩) (fun i Y hG => ?_)
 refine tc rfl (zW _) (tn)
 rotate_left 1
 obtain ⟨hS, hi⟩ := hG
 refine zI (zJ rfl (mZ (olt rfl rfl) (mY (zI ?_))))
 refine jA rfl (fun c0 => ?_) (fun c0 => ?_)
 refine yM (zI (yD (zI (zJ rfl (mZ (omv rfl) (mZ (oix _ rfl rfl rfl (fun _ => rfl) (fun _ => (by (have e0 := dt c0; omega)))) (mZ (old rfl rfl) (mZ (oas rfl) (mZ (oas rfl) ?_)))))))))
 refine mY (zI (zJ rfl (mZ (old rfl rfl) (mZ (omv rfl) (mZ (osl 0 _ rfl rfl ⟨_, _, _, _, rfl, fun _ => trivial, inferInstance, fun _ => rfl⟩ (fun _ => (by omega)) (fun _ => (by (simp; omega)))) (mZ (oln rfl) (mZ (omv rfl) (mY (yD ?_)))))))))
 rotate_left 1
 refine jJ ?_
 rotate_left 1
 ·have hi' := dt c0
  refine dP (σ := Nat) (fun j => [(18, True, exP (.int .i64 ((j : Nat) : Int)))]) (fun j => []) (fun j Y => YS (gW ls i ++ ((ls.take i).take j).map fun p => (p, ls.getD i [])) Y ∧ j ≤ (ls.take i).length) (fun j => (ls.take i).length - j) (0) (tk 0 rfl (tk 1 rfl (tk 4 rfl (tk 7 rfl (tk 8 rfl (tk 9 rfl (tk 16 rfl (tk 17 rfl tn)))))))) ?_ rfl (⟨by simpa using hS, by omega⟩) (fun j Y hG => ?_)
  refine tc rfl (zW _) (tn)
  rotate_left 1
  obtain ⟨hS, hj⟩ := hG
  refine zI (zJ rfl (mZ (olt rfl rfl) (mY (zI ?_))))
  refine jA rfl (fun c1 => ?_) (fun c1 => ?_)
  refine yM (zI (yD (zI (zJ rfl (mZ (oix _ rfl rfl rfl (fun _ => rfl) (fun _ => (by (have e0 := dt c1; omega)))) (mZ (old rfl rfl) (mZ (oas rfl) (mY (zI ?_)))))))))
  refine zJ rfl (mZ (omv rfl) (mZ (omv rfl) (mZ (omv rfl) ?_)))
  rotate_left 1
  refine jJ (zJ rfl (mZ (oad rfl rfl (by omega)) (mZ (omv rfl) (mY ?_))))
  rotate_left 1
  ·obtain ⟨post, hx⟩ := pairs_at (ls := ls) (i := i) (j := j) (by omega) (by have := dt c1; simp at this; omega)
   refine t_yield hY hS hx rfl rfl (fun _ _ _ h => h) (fun Y hS => ?_) (fun Y hX => ?_)
   ·have hj2 : j < (ls.take i).length := by have := dt c1; simp at this ⊢; omega
    have hj3 : (ls.take i).length ≤ ls.length := by simp; omega
    refine mZ (ont rfl) (mY (lT rfl rfl (yM (zJ rfl (mZ (oad rfl rfl (by omega)) (mZ (omv rfl) (mY ?_)))))))
    rotate_left 1
    refine ⟨j + 1, tes ?_ ?_ (List.Sublist.refl _), ?_, (by omega)⟩
    refine tc rfl (zW _) (tn)
    refine tc rfl (zW _) (tc rfl (zW _) (tc rfl (zW _) (tc rfl (zW _) (tc rfl (zW _) (tc rfl (zW _) (tc rfl (zW _) (tc rfl (zW _) (tn))))))))
    rotate_left 1
    exact ⟨by rw [pairs_in hj2, ← List.append_assoc]; exact hS, by omega⟩
   ·refine mZ (ont rfl) (mY (t_ift rfl rfl (yI ?_)))
    rotate_left 1
    exact .inr hX
  ·have hj2 : j = (ls.take i).length := by have := df c1; simp at this hj ⊢; omega
   refine ⟨i + 1, tes ?_ ?_ (List.Sublist.refl _), ?_, (by omega)⟩
   refine tc rfl (zW _) (tn)
   refine tc rfl (zW _) (tc rfl (zW _) (tc rfl (zW _) (tc rfl (zW _) (tn))))
   rotate_left 1
   exact ⟨by rw [pairs_next]; rw [hj2, List.take_length] at hS; exact hS, by omega⟩
 ·have : i = ls.length := by have := df c0; omega
  subst this; exact .inl hS
theorem kpairs {ls : List (List P2)} {n : Nat} : CTy prog 128 [sv (sl 1 (ls.map (pcs n)))] (fn 183 [pa (sl 1 (ls.map (pcs n)))]) := by
 refine ctc func128 rfl rfl rfl rfl fun X => (zI (zJ rfl (mZ (obx rfl) (mZ (oas rfl) (mY (zI (zJ rfl (mZ (omf rfl) (mZ (oas rfl) ?_)))))))))
 refine mY (yI (⟨[_], rst rfl rs0, yV (PSub.refl _)⟩))
theorem kcsame {p q : Rat} {n m : Nat} (hn : n ≤ 90000) (hm : m ≤ 90000) : CTy prog 131 [ag (rtq n p), ag (rtq m q)] (exP (.bool (decide (qH p q = 0)))) := by
 refine ctc func131 rfl rfl rfl rfl fun X => (zI (zJ rfl (mZ (obx rfl) (mZ (obx rfl) (mZ (oas rfl) (mY (zI (zJ rfl (mZ (old rfl rfl) ?_)))))))))
 refine mZ (old rfl rfl) (mZ (oca rfl rfl fun _ => fI (by omega) (by omega)) (mZ (oeq rfl rfl) (mZ (oas rfl) (mY (yI (⟨[_], rst rfl rs0, yV (PSub.refl _)⟩))))))
theorem call1 {ps : List P2} {n m : Nat} {xs : List Rat} {v : Value} {bx : Nat} (hn : n + 1 ≤ m) (hm : m ≤ 90000) (hl : xs.length + ps.length ≤ 100000) : CTo prog 127 [sv (pcs n ps), exP (.pointer (some ⟨bx, 0, none⟩))] [.blk bx 22 [xc v], .row v 33 3 (xs.map (rtc m))] (fun ρ So => ρ = tu [] ∧ ∃ v', So = [.blk bx 22 [xc v'], .row v' 33 3 ((xs ++ ps.map (·.1)).map (rtc m))]) := by
 refine ctd func127 rfl rfl rfl rfl (fun _ _ _ _ _ _ _ hs hp => fV hs hp) fun X => (zI (zJ rfl (mZ (omv rfl) (mZ (oln rfl) (mZ (omv rfl) (mY (yD ?_)))))))
 rotate_left 1
 refine jV (σ := Nat × Value) (fun s => [(7, True, exP (.int .i64 ((s.1 : Nat) : Int)))]) (fun s => [.blk bx 22 [xc s.2], .row s.2 33 3 ((xs ++ (ps.take s.1).map (·.1)).map (rtc m))]) (fun s => s.1 ≤ ps.length) (fun s => ps.length - s.1) ((0, v)) (tk 1 rfl (tk 5 rfl (tk 6 rfl tn))) ?_ (by (simp; done)) ((by simp)) (fun s hJ Y _ => ?_)
 refine tc rfl (zW _) (tn)
 rotate_left 1
 refine zI (zJ rfl (mZ (olt rfl rfl) (mY (zI ?_))))
 refine jA rfl (fun c0 => ?_) (fun c0 => ?_)
 refine yM (zI (yD (zI (zJ rfl (mZ (oix _ rfl rfl rfl (fun _ => rfl) (fun _ => (by (have e0 := dt c0; omega)))) (mZ (old rfl rfl) (tal fun b4 => (tst 0 rfl rfl rfl rfl rfl rfl (gY (gC (s := 4) 0 rfl rfl) ?_)))))))))
 refine mY (xF 5 mixed rfl rfl (d1 (gB 0 rfl rfl rfl rfl) (d1 (ofa rfl rfl) (d1 (old rfl rfl) (d1 (oca rfl rfl fun _ => krnormM (m := m) (by omega) (by omega)) (d1 (obs rfl rfl rfl rfl rfl rfl) (d0 (tap 1 rfl rfl rfl (by (simp; omega)) rfl fun r16 => (tsw 0 1 rfl rfl rfl rfl rfl rfl rfl ?_)))))))))
 refine mY (zJ rfl (mZ (oad rfl rfl (by omega)) (mZ (omv rfl) (mY ?_))))
 rotate_left 1
 refine jJ ?_
 rotate_left 1
 ·refine ⟨(s.1 + 1, r16), tes ?_ ?_ ?_, (by (have e0 := dt c0; omega)), (by (have e0 := dt c0; omega))⟩
  refine tc rfl (zW _) (tn)
  refine tc rfl (zW _) (tc rfl (zW _) (tc rfl (zW _) (tn)))
  rotate_left 1
  simp only [(xZ (Df.d : P2) (show s.1 < ps.length by have := dt c0; omega)).1, List.map_append, ← List.append_assoc]
  exact List.Sublist.refl _
 ·have hs : s.1 = ps.length := by have := df c0; omega
  refine ⟨[], tu [], _, rs0, List.Sublist.refl _, ⟨rfl, s.2, ?_⟩, nil_r⟩
  rw [hs, List.take_length]
end Go.Proofs.YtfkejnlohkgbgaaGreatDoor
set_option maxHeartbeats 4000000
namespace Go.Proofs.YtfkejnlohkgbgaaGreatDoor
open Go.SL Go.RowKit Go.Proofs Tryz
theorem kcsameG {Ψ Φ : PV} {p q : Rat} {n m : Nat} [h : QR Ψ n p] [k : QR Φ m q] (hn : n ≤ 90000) (hm : m ≤ 90000) : CTy prog 131 [Ψ, Φ] (exP (.bool (decide (qH p q = 0)))) := qP (kcsame hn hm) (fs1 eM (fs1 eM fs0))
abbrev eqR (a b : Rat) : Bool := decide (qH a b = 0)
theorem wcompactR {v : Value} {l : List Rat} {m : Nat} (hm : m ≤ 80000) (hl : l.length ≤ 100000) : CTo prog 130 [exP v, exP (.func (.func 131) #[] #[])] [.row v 33 3 (l.map (rtc m))] (fun ρ So => ∃ v', ρ = exP v' ∧ So = [.row v' 33 3 ((uA eqR 0 l l.length).map (rtc m))]) := by
 refine ctd func130 rfl rfl rfl rfl (fun _ _ _ _ _ _ _ hs hp => fV hs hp) fun X => (zI (zJ rfl (mZ (oas rfl) (mY (zI (zI (zJ rfl (mZ (omv rfl) (mZ (olno 0 rfl rfl) ?_)))))))))
 refine mZ (olt rfl rfl) (mY ?_)
 refine jA rfl (fun c0 => ?_) (fun c0 => ?_)
 refine zI (zJ rfl (mZ (omv rfl) (mZ (oas rfl) (mY (yI ?_)))))
 rotate_left 1
 refine yM (zI (zI (zJ rfl (mZ (oas rfl) (mY (yD ?_))))))
 rotate_left 1
 ·have h2 := dt c0
  exact ⟨[_], exP v, _, rst rfl rs0, List.Sublist.refl _, ⟨v, rfl, by rw [bA (Nat.le_refl _) fun i h1 h3 => by omega, List.take_length]⟩, yV (PSub.refl _)⟩
 have h2 := df c0
 refine jV (σ := Nat) (fun s => [(5, True, exP (.int .i64 ((s : Nat) : Int)))]) (fun s => [.row v 33 3 (l.map (rtc m))]) (fun s => 1 ≤ s ∧ s ≤ l.length ∧ ∀ i, 0 < i → i < s → eqR (l.getD i 0) (l.getD (i - 1) 0) = false) (fun s => l.length - s) (1) (tk 0 rfl (tk 1 rfl tn)) ?_ rfl (⟨by omega, by omega, fun i h1 h3 => by omega⟩) (fun s hJ Y _ => ?_)
 refine tc rfl (zW _) (tn)
 rotate_left 1
 obtain ⟨j1, j2, j3⟩ := hJ
 refine zI (zI (zJ rfl (mZ (omv rfl) (mZ (omv rfl) (mZ (olno 0 rfl rfl) (mZ (olt rfl rfl) (mY ?_)))))))
 refine jA rfl (fun c1 => ?_) (fun c1 => ?_)
 refine yM (zI (yD (zI (xF 11 mixed rfl rfl (d1 (omv rfl) (d1 (omv rfl) (d1 (omv rfl) (d1 (mP 0 _ rfl rfl rfl (fun _ => rfl) (fun _ => (by (have e0 := dt c1; simp; omega)))) (d1 (lI 0 rfl rfl (fun _ => (by (have e0 := dt c1; simp; omega))) rfl) ?_)))))))))
 refine d1 (omv rfl) (d1 (omv rfl) (d1 (osb rfl rfl (by omega)) (d1 (mP 0 (s - 1) rfl rfl rfl (fun _ => (by omega)) (fun _ => (by (simp; omega)))) (d1 (lI 0 rfl rfl (fun _ => (by (simp; omega))) rfl) (d1 (oca rfl rfl fun _ => kcsameG (by omega) (by omega)) (d0 (mY ?_)))))))
 refine jA rfl (fun c2 => ?_) (fun c2 => ?_)
 refine zI (zJ rfl (mZ (omv rfl) (mZ (omv rfl) (mZ (osv 0 _ rfl rfl rfl (fun _ => rfl) (fun _ => (by (have e0 := df c0; have e1 := dt c1; have e2 := dt c2; simp; omega)))) (mZ (oas rfl) (mY (zI (zI (zJ rfl ?_)))))))))
 refine mZ (oas rfl) (mY (yD ?_))
 rotate_left 1
 refine yM (zJ rfl (mZ (omv rfl) (mZ (oad rfl rfl (by omega)) (mZ (oas rfl) (mY ?_)))))
 rotate_left 1
 refine jJ (zI (zJ rfl (mZ (omv rfl) (mZ (oas rfl) (mY (yI ?_))))))
 rotate_left 1
 ·have h3 := dt c1
  refine jV (σ := Nat × Nat × List Rat) (fun t => [(5, True, exP (.int .i64 ((t.1 : Nat) : Int))), (7, True, exP (.int .i64 ((t.2.1 : Nat) : Int)))]) (fun t => [.row v 33 3 (t.2.2.map (rtc m))]) (fun t => 1 ≤ t.2.1 ∧ s + t.2.1 ≤ l.length ∧ s ≤ t.1 ∧ t.1 < s + t.2.1 ∧ t.2.2.length = l.length ∧ t.2.2.take t.1 = uA eqR 0 l (s + t.2.1) ∧ ∀ i, s + t.2.1 ≤ i + 1 → t.2.2.getD i 0 = l.getD i 0) (fun t => l.length - t.2.1) ((s, 1, l)) (tk 0 rfl (tk 1 rfl (tk 6 rfl tn))) ?_ rfl (⟨by simp, by simp only; omega, by simp, by simp, rfl, keepE_same (l := l) (s := s) (by omega) (by omega) j3 c2.h, fun _ _ => rfl⟩) (fun t hJ Y _ => ?_)
  refine tc rfl (zW _) (tc rfl (zW _) (tn))
  rotate_left 1
  obtain ⟨kk, m', l2⟩ := t
  dsimp only at hJ ⊢
  obtain ⟨j4, j5, j6, j7, j8, j9, j10⟩ := hJ
  refine zI (zI (zJ rfl (mZ (omv rfl) (mZ (omv rfl) (mZ (olv 0 rfl rfl) (mZ (olt rfl rfl) (mY ?_)))))))
  refine jA rfl (fun c3 => ?_) (fun c3 => ?_)
  refine yM (zI (yD (zI (xF 12 mixed rfl rfl (d1 (omv rfl) (d1 (omv rfl) (d1 (omv rfl) (d1 (mO 0 m' rfl rfl rfl (fun _ => (by omega)) (fun _ => (by (have e0 := dt c3; omega)))) (d1 (lI 0 rfl rfl (fun _ => (by (have e0 := dt c3; omega))) rfl) ?_)))))))))
  refine d1 (omv rfl) (d1 (omv rfl) (d1 (osb rfl rfl (by omega)) (d1 (mO 0 (m' - 1) rfl rfl rfl (fun _ => (by omega)) (fun _ => (by (simp; omega)))) (d1 (lI 0 rfl rfl (fun _ => (by (simp; omega))) rfl) (d1 (oca rfl rfl fun _ => kcsameG (by omega) (by omega)) (d1 (ont rfl) (d0 (mY ?_))))))))
  refine jA rfl (fun c4 => ?_) (fun c4 => ?_)
  refine zI (zJ rfl (mZ (omv rfl) (mZ (omv rfl) (mZ (omv rfl) (mZ (omv rfl) (mZ (mO 0 m' rfl rfl rfl (fun _ => (by omega)) (fun _ => (by (have e0 := dt c3; omega)))) (mZ (lI 0 rfl rfl (fun _ => (by (have e0 := dt c3; omega))) rfl) (mZ (mP 0 _ rfl rfl rfl (fun _ => rfl) (fun _ => (by (simp; omega)))) (tsr 0 _ rfl rfl rfl rfl rfl (by (simp; omega)) rfl ?_)))))))))
  refine mY (zJ rfl (mZ (omv rfl) (mZ (oad rfl rfl (by omega)) (mZ (oas rfl) (mY (zJ rfl (mZ (omv rfl) (mZ (oad rfl rfl (by omega)) (mZ (oas rfl) ?_)))))))))
  refine mY ?_
  rotate_left 1
  refine yM (zJ rfl (mZ (omv rfl) (mZ (oad rfl rfl (by omega)) (mZ (oas rfl) (mY ?_)))))
  rotate_left 1
  refine jJ (zI (zJ rfl (mZ (omv rfl) (mZ (omv rfl) (mZ (osv 0 _ rfl rfl rfl (fun _ => rfl) (fun _ => (by (simp; omega)))) (tclr 0 rfl rfl (by (simp; omega)) (mY (zI (zJ rfl ?_)))))))))
  refine mZ (omv rfl) (mZ (omv rfl) (tsh 0 _ rfl rfl rfl rfl (by (simp; omega)) fun r64 => (mZ (oas rfl) (mY (yI ?_)))))
  rotate_left 1
  ·have h5 : m' < l2.length - s := by have := dt c3; simp at this; omega
   have hd : l2.getD (s + m') 0 = l.getD (s + m') 0 := j10 _ (by omega)
   have hd2 : l2.getD (s + (m' - 1)) 0 = l.getD (s + m' - 1) 0 := by rw [show s + (m' - 1) = s + m' - 1 by omega]; exact j10 _ (by omega)
   have hc : ¬ eqR (l.getD (s + m') 0) (l.getD (s + m' - 1) 0) = true := by rw [← hd, ← hd2, Bool.not_eq_true]; exact (Bool.not_eq_true' _) ▸ c4.h
   refine ⟨(kk + 1, m' + 1, l2.set kk (l2.getD (s + m') 0)), tes ?_ ?_ ?_, ?_, (by (simp; omega))⟩
   refine tc rfl (zW _) (tc rfl (zW _) (tn))
   refine tc rfl (zW _) (tc rfl (zW _) (tc rfl (zW _) (tn)))
   rotate_left 1
   rotate_left 1
   ·rw [List.map_set]; exact List.Sublist.refl _
   ·refine ⟨by simp, by simp only; omega, by simp only; omega, by simp only; omega, by simp [j8], ?_, fun i hi => ?_⟩
    ·simp only [← Nat.add_assoc]; rw [hd]; exact keepE_put (by omega) j9 hc
    ·simp only at hi ⊢; rw [getD_set_ne' (by omega)]; exact j10 i (by omega)
  ·have h5 : m' < l2.length - s := by have := dt c3; simp at this; omega
   have hd : l2.getD (s + m') 0 = l.getD (s + m') 0 := j10 _ (by omega)
   have hd2 : l2.getD (s + (m' - 1)) 0 = l.getD (s + m' - 1) 0 := by rw [show s + (m' - 1) = s + m' - 1 by omega]; exact j10 _ (by omega)
   have hc : eqR (l.getD (s + m') 0) (l.getD (s + m' - 1) 0) = true := by rw [← hd, ← hd2]; exact (Bool.not_eq_false' _) ▸ c4.h
   refine ⟨(kk, m' + 1, l2), tes ?_ ?_ (List.Sublist.refl _), ?_, (by (simp; omega))⟩
   refine tc rfl (zW _) (tc rfl (zW _) (tn))
   refine tc rfl (zW _) (tc rfl (zW _) (tc rfl (zW _) (tn)))
   rotate_left 1
   exact ⟨by simp, by simp only; omega, j6, by simp only; omega, j8, by simp only [← Nat.add_assoc]; exact keepE_skip (by omega) j9 hc, fun i hi => j10 i (by simp only at hi; omega)⟩
  ·have h5 : ¬ m' < l2.length - s := by have := df c3; simp at this; omega
   have e : s + m' = l.length := by omega
   refine ⟨[_], exP r64, _, rst rfl rs0, List.Sublist.refl _, ⟨r64, rfl, ?_⟩, yV (PSub.refl _)⟩
   rw [← e, ← j9]
   simp [List.take_append, Nat.min_eq_left (show kk ≤ l2.length by omega)]
 ·have h3 := dt c1
  refine ⟨s + 1, tes ?_ ?_ (List.Sublist.refl _), ?_, (by omega)⟩
  refine tc rfl (zW _) (tn)
  refine tc rfl (zW _) (tc rfl (zW _) (tn))
  rotate_left 1
  refine ⟨by omega, by omega, fun i h1 h4 => ?_⟩
  rcases Nat.lt_or_ge i s with h | h
  ·exact j3 i h1 h
  ·obtain rfl : i = s := by omega
   exact c2.h
 ·have h3 := df c1
  exact ⟨[_], exP v, _, rst rfl rs0, List.Sublist.refl _, ⟨v, rfl, by rw [bA (Nat.le_refl _) fun i h1 h4 => j3 i h1 (by omega), List.take_length]⟩, yV (PSub.refl _)⟩
end Go.Proofs.YtfkejnlohkgbgaaGreatDoor
set_option maxHeartbeats 4000000
namespace Go.Proofs.YtfkejnlohkgbgaaGreatDoor
open Go.SL Go.RowKit Go.Proofs Tryz
theorem iJ : COrd qH := ⟨fun a b => qK, fun a b => by rw [cmpR_gt, qI], fun a b c h k => by rw [qI] at *; grind⟩
theorem ksortR {v : Value} {l : List Rat} {m : Nat} (hm : m ≤ 90000) (hl : l.length ≤ 1000000) : CTo prog 129 [exP v, exP (.func (.func 78) #[] #[])] [.row v 33 3 (l.map (rtc m))] (fun r So => r = tu [] ∧ ∃ l' : List Rat, l'.Perm l ∧ (∀ i j, i < j → j < l'.length → ¬ qH l'[j]! l'[i]! < 0) ∧ So = [.row v 33 3 (l'.map (rtc m))]) :=
 tsort (ρ := sortRat_ren) sortRat rfl cC (qJ qM) (fun _ => rfl) iJ.swo (bo func129) (fun x y => fI hm hm) hl
def eS (ls : List (List P2)) : List Rat := ls.flatMap fun l => l.map (·.1)
noncomputable def meetX (l : List (List P2 × List P2)) : List Rat := l.flatMap fun x => (allOf x.1 x.2).map (·.1)
noncomputable def rawC (ls : List (List P2)) (b : P2 × P2) : List Rat := [b.1.1, b.2.1] ++ eS ls ++ meetX (xG ls)
noncomputable def cutsOf (ls : List (List P2)) (b : P2 × P2) : List Rat := setOf qH (rawC ls b)
theorem cornX_len {ls : List (List P2)} (h6 : ∀ l ∈ ls, l.length ≤ 7) : (eS ls).length ≤ 7 * ls.length := by
 unfold eS
 induction ls with
 | nil => simp
 | cons a l ih =>
  rw [List.flatMap_cons, List.length_append, List.length_map, List.length_cons]
  have := h6 a (by simp); have := ih fun x hx => h6 x (by simp [hx]); omega
theorem pairs_mem {ls : List (List P2)} {i : Nat} {x : List P2 × List P2} (hi : i ≤ ls.length) (h : x ∈ gW ls i) : x.1 ∈ ls ∧ x.2 ∈ ls := by
 unfold gW at h
 obtain ⟨k, hk, h⟩ := List.mem_flatMap.1 h
 obtain ⟨p, hp, rfl⟩ := List.mem_map.1 h
 have hk := List.mem_range.1 hk
 exact ⟨List.mem_of_mem_take hp, by simp [List.getElem?_eq_getElem (show k < ls.length by omega)]⟩
theorem pairsTo_len {ls : List (List P2)} : ∀ i, (gW ls i).length ≤ i * ls.length
 | 0 => by simp [gW]
 | i + 1 => by
  rw [pairs_next, List.length_append, List.length_map, List.length_take, Nat.succ_mul]
  have := pairsTo_len (ls := ls) i; omega
theorem meetX_len {l : List (List P2 × List P2)} (h : ∀ x ∈ l, x.1.length ≤ 7 ∧ x.2.length ≤ 7) : (meetX l).length ≤ 98 * l.length := by
 unfold meetX
 induction l with
 | nil => simp
 | cons a l ih =>
  rw [List.flatMap_cons, List.length_append, List.length_map, List.length_cons]
  have h1 := allOf_len a.1 a.2
  obtain ⟨h2, h3⟩ := h a (by simp)
  have h4 : 2 * a.2.length * a.1.length ≤ 14 * 7 := Nat.mul_le_mul (by omega) h2
  have := ih fun x hx => h x (by simp [hx]); omega
theorem cto_w {P : Program} {f : FuncId} {τs σs : List PV} {Si : List Ow} {Q : PV → List Ow → Prop} (h : CTo P f σs Si Q) (k : mR τs σs) : CTo P f τs Si Q := ⟨h.bod, fun M w vs a b c d e => h.run M w vs a b c d (k _ _ _ e)⟩
theorem stp_map {α : Type} {f g : α → CT} (h : ∀ a {M w us}, (f a).p M w us → (g a).p M w us) {M : Nat → Prop} {w : World} : ∀ {xs : List α} {us : List Value}, stp (xs.map f) M w us → stp (xs.map g) M w us
 | [], _, e => e
 | a :: xs, _, ⟨x, y, e, h1, h2⟩ => ⟨x, y, e, h a h1, stp_map h h2⟩
theorem ps_row {α : Type} {f g : α → CT} {k : Nat} {xs : List α} (h : ∀ a {M w us}, (f a).p M w us → (g a).p M w us) (hs : ∀ a, (g a).sz = k) : PSub (sv (sl k (xs.map f))) (sv (sl k (xs.map g))) := fun M w v ⟨u, us, e, h1, h2, h3⟩ =>
 ⟨u, us, e, by rw [List.length_map] at h1 ⊢; exact h1, stp_map h h2, fun c hc => by obtain ⟨a, _, rfl⟩ := List.mem_map.1 hc; exact hs a⟩
theorem ptc_q {n : Nat} (a : P2) {M : Nat → Prop} {w : World} {us : List Value} (h : (ptc n a).p M w us) : (ptq n a).p M w us := by
 obtain ⟨s, x, d, t, y, e, rfl, g⟩ := CP.h (c := ptc n a) h
 exact ⟨[.bool s, x, d], [.bool t, y, e], rfl, ⟨s, x, d, rfl, (g.up (m := n) (by simp)).x⟩, [.bool t, y, e], [], rfl, ⟨t, y, e, rfl, (g.up (m := n) (by simp)).y⟩, rfl⟩
theorem kcall {ls : List (List P2)} {n : Nat} {b : P2 × P2} (hn : n ≤ 80) (hl0 : ls.length ≤ 5) (h6 : ∀ l ∈ ls, l.length ≤ 7) : CTy prog 68 [sv (sl 1 (ls.map (pcs n))), ag (st [ptq n b.1, ptq n b.2])] (sv (sl 3 ((cutsOf ls b).map (rtc (32 * n + 81))))) := by
 refine ctc func68 rfl rfl rfl rfl fun X => (zI (zJ rfl (mZ (obx rfl) (mZ (oas rfl) (mY (zI (t_drawC 2 10 [(8, 19, 0), (9, 5, 1)] rfl rfl mixed rfl rfl (cx1 (ofa rfl rfl) rfl (cx1 (ofa rfl rfl) rfl ?_)))))))))
 refine cx1 (old rfl rfl) rfl (cx1 (oca rfl rfl fun _ => krnormM (m := 32 * n + 81) (by omega) (by omega)) rfl (cx1 (ofa rfl rfl) rfl (cx1 (ofa rfl rfl) rfl (cx1 (old rfl rfl) rfl (cx1 (oca rfl rfl fun _ => krnormM (m := 32 * n + 81) (by omega) (by omega)) rfl (cN rfl rfl (cbs rfl rfl rfl rfl rfl rfl) (cN rfl rfl (cal) ?_)))))))
 refine cE (fun r19 b5 => ?_)
 refine tsw 0 1 rfl rfl rfl rfl rfl rfl rfl (mY (zI (zJ rfl (mZ (omf rfl) (tal fun b6 => (tst 0 rfl rfl rfl rfl rfl rfl (gY (gC (s := 6) 0 rfl rfl) (mY (zI ?_)))))))))
 refine zI (zJ rfl (mZ (omv rfl) (mZ (oln rfl) (mZ (omv rfl) (mY (yD ?_))))))
 rotate_left 1
 have hcl : ∀ s, (eS (ls.take s)).length ≤ 35 := fun s => by
  have := cornX_len (ls := ls.take s) fun l h => h6 l (List.mem_of_mem_take h)
  rw [List.length_take] at this; omega
 refine jV (σ := Nat × Value) (fun s => [(23, True, exP (.int .i64 ((s.1 : Nat) : Int)))]) (fun s => [.blk b5 22 [xc s.2], .row s.2 33 3 (([b.1.1, b.2.1] ++ eS (ls.take s.1)).map (rtc (32 * n + 81)))]) (fun s => s.1 ≤ ls.length) (fun s => ls.length - s.1) ((0, r19)) (tk 0 rfl (tk 5 rfl (tk 6 rfl (tk 21 rfl (tk 22 rfl tn))))) ?_ rfl ((by simp)) (fun s hJ Y _ => ?_)
 refine tc rfl (zW _) (tn)
 rotate_left 1
 refine zI (zJ rfl (mZ (olt rfl rfl) (mY (zI ?_))))
 refine jA rfl (fun c0 => ?_) (fun c0 => ?_)
 refine yM (zI (yD (zI (zJ rfl (mZ (oix _ rfl rfl rfl (fun _ => rfl) (fun _ => (by (have e0 := dt c0; omega)))) (mZ (old rfl rfl) (mZ (oas rfl) (mY (zJ rfl ?_)))))))))
 refine mZ (old rfl rfl) (mZ (omv rfl) ?_)
 rotate_left 1
 refine jJ (zI (zI (zJ rfl (mZ (omv rfl) (mZ (oca rfl rfl fun _ => kpairs) (mY (yD ?_)))))))
 rotate_left 1
 ·have hs := dt c0
  have h7 : (ls.getD s.1 []).length ≤ 7 := h6 _ (by simp [List.getElem?_eq_getElem (show s.1 < ls.length by omega)])
  have := hcl s.1
  rw [show ls.getD s.1 [] = ls.getD s.1 Df.d from rfl] at h7
  refine tco [0, 1] rfl rfl rfl (call1 (n := n) (m := 32 * n + 81) (ps := ls.getD s.1 Df.d) (by omega) (by omega) (by rw [List.length_append]; simp only [List.length_cons, List.length_nil]; omega)) ?_
  rintro _ _ ⟨rfl, v', rfl⟩
  refine mY (zJ rfl (mZ (oad rfl rfl (by omega)) (mZ (omv rfl) (mY ?_))))
  rotate_left 1
  refine ⟨(s.1 + 1, v'), tes ?_ ?_ ?_, (by omega), (by omega)⟩
  refine tc rfl (zW _) (tn)
  refine tc rfl (zW _) (tc rfl (zW _) (tc rfl (zW _) (tc rfl (zW _) (tc rfl (zW _) (tn)))))
  rotate_left 1
  simp only [(xZ (Df.d : List P2) (show s.1 < ls.length by omega)).1, eS, List.flatMap_append, List.flatMap_cons, List.flatMap_nil, List.append_nil, ← List.append_assoc]
  exact List.Sublist.refl _
 ·have hs : s.1 = ls.length := by have := df c0; omega
  refine fC (σ := List (List P2 × List P2) × Value) (fun t => [.blk b5 22 [xc t.2], .row t.2 33 3 (([b.1.1, b.2.1] ++ eS ls ++ meetX t.1).map (rtc (32 * n + 81)))]) (fun pre t => t.1 = pre) ([], s.2) rfl (ipairs (by omega)) (fun _ => rfl) rfl lX (by simp [hs, meetX]) rfl (fun pre x post t hx hJ Y y hl => ?_) (fun t hJ Y _ => ?_)
  ·obtain ⟨h1, h2⟩ := pairs_mem (ls := ls) (i := ls.length) (x := x) (Nat.le_refl _) (by rw [show gW ls ls.length = xG ls from rfl, hx]; simp)
   have h3 := h6 _ h1
   have h4 := h6 _ h2
   refine zI (zJ rfl (mZ (oas rfl) (mY (zJ rfl (mZ (oas rfl) (mY (⟨rfl, fun Y hl => (yD (xF 4 mixed rfl rfl ?_))⟩)))))))
   refine d1 (old rfl rfl) (d1 (omv rfl) (d1 (omv rfl) (d1 (oca rfl rfl fun _ => kmall (by omega) (by omega) (by omega) (by omega)) (d0 ?_))))
   rotate_left 1
   obtain ⟨pr, v1⟩ := t
   obtain rfl : pr = pre := hJ
   have h5 := meetX_len (l := pr) fun z hz => by
    obtain ⟨a, b⟩ := pairs_mem (ls := ls) (i := ls.length) (x := z) (Nat.le_refl _) (by rw [show gW ls ls.length = xG ls from rfl, hx]; simp [hz])
    exact ⟨h6 _ a, h6 _ b⟩
   have h7 := pairsTo_len (ls := ls) ls.length
   rw [show gW ls ls.length = xG ls from rfl, hx] at h7
   have h8 : ls.length * ls.length ≤ 5 * 5 := Nat.mul_le_mul hl0 hl0
   have h9 := allOf_len x.1 x.2
   have h10 : 2 * x.2.length * x.1.length ≤ 14 * 7 := Nat.mul_le_mul (by omega) h3
   have h11 := hcl ls.length
   rw [List.take_length] at h11
   refine tco [0, 1] rfl rfl rfl (cto_w (call1 (n := 32 * n + 80) (m := 32 * n + 81) (ps := allOf x.1 x.2) (by omega) (by omega) (by simp at h7 ⊢; omega)) (fs1 (ps_row (f := ptc (32 * max n n + 80)) (fun a M w us h => by rw [show 32 * max n n + 80 = 32 * n + 80 by omega] at h; exact ptc_q a h) fun _ => rfl) (fs1 (PSub.refl _) fs0))) ?_
   rintro _ _ ⟨rfl, v', rfl⟩
   refine mY ?_
   rotate_left 1
   have e : meetX (pr ++ [x]) = meetX pr ++ (allOf x.1 x.2).map (·.1) := by simp [meetX]
   refine ⟨(pr ++ [x], v'), ?_, rfl⟩
   rotate_left 1
   simp only [e, ← List.append_assoc]; exact List.Sublist.refl _
  ·obtain ⟨_, v2⟩ := t
   obtain rfl : _ = xG ls := hJ
   have h5 := meetX_len (l := xG ls) fun z hz => by
    obtain ⟨a, b⟩ := pairs_mem (ls := ls) (i := ls.length) (x := z) (Nat.le_refl _) hz
    exact ⟨h6 _ a, h6 _ b⟩
   have h7 := pairsTo_len (ls := ls) ls.length
   rw [show gW ls ls.length = xG ls from rfl] at h7
   have h8 : ls.length * ls.length ≤ 5 * 5 := Nat.mul_le_mul hl0 hl0
   have h11 := hcl ls.length
   rw [List.take_length] at h11
   have hr : (rawC ls b).length ≤ 3000 := by unfold rawC; simp; omega
   change (rawC ls b).length ≤ 3000 at hr
   dsimp only
   rw [show [b.1.1, b.2.1] ++ eS ls ++ meetX (xG ls) = rawC ls b from rfl]
   refine zI (zJ rfl (mZ (gB 0 rfl rfl rfl rfl) ?_))
   rotate_left 1
   refine tco [1] rfl rfl rfl (ksortR (by omega) (by omega)) ?_
   rintro _ _ ⟨rfl, l', hp, hso, rfl⟩
   have hll := hp.length_eq
   refine mY (zI (zJ rfl (mZ (gB 1 rfl rfl rfl rfl) ?_)))
   rotate_left 1
   refine tco [0] rfl rfl rfl (wcompactR (by omega) (by omega)) ?_
   rintro _ _ ⟨v3, rfl, rfl⟩
   rw [show uA eqR 0 l' l'.length = cutsOf ls b from (sd_of_sort iJ hp hso).eq iJ]
   refine mZ (oas rfl) (mY (eY (ts_frz (s := 4) 0 rfl rfl) (yI (⟨[_], rst rfl rs0, yV (PSub.refl _)⟩))))
end Go.Proofs.YtfkejnlohkgbgaaGreatDoor
set_option maxHeartbeats 4000000
namespace Go.Proofs.YtfkejnlohkgbgaaGreatDoor
open Go.SL Go.RowKit Go.Proofs Tryz
abbrev RX := (Bool × List Nat) × List Nat
abbrev PX := RX × RX
def rtx (a : RX) : CT := st [itx a.1, ntx a.2]
def ptx (a : PX) : CT := st [rtx a.1, rtx a.2]
def qx (a : RX) : Rat := mkRat (zv a.1.1 a.1.2) (val a.2)
def px (a : PX) : P2 := (qx a.1, qx a.2)
def pcx (l : List PX) : CT := sl 6 (l.map ptx)
instance : Df PX := ⟨(((false, []), []), ((false, []), []))⟩
instance : Df (List PX) := ⟨[]⟩
instance {a : RX} : FA (rtx a) 0 (itx a.1) := ⟨fun h => aS (l := [itx a.1, ntx a.2]) (o := 0) h rfl⟩
instance {a : RX} : FA (rtx a) 2 (ntx a.2) := ⟨fun h => aS (l := [itx a.1, ntx a.2]) (o := 2) h rfl⟩
instance {a : PX} : FA (ptx a) 0 (rtx a.1) := ⟨fun h => aS (l := [rtx a.1, rtx a.2]) (o := 0) h rfl⟩
instance {a : PX} : FA (ptx a) 3 (rtx a.2) := ⟨fun h => aS (l := [rtx a.1, rtx a.2]) (o := 3) h rfl⟩
instance {l : List PX} : VS (sv (pcx l)) 6 (l.map ptx) := ⟨id⟩
instance {a : RX} : CQ (rtx a) (max a.1.2.length a.2.length) (qx a) := ⟨by
 rintro M w us ⟨x, y, rfl, ⟨x1, y1, rfl, ⟨rfl, _⟩, x2, y2, rfl, ⟨v, rfl, h1⟩, h2⟩, y3, y4, rfl, ⟨d, rfl, h3⟩, h4⟩
 obtain rfl : y2 = [] := h2
 obtain rfl : y4 = [] := h4
 exact ⟨a.1.1, v, d, rfl, a.1.2, a.2, h1, h3, Nat.le_max_left _ _, Nat.le_max_right _ _, rfl⟩⟩
def bW (a : RX) : Bool := decide (a.1.2.length ≤ 1) && decide (a.2.length ≤ 1) && (decide (a.1.2.length = 0) || decide (a.1.2.getD 0 Df.d ≤ 999)) && (decide (a.2.length = 0) || decide (a.2.getD 0 Df.d ≤ 12))
theorem ktiny {a : RX} : CTy prog 175 [ag (rtx a)] (exP (.bool (bW a))) := by
 refine ctc func175 rfl rfl rfl rfl fun X => (zI (zJ rfl (mZ (obx rfl) (mZ (oas rfl) (mY (zI (zJ rfl (mZ (ofa rfl rfl) (mZ (ofa rfl rfl) ?_)))))))))
 refine mZ (old rfl rfl) (mZ (oln rfl) (mZ (ole rfl rfl) (mZ (omv rfl) (t1g rfl rfl (ofa rfl rfl) (t1g rfl rfl (old rfl rfl) (t1g rfl rfl (oln rfl) (t1g rfl rfl (ole rfl rfl) (mZ (opk rfl rfl rfl) (mZ (omv rfl) ?_)))))))))
 refine t1g rfl rfl (ofa rfl rfl) (t1g rfl rfl (ofa rfl rfl) (t1g rfl rfl (old rfl rfl) (t1g rfl rfl (oln rfl) (t1g rfl rfl (oeq rfl rfl) (t1g rfl rfl (omv rfl) (t1g rfl rfl (ofa rfl rfl) (t1g rfl rfl (ofa rfl rfl) (t1g rfl rfl (old rfl rfl) (t1g rfl rfl (oix _ rfl rfl rfl (fun g => rfl) (fun g => (by (have e0 := of_decide_eq_false g.2; change (0 : Nat) < _; omega)))) ?_)))))))))
 refine t1g rfl rfl (old rfl rfl) (t1g rfl rfl (ole rfl rfl) (t1g rfl rfl (opk rfl rfl rfl) (mZ (opk rfl rfl rfl) (mZ (omv rfl) (t1g rfl rfl (ofa rfl rfl) (t1g rfl rfl (old rfl rfl) (t1g rfl rfl (oln rfl) (t1g rfl rfl (oeq rfl rfl) (t1g rfl rfl (omv rfl) ?_)))))))))
 refine t1g rfl rfl (ofa rfl rfl) (t1g rfl rfl (old rfl rfl) (t1g rfl rfl (oix _ rfl rfl rfl (fun g => rfl) (fun g => (by (have e0 := of_decide_eq_false g.2; change (0 : Nat) < _; omega)))) (t1g rfl rfl (old rfl rfl) (t1g rfl rfl (ole rfl rfl) (t1g rfl rfl (opk rfl rfl rfl) (mZ (opk rfl rfl rfl) (mZ (oas rfl) (mY (yI ?_)))))))))
 refine ⟨[_], rst rfl rs0, yV ?_⟩
 refine psb ?_
 rotate_left 1
 unfold bW; rw [Bool.eq_iff_iff]; simp only [Bool.and_eq_true, Bool.or_eq_true, decide_eq_true_eq]; omega
def gQ (l : List PX) : Bool := l.all fun a => bW a.1 && bW a.2
theorem smallx_take {l : List PX} {i : Nat} (h : i < l.length) : gQ (l.take (i + 1)) = (gQ (l.take i) && (bW (l.getD i Df.d).1 && bW (l.getD i Df.d).2)) := by
 rw [(xZ (Df.d : PX) h).1]; simp [gQ]
theorem smallx_no {l : List PX} {i : Nat} (h : i < l.length) (k : bW (l.getD i Df.d).1 = false ∨ bW (l.getD i Df.d).2 = false) : gQ l = false := by
 rw [List.getD_eq_getElem?_getD, List.getElem?_eq_getElem h, Option.getD_some] at k
 simp only [gQ, List.all_eq_false]
 exact ⟨l[i], List.getElem_mem h, by rcases k with k | k <;> simp [k]⟩
theorem ksmall {l : List PX} : CTy prog 119 [sv (pcx l)] (exP (.bool (gQ l))) := by
 refine ctc func119 rfl rfl rfl rfl fun X => (zI (zJ rfl (mZ (oas rfl) (mY (zI (zI (zJ rfl (mZ (oas rfl) (mY ?_)))))))))
 refine yD ?_
 rotate_left 1
 refine t_len 0 rfl fun hL => ?_
 rw [List.length_map] at hL
 refine jV (σ := Nat) (fun i => [(3, True, exP (.int .i64 ((i : Nat) : Int)))]) (fun i => []) (fun i => i ≤ l.length ∧ gQ (l.take i) = true) (fun i => l.length - i) (0) (tk 0 rfl tn) ?_ rfl (⟨by omega, rfl⟩) (fun i hJ Y _ => ?_)
 refine tc rfl (zW _) (tn)
 rotate_left 1
 obtain ⟨hi, hs⟩ := hJ
 refine zI (zI (zJ rfl (mZ (omv rfl) (mZ (omv rfl) (mZ (oln rfl) (mZ (olt rfl rfl) (mY ?_)))))))
 refine jA rfl (fun c0 => ?_) (fun c0 => ?_)
 refine yM (zI (yD (zI (zJ rfl (mZ (omv rfl) (mZ (omv rfl) (mZ (oix _ rfl rfl rfl (fun _ => rfl) (fun _ => (by (have e0 := dt c0; omega)))) (mZ (ofa rfl rfl) (mZ (old rfl rfl) ?_)))))))))
 refine mZ (oca rfl rfl fun _ => ktiny) (mZ (ont rfl) (mZ (omv rfl) (t1g rfl rfl (omv rfl) (t1g rfl rfl (omv rfl) (t1g rfl rfl (oix _ rfl rfl rfl (fun g => rfl) (fun g => (by (have e0 := dt c0; omega)))) (t1g rfl rfl (ofa rfl rfl) (t1g rfl rfl (old rfl rfl) (t1g rfl rfl (oca rfl rfl fun g => ktiny) (t1g rfl rfl (ont rfl) ?_)))))))))
 refine mZ (opk rfl rfl rfl) (mY ?_)
 refine jA rfl (fun c1 => ?_) (fun c1 => ?_)
 refine zI (zJ rfl (mZ (oas rfl) (mY (yI (⟨[_], rst rfl rs0, yV ?_⟩)))))
 refine psb ?_
 rotate_left 1
 refine yM (zJ rfl (mZ (omv rfl) (mZ (oad rfl rfl (by (have e0 := dt c0; omega))) (mZ (oas rfl) (mY ?_)))))
 rotate_left 1
 refine jJ (zI (zJ rfl (mZ (oas rfl) (mY (yI (⟨[_], rst rfl rs0, yV ?_⟩))))))
 refine psb ?_
 rotate_left 1
 ·rw [smallx_no (dt c0 |> fun h => by omega : i < l.length) (by have := c1.h; revert this; generalize bW (l.getD i Df.d).1 = a; generalize bW (l.getD i Df.d).2 = b; cases a <;> cases b <;> simp)]
 ·refine ⟨i + 1, tes ?_ ?_ (List.Sublist.refl _), ?_, (by (have e0 := dt c0; omega))⟩
  refine tc rfl (zW _) (tn)
  refine tc rfl (zW _) (tn)
  rotate_left 1
  have hi2 : i < l.length := by have := dt c0; omega
  exact ⟨by omega, by rw [smallx_take hi2, hs]; have := c1.h; revert this; generalize bW (l.getD i Df.d).1 = a; generalize bW (l.getD i Df.d).2 = b; cases a <;> cases b <;> simp⟩
 ·have : i = l.length := by have := df c0; omega
  subst this; rw [List.take_length] at hs; exact hs.symm
def mJ (ls : List (List PX)) (b : PX × PX) : Bool := decide (ls.length ≤ 4) && gQ [b.1, b.2] && ls.all fun l => decide (l.length ≤ 6) && gQ l
theorem fewx_at {ls : List (List PX)} {b : PX × PX} {i : Nat} (h : i < ls.length) (k : (decide (6 < (ls.getD i Df.d).length) || !gQ (ls.getD i Df.d)) = true) : mJ ls b = false := by
 rw [List.getD_eq_getElem?_getD, List.getElem?_eq_getElem h, Option.getD_some] at k
 unfold mJ
 rw [Bool.and_eq_false_iff]
 refine .inr ?_
 simp only [List.all_eq_false]
 exact ⟨ls[i], List.getElem_mem h, fun c => by
  simp only [Bool.and_eq_true, decide_eq_true_eq, Bool.or_eq_true, Bool.not_eq_true'] at c k
  rcases k with k | k
  ·omega
  ·rw [c.2] at k; cases k⟩
theorem kfew {ls : List (List PX)} {b : PX × PX} : CTy prog 65 [sv (sl 1 (ls.map pcx)), ag (st [ptx b.1, ptx b.2])] (exP (.bool (mJ ls b))) := by
 refine ctc func65 rfl rfl rfl rfl fun X => (zI (zJ rfl (mZ (obx rfl) (mZ (oas rfl) (mY (zI (zI (zJ rfl (mZ (oas rfl) ?_)))))))))
 refine mY (yD ?_)
 rotate_left 1
 refine jV (σ := Nat) (fun i => [(5, True, exP (.int .i64 ((i : Nat) : Int)))]) (fun i => []) (fun i => i ≤ ls.length ∧ i ≤ 5 ∧ ∀ l ∈ ls.take i, l.length ≤ 6 ∧ gQ l = true) (fun i => ls.length - i) (0) (tk 0 rfl (tk 3 rfl tn)) ?_ rfl (⟨by omega, by omega, by simp⟩) (fun i hJ Y _ => ?_)
 refine tc rfl (zW _) (tn)
 rotate_left 1
 obtain ⟨hi, h5, hs⟩ := hJ
 refine zI (zI (zJ rfl (mZ (omv rfl) (mZ (omv rfl) (mZ (oln rfl) (mZ (olt rfl rfl) (mZ (omv rfl) (t1g rfl rfl (omv rfl) (t1g rfl rfl (ole rfl rfl) ?_)))))))))
 refine mZ (opk rfl rfl rfl) (mY ?_)
 refine jA rfl (fun c0 => ?_) (fun c0 => ?_)
 refine yM (zI (yD (zI (zJ rfl (mZ (omv rfl) (mZ (omv rfl) (mZ (oix _ rfl rfl rfl (fun _ => rfl) (fun _ => (by (have e0 := mB c0; omega)))) (mZ (old rfl rfl) (mZ (oln rfl) ?_)))))))))
 refine mZ (ogt rfl rfl) (mZ (omv rfl) (t1g rfl rfl (omv rfl) (t1g rfl rfl (omv rfl) (t1g rfl rfl (oix _ rfl rfl rfl (fun g => rfl) (fun g => (by (have e0 := mB c0; omega)))) (t1g rfl rfl (old rfl rfl) (t1g rfl rfl (oca rfl rfl fun g => ksmall) (t1g rfl rfl (ont rfl) (mZ (opk rfl rfl rfl) (mY ?_)))))))))
 refine jA rfl (fun c1 => ?_) (fun c1 => ?_)
 refine zI (zJ rfl (mZ (oas rfl) (mY (yI (⟨[_], rst rfl rs0, yV ?_⟩)))))
 refine psb ?_
 rotate_left 1
 refine yM (zJ rfl (mZ (omv rfl) (mZ (oad rfl rfl (by omega)) (mZ (oas rfl) (mY ?_)))))
 rotate_left 1
 refine jJ (zI (zJ rfl (mZ (omv rfl) (mZ (oln rfl) (mZ (ole rfl rfl) (mZ (omv rfl) (t1g rfl rfl (ofa rfl rfl) (t1g rfl rfl (old rfl rfl) (t1g rfl rfl (ofa rfl rfl) ?_)))))))))
 refine t1g rfl rfl (old rfl rfl) (t1g rfl rfl (obs rfl rfl rfl rfl rfl rfl) (t1g rfl rfl (oca rfl rfl fun g => ksmall (l := [b.1, b.2])) (mZ (opk rfl rfl rfl) (mZ (oas rfl) (mY (yI (⟨[_], rst rfl rs0, yV ?_⟩)))))))
 refine psb ?_
 rotate_left 1
 ·have hc := mB c0
  rw [fewx_at (i := i) (by omega) (by have := c1.h; rw [← this]; congr 1; rw [decide_eq_decide]; omega)]
 ·have hc := mB c0
  refine ⟨i + 1, tes ?_ ?_ (List.Sublist.refl _), ?_, (by omega)⟩
  refine tc rfl (zW _) (tn)
  refine tc rfl (zW _) (tc rfl (zW _) (tn))
  rotate_left 1
  refine ⟨by omega, by omega, fun l hl => ?_⟩
  rw [(xZ (Df.d : List PX) (show i < ls.length by omega)).1] at hl
  rcases List.mem_append.1 hl with h | h
  ·exact hs l h
  ·obtain rfl := List.mem_singleton.1 h
   have := c1.h
   rw [Bool.or_eq_false_iff] at this
   obtain ⟨a1, a2⟩ := this
   have := of_decide_eq_false a1
   exact ⟨by omega, by simpa using a2⟩
 ·have hc := dor c0
  have e1 : decide ((ls.length : Int) ≤ 4) = decide (ls.length ≤ 4) := by rw [decide_eq_decide]; omega
  unfold mJ
  rw [e1]
  rcases Nat.lt_or_ge 4 ls.length with h | h
  ·rw [decide_eq_false (by omega)]; simp
  ·rw [show i = ls.length by omega, List.take_length] at hs
   rw [decide_eq_true h, show (ls.all fun l => decide (l.length ≤ 6) && gQ l) = true from List.all_eq_true.2 fun l hl => by simp [hs l hl], Bool.and_true, Bool.true_and]
end Go.Proofs.YtfkejnlohkgbgaaGreatDoor
set_option maxHeartbeats 4000000
namespace Go.Proofs.YtfkejnlohkgbgaaGreatDoor
open Go.SL Go.RowKit Go.Proofs Tryz
theorem stp_mapm {α : Type} {f g : α → CT} : ∀ {xs : List α} {us : List Value} {M : Nat → Prop} {w : World}, (∀ a ∈ xs, ∀ {M w us}, (f a).p M w us → (g a).p M w us) → stp (xs.map f) M w us → stp (xs.map g) M w us
 | [], _, _, _, _, e => e
 | a :: xs, _, _, _, h, ⟨x, y, e, h1, h2⟩ => ⟨x, y, e, h a (by simp) h1, stp_mapm (fun b hb => h b (by simp [hb])) h2⟩
theorem ct_row {α : Type} {f g : α → CT} {k : Nat} {xs : List α} (h : ∀ a ∈ xs, ∀ {M w us}, (f a).p M w us → (g a).p M w us) (hs : ∀ a, (g a).sz = k) {M : Nat → Prop} {w : World} {us : List Value} : (sl k (xs.map f)).p M w us → (sl k (xs.map g)).p M w us := fun ⟨u, vs, e, h1, h2, h3⟩ =>
 ⟨u, vs, e, by rw [List.length_map] at h1 ⊢; exact h1, stp_mapm h h2, fun c hc => by obtain ⟨a, _, rfl⟩ := List.mem_map.1 hc; exact hs a⟩
theorem ptx_q {n : Nat} (a : PX) (h1 : a.1.1.2.length ≤ n) (h2 : a.1.2.length ≤ n) (h3 : a.2.1.2.length ≤ n) (h4 : a.2.2.length ≤ n) {M : Nat → Prop} {w : World} {us : List Value} (h : (ptx a).p M w us) : (ptq n (px a)).p M w us := by
 obtain ⟨s, x, d, t, y, e, rfl, g⟩ := CP.h (c := st [rtx a.1, rtx a.2]) h
 exact ⟨[.bool s, x, d], [.bool t, y, e], rfl, ⟨s, x, d, rfl, (g.up (m := n) (by simp; omega)).x⟩, [.bool t, y, e], [], rfl, ⟨t, y, e, rfl, (g.up (m := n) (by simp; omega)).y⟩, rfl⟩
theorem dO {a : RX} (h : bW a = true) : a.1.2.length ≤ 1 ∧ a.2.length ≤ 1 := by
 unfold bW at h; simp only [Bool.and_eq_true, decide_eq_true_eq] at h; exact ⟨h.1.1.1, h.1.1.2⟩
theorem small_q {l : List PX} (h : gQ l = true) (a : PX) (ha : a ∈ l) {M : Nat → Prop} {w : World} {us : List Value} (k : (ptx a).p M w us) : (ptq 1 (px a)).p M w us := by
 have := List.all_eq_true.1 h a ha
 rw [Bool.and_eq_true] at this
 exact ptx_q a (dO this.1).1 (dO this.1).2 (dO this.2).1 (dO this.2).2 k
theorem pcx_q {l : List PX} (h : gQ l = true) {M : Nat → Prop} {w : World} {us : List Value} (k : (pcx l).p M w us) : (pcs 1 (l.map px)).p M w us := by
 unfold pcs; rw [List.map_map]
 exact ct_row (f := ptx) (g := ptq 1 ∘ px) (small_q h) (fun _ => rfl) k
theorem pcs_q {ls : List (List PX)} (h : ∀ l ∈ ls, gQ l = true) : PSub (sv (sl 1 (ls.map pcx))) (sv (sl 1 ((ls.map (List.map px)).map (pcs 1)))) := fun M w v k => by
 rw [List.map_map]
 exact ct_row (f := pcx) (g := pcs 1 ∘ List.map px) (fun a ha => pcx_q (h a ha)) (fun _ => rfl) k
theorem box_q {b : PX × PX} (h : gQ [b.1, b.2] = true) : PSub (ag (st [ptx b.1, ptx b.2])) (ag (st [ptq 1 (px b.1), ptq 1 (px b.2)])) := fun M w v ⟨us, e, x, y, e1, h1, z, o, e2, h2, h3⟩ =>
 ⟨us, e, x, y, e1, small_q h _ (by simp) h1, z, o, e2, small_q h _ (by simp) h2, h3⟩
end Go.Proofs.YtfkejnlohkgbgaaGreatDoor
set_option maxHeartbeats 4000000
namespace Go.Proofs.YtfkejnlohkgbgaaGreatDoor
open Go.SL Go.RowKit Go.Proofs Tryz
theorem allOf_comm (p q : List P2) : allOf p q = allOf q p := by
 have h := bF lD (dI (jE p) (jE q))
 have k := bF lD (dI (jE q) (jE p))
 rw [allOf_set, allOf_set]
 exact all_comm (p := p) (q := q) ⟨h.rise, h.mem⟩ ⟨k.rise, k.mem⟩
theorem pairs_mem2 {ls : List (List P2)} {x : List P2 × List P2} : x ∈ xG ls ↔ ∃ i k, i < k ∧ k < ls.length ∧ x = (ls.getD i [], ls.getD k []) := by
 unfold xG gW
 simp only [List.mem_flatMap, List.mem_range, List.mem_map]
 constructor
 ·rintro ⟨k, hk, p, hp, rfl⟩
  obtain ⟨i, hi, rfl⟩ := List.mem_iff_getElem.1 hp
  rw [List.length_take] at hi
  exact ⟨i, k, by omega, hk, by rw [List.getElem_take, List.getD_eq_getElem?_getD (i := i), List.getElem?_eq_getElem (show i < ls.length by omega)]; rfl⟩
 ·rintro ⟨i, k, h1, h2, rfl⟩
  exact ⟨k, h2, ls.getD i [], List.mem_iff_getElem.2 ⟨i, by rw [List.length_take]; omega, by rw [List.getElem_take, List.getD_eq_getElem?_getD, List.getElem?_eq_getElem (show i < ls.length by omega)]; rfl⟩, rfl⟩
theorem meetX_mem {ls : List (List P2)} {x : Rat} : x ∈ meetX (xG ls) ↔ ∃ i k, i < k ∧ k < ls.length ∧ x ∈ (allOf (ls.getD i []) (ls.getD k [])).map (·.1) := by
 unfold meetX
 rw [List.mem_flatMap]
 exact ⟨fun ⟨y, hy, h⟩ => by obtain ⟨i, k, h1, h2, rfl⟩ := pairs_mem2.1 hy; exact ⟨i, k, h1, h2, h⟩, fun ⟨i, k, h1, h2, h⟩ => ⟨_, pairs_mem2.2 ⟨i, k, h1, h2, rfl⟩, h⟩⟩
theorem cuts_len {ls : List (List P2)} {b : P2 × P2} (h0 : ls.length ≤ 5) (h : ∀ l ∈ ls, l.length ≤ 7) : (cutsOf ls b).length ≤ 10000 := by
 have h1 := setOf_len iJ (rawC ls b)
 have h2 := cornX_len h
 have h3 := meetX_len (l := xG ls) fun z hz => by
  obtain ⟨a, b⟩ := pairs_mem (ls := ls) (i := ls.length) (x := z) (Nat.le_refl _) hz
  exact ⟨h _ a, h _ b⟩
 have h4 := pairsTo_len (ls := ls) ls.length
 have h8 : ls.length * ls.length ≤ 5 * 5 := Nat.mul_le_mul h0 h0
 change (xG ls).length ≤ _ at h4
 have h5 : (rawC ls b).length = 2 + (eS ls).length + (meetX (xG ls)).length := by unfold rawC; simp; omega
 unfold cutsOf; omega
abbrev pxs (ls : List (List PX)) : List (List P2) := ls.map (List.map px)
abbrev bxs (b : PX × PX) : P2 × P2 := (px b.1, px b.2)
theorem few_ok {ls : List (List PX)} {b : PX × PX} (h : mJ ls b = true) : ls.length ≤ 4 ∧ gQ [b.1, b.2] = true ∧ ∀ l ∈ ls, l.length ≤ 6 ∧ gQ l = true := by
 unfold mJ at h
 simp only [Bool.and_eq_true, decide_eq_true_eq, List.all_eq_true] at h
 exact ⟨h.1.1, h.1.2, h.2⟩
theorem kcallx {ls : List (List PX)} {b : PX × PX} (h : ls.length ≤ 5) (hb : gQ [b.1, b.2] = true) (hs : ∀ l ∈ ls, l.length ≤ 6 ∧ gQ l = true) : CTy prog 68 [sv (sl 1 (ls.map pcx)), ag (st [ptx b.1, ptx b.2])] (sv (sl 3 ((cutsOf (pxs ls) (bxs b)).map (rtc 113)))) :=
 qP (kcall (n := 1) (by omega) (by simpa using h) fun l hl => by obtain ⟨a, ha, rfl⟩ := List.mem_map.1 hl; rw [List.length_map]; have := (hs a ha).1; omega) (fs1 (pcs_q fun l hl => (hs l hl).2) (fs1 (box_q hb) fs0))
end Go.Proofs.YtfkejnlohkgbgaaGreatDoor
set_option maxHeartbeats 400000
namespace Go.Proofs.YtfkejnlohkgbgaaGreatDoor
open Go.SL Go.RowKit Go.Proofs Tryz
theorem cuts_pos (ls : List (List P2)) (b : P2 × P2) : 0 < (cutsOf ls b).length := List.length_pos_of_mem (a := b.1.1) (by unfold cutsOf; rw [setOf_mem iJ]; simp [rawC])
theorem pxs_at {ls : List (List PX)} {k : Nat} : (pxs ls).getD k [] = (ls.getD k Df.d).map px := by
 simp only [List.getD_eq_getElem?_getD, List.getElem?_map]; cases ls[k]? <;> rfl
end Go.Proofs.YtfkejnlohkgbgaaGreatDoor
set_option maxHeartbeats 1000000
namespace Go.Proofs.YtfkejnlohkgbgaaGreatDoor
open Go.SL Go.RowKit Go.Proofs Tryz
theorem ps_r2 {n m : Nat} {p q : Rat} (e : p = q) (h : n ≤ m) : PSub (ag (rtc n p)) (ag (rtc m q)) := fun _ _ _ ⟨us, e1, s, a, d, e2, g⟩ => ⟨us, e1, s, a, d, e2, by subst e; exact g.up h⟩
def iE (a b : P2) (x : Rat) : Bool := decide (a.1 < x) && decide (x < b.1) || decide (x < a.1) && decide (b.1 < x)
theorem k8sub {p q : P2} {n m : Nat} (hn : n ≤ 900) (hm : m ≤ 900) : CTy prog 41 [ag (ptq n p), ag (ptq m q)] (ag (ptc (n + m + 3) (jZ p q))) := by
 refine ctc func41 rfl rfl rfl rfl fun X => (zI (zJ rfl (mZ (obx rfl) (mZ (obx rfl) (tal fun b4 => (mY (zI (xF 11 mixed rfl rfl (d1 (ofa rfl rfl) ?_)))))))))
 refine d1 (old rfl rfl) (d1 (ofa rfl rfl) (d1 (old rfl rfl) (d1 (oca rfl rfl fun _ => k7sub (by omega) (by omega)) (d1 (ofa rfl rfl) (d1 (old rfl rfl) (d1 (ofa rfl rfl) (d1 (old rfl rfl) (d1 (oca rfl rfl fun _ => k7sub (by omega) (by omega)) ?_))))))))
 refine d1 (obd rfl rfl rfl) (d0 (tst 0 rfl rfl rfl rfl rfl rfl (mY (yI (⟨[_], rsc 0 rfl rfl rfl rfl rs0, yV (PSub.refl _)⟩)))))
theorem k10h {a b : P2} {x : Rat} {n m : Nat} (hn : n ≤ 10) (hm : m ≤ 400) : CTy prog 188 [ag (ptq n a), ag (ptq n b), ag (rtq m x)] (tu [ag (rtc 1800 (jF a b x)), exP (.bool (decide (b.1 - a.1 ≠ 0)))]) := by
 have e : (jZ b a).1 = b.1 - a.1 := rfl
 refine ctc func188 rfl rfl rfl rfl fun X => (zI (zJ rfl (mZ (obx rfl) (mZ (obx rfl) (mZ (obx rfl) (tal fun b6 => (mZ (oas rfl) (mY (zI ?_)))))))))
 refine zJ rfl (mZ (old rfl rfl) (mZ (old rfl rfl) (mZ (oca rfl rfl fun _ => k8sub (by omega) (by omega)) (tal fun b8 => (tst 0 rfl rfl rfl rfl rfl rfl (gY (gC (s := 8) 0 rfl rfl) (mY (zI ?_))))))))
 apply bX 1 13 11 [(10, 9, 0), (11, 1000011, 0)] rfl rfl mixed rfl rfl rfl
 refine cx1 (old rfl rfl) rfl (cx1 (ofa rfl rfl) rfl (cx1 (old rfl rfl) rfl (cx1 (oca rfl rfl fun _ => k7sub (by omega) (by omega)) rfl (cx1 (ofa rfl rfl) rfl (cx1 (old rfl rfl) rfl (cx1 (oca rfl rfl fun _ => k7quo (by omega) (by omega)) rfl (cx1 (omv rfl) rfl (cx1 (oex rfl rfl) rfl (cx1 (oex rfl rfl) rfl ?_)))))))))
 refine cN rfl rfl (cal) (cS rfl rfl rfl (cst rfl rfl rfl) (cx1 (oas rfl) rfl ?_))
 refine cE (fun b9 => ?_)
 refine mY (zI (zI (zJ rfl (mZ (omv rfl) (mZ (oni rfl rfl) (mY ?_))))))
 refine jA rfl (fun c0 => ?_) (fun c0 => ?_)
 refine zI (zJ rfl (mZ (oca rfl rfl fun _ => lJ (by (simp; done))) (tst 1 rfl rfl rfl rfl rfl rfl (mZ (oas rfl) (mY (yI ?_))))))
 refine ⟨[_, _], rsc 1 rfl rfl rfl rfl (rst rfl rs0), bU ?_ ?_⟩
 rotate_left 1
 refine psb ?_
 rotate_left 1
 refine yM (zI (xF 9 mixed rfl rfl (d1 (ofa rfl rfl) (d1 (old rfl rfl) (d1 (ofa rfl rfl) (d1 (old rfl rfl) (d1 (gB 0 rfl rfl rfl rfl) (d1 (obs rfl rfl rfl rfl rfl rfl) (d1 (oca rfl rfl fun _ => k7mulx (by omega)) ?_)))))))))
 refine d1 (obs rfl rfl rfl rfl rfl rfl) (d1 (oca rfl rfl fun _ => k7add (by omega)) (d0 (tst 1 rfl rfl rfl rfl rfl rfl (mZ (oas rfl) (mY (yI ?_))))))
 refine ⟨[_, _], rsc 1 rfl rfl rfl rfl (rst rfl rs0), bU ?_ ?_⟩
 rotate_left 1
 refine psb ?_
 rotate_left 1
 ·have h := of_decide_eq_true c0.h
  have h0 : b.1 - a.1 = 0 := Classical.byContradiction fun c => h (by rw [e, if_neg c])
  exact ps_r2 (by unfold jF; rw [if_pos h0]; rfl) (by omega)
 ·have h := of_decide_eq_true c0.h
  have h0 : b.1 - a.1 = 0 := Classical.byContradiction fun c => h (by rw [e, if_neg c])
  rw [eq_comm, decide_eq_false_iff_not]; exact fun c => c h0
 ·have h := of_decide_eq_false c0.h
  have h0 : b.1 - a.1 ≠ 0 := fun c => h (by rw [e, if_pos c]; decide)
  exact ps_r2 (by unfold jF; rw [if_neg h0]; rfl) (by omega)
 ·have h := of_decide_eq_false c0.h
  rw [eq_comm, decide_eq_true_eq]; exact fun c => h (by rw [e, if_pos c]; decide)
theorem kthru {a b : P2} {x : Rat} {n m : Nat} (hn : n ≤ 10) (hm : m ≤ 400) : CTy prog 134 [ag (ptq n a), ag (ptq n b), ag (rtq m x)] (exP (.bool (iE a b x))) := by
 refine ctc func134 rfl rfl rfl rfl fun X => (zI (zJ rfl (mZ (obx rfl) (mZ (obx rfl) (mZ (obx rfl) (mZ (oas rfl) (mY (zI (xF 10 mixed rfl rfl ?_)))))))))
 refine d1 (ofa rfl rfl) (d1 (old rfl rfl) (d1 (old rfl rfl) (d1 (oca rfl rfl fun _ => w7cmp (by omega) (by omega)) (d1 (ofa rfl rfl) (d1 (old rfl rfl) (d1 (old rfl rfl) (d1 (oca rfl rfl fun _ => w7cmp (by omega) (by omega)) (d1 (oas rfl) (d1 (oas rfl) ?_)))))))))
 refine d0 (mY (zI (zJ rfl (mZ (omv rfl) (mZ (olt rfl rfl) (mZ (omv rfl) (t1g rfl rfl (omv rfl) (t1g rfl rfl (ogt rfl rfl) (mZ (opk rfl rfl rfl) ?_)))))))))
 refine mZ (omv rfl) (t1g rfl rfl (omv rfl) (t1g rfl rfl (ogt rfl rfl) (t1g rfl rfl (omv rfl) (t1g rfl rfl (omv rfl) (t1g rfl rfl (olt rfl rfl) (t1g rfl rfl (opk rfl rfl rfl) (mZ (opk rfl rfl rfl) (mZ (oas rfl) (mY ?_)))))))))
 refine yI (⟨[_], rst rfl rs0, yV ?_⟩)
 refine psb ?_
 rotate_left 1
 unfold iE; simp only [qI, cmpR_gt]
theorem kover22 {a b c d : P2} {x : Rat} {n m : Nat} (hn : n ≤ 10) (hm : m ≤ 400) : CTy prog 135 [ag (ptq n a), ag (ptq n b), ag (ptq n c), ag (ptq n d), ag (rtq m x)] (exP (.int .i64 (qH (jF a b x) (jF c d x)))) := by
 refine ctc func135 rfl rfl rfl rfl fun X => (zI (zJ rfl (mZ (obx rfl) (mZ (obx rfl) (mZ (obx rfl) (mZ (obx rfl) (mZ (obx rfl) (mZ (oas rfl) (mY ?_)))))))))
 refine zI (zJ rfl (mZ (old rfl rfl) (mZ (old rfl rfl) (mZ (old rfl rfl) (mZ (oca rfl rfl fun _ => k10h (by omega) (by omega)) (mZ (omv rfl) (mZ (oex rfl rfl) (mZ (oex rfl rfl) (tal fun b11 => ?_)))))))))
 refine tst 0 rfl rfl rfl rfl rfl rfl (gY (gC (s := 11) 0 rfl rfl) (mZ (oas rfl) (mY (zI (zJ rfl (mZ (old rfl rfl) (mZ (old rfl rfl) (mZ (old rfl rfl) (mZ (oca rfl rfl fun _ => k10h (by omega) (by omega)) ?_)))))))))
 refine mZ (omv rfl) (mZ (oex rfl rfl) (mZ (oex rfl rfl) (tal fun b13 => (tst 0 rfl rfl rfl rfl rfl rfl (gY (gC (s := 13) 0 rfl rfl) (mZ (oas rfl) (mY (zI (zJ rfl ?_)))))))))
 refine mZ (old rfl rfl) (mZ (old rfl rfl) (mZ (oca rfl rfl fun _ => k7cmp (by omega) (by omega)) (mZ (oas rfl) (mY (yI (⟨[_], rst rfl rs0, yV (PSub.refl _)⟩))))))
end Go.Proofs.YtfkejnlohkgbgaaGreatDoor
set_option maxHeartbeats 1000000
namespace Go.Proofs.YtfkejnlohkgbgaaGreatDoor
open Go.SL Go.RowKit Go.Proofs Tryz
def lW (p q : Rat) (s : Nat) : Rat := p + ((s : Nat) : Rat) / ((10 : Nat) : Rat) * (q - p)
theorem rlen_nat {s : Nat} (h : s ≤ 10) : jB ((s : Nat) : Rat) 1 := ⟨yF (by rw [Rat.num_natCast]; simp; omega), yF (by rw [Rat.den_natCast]; omega)⟩
theorem wpart {p q : Rat} {s : Nat} (hs : s ≤ 10) (h1 : jB p 114) (h2 : jB q 114) : CTy prog 70 [ag (rtq 114 p), ag (rtq 114 q), exP (.int .i64 ((s : Nat) : Int))] (ag (rtc 400 (lW p q s))) := by
 refine ctc func70 rfl rfl rfl rfl fun X => (zI (zJ rfl (mZ (obx rfl) (mZ (obx rfl) (tal fun b6 => (mY (zI (zJ rfl (mZ (omv rfl) ?_)))))))))
 refine mZ (oca rfl rfl fun _ => lJ (by omega)) (mZ (oca rfl rfl fun _ => lJ (k := 10) (by omega)) (mZ (oca rfl rfl fun _ => k7quo (by omega) (by omega)) (mZ (omv rfl) (mZ (oex rfl rfl) (mZ (oex rfl rfl) (tal fun b7 => (tst 0 rfl rfl rfl rfl rfl rfl (gY (gC (s := 7) 0 rfl rfl) (mZ (oas rfl) ?_)))))))))
 refine mY (zI (xF 9 mixed rfl rfl (d1 (old rfl rfl) (d1 (old rfl rfl) (d1 (old rfl rfl) (d1 (old rfl rfl) (d1 (oca rfl rfl fun _ => k7sub (by omega) (by omega)) (d1 (obs rfl rfl rfl rfl rfl rfl) (d1 (oca rfl rfl fun _ => k7mulx (by omega)) ?_)))))))))
 refine d1 (obs rfl rfl rfl rfl rfl rfl) (d1 (oca rfl rfl fun _ => k7add (by omega)) (d0 (tst 0 rfl rfl rfl rfl rfl rfl (mY (yI (⟨[_], rsc 0 rfl rfl rfl rfl rs0, yV ?_⟩))))))
 rotate_left 1
 exact fW rfl (jD (qW h1 (aD (rlen_quo (rlen_nat hs) (rlen_nat (Nat.le_refl 10))) (rlen_sub h2 h1))) (by omega))
abbrev nxP (p : List P2) (i : Nat) : P2 := p.getD ((i + 1) % p.length) (0, 0)
def stillP (p q : List P2) (x y : Rat) : Prop := ∀ i k, i < p.length → k < q.length → iE (p.getD i (0, 0)) (nxP p i) x = true → iE (q.getD k (0, 0)) (nxP q k) x = true → iE (p.getD i (0, 0)) (nxP p i) y = true → iE (q.getD k (0, 0)) (nxP q k) y = true → qH (jF (p.getD i (0, 0)) (nxP p i) x) (jF (q.getD k (0, 0)) (nxP q k) x) = qH (jF (p.getD i (0, 0)) (nxP p i) y) (jF (q.getD k (0, 0)) (nxP q k) y)
theorem kstill {p q : List P2} {x y : Rat} {n m : Nat} (hn : n ≤ 10) (hm : m ≤ 400) (hp : p.length ≤ 100) (hq : q.length ≤ 100) (h : stillP p q x y) : CTy prog 71 [sv (pcs n p), sv (pcs n q), ag (rtq m x), ag (rtq m y)] (exP (.bool true)) := by
 refine ctc func71 rfl rfl rfl rfl fun X => (zI (zJ rfl (mZ (obx rfl) (mZ (obx rfl) (mZ (oas rfl) (mY (zI (zI (zJ rfl ?_)))))))))
 refine mZ (oas rfl) (mY (yD ?_))
 rotate_left 1
 refine jV (σ := Nat) (fun i => [(9, True, exP (.int .i64 ((i : Nat) : Int)))]) (fun i => []) (fun i => i ≤ p.length) (fun i => p.length - i) (0) (tk 0 rfl (tk 1 rfl (tk 6 rfl (tk 7 rfl tn)))) ?_ rfl ((by omega)) (fun i hJ Y _ => ?_)
 refine tc rfl (zW _) (tn)
 rotate_left 1
 refine zI (zI (zJ rfl (mZ (omv rfl) (mZ (omv rfl) (mZ (oln rfl) (mZ (olt rfl rfl) (mY ?_)))))))
 refine jA rfl (fun c0 => ?_) (fun c0 => ?_)
 refine yM (zI (yD (zI ?_)))
 apply bX 2 15 14 [(12, 10, 0), (13, 11, 1), (14, 1000014, 0)] rfl rfl mixed rfl rfl rfl
 refine cx1 (omv rfl) rfl (cx1 (omv rfl) rfl (cx1 (oix _ rfl rfl rfl (fun _ => rfl) (fun _ => (by (have e0 := dt c0; omega)))) rfl (cx1 (old rfl rfl) rfl (cx1 (omv rfl) rfl (cx1 (omv rfl) rfl (cx1 (oad rfl rfl (by omega)) rfl (cx1 (omv rfl) rfl (cx1 (oln rfl) rfl (cx1 (orm rfl rfl (by (have e0 := dt c0; omega))) rfl ?_)))))))))
 refine cx1 (oix _ rfl rfl rfl (fun _ => rfl) (fun _ => ?_)) rfl ?_
 rotate_left 1
 refine cx1 (old rfl rfl) rfl (cN rfl rfl (cal) (cN rfl rfl (cal) (cS rfl rfl rfl (cst rfl rfl rfl) ?_)))
 refine cE (fun b10 b11 => ?_)
 refine gY (gC (s := 10) 1 rfl rfl) (tst 0 rfl rfl rfl rfl rfl rfl (gY (gC (s := 11) 0 rfl rfl) (mY (zI (zJ rfl (mZ (oas rfl) (mY (yD ?_))))))))
 rotate_left 1
 refine jJ (zI (zJ rfl (mZ (oas rfl) (mY (yI (⟨[_], rst rfl rs0, yV (PSub.refl _)⟩))))))
 ·rw [Int.natAbs_natCast]; exact Nat.mod_lt _ (by have := dt c0; omega)
 have hi := dt c0
 refine jV (σ := Nat) (fun k => [(12, True, exP (.int .i64 ((k : Nat) : Int)))]) (fun k => []) (fun k => k ≤ q.length) (fun k => q.length - k) (0) (tk 0 rfl (tk 1 rfl (tk 6 rfl (tk 7 rfl (tk 9 rfl (tk 10 rfl (tk 11 rfl tn))))))) ?_ rfl ((by omega)) (fun k hJ Y _ => ?_)
 refine tc rfl (zW _) (tn)
 rotate_left 1
 refine zI (zI (zJ rfl (mZ (omv rfl) (mZ (omv rfl) (mZ (oln rfl) (mZ (olt rfl rfl) (mY ?_)))))))
 refine jA rfl (fun c1 => ?_) (fun c1 => ?_)
 refine yM (zI (yD (zI ?_)))
 apply bX 2 15 14 [(12, 13, 0), (13, 14, 1), (14, 1000014, 0)] rfl rfl mixed rfl rfl rfl
 refine cx1 (omv rfl) rfl (cx1 (omv rfl) rfl (cx1 (oix _ rfl rfl rfl (fun _ => rfl) (fun _ => (by (have e0 := dt c1; omega)))) rfl (cx1 (old rfl rfl) rfl (cx1 (omv rfl) rfl (cx1 (omv rfl) rfl (cx1 (oad rfl rfl (by omega)) rfl (cx1 (omv rfl) rfl (cx1 (oln rfl) rfl (cx1 (orm rfl rfl (by (have e0 := dt c1; omega))) rfl ?_)))))))))
 refine cx1 (oix _ rfl rfl rfl (fun _ => rfl) (fun _ => ?_)) rfl ?_
 rotate_left 1
 refine cx1 (old rfl rfl) rfl (cN rfl rfl (cal) (cN rfl rfl (cal) (cS rfl rfl rfl (cst rfl rfl rfl) ?_)))
 refine cE (fun b13 b14 => ?_)
 refine gY (gC (s := 13) 1 rfl rfl) (tst 0 rfl rfl rfl rfl rfl rfl (gY (gC (s := 14) 0 rfl rfl) (mY (zI (zI (zJ rfl (mZ (old rfl rfl) (mZ (old rfl rfl) (mZ (old rfl rfl) ?_)))))))))
 refine mZ (oca rfl rfl fun _ => kthru (by omega) (by omega)) (mZ (ont rfl) (mZ (omv rfl) (t1g rfl rfl (old rfl rfl) (t1g rfl rfl (old rfl rfl) (t1g rfl rfl (old rfl rfl) (t1g rfl rfl (oca rfl rfl fun g => kthru (by omega) (by omega)) (t1g rfl rfl (ont rfl) (mZ (opk rfl rfl rfl) (mZ (omv rfl) ?_)))))))))
 refine t1g rfl rfl (old rfl rfl) (t1g rfl rfl (old rfl rfl) (t1g rfl rfl (old rfl rfl) (t1g rfl rfl (oca rfl rfl fun g => kthru (by omega) (by omega)) (t1g rfl rfl (ont rfl) (mZ (opk rfl rfl rfl) (mZ (omv rfl) (t1g rfl rfl (old rfl rfl) (t1g rfl rfl (old rfl rfl) (t1g rfl rfl (old rfl rfl) ?_)))))))))
 refine t1g rfl rfl (oca rfl rfl fun g => kthru (by omega) (by omega)) (t1g rfl rfl (ont rfl) (mZ (opk rfl rfl rfl) (mY ?_)))
 refine jA rfl (fun c2 => ?_) (fun c2 => ?_)
 refine jJ (zJ rfl (mZ (omv rfl) (mZ (oad rfl rfl (by omega)) (mZ (oas rfl) (mY ?_)))))
 rotate_left 1
 refine yM (zI (xF 13 mixed rfl rfl (d1 (old rfl rfl) (d1 (old rfl rfl) (d1 (old rfl rfl) (d1 (old rfl rfl) (d1 (old rfl rfl) (d1 (oca rfl rfl fun _ => kover22 (by omega) (by omega)) (d1 (old rfl rfl) ?_)))))))))
 refine d1 (old rfl rfl) (d1 (old rfl rfl) (d1 (old rfl rfl) (d1 (old rfl rfl) (d1 (oca rfl rfl fun _ => kover22 (by omega) (by omega)) (d1 (oni rfl rfl) (d0 (mY ?_)))))))
 refine jA rfl (fun c3 => ?_) (fun c3 => ?_)
 refine zI (zJ rfl (mZ (oas rfl) (mY (yI (⟨[_], rst rfl rs0, yV ?_⟩)))))
 refine psb ?_
 rotate_left 1
 refine yM (zJ rfl (mZ (omv rfl) (mZ (oad rfl rfl (by omega)) (mZ (oas rfl) (mY ?_)))))
 rotate_left 1
 refine jJ (zJ rfl (mZ (omv rfl) (mZ (oad rfl rfl (by omega)) (mZ (oas rfl) (mY ?_)))))
 rotate_left 1
 ·rw [Int.natAbs_natCast]; exact Nat.mod_lt _ (by have := dt c1; omega)
 ·have := dt c1
  refine ⟨k + 1, tes ?_ ?_ (List.Sublist.refl _), (by omega), (by omega)⟩
  refine tc rfl (zW _) (tn)
  refine tc rfl (zW _) (tc rfl (zW _) (tc rfl (zW _) (tc rfl (zW _) (tc rfl (zW _) (tc rfl (zW _) (tc rfl (zW _) (tn)))))))
 ·have h1 := dt c1
  have h2 := c2.h
  simp only [Bool.or_eq_false_iff, Bool.not_eq_false', Int.natAbs_natCast] at h2
  have h3 := c3.h
  rw [Int.natAbs_natCast, Int.natAbs_natCast] at h3
  exact absurd (h i k (by omega) (by omega) h2.1.1.1 h2.1.1.2 h2.1.2 h2.2) (of_decide_eq_true h3)
 ·have := dt c1
  refine ⟨k + 1, tes ?_ ?_ (List.Sublist.refl _), (by omega), (by omega)⟩
  refine tc rfl (zW _) (tn)
  refine tc rfl (zW _) (tc rfl (zW _) (tc rfl (zW _) (tc rfl (zW _) (tc rfl (zW _) (tc rfl (zW _) (tc rfl (zW _) (tn)))))))
 ·refine ⟨i + 1, tes ?_ ?_ (List.Sublist.refl _), (by omega), (by omega)⟩
  refine tc rfl (zW _) (tn)
  refine tc rfl (zW _) (tc rfl (zW _) (tc rfl (zW _) (tc rfl (zW _) (tn))))
end Go.Proofs.YtfkejnlohkgbgaaGreatDoor
namespace Go.SL
theorem rat_mul0 {a b : Rat} (h : a * b = 0) (ha : a ≠ 0) : b = 0 := by grind
theorem height_aff {a b : P2} (h : a.1 ≠ b.1) : ∃ k, (∀ z, jF a b z = a.2 + k * (z - a.1)) ∧ k * (b.1 - a.1) = b.2 - a.2 := by
 refine ⟨(b.2 - a.2) / (b.1 - a.1), fun z => ?_, by grind⟩
 unfold jF; rw [if_neg (by grind)]
 unfold atP lG bH jZ; simp only; grind
theorem side_height {a b p : P2} (h : a.1 ≠ b.1) (hs : aC (qU a b) p = 0) : p.2 = jF a b p.1 := by
 obtain ⟨k, h1, h2⟩ := height_aff h
 rw [h1]
 have h3 : (b.1 - a.1) * (p.2 - (a.2 + k * (p.1 - a.1))) = 0 := by
  unfold aC qU jQ jZ at hs
  split at hs <;> simp only at hs <;> grind
 have := rat_mul0 h3 (by grind)
 grind
theorem cV {a b : P2} {x : Rat} (h : a.1 < x ∧ x < b.1 ∨ x < a.1 ∧ b.1 < x) : a.1 ≠ b.1 := by grind
theorem has_thru {a b : P2} {x : Rat} (h : a.1 < x ∧ x < b.1 ∨ x < a.1 ∧ b.1 < x) : bL (qU a b) (x, jF a b x) := by
 have hn := cV h
 have e : atP a b ((x - a.1) / (b.1 - a.1)) = (x, jF a b x) := by
  unfold jF; rw [if_neg (by grind)]
  unfold atP lG bH jZ; simp only; rw [Prod.mk.injEq]; constructor <;> grind
 rw [← e]
 have h2 : (x - a.1) / (b.1 - a.1) * (b.1 - a.1) = x - a.1 := by grind
 refine has_at ?_ ?_
 ·rcases h with h | h
  ·exact qA (D := b.1 - a.1) (by grind) (by grind)
  ·exact qA (D := a.1 - b.1) (by grind) (by grind)
 ·suffices h3 : 0 ≤ 1 - (x - a.1) / (b.1 - a.1) by grind
  rcases h with h | h
  ·exact qA (D := b.1 - a.1) (by grind) (by grind)
  ·exact qA (D := a.1 - b.1) (by grind) (by grind)
theorem zero_between {x y u v : Rat} (h : u < 0 ∧ 0 ≤ v ∨ 0 < u ∧ v ≤ 0 ∨ u = 0 ∧ v ≠ 0) : ∃ t, 0 ≤ t ∧ t ≤ 1 ∧ u + t * (v - u) = 0 := by
 by_cases h0 : u = 0
 ·exact ⟨0, by grind, by grind, by grind⟩
 have e : u / (u - v) * (u - v) = u := by grind
 refine ⟨u / (u - v), ?_, ?_, by grind⟩
 ·rcases h with h | h | h
  ·exact qA (D := v - u) (by grind) (by grind)
  ·exact qA (D := u - v) (by grind) (by grind)
  ·grind
 ·suffices h3 : 0 ≤ 1 - u / (u - v) by grind
  rcases h with h | h | h
  ·exact qA (D := v - u) (by grind) (by grind)
  ·exact qA (D := u - v) (by grind) (by grind)
  ·grind
theorem conv_in {t x y lo hi : Rat} (h0 : 0 ≤ t) (h1 : t ≤ 1) (hx : lo < x ∧ x < hi) (hy : lo < y ∧ y < hi) : lo < x + t * (y - x) ∧ x + t * (y - x) < hi := by
 rcases (Rat.le_total : x ≤ y ∨ y ≤ x) with h | h
 ·have a := Rat.mul_nonneg h0 (show 0 ≤ y - x by grind)
  have b := Rat.mul_nonneg (show 0 ≤ 1 - t by grind) (show 0 ≤ y - x by grind)
  grind
 ·have a := Rat.mul_nonneg h0 (show 0 ≤ x - y by grind)
  have b := Rat.mul_nonneg (show 0 ≤ 1 - t by grind) (show 0 ≤ x - y by grind)
  grind
theorem thru_z {t x y a b : Rat} (h0 : 0 ≤ t) (h1 : t ≤ 1) (k1 : a < x ∧ x < b ∨ x < a ∧ b < x) (k2 : a < y ∧ y < b ∨ y < a ∧ b < y) : a < x + t * (y - x) ∧ x + t * (y - x) < b ∨ x + t * (y - x) < a ∧ b < x + t * (y - x) := by
 rcases k1 with k1 | k1
 ·exact .inl (conv_in h0 h1 k1 (by rcases k2 with k2 | k2; exact k2; grind))
 ·have := conv_in h0 h1 (lo := b) (hi := a) ⟨k1.2, k1.1⟩ (by rcases k2 with k2 | k2; grind; exact ⟨k2.2, k2.1⟩)
  exact .inr ⟨this.2, this.1⟩
theorem still_core {a b c d : P2} {x y lo hi : Rat} (h1 : a.1 < x ∧ x < b.1 ∨ x < a.1 ∧ b.1 < x) (h2 : c.1 < x ∧ x < d.1 ∨ x < c.1 ∧ d.1 < x) (h3 : a.1 < y ∧ y < b.1 ∨ y < a.1 ∧ b.1 < y) (h4 : c.1 < y ∧ y < d.1 ∨ y < c.1 ∧ d.1 < y)
  (hx : lo < x ∧ x < hi) (hy : lo < y ∧ y < hi) (H : ∀ p ∈ kH (xO (qU a b) (qU c d)), p.1 ≤ lo ∨ hi ≤ p.1) : qH (jF a b x) (jF c d x) = qH (jF a b y) (jF c d y) := by
 obtain ⟨k, f1, f2⟩ := height_aff (cV h1)
 obtain ⟨l, g1, g2⟩ := height_aff (cV h2)
 refine Classical.byContradiction fun hc => ?_
 obtain ⟨u, hu⟩ : ∃ u, u = jF a b x - jF c d x := ⟨_, rfl⟩
 obtain ⟨v, hv⟩ : ∃ v, v = jF a b y - jF c d y := ⟨_, rfl⟩
 have hs : u < 0 ∧ 0 ≤ v ∨ 0 < u ∧ v ≤ 0 ∨ u = 0 ∧ v ≠ 0 := by
  subst hu hv; revert hc
  generalize jF a b x = p; generalize jF c d x = q; generalize jF a b y = r; generalize jF c d y = s
  intro hc; unfold qH at hc; grind
 obtain ⟨t, mY, mZ, e⟩ := zero_between (x := x) (y := y) hs
 obtain ⟨z, hz⟩ : ∃ z, z = x + t * (y - x) := ⟨_, rfl⟩
 have hzl := conv_in mY mZ hx hy
 rw [← hz] at hzl
 have hzt : ∀ {p q : P2}, (p.1 < x ∧ x < q.1 ∨ x < p.1 ∧ q.1 < x) → (p.1 < y ∧ y < q.1 ∨ y < p.1 ∧ q.1 < y) → p.1 < z ∧ z < q.1 ∨ z < p.1 ∧ q.1 < z := fun {p q} k1 k2 => by rw [hz]; exact thru_z mY mZ k1 k2
 have e2 : jF c d z = jF a b z := by
  rw [f1, g1] at hu hv
  rw [f1, g1]; subst hz hu hv; grind
 have p1 := has_thru (hzt h1 h3)
 have p2 := has_thru (hzt h2 h4)
 rw [e2] at p2
 obtain ⟨m0, m1, m2, m3, m4, m5, _⟩ := meets_has p1 p2
 have hb := has_box m5
 simp only at hb
 have q1 := H _ (show (xO (qU a b) (qU c d)).2.1 ∈ _ by unfold kH; rw [if_neg m0]; simp)
 have q2 := H _ (show (xO (qU a b) (qU c d)).2.2 ∈ _ by unfold kH; rw [if_neg m0]; simp)
 have s1 := side_height (cV h1) m1.2
 have s2 := side_height (cV h2) m2.2
 have s3 := side_height (cV h1) m3.2
 have s4 := side_height (cV h2) m4.2
 generalize (xO (qU a b) (qU c d)).2.1 = A at *
 generalize (xO (qU a b) (qU c d)).2.2 = B at *
 rw [f1] at s1 s3; rw [g1] at s2 s4
 have hAB : A.1 < B.1 := by grind
 have hk : (k - l) * (B.1 - A.1) = 0 := by grind
 have hkl : B.1 - A.1 = 0 ∨ k - l = 0 := by
  by_cases c0 : k - l = 0
  ·exact .inr c0
  ·exact .inl (rat_mul0 hk c0)
 have : k = l := by grind
 subst this
 rw [f1, g1] at hu; rw [f1, g1] at hv
 grind
end Go.SL
set_option maxHeartbeats 4000000
namespace Go.Proofs.YtfkejnlohkgbgaaGreatDoor
open Go.SL Go.RowKit Go.Proofs Tryz
theorem cuts_rise (ls : List (List P2)) (b : P2 × P2) : dA (cutsOf ls b) := fun i hi => by
 have h := List.pairwise_iff_getElem.1 (bF iJ (rawC ls b)).rise i (i + 1) (by unfold cutsOf at hi; omega) hi (by omega)
 rw [List.getD_eq_getElem?_getD, List.getD_eq_getElem?_getD, List.getElem?_eq_getElem (show i < (cutsOf ls b).length by omega), List.getElem?_eq_getElem hi]
 exact qI.1 h
theorem cuts_find {ls : List (List P2)} {b : P2 × P2} {x : Rat} (h : x ∈ cutsOf ls b) : ∃ i, i < (cutsOf ls b).length ∧ (cutsOf ls b).getD i 0 = x ∧ bN (cutsOf ls b) x = (i, true, true) := by
 obtain ⟨i, hi, e⟩ := List.mem_iff_getElem.1 h
 have e2 : (cutsOf ls b).getD i 0 = x := by rw [List.getD_eq_getElem?_getD, List.getElem?_eq_getElem hi]; exact e
 exact ⟨i, hi, e2, by rw [← e2]; exact find_wall (cuts_rise ls b) hi⟩
theorem corn_mem {ls : List (List P2)} {b : P2 × P2} {i k : Nat} (hi : i < ls.length) (hk : k < (ls.getD i []).length) : ((ls.getD i []).getD k (0, 0)).1 ∈ cutsOf ls b := by
 unfold cutsOf; rw [setOf_mem iJ]; unfold rawC eS
 simp only [List.mem_append, List.mem_flatMap, List.mem_map]
 have e : ls.getD i [] = ls[i] := by rw [List.getD_eq_getElem?_getD, List.getElem?_eq_getElem hi]; rfl
 rw [e] at hk ⊢
 exact .inl (.inr ⟨ls[i], List.getElem_mem hi, ls[i][k], List.getElem_mem hk, by rw [List.getD_eq_getElem?_getD, List.getElem?_eq_getElem hk]; rfl⟩)
theorem meet_mem {ls : List (List P2)} {b : P2 × P2} {i k m n : Nat} (hk : k < i) (hi : i < ls.length) (hm : m < (ls.getD i []).length) (hn : n < (ls.getD k []).length) {p : P2} (h : p ∈ kH (xO (iI (ls.getD i []) m) (iI (ls.getD k []) n))) : p.1 ∈ cutsOf ls b := by
 unfold cutsOf; rw [setOf_mem iJ]; unfold rawC
 refine List.mem_append.2 (.inr (meetX_mem.2 ⟨k, i, hk, hi, ?_⟩))
 rw [allOf_comm, allOf_set]
 exact List.mem_map.2 ⟨p, (setOf_mem lD).2 (rawL_mem.2 ⟨_, edgesL_mem.2 ⟨m, hm, rfl⟩, _, edgesL_mem.2 ⟨n, hn, rfl⟩, h⟩), rfl⟩
theorem thru_iff {a b : P2} {x : Rat} (h : iE a b x = true) : a.1 < x ∧ x < b.1 ∨ x < a.1 ∧ b.1 < x := by
 unfold iE at h; simpa only [Bool.or_eq_true, Bool.and_eq_true, decide_eq_true_eq] using h
theorem still_cuts {ls : List (List P2)} {b : P2 × P2} {j i k : Nat} {x y : Rat} (hj : j + 1 < (cutsOf ls b).length) (hk : k < i) (hi : i < ls.length)
  (hx : (cutsOf ls b).getD j 0 < x ∧ x < (cutsOf ls b).getD (j + 1) 0) (hy : (cutsOf ls b).getD j 0 < y ∧ y < (cutsOf ls b).getD (j + 1) 0) : stillP (ls.getD i []) (ls.getD k []) x y := fun m n hm hn mZ nA t3 t4 => by
 refine still_core (thru_iff mZ) (thru_iff nA) (thru_iff t3) (thru_iff t4) hx hy fun p hp => ?_
 obtain ⟨c, hc, e, _⟩ := cuts_find (meet_mem (b := b) hk hi hm hn hp)
 have hr := cuts_rise ls b
 rcases Nat.lt_trichotomy c j with h | h | h
 ·exact .inl (by rw [← e]; exact Rat.le_of_lt (rises_lt' hr h (by omega)))
 ·exact .inl (by rw [← e, h]; exact Rat.le_refl)
 ·rcases Nat.lt_or_ge (j + 1) c with h2 | h2
  ·exact .inr (by rw [← e]; exact Rat.le_of_lt (rises_lt' hr h2 hc))
  ·obtain rfl : c = j + 1 := by omega
   exact .inr (by rw [← e]; exact Rat.le_refl)
theorem part_in {p q : Rat} {s : Nat} (h : p < q) (h1 : 1 ≤ s) (h9 : s ≤ 9) : p < lW p q s ∧ lW p q s < q := by
 have a : (1 : Rat) ≤ ((s : Nat) : Rat) := by exact_mod_cast h1
 have b : ((s : Nat) : Rat) ≤ 9 := by exact_mod_cast h9
 unfold lW
 have e : ((10 : Nat) : Rat) = 10 := rfl
 rw [e]
 have k1 := Rat.mul_pos (show 0 < ((s : Nat) : Rat) / 10 by grind) (show 0 < q - p by grind)
 have k2 := Rat.mul_pos (show 0 < 1 - ((s : Nat) : Rat) / 10 by grind) (show 0 < q - p by grind)
 grind
end Go.Proofs.YtfkejnlohkgbgaaGreatDoor
set_option maxHeartbeats 4000000
namespace Go.Proofs.YtfkejnlohkgbgaaGreatDoor
open Go.SL Go.RowKit Go.Proofs Tryz
theorem kpart {p q : Rat} {s : Nat} (hs : s ≤ 10) : CTy prog 70 [ag (rtc 113 p), ag (rtc 113 q), exP (.int .i64 ((s : Nat) : Int))] (ag (rtc 400 (lW p q s))) :=
 ⟨(bo func70), fun M w vs hM hT hv => by
  have h0 := hv
  obtain ⟨v, us, rfl, k1, u, us2, rfl, k2, k3⟩ := hv
  obtain ⟨s1, a1, d1, e1, g1⟩ := QR.h (Ψ := ag (rtc 113 p)) k1
  obtain ⟨s2, a2, d2, e2, g2⟩ := QR.h (Ψ := ag (rtc 113 q)) k2
  exact (wpart hs g1.rlen g2.rlen).run M w _ hM hT ((fs1 qr_up (fs1 qr_up (fs1 (PSub.refl _) fs0))) _ _ _ h0)⟩
theorem apart_c {ls : List (List PX)} {b : PX × PX} {s t : Int} (h : Tr ((!mJ ls b || decide (3 < (ls.length : Int)) || decide (min s t < 1) || decide (9 < max s t)) = false)) : ls.length ≤ 3 ∧ gQ [b.1, b.2] = true ∧ (∀ l ∈ ls, l.length ≤ 6 ∧ gQ l = true) ∧ (∃ n : Nat, s = n ∧ 1 ≤ n ∧ n ≤ 9) ∧ ∃ n : Nat, t = n ∧ 1 ≤ n ∧ n ≤ 9 := by
 have h1 := h.h
 simp only [Bool.or_eq_false_iff] at h1
 have h2 := few_ok (ls := ls) (b := b) (by simpa using h1.1.1.1)
 have h3 := of_decide_eq_false h1.1.1.2
 have h4 := of_decide_eq_false h1.1.2
 have h5 := of_decide_eq_false h1.2
 exact ⟨by omega, h2.2.1, h2.2.2, ⟨s.toNat, by omega⟩, ⟨t.toNat, by omega⟩⟩
theorem at_ok {a : Int} {n : Nat} (h : 2 ≤ n) : ∃ j : Nat, j + 1 < n ∧ ((a.tmod ((n : Int) - 1)) + n - 1).tmod ((n : Int) - 1) = j := by
 have h1 := Int.tmod_lt_of_pos a (show 0 < (n : Int) - 1 by omega)
 have h2 := Int.lt_tmod_of_pos a (show 0 < (n : Int) - 1 by omega)
 have h3 := Int.tmod_lt_of_pos (a.tmod ((n : Int) - 1) + n - 1) (show 0 < (n : Int) - 1 by omega)
 have h4 := Int.tmod_nonneg ((n : Int) - 1) (show 0 ≤ a.tmod ((n : Int) - 1) + n - 1 by omega)
 exact ⟨(((a.tmod ((n : Int) - 1)) + n - 1).tmod ((n : Int) - 1)).toNat, by omega, by omega⟩
theorem kstillx {l m : List PX} {x y : Rat} (hl : l.length ≤ 6 ∧ gQ l = true) (hm : m.length ≤ 6 ∧ gQ m = true) (h : stillP (l.map px) (m.map px) x y) : CTy prog 71 [sv (pcx l), sv (pcx m), ag (rtc 400 x), ag (rtc 400 y)] (exP (.bool true)) :=
 qP (kstill (n := 1) (m := 400) (by omega) (by omega) (by rw [List.length_map]; omega) (by rw [List.length_map]; omega) h) (fs1 (fun M w v k => pcx_q hl.2 k) (fs1 (fun M w v k => pcx_q hm.2 k) (fs1 eM (fs1 eM fs0))))
theorem obsub {P : Program} {r : Option Nat} {N : Nat} {ops : Array Oper} {M : Nat → Prop} {S : List Ow} {p : Prop} {o : Oper} {Γ : TE} {Ψ Φ : PV} (h : Ob P r N ops M S p o Γ Ψ) (hs : PSub Ψ Φ) : Ob P r N ops M S p o Γ Φ := fun D E w d hd hN hg hp hT =>
 ops_weak (h D E w d hd hN hg hp hT) fun D' E' w' ⟨e1, e2, v, e3, e4⟩ => ⟨e1, e2, v, e3, hs _ _ _ e4⟩
theorem px_at {l : List PX} {k : Nat} (h : k < l.length) : (l.map px).getD k (0, 0) = px (l.getD k Df.d) := by
 simp [List.getD_eq_getElem?_getD, List.getElem?_eq_getElem h]
theorem law_CutsApart {ls : List (List PX)} {b : PX × PX} {a s t : Int} : CTy prog 12 [sv (sl 1 (ls.map pcx)), ag (st [ptx b.1, ptx b.2]), exP (.int .i64 a), exP (.int .i64 s), exP (.int .i64 t)] (exP (.bool true)) := by
 refine ctc func12 rfl rfl rfl rfl fun X => (zI (zJ rfl (mZ (obx rfl) (mZ (oas rfl) (mY (zI (zI (zJ rfl (mZ (omv rfl) ?_)))))))))
 refine mZ (old rfl rfl) (mZ (oca rfl rfl fun _ => kfew) (mZ (ont rfl) (mZ (omv rfl) (t1g rfl rfl (omv rfl) (t1g rfl rfl (oln rfl) (t1g rfl rfl (ogt rfl rfl) (mZ (opk rfl rfl rfl) (mZ (omv rfl) (t1g rfl rfl (omv rfl) ?_)))))))))
 refine t1g rfl rfl (omv rfl) (t1g rfl rfl (omn rfl rfl) (t1g rfl rfl (olt rfl rfl) (mZ (opk rfl rfl rfl) (mZ (omv rfl) (t1g rfl rfl (omv rfl) (t1g rfl rfl (omv rfl) (t1g rfl rfl (omx rfl rfl) (t1g rfl rfl (ogt rfl rfl) (mZ (opk rfl rfl rfl) ?_)))))))))
 refine mY ?_
 refine jA rfl (fun c0 => ?_) (fun c0 => ?_)
 refine zI (zJ rfl (mZ (oca rfl rfl fun _ => kwakes22) (mZ (oas rfl) (mY (yI (⟨[_], rst rfl rs0, yV (PSub.refl _)⟩))))))
 refine yM (zI (zI (zJ rfl (mZ (oas rfl) (mY (yD ?_))))))
 rotate_left 1
 have hc := apart_c c0
 obtain ⟨n, rfl, n1, n9⟩ := hc.2.2.2.1
 obtain ⟨m, rfl, m1, m9⟩ := hc.2.2.2.2
 refine jV (σ := Nat) (fun i => [(11, True, exP (.int .i64 ((i : Nat) : Int)))]) (fun i => []) (fun i => i ≤ ls.length) (fun i => ls.length - i) (0) (tk 0 rfl (tk 2 rfl (tk 3 rfl (tk 4 rfl (tk 6 rfl tn))))) ?_ rfl ((by omega)) (fun i hJ Y _ => ?_)
 refine tc rfl (zW _) (tn)
 rotate_left 1
 have hat : ∀ {i}, i < ls.length → (ls.getD i Df.d).length ≤ 6 ∧ gQ (ls.getD i Df.d) = true := fun {i} hi => hc.2.2.1 _ (by rw [List.getD_eq_getElem?_getD, List.getElem?_eq_getElem hi]; exact List.getElem_mem hi)
 have h0 := cuts_pos (pxs ls) (bxs b)
 have hr := cuts_rise (pxs ls) (bxs b)
 have hl := cuts_len (ls := pxs ls) (b := bxs b) (by simp; omega) fun l hl => by
  obtain ⟨a, ha, rfl⟩ := List.mem_map.1 hl
  rw [List.length_map]; have := (hc.2.2.1 a ha).1; omega
 refine zI (zI (zJ rfl (mZ (omv rfl) (mZ (omv rfl) (mZ (oln rfl) (mZ (olt rfl rfl) (mY ?_)))))))
 refine jA rfl (fun c1 => ?_) (fun c1 => ?_)
 refine yM (zI (yD (zI (zJ rfl (mZ (omv rfl) (mZ (omv rfl) (mZ (oix _ rfl rfl rfl (fun _ => rfl) (fun _ => (by (have e0 := dt c1; omega)))) (mZ (old rfl rfl) (mZ (oln rfl) ?_)))))))))
 refine mZ (ogt rfl rfl) (mY ?_)
 refine jA rfl (fun c2 => ?_) (fun c2 => ?_)
 refine zI (zJ rfl (mZ (oca rfl rfl fun _ => kwakes22) (mZ (oas rfl) (mY (yI (⟨[_], rst rfl rs0, yV (PSub.refl _)⟩))))))
 refine yM (zJ rfl (mZ (omv rfl) (mZ (oad rfl rfl (by omega)) (mZ (oas rfl) (mY ?_)))))
 rotate_left 1
 refine jJ (zI (zJ rfl (mZ (omv rfl) (mZ (old rfl rfl) ?_))))
 refine mZ (oca rfl rfl fun _ => kcallx (by omega) ?_ ?_) ?_
 rotate_left 1
 rotate_left 1
 refine mZ (oas rfl) (mY (zI (zI (zJ rfl (mZ (omv rfl) (mZ (oca rfl rfl fun _ => kcrises (by omega) (by omega)) (mZ (ont rfl) (mZ (omv rfl) (t1g rfl rfl (omv rfl) ?_)))))))))
 refine t1g rfl rfl (oln rfl) (t1g rfl rfl (oeq rfl rfl) (mZ (opk rfl rfl rfl) (mY ?_)))
 refine jA rfl (fun c3 => ?_) (fun c3 => ?_)
 refine zI (zJ rfl (mZ (oas rfl) (mY (yI (⟨[_], rst rfl rs0, yV ?_⟩)))))
 refine psb ?_
 rotate_left 1
 refine yM (zI (zI (zJ rfl (mZ (omv rfl) (mZ (oln rfl) (mZ (olt rfl rfl) (mY ?_)))))))
 refine jA rfl (fun c4 => ?_) (fun c4 => ?_)
 refine zI (zJ rfl (mZ (oca rfl rfl fun _ => kwakes22) (mZ (oas rfl) (mY (yI (⟨[_], rst rfl rs0, yV (PSub.refl _)⟩))))))
 rotate_left 1
 ·refine ⟨i + 1, tes ?_ ?_ (List.Sublist.refl _), (by (have e0 := dt c1; have e1 := df c2; omega)), (by (have e0 := dt c1; have e1 := df c2; omega))⟩
  refine tc rfl (zW _) (tn)
  refine tc rfl (zW _) (tc rfl (zW _) (tc rfl (zW _) (tc rfl (zW _) (tc rfl (zW _) (tn)))))
 ·exact hc.2.1
 ·exact hc.2.2.1
 ·have h3 := c3.h
  rw [decide_eq_true hr, decide_eq_false (by omega)] at h3; cases h3
 have h4 := df c4
 obtain ⟨j, hj, e⟩ := at_ok (a := a) (n := (cutsOf (pxs ls) (bxs b)).length) (by omega)
 have ht := Int.tmod_lt_of_pos a (show 0 < ((cutsOf (pxs ls) (bxs b)).length : Int) - 1 by omega)
 have ht2 := Int.lt_tmod_of_pos a (show 0 < ((cutsOf (pxs ls) (bxs b)).length : Int) - 1 by omega)
 refine yM (zI (zJ rfl (mZ (omv rfl) (mZ (omv rfl) (mZ (oln rfl) (mZ (osb rfl rfl (by omega)) (mZ (ort rfl rfl (by omega)) (mZ (omv rfl) (mZ (oln rfl) ?_)))))))))
 refine mZ (oad rfl rfl (by omega)) (mZ (osb rfl rfl (by omega)) (mZ (omv rfl) (mZ (oln rfl) (mZ (osb rfl rfl (by omega)) (mZ (ort rfl rfl (by omega)) (mZ (obsub (oas rfl) (cL e)) (mY (zI ?_))))))))
 apply bX 2 25 24 [(22, 13, 0), (23, 14, 1), (24, 1000024, 0)] rfl rfl mixed rfl rfl rfl
 refine cx1 (omv rfl) rfl (cx1 (omv rfl) rfl (cx1 (oix _ rfl rfl rfl (fun _ => rfl) (fun _ => (by omega))) rfl (cx1 (old rfl rfl) rfl (cx1 (omv rfl) rfl (cx1 (omv rfl) rfl (cx1 (oad rfl rfl (by omega)) rfl (cx1 (oix _ rfl rfl rfl (fun _ => rfl) (fun _ => (by omega))) rfl (cx1 (old rfl rfl) rfl (cx1 (omv rfl) rfl ?_)))))))))
 refine cx1 (oca rfl rfl fun _ => kpart (by omega)) rfl (cx1 (omv rfl) rfl (cx1 (omv rfl) rfl (cx1 (oix _ rfl rfl rfl (fun _ => rfl) (fun _ => (by omega))) rfl (cx1 (old rfl rfl) rfl (cx1 (omv rfl) rfl (cx1 (omv rfl) rfl (cx1 (oad rfl rfl (by omega)) rfl (cx1 (oix _ rfl rfl rfl (fun _ => rfl) (fun _ => (by omega))) rfl (cx1 (old rfl rfl) rfl ?_)))))))))
 refine cx1 (omv rfl) rfl (cx1 (oca rfl rfl fun _ => kpart (by omega)) rfl (cN rfl rfl (cal) (cN rfl rfl (cal) (cS rfl rfl rfl (cst rfl rfl rfl) ?_))))
 refine cE (fun b13 b14 => ?_)
 refine gY (gC (s := 13) 1 rfl rfl) (tst 0 rfl rfl rfl rfl rfl rfl (gY (gC (s := 14) 0 rfl rfl) (mY (zI (zI (zJ rfl (mZ (oas rfl) (mY (yD ?_)))))))))
 rotate_left 1
 refine jV (σ := Nat) (fun i => [(15, True, exP (.int .i64 ((i : Nat) : Int)))]) (fun i => []) (fun i => i ≤ ls.length) (fun i => ls.length - i) (0) (tk 0 rfl (tk 12 rfl (tk 13 rfl (tk 14 rfl tn)))) ?_ rfl ((by omega)) (fun i hJ Y _ => ?_)
 refine tc rfl (zW _) (tn)
 rotate_left 1
 refine zI (zI (zJ rfl (mZ (omv rfl) (mZ (omv rfl) (mZ (oln rfl) (mZ (olt rfl rfl) (mY ?_)))))))
 refine jA rfl (fun c2 => ?_) (fun c2 => ?_)
 refine yM (zI (yD (zI (zI (zJ rfl (mZ (oas rfl) (mY (yD ?_))))))))
 rotate_left 1
 refine jJ (zI (zJ rfl (mZ (oca rfl rfl fun _ => kwakes22) (mZ (oas rfl) (mY (yI (⟨[_], rst rfl rs0, yV (PSub.refl _)⟩)))))))
 have hi := dt c2
 refine jV (σ := Nat) (fun k => [(16, True, exP (.int .i64 ((k : Nat) : Int)))]) (fun k => []) (fun k => k ≤ i) (fun k => i - k) (0) (tk 0 rfl (tk 12 rfl (tk 13 rfl (tk 14 rfl (tk 15 rfl tn))))) ?_ rfl ((by omega)) (fun k hJ Y _ => ?_)
 refine tc rfl (zW _) (tn)
 rotate_left 1
 refine zI (zI (zJ rfl (mZ (omv rfl) (mZ (omv rfl) (mZ (olt rfl rfl) (mY ?_))))))
 refine jA rfl (fun c5 => ?_) (fun c5 => ?_)
 refine yM (zI (yD (zI (xF 12 mixed rfl rfl (d1 (omv rfl) (d1 (omv rfl) (d1 (oix _ rfl rfl rfl (fun _ => rfl) (fun _ => (by omega))) (d1 (old rfl rfl) (d1 (omv rfl) ?_)))))))))
 refine d1 (omv rfl) (d1 (oix _ rfl rfl rfl (fun _ => rfl) (fun _ => (by omega))) (d1 (old rfl rfl) (d1 (old rfl rfl) (d1 (old rfl rfl) ?_))))
 refine d1 (oca rfl rfl fun _ => kstillx ?_ ?_ ?_) ?_
 rotate_left 1
 rotate_left 1
 rotate_left 1
 refine d1 (ont rfl) (d0 (mY (lT rfl rfl (yM (zJ rfl (mZ (omv rfl) (mZ (oad rfl rfl (by omega)) (mZ (oas rfl) (mY ?_)))))))))
 rotate_left 1
 refine jJ (zI (zJ rfl (mZ (oas rfl) (mY (yD ?_)))))
 rotate_left 1
 ·exact hat (by omega)
 ·exact hat (by have := dt c5; omega)
 ·have hlt := hr j hj
  rw [← pxs_at, ← pxs_at]
  exact still_cuts hj (by have := dt c5; omega) (by simp; omega) (part_in hlt n1 n9) (part_in hlt m1 m9)
 ·refine ⟨k + 1, tes ?_ ?_ (List.Sublist.refl _), (by (have e0 := dt c5; omega)), (by (have e0 := dt c5; omega))⟩
  refine tc rfl (zW _) (tn)
  refine tc rfl (zW _) (tc rfl (zW _) (tc rfl (zW _) (tc rfl (zW _) (tc rfl (zW _) (tn)))))
 refine jV (σ := Nat) (fun k => [(17, True, exP (.int .i64 ((k : Nat) : Int)))]) (fun k => []) (fun k => k ≤ (ls.getD i Df.d).length) (fun k => (ls.getD i Df.d).length - k) (0) (tk 0 rfl (tk 12 rfl (tk 13 rfl (tk 14 rfl (tk 15 rfl tn))))) ?_ rfl ((by omega)) (fun k hJ Y _ => ?_)
 refine tc rfl (zW _) (tn)
 rotate_left 1
 have hq : k < (ls.getD i Df.d).length → ((ls.getD i Df.d).getD k Df.d).1.1.2.length ≤ 1 ∧ ((ls.getD i Df.d).getD k Df.d).1.2.length ≤ 1 ∧ ∃ f, f < (cutsOf (pxs ls) (bxs b)).length ∧ (cutsOf (pxs ls) (bxs b)).getD f Df.d = qx ((ls.getD i Df.d).getD k Df.d).1 ∧ bN (cutsOf (pxs ls) (bxs b)) (qx ((ls.getD i Df.d).getD k Df.d).1) = (f, true, true) := fun hk => by
  have h1 := List.all_eq_true.1 (hat (show i < ls.length by omega)).2 ((ls.getD i Df.d).getD k Df.d) (by rw [List.getD_eq_getElem?_getD (i := k), List.getElem?_eq_getElem hk]; exact List.getElem_mem hk)
  rw [Bool.and_eq_true] at h1
  have h2 := dO h1.1
  have h3 := corn_mem (ls := pxs ls) (b := bxs b) (i := i) (k := k) (by simp; omega) (by rw [pxs_at, List.length_map]; exact hk)
  rw [pxs_at, px_at hk] at h3
  exact ⟨h2.1, h2.2, cuts_find h3⟩
 have hlk := (hat (show i < ls.length by omega)).1
 refine zI (zI (zJ rfl (mZ (omv rfl) (mZ (omv rfl) (mZ (omv rfl) (mZ (oix _ rfl rfl rfl (fun _ => rfl) (fun _ => (by omega))) (mZ (old rfl rfl) (mZ (oln rfl) (mZ (olt rfl rfl) ?_)))))))))
 refine mY ?_
 refine jA rfl (fun c6 => ?_) (fun c6 => ?_)
 refine yM (zI (yD (zI (zJ rfl (mZ (omv rfl) (mZ (omv rfl) (mZ (omv rfl) (mZ (oix _ rfl rfl rfl (fun _ => rfl) (fun _ => (by omega))) (mZ (old rfl rfl) ?_)))))))))
 refine mZ (omv rfl) (mZ (oix _ rfl rfl rfl (fun _ => rfl) (fun _ => (by (have e0 := dt c6; omega)))) (mZ (ofa rfl rfl) (mZ (old rfl rfl) (mZ (oca rfl rfl fun _ => kcfind (by omega) (by (have e0 := dt c6; omega)) (by omega)) (mZ (omv rfl) (mZ (oex rfl rfl) (mZ (oex rfl rfl) (mZ (oex rfl rfl) (mZ (oas rfl) ?_)))))))))
 refine mZ (oas rfl) (mZ (oas rfl) (mY (zI (xF 32 mixed rfl rfl (d1 (omv rfl) (d1 (ont rfl) (d1 (omv rfl) (d1g rfl rfl (omv rfl) (d1g rfl rfl (ont rfl) ?_)))))))))
 refine d1 (opk rfl rfl rfl) (d1 (omv rfl) (d1g rfl rfl (omv rfl) (d1g rfl rfl (olt rfl rfl) (d1 (opk rfl rfl rfl) (d1 (omv rfl) (d1g rfl rfl (omv rfl) (d1g rfl rfl (omv rfl) (d1g rfl rfl (oln rfl) (d1g rfl rfl (oge rfl rfl) ?_)))))))))
 refine d1 (opk rfl rfl rfl) (d1 (omv rfl) (d1g rfl rfl (omv rfl) (d1g rfl rfl (omv rfl) ?_)))
 refine d1g rfl rfl (oix _ rfl rfl rfl (fun g => rfl) (fun g => ?_)) ?_
 rotate_left 1
 refine d1g rfl rfl (old rfl rfl) (d1g rfl rfl (omv rfl) (d1g rfl rfl (omv rfl) (d1g rfl rfl (oix _ rfl rfl rfl (fun g => rfl) (fun g => (by omega))) (d1g rfl rfl (old rfl rfl) (d1g rfl rfl (omv rfl) (d1g rfl rfl (oix _ rfl rfl rfl (fun g => rfl) (fun g => (by (have e0 := dt c6; omega)))) (d1g rfl rfl (ofa rfl rfl) (d1g rfl rfl (old rfl rfl) (d1g rfl rfl (oca rfl rfl fun g => k7cmp (by omega) (by (have e0 := dt c6; omega))) ?_)))))))))
 refine d1g rfl rfl (oni rfl rfl) (d1 (opk rfl rfl rfl) (d0 (mY ?_)))
 refine jA rfl (fun c7 => ?_) (fun c7 => ?_)
 refine zI (zJ rfl (mZ (oas rfl) (mY (yI (⟨[_], rst rfl rs0, yV ?_⟩)))))
 refine psb ?_
 rotate_left 1
 refine yM (zJ rfl (mZ (omv rfl) (mZ (oad rfl rfl (by omega)) (mZ (oas rfl) (mY ?_)))))
 rotate_left 1
 refine jJ (zJ rfl (mZ (omv rfl) (mZ (oad rfl rfl (by omega)) (mZ (oas rfl) (mY ?_)))))
 rotate_left 1
 ·obtain ⟨_, _, f, h1, h2, h3⟩ := hq (by have := dt c6; omega)
  rw [h3]; exact h1
 ·obtain ⟨_, _, f, h1, h2, h3⟩ := hq (by have := dt c6; omega)
  have h7 := c7.h
  rw [h3] at h7
  simp only [h2, qK.2] at h7
  revert h7; simp; omega
 ·refine ⟨k + 1, tes ?_ ?_ (List.Sublist.refl _), (by (have e0 := dt c6; omega)), (by (have e0 := dt c6; omega))⟩
  refine tc rfl (zW _) (tn)
  refine tc rfl (zW _) (tc rfl (zW _) (tc rfl (zW _) (tc rfl (zW _) (tc rfl (zW _) (tn)))))
 ·refine ⟨i + 1, tes ?_ ?_ (List.Sublist.refl _), (by omega), (by omega)⟩
  refine tc rfl (zW _) (tn)
  refine tc rfl (zW _) (tc rfl (zW _) (tc rfl (zW _) (tc rfl (zW _) (tn))))
end Go.Proofs.YtfkejnlohkgbgaaGreatDoor
namespace Go.Proofs.YtfkejnlohkgbgaaGreatDoor
open Go Go.SL Go.RowKit Go.Proofs Go.ChangeShapes Go.WideShapes Go.ChangeAt Go.Deep Tryz
section
variable {H : Type} {enc : TypeId × Value → H} {P : Program} {W : World} {B : Nat} {tp tr ti tn tb tw : TypeId}
abbrev BdX (B : Nat) (a : RX) : Prop := (True ∧ a.1.2.length ≤ B) ∧ a.2.length ≤ B
abbrev BpX (B : Nat) (a : PX) : Prop := BdX B a.1 ∧ BdX B a.2
theorem opn_ratx (T : NumTypes P tp tr ti tn tb tw) : Opn enc P W B tr 3 rtx (BdX B) :=
 opn_two T.r (opn_two T.i (opn_bool T.b T.cb) (opn_nat T.n T.w T.cw T.cn T.hb)) (opn_nat T.n T.w T.cw T.cn T.hb)
theorem opn_ptx (T : NumTypes P tp tr ti tn tb tw) : Opn enc P W B tp 6 ptx (BpX B) :=
 opn_two T.p (opn_ratx T) (opn_ratx T)
theorem opn_pcx {t : TypeId} (T : NumTypes P tp tr ti tn tb tw) (ht : P.underlying t = some (.slice tp)) (c : P.cellsOf t = 1) : Opn enc P W B t 1 pcx (fun l => l.length * P.bytesOf tp ≤ B ∧ ∀ a ∈ l, BpX B a) :=
 opn_slicew ht c (opn_ptx T) (by omega)
end
end Go.Proofs.YtfkejnlohkgbgaaGreatDoor
