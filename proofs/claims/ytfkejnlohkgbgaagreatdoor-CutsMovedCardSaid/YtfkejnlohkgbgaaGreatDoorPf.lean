/- Lemmas and walks of functions; no statement. -/
import Derived.Test.YtfkejnlohkgbgaaGreatDoorPe
set_option linter.unusedVariables false
set_option linter.unusedSimpArgs false
set_option maxRecDepth 100000
set_option maxHeartbeats 4000000
namespace Go.Proofs.YtfkejnlohkgbgaaGreatDoor
open Go.SL Go.RowKit Go.Proofs Tryz
theorem tup3 {a b c : PV} : ∀ M w vs, Fa [a, b, c] M w vs → (tu [a, b, c]).p M w (xC vs) := fun M w vs h => by
 have h0 := h
 obtain ⟨v, us, rfl, h1, u, us2, rfl, h2, z, us3, rfl, h3, e4⟩ := h
 obtain rfl : us3 = [] := e4
 exact ⟨_, rfl, h0⟩
abbrev fnd (l : List Rat) (x : Rat) : PV := tu [exP (.int .i64 ((dD l x).1 : Int)), exP (.bool (dD l x).2.1), exP (.bool (dD l x).2.2)]
def FS (l : List Rat) (x : Rat) (s : Nat) (a : Int) : Prop :=
 (a = -1 ∧ ∀ j, j < s → ¬ cX l x j = true) ∨ ∃ k : Nat, a = (k : Int) ∧ k < s ∧ cX l x k = true ∧ ∀ j, j < k → ¬ cX l x j = true
theorem bP {l : List Rat} {x : Rat} {s : Nat} : cX l x s = true ↔ s + 1 < l.length ∧ l.getD s 0 < x ∧ x < l.getD (s + 1) 0 := by
 unfold cX; simp only [Bool.and_eq_true, decide_eq_true_eq, and_assoc]
theorem fs_next {l : List Rat} {x : Rat} {s : Nat} {a : Int} (h : FS l x s a) (hn : 0 ≤ a ∨ ¬ cX l x s = true) : FS l x (s + 1) a := by
 rcases h with ⟨h1, h2⟩ | ⟨k, h1, h2, h3, h4⟩
 ·refine .inl ⟨h1, fun j hj => ?_⟩
  rcases Nat.lt_or_ge j s with c | c
  ·exact h2 j c
  ·obtain rfl : j = s := by omega
   rcases hn with hn | hn
   ·omega
   ·exact hn
 ·exact .inr ⟨k, h1, by omega, h3, h4⟩
theorem fs_hit {l : List Rat} {x : Rat} {s : Nat} {a : Int} (h : FS l x s a) (ha : ¬ 0 ≤ a) (hs : cX l x s = true) : FS l x (s + 1) (s : Int) := by
 rcases h with ⟨h1, h2⟩ | ⟨k, h1, h2, h3, h4⟩
 ·exact .inr ⟨s, rfl, by omega, hs, h2⟩
 ·omega
theorem fs_wall {l : List Rat} {x : Rat} {s : Nat} (hs : s < l.length) (hx : l.getD s 0 = x) (hn : ∀ j, j < s → l.getD j 0 ≠ x) : dD l x = (s, true, true) := by
 unfold dD; rw [wall_some hs hx hn]
theorem fs_none {l : List Rat} {x : Rat} {a : Int} (h : FS l x l.length a) (ha : a < 0) (hn : ∀ j, j < l.length → l.getD j 0 ≠ x) : dD l x = (0, false, false) := by
 rcases h with ⟨h1, h2⟩ | ⟨k, h1, h2, h3, h4⟩
 ·unfold dD; rw [wall_none hn, slab_none h2]
 ·omega
theorem fs_slab {l : List Rat} {x : Rat} {a : Int} (h : FS l x l.length a) (ha : ¬ a < 0) (hn : ∀ j, j < l.length → l.getD j 0 ≠ x) : ∃ k : Nat, a = (k : Int) ∧ dD l x = (k, false, true) := by
 rcases h with ⟨h1, h2⟩ | ⟨k, h1, h2, h3, h4⟩
 ·omega
 ·obtain ⟨i1, i2, i3⟩ := bP.1 h3
  refine ⟨k, h1, ?_⟩
  unfold dD; rw [wall_none hn, slab_some i1 i2 i3 h4]
theorem ne_step {l : List Rat} {x : Rat} {s : Nat} (h : ∀ j, j < s → l.getD j 0 ≠ x) (hs : l.getD s 0 ≠ x) : ∀ j, j < s + 1 → l.getD j 0 ≠ x := fun j hj => by
 rcases Nat.lt_or_ge j s with c | c
 ·exact h j c
 ·obtain rfl : j = s := by omega
  exact hs
theorem wcrises {l : List Rat} {n : Nat} (hn : n ≤ 90000) (hl : l.length ≤ 1000000) : CTy prog 19 [sv (sl 3 (l.map (rtq n)))] (exP (.bool (decide (iH l)))) := by
 refine ctc func19 rfl rfl rfl rfl fun X => (zI (zJ rfl (mP (oas rfl) (mO (zI (zI (zJ rfl (mP (omv rfl) (mP (oln rfl) ?_)))))))))
 refine mP (osb rfl rfl (by omega)) (mP (omx rfl rfl) (mP (omv rfl) (mO (yF ?_))))
 rotate_left 1
 refine jV (σ := Nat) (fun i => [(8, True, exP (.int .i64 ((i : Nat) : Int)))]) (fun i => []) (fun i => i ≤ l.length - 1 ∧ ∀ j, j < i → l.getD j 0 < l.getD (j + 1) 0) (fun i => l.length - i) (0) (tk 0 rfl (tk 7 rfl tn)) ?_ rfl (⟨by omega, by omega⟩) (fun i hJ Y _ => ?_)
 refine tc rfl (zZ _) (tn)
 rotate_left 1
 obtain ⟨hi, hs⟩ := hJ
 refine zI (zJ rfl (mP (olt rfl rfl) (mO (zI ?_))))
 refine jD rfl (fun c0 => ?_) (fun c0 => ?_)
 refine yQ (zI (yF (zI (zJ rfl (mP (omv rfl) (mP (oas rfl) (mO (zI (xK 11 mixed rfl rfl ?_)))))))))
 refine d1 (omv rfl) (d1 (omv rfl) (d1 (oix _ rfl rfl rfl (fun _ => rfl) (fun _ => (by (have e0 := dt c0; omega)))) (d1 (old rfl rfl) (d1 (omv rfl) (d1 (omv rfl) (d1 (oad rfl rfl (by omega)) (d1 (oix _ rfl rfl rfl (fun _ => rfl) (fun _ => (by (have e0 := dt c0; simp; omega)))) (d1 (old rfl rfl) (d1 (oca rfl rfl fun _ => eQ (by omega) (by omega)) ?_)))))))))
 refine d1 (oge rfl rfl) (d0 (mO ?_))
 refine jD rfl (fun c1 => ?_) (fun c1 => ?_)
 refine zI (zJ rfl (mP (oas rfl) (mO (yJ (⟨[_], rst rfl rs0, yX ?_⟩)))))
 refine psb ?_
 rotate_left 1
 refine yQ (zJ rfl (mP (oad rfl rfl (by omega)) (mP (omv rfl) (mO ?_))))
 rotate_left 1
 refine jO (zI (zJ rfl (mP (oas rfl) (mO (yJ (⟨[_], rst rfl rs0, yX ?_⟩))))))
 refine psb ?_
 rotate_left 1
 ·have h1 := dt c1
  have h2 := dt c0
  rw [decide_eq_false fun h => by
   have := h i (by omega)
   rw [← qL] at this
   change 0 ≤ qB (l.getD i 0) (l.getD (i + 1) 0) at h1
   omega]
 ·have h1 := df c1
  have h2 := dt c0
  refine ⟨i + 1, tes ?_ ?_ (List.Sublist.refl _), ?_, (by omega)⟩
  refine tc rfl (zZ _) (tn)
  refine tc rfl (zZ _) (tc rfl (zZ _) (tn))
  rotate_left 1
  refine ⟨by omega, fun j hj => ?_⟩
  rcases Nat.lt_or_ge j i with c | c
  ·exact hs j c
  ·obtain rfl : j = i := by omega
   rw [← qL]
   change ¬ 0 ≤ qB (l.getD j 0) (l.getD (j + 1) 0) at h1
   omega
 ·have h1 := df c0
  rw [decide_eq_true (show iH l from fun j hj => hs j (by omega))]
theorem wcfind {l : List Rat} {x : Rat} {n m : Nat} (hn : n ≤ 90000) (hm : m ≤ 90000) (hl : l.length ≤ 1000000) : CTy prog 20 [sv (sl 3 (l.map (rtq n))), ag (rtq m x)] (fnd l x) := by
 refine ctc func20 rfl rfl rfl rfl fun X => (zI (zJ rfl (mP (obx rfl) (mP (oas rfl) (mP (oas rfl) (mP (oas rfl) (mO (t_scope (zI ?_)))))))))
 refine zJ rfl (mP (oas rfl) (mO (zI (t_label (zI (zI (zJ rfl (mP (omv rfl) (mP (oln rfl) ?_)))))))))
 refine mP (omv rfl) (mO (yF ?_))
 rotate_left 1
 refine jV (σ := Nat × Int) (fun s => [(4, True, exP (.int .i64 s.2)), (12, True, exP (.int .i64 ((s.1 : Nat) : Int)))]) (fun s => []) (fun s => s.1 ≤ l.length ∧ (∀ j, j < s.1 → l.getD j 0 ≠ x) ∧ FS l x s.1 s.2) (fun s => l.length - s.1) ((0, -1)) (tk 0 rfl (tk 3 rfl (tk 10 rfl (tk 11 rfl tn)))) ?_ rfl (⟨by simp, by simp, .inl ⟨rfl, by simp⟩⟩) (fun s hJ Y _ => ?_)
 refine tc rfl (zZ _) (tc rfl (zZ _) (tn))
 rotate_left 1
 obtain ⟨i, a⟩ := s
 dsimp only at hJ ⊢
 obtain ⟨hi, hs, hF⟩ := hJ
 refine zI (zJ rfl (mP (olt rfl rfl) (mO (zI ?_))))
 refine jD rfl (fun c0 => ?_) (fun c0 => ?_)
 refine yQ (zI (yF (zI (zJ rfl (mP (omv rfl) (mP (oix _ rfl rfl rfl (fun _ => rfl) (fun _ => (by (have e0 := dt c0; omega)))) (mP (old rfl rfl) (tal fun b8 => (mP (oas rfl) ?_)))))))))
 refine tst 0 rfl rfl rfl rfl rfl rfl (uP (uF (s := 8) 0 rfl rfl) (mO (zI (zI (zJ rfl (mP (old rfl rfl) (mP (old rfl rfl) (mP (oca rfl rfl fun _ => eQ (by omega) (by omega)) (mP (oas rfl) ?_)))))))))
 refine mO (yF (zI (zJ rfl (mP (omv rfl) (mP (oeq rfl rfl) (mP (oas rfl) (mO ?_)))))))
 refine jD rfl (fun c1 => ?_) (fun c1 => ?_)
 refine zI (zJ rfl (mP (omv rfl) (mP (oas rfl) (mP (oas rfl) (mP (oas rfl) (mO (yJ (⟨[_, _, _], rst rfl (rst rfl (rst rfl rs0)), ?_⟩))))))))
 rotate_left 1
 refine zI (xK 24 mixed rfl rfl (d1 (omv rfl) (d1 (oge rfl rfl) (d1 (omv rfl) (d1g rfl rfl (omv rfl) (d1g rfl rfl (oad rfl rfl (by omega)) (d1g rfl rfl (omv rfl) (d1g rfl rfl (oln rfl) (d1g rfl rfl (oge rfl rfl) ?_)))))))))
 refine d1 (opk rfl rfl rfl) (d1 (omv rfl) (d1g rfl rfl (omv rfl) (d1g rfl rfl (ogt rfl rfl) (d1 (opk rfl rfl rfl) (d1 (omv rfl) (d1g rfl rfl (old rfl rfl) (d1g rfl rfl (omv rfl) (d1g rfl rfl (omv rfl) (d1g rfl rfl (oad rfl rfl (by omega)) ?_)))))))))
 refine d1g rfl rfl (oix _ rfl rfl rfl (fun g => rfl) (fun g => ?_)) ?_
 rotate_left 1
 refine d1g rfl rfl (old rfl rfl) (d1g rfl rfl (oca rfl rfl fun g => eQ (by omega) (by omega)) (d1g rfl rfl (oge rfl rfl) (d1 (opk rfl rfl rfl) (d1 (oas rfl) (d0 (mO ?_))))))
 refine jD rfl (fun c2 => ?_) (fun c2 => ?_)
 refine jO (zJ rfl (mP (oad rfl rfl (by omega)) (mP (omv rfl) (mO ?_))))
 rotate_left 1
 refine yQ (zJ rfl (mP (omv rfl) (mP (oas rfl) (mO (zJ rfl (mP (oad rfl rfl (by omega)) (mP (omv rfl) (mO ?_))))))))
 rotate_left 1
 refine jO (zI (zI (zJ rfl (mP (omv rfl) (mP (olt rfl rfl) (mO ?_))))))
 refine jD rfl (fun c3 => ?_) (fun c3 => ?_)
 refine zI (zJ rfl (mP (oas rfl) (mP (oas rfl) (mP (oas rfl) (mO (yJ (⟨[_, _, _], rst rfl (rst rfl (rst rfl rs0)), ?_⟩)))))))
 rotate_left 1
 refine yQ (zI (zJ rfl (mP (omv rfl) (mP (oas rfl) (mP (oas rfl) (mP (oas rfl) (mO (yJ (⟨[_, _, _], rst rfl (rst rfl (rst rfl rs0)), ?_⟩)))))))))
 rotate_left 1
 ·unfold fnd; rw [fs_wall (by have := dt c0; omega) (qI.1 (dt c1)) hs]; exact tup3
 ·have := g.2
  simp only [Bool.or_eq_false_iff, decide_eq_false_iff_not] at this
  change i + 1 < l.length
  omega
 ·have h0 := dt c0
  have h1 := c2.h
  simp only [Bool.or_eq_true, decide_eq_true_eq] at h1
  refine ⟨(i + 1, a), tes ?_ ?_ (List.Sublist.refl _), ?_, (by omega)⟩
  refine tc rfl (zZ _) (tc rfl (zZ _) (tn))
  refine tc rfl (zZ _) (tc rfl (zZ _) (tc rfl (zZ _) (tc rfl (zZ _) (tn))))
  rotate_left 1
  refine ⟨by omega, ne_step hs fun e => df c1 (qI.2 e), fs_next hF ?_⟩
  rcases h1 with ((h1 | h1) | h1) | h1
  ·exact .inl h1
  ·exact .inr fun c => by have := (bP.1 c).1; omega
  ·refine .inr fun c => ?_
   have := (bP.1 c).2.1
   rw [← qL] at this
   change 0 < qB (l.getD i 0) x at h1
   omega
  ·refine .inr fun c => ?_
   have := (bP.1 c).2.2
   rw [← qL] at this
   change 0 ≤ qB x (l.getD (i + 1) 0) at h1
   omega
 ·have h0 := dt c0
  have h1 := c2.h
  simp only [Bool.or_eq_false_iff, decide_eq_false_iff_not] at h1
  obtain ⟨⟨⟨h1, h2⟩, h3⟩, h4⟩ := h1
  refine ⟨(i + 1, (i : Int)), tes ?_ ?_ (List.Sublist.refl _), ?_, (by omega)⟩
  refine tc rfl (zZ _) (tc rfl (zZ _) (tn))
  refine tc rfl (zZ _) (tc rfl (zZ _) (tc rfl (zZ _) (tc rfl (zZ _) (tn))))
  rotate_left 1
  have hne : l.getD i 0 ≠ x := fun e => df c1 (qI.2 e)
  refine ⟨by omega, ne_step hs hne, fs_hit hF h1 (bP.2 ⟨by omega, ?_, ?_⟩)⟩
  ·rw [← qL]
   have : qB (l.getD i 0) x ≠ 0 := fun e => hne (qI.1 e)
   change ¬ 0 < qB (l.getD i 0) x at h3
   omega
  ·rw [← qL]
   change ¬ 0 ≤ qB x (l.getD (i + 1) 0) at h4
   omega
 ·have hi2 : i = l.length := by have := df c0; omega
  subst hi2
  unfold fnd; rw [fs_none hF (dt c3) hs]; exact tup3
 ·have hi2 : i = l.length := by have := df c0; omega
  subst hi2
  obtain ⟨k, rfl, e⟩ := fs_slab hF (df c3) hs
  unfold fnd; rw [e]; exact tup3
theorem wmids {l : List Rat} {n : Nat} (hn : n ≤ 298) (hl : l.length ≤ 1000000) (hp : ∀ i, i + 1 < l.length → 0 < l.getD (i + 1) 0) : CTy prog 18 [sv (sl 3 (l.map (rtq n)))] (sv (sl 3 ((aD l).map (rtc (4 * n + 50))))) := by
 refine ctc func18 rfl rfl rfl rfl fun X => (zI (zJ rfl (mP (oas rfl) (mO (zI (zI (zJ rfl (mP (omv rfl) (mP (oln rfl) ?_)))))))))
 refine mP (osb rfl rfl (by omega)) (mP (omx rfl rfl) (mP (omv rfl) (mO (yF ?_))))
 rotate_left 1
 refine cL (fF 33 3) ?_
 refine jV (σ := Nat × Value) (fun s => [(2, True, exP s.2), (10, True, exP (.int .i64 ((s.1 : Nat) : Int)))]) (fun s => [.row s.2 33 3 (((aD l).take s.1).map (rtc (4 * n + 50)))]) (fun s => s.1 ≤ l.length - 1) (fun s => l.length - s.1) ((0, .slice none 0 0)) (tk 0 rfl (tk 9 rfl tn)) ?_ rfl ((by simp)) (fun s hJ Y _ => ?_)
 refine tc rfl (zZ _) (tc rfl (zZ _) (tn))
 rotate_left 1
 refine zI (zJ rfl (mP (olt rfl rfl) (mO (zI ?_))))
 refine jD rfl (fun c0 => ?_) (fun c0 => ?_)
 refine yQ (zI (yF (zI (zJ rfl (mP (omv rfl) (mP (oas rfl) (mO (zI ?_))))))))
 apply t_drawS 1 16 14 [(13, 4, 0), (14, 1000014, 0)] rfl rfl mixed rfl rfl rfl
 refine cx1 (omv rfl) rfl (cx1 (omv rfl) rfl (cx1 (oix _ rfl rfl rfl (fun _ => rfl) (fun _ => (by (have e0 := dt c0; omega)))) rfl (cx1 (old rfl rfl) rfl (cx1 (omv rfl) rfl (cx1 (omv rfl) rfl (cx1 (oad rfl rfl (by omega)) rfl (cx1 (oix _ rfl rfl rfl (fun _ => rfl) (fun _ => (by (have e0 := dt c0; simp; omega)))) rfl (cx1 (old rfl rfl) rfl (cx1 (oca rfl rfl fun _ => kbetw (K := 4 * n + 50) (by omega) (by omega) (by omega) (hp _ (by have := dt c0; omega))) rfl ?_)))))))))
 refine cx1 (omv rfl) rfl (cx1 (oex rfl rfl) rfl (cx1 (oex rfl rfl) rfl (cN rfl rfl (cal) (cS rfl rfl rfl (cst rfl rfl rfl) (cx1 (oas rfl) rfl ?_)))))
 refine cE (fun b4 => ?_)
 refine mO (zI (zI (zJ rfl (mP (omv rfl) (mP (ont rfl) (mO ?_))))))
 refine jD rfl (fun c1 => ?_) (fun c1 => ?_)
 refine zJ rfl (mP (oca rfl rfl fun _ => krofM (k := 0) (K := 4 * n + 50) (by omega) (by omega)) (tst 0 rfl rfl rfl rfl rfl rfl (mO (zJ rfl (mP (omv rfl) (mP (gC 0 rfl rfl rfl rfl) (mP (obs rfl rfl rfl rfl rfl rfl) (tap 1 rfl rfl rfl (by (simp; omega)) rfl fun r32 => (mP (oas rfl) ?_)))))))))
 refine mO (zJ rfl (mP (oad rfl rfl (by omega)) (mP (omv rfl) (mO ?_))))
 rotate_left 1
 refine yQ (zJ rfl (mP (omv rfl) (mP (gC 0 rfl rfl rfl rfl) (mP (obs rfl rfl rfl rfl rfl rfl) (tap 1 rfl rfl rfl (by (simp; omega)) rfl fun r32 => (mP (oas rfl) (mO (zJ rfl (mP (oad rfl rfl (by omega)) ?_)))))))))
 refine mP (omv rfl) (mO ?_)
 rotate_left 1
 refine jO (zI (zJ rfl (mP (omv rfl) (mP (oas rfl) (mO (cL (fG (s := 2) 0 rfl rfl) (yJ (⟨[_], rst rfl rs0, yX ?_⟩))))))))
 rotate_left 1
 ·have h0 := dt c0
  have h1 : ¬ l.getD s.1 0 < l.getD (s.1 + 1) 0 := of_decide_eq_false (by have := c1.h; rw [Bool.not_eq_true'] at this; exact this)
  refine ⟨(s.1 + 1, r32), tes ?_ ?_ ?_, (by omega), (by omega)⟩
  refine tc rfl (zZ _) (tc rfl (zZ _) (tn))
  refine tc rfl (zZ _) (tc rfl (zZ _) (tn))
  rotate_left 1
  rw [(xR (Df.d : Rat) (l := aD l) (s := s.1) (by rw [midsQ_len]; omega)).1]
  rw [show (aD l).getD s.1 Df.d = ((0 : Nat) : Rat) by rw [show (aD l).getD s.1 Df.d = cK (l.getD s.1 0) (l.getD (s.1 + 1) 0) from midsQ_getD (by omega)]; unfold cK; rw [if_neg h1]; rfl, List.map_append]
  exact List.sublist_cons_self _ _
 ·have h0 := dt c0
  refine ⟨(s.1 + 1, r32), tes ?_ ?_ ?_, (by omega), (by omega)⟩
  refine tc rfl (zZ _) (tc rfl (zZ _) (tn))
  refine tc rfl (zZ _) (tc rfl (zZ _) (tn))
  rotate_left 1
  rw [(xR (Df.d : Rat) (l := aD l) (s := s.1) (by rw [midsQ_len]; omega)).1]
  rw [show (aD l).getD s.1 Df.d = cK (l.getD s.1 0) (l.getD (s.1 + 1) 0) from midsQ_getD (by omega), List.map_append]
  exact List.sublist_cons_self _ _
 ·have h0 := df c0
  rw [List.take_of_length_le (by rw [midsQ_len]; omega)]
  exact PSub.refl _
section
variable {Ψ Φ : PV} {n m : Nat} {x : Rat} {l : List Rat}
theorem kcrises [h : VQ Ψ n l] (hn : n ≤ 90000) (hl : l.length ≤ 1000000) : CTy prog 19 [Ψ] (exP (.bool (decide (iH l)))) := qG (wcrises hn hl) (fs1 mJ fs0)
theorem kcfind [h : VQ Ψ n l] [k : QR Φ m x] (hn : n ≤ 90000) (hm : m ≤ 90000) (hl : l.length ≤ 1000000) : CTy prog 20 [Ψ, Φ] (fnd l x) := qG (wcfind hn hm hl) (fs1 mJ (fs1 fJ fs0))
theorem kmids [h : VQ Ψ n l] (hn : n ≤ 298) (hl : l.length ≤ 1000000) (hp : ∀ i, i + 1 < l.length → 0 < l.getD (i + 1) 0) : CTy prog 18 [Ψ] (sv (sl 3 ((aD l).map (rtc (4 * n + 50))))) := qG (wmids hn hl hp) (fs1 mJ fs0)
end
abbrev ntl (l : List Nat) : List Rat := l.map fun k => ((k : Nat) : Rat)
theorem k22of {l : List Nat} (hl : l.length ≤ 1000000) (hb : ∀ k ∈ l, k < 9223372036854775808) : CTy prog 75 [sv (sl 1 (l.map fun k => xc (.int .i64 ((k : Nat) : Int))))] (sv (sl 3 ((ntl l).map (rtc 2)))) := by
 refine ctc func75 rfl rfl rfl rfl fun X => (zI (zJ rfl (mP (oas rfl) (mO (zI (zJ rfl (mP (oas rfl) (mO (zI ?_)))))))))
 refine zI (zJ rfl (mP (oas rfl) (mO (yF ?_))))
 rotate_left 1
 refine cL (fF 33 3) ?_
 refine jV (σ := Nat × Value) (fun s => [(3, True, exP s.2), (4, True, exP (.int .i64 ((s.1 : Nat) : Int)))]) (fun s => [.row s.2 33 3 ((ntl (l.take s.1)).map (rtc 2))]) (fun s => s.1 ≤ l.length) (fun s => l.length - s.1) ((0, .slice none 0 0)) (tk 0 rfl tn) ?_ rfl ((by simp)) (fun s hJ Y _ => ?_)
 refine tc rfl (zZ _) (tc rfl (zZ _) (tn))
 rotate_left 1
 refine zI (zI (zJ rfl (mP (omv rfl) (mP (omv rfl) (mP (oln rfl) (mP (olt rfl rfl) (mO ?_)))))))
 refine jD rfl (fun c0 => ?_) (fun c0 => ?_)
 refine yQ (zI (yF (zJ rfl (mP (omv rfl) (mP (omv rfl) (mP (omv rfl) (mP (oix _ rfl rfl rfl (fun _ => rfl) (fun _ => (by (have e0 := dt c0; omega)))) (mP (old rfl rfl) ?_))))))))
 refine mP (oca rfl rfl fun _ => lX (k := l.getD s.1 Df.d) ?_) ?_
 rotate_left 1
 refine mP (obs rfl rfl rfl rfl rfl rfl) (tap 0 rfl rfl rfl (by (simp; omega)) rfl fun r18 => (mP (oas rfl) (mO (zJ rfl (mP (omv rfl) (mP (oad rfl rfl (by omega)) (mP (oas rfl) (mO ?_))))))))
 rotate_left 1
 refine jO (zI (zJ rfl (mP (omv rfl) (mP (oas rfl) (mO (cL (fG (s := 2) 0 rfl rfl) (yJ (⟨[_], rst rfl rs0, yX ?_⟩))))))))
 rotate_left 1
 ·exact hb _ (by rw [List.getD_eq_getElem?_getD, List.getElem?_eq_getElem (show s.1 < l.length by have := dt c0; omega)]; exact List.getElem_mem _)
 ·refine ⟨(s.1 + 1, r18), tes ?_ ?_ ?_, (by (have e0 := dt c0; omega)), (by (have e0 := dt c0; omega))⟩
  refine tc rfl (zZ _) (tc rfl (zZ _) (tn))
  refine tc rfl (zZ _) (tn)
  rotate_left 1
  rw [(xR (Df.d : Nat) (show s.1 < l.length by have := dt c0; omega)).1, ntl, List.map_append, List.map_append]
  exact List.Sublist.refl _
 ·have h0 := df c0
  rw [List.take_of_length_le (by omega)]
  exact PSub.refl _
theorem kwakes22 : CTy prog 17 [] (exP (.bool true)) := by
 have e0 : dD (ntl [0, 1, 3]) ((1 : Nat) : Rat) = (1, true, true) := by decide
 have e1 : dD (ntl [0, 1, 3]) ((2 : Nat) : Rat) = (1, false, true) := by decide
 have e2 : (aD (ntl [0, 1, 3])).length = 2 := by decide
 have e3 : qB ((aD (ntl [0, 1, 3])).getD 1 Df.d) ((2 : Nat) : Rat) = 0 := by decide +kernel
 have e4 : iH (ntl [0, 1, 3]) := by decide
 have e5 : qB ((aD (ntl [0, 1, 3])).getD 0 Df.d + (aD (ntl [0, 1, 3])).getD 0 Df.d) ((1 : Nat) : Rat) = 0 := by decide +kernel
 have e6 : ∀ i, i + 1 < (ntl [0, 1, 3]).length → 0 < (ntl [0, 1, 3]).getD (i + 1) 0
  | 0, _ => by decide
  | 1, _ => by decide
  | i + 2, h => by simp at h; omega
 refine ctc func17 rfl rfl rfl rfl fun X => (zI (zJ rfl (mP (oas rfl) (mO (zI (zJ rfl (mP (obs rfl rfl rfl rfl rfl rfl) (mP (oca rfl rfl fun _ => k22of (l := [0, 1, 3]) (by (simp; done)) (by (simp; done))) (mP (oas rfl) ?_)))))))))
 refine mO (zI (zJ rfl (mP (omv rfl) (mP (oca rfl rfl fun _ => lX (by (simp; done))) (mP (oca rfl rfl fun _ => kcfind (by omega) (by omega) (by (simp; done))) (mP (omv rfl) (mP (oex rfl rfl) (mP (oex rfl rfl) (mP (oex rfl rfl) ?_)))))))))
 refine mP (oas rfl) (mP (oas rfl) (mP (oas rfl) (mO (zI (zJ rfl (mP (omv rfl) (mP (oca rfl rfl fun _ => lX (by (simp; done))) (mP (oca rfl rfl fun _ => kcfind (by omega) (by omega) (by (simp; done))) (mP (omv rfl) ?_)))))))))
 refine mP (oex rfl rfl) (mP (oex rfl rfl) (mP (oex rfl rfl) (mP (oas rfl) (mP (oas rfl) (mP (oas rfl) (mO (zI (zJ rfl (mP (omv rfl) ?_)))))))))
 refine mP (oca rfl rfl fun _ => kmids (by omega) (by (simp; done)) e6) (mP (oas rfl) (mO (zI (xK 48 mixed rfl rfl (d1 (omv rfl) (d1 (oeq rfl rfl) (d1 (omv rfl) (d1g rfl rfl (omv rfl) (d1 (opk rfl rfl rfl) ?_)))))))))
 refine d1 (omv rfl) (d1g rfl rfl (omv rfl) (d1 (opk rfl rfl rfl) (d1 (omv rfl) (d1g rfl rfl (omv rfl) (d1g rfl rfl (oeq rfl rfl) (d1 (opk rfl rfl rfl) (d1 (omv rfl) (d1g rfl rfl (omv rfl) (d1g rfl rfl (ont rfl) ?_)))))))))
 refine d1 (opk rfl rfl rfl) (d1 (omv rfl) (d1g rfl rfl (omv rfl) (d1 (opk rfl rfl rfl) (d1 (omv rfl) (d1g rfl rfl (omv rfl) (d1g rfl rfl (oln rfl) (d1g rfl rfl (oeq rfl rfl) (d1 (opk rfl rfl rfl) (d1 (omv rfl) ?_)))))))))
 refine d1g rfl rfl (omv rfl) (d1g rfl rfl (oix _ rfl rfl rfl (fun g => rfl) (fun g => (by (simp only [iY]; omega)))) (d1g rfl rfl (old rfl rfl) (d1g rfl rfl (oca rfl rfl fun g => lX (by (simp; done))) (d1g rfl rfl (oca rfl rfl fun g => k7same (by omega) (by omega)) (d1 (opk rfl rfl rfl) (d1 (omv rfl) (d1g rfl rfl (omv rfl) (d1g rfl rfl (oca rfl rfl fun g => kcrises (by omega) (by (simp; done))) (d1 (opk rfl rfl rfl) ?_)))))))))
 refine d1 (omv rfl) (d1g rfl rfl (omv rfl) (d1g rfl rfl (oix _ rfl rfl rfl (fun g => rfl) (fun g => (by (simp only [iY]; omega)))) (d1g rfl rfl (old rfl rfl) (d1g rfl rfl (omv rfl) (d1g rfl rfl (oix _ rfl rfl rfl (fun g => rfl) (fun g => (by (simp only [iY]; omega)))) (d1g rfl rfl (old rfl rfl) (d1g rfl rfl (obs rfl rfl rfl rfl rfl rfl) (d1g rfl rfl (oca rfl rfl fun g => k7add (by omega)) (d1g rfl rfl (oca rfl rfl fun g => lX (by (simp; done))) ?_)))))))))
 refine d1g rfl rfl (oca rfl rfl fun g => k7same (by omega) (by omega)) (d1 (opk rfl rfl rfl) (d1 (oas rfl) (d0 (mO (yJ (⟨[_], rst rfl rs0, yX ?_⟩))))))
 refine psb ?_
 rotate_left 1
 rw [e0, e1, e2, e3, e5, decide_eq_true e4]; rfl
end Go.Proofs.YtfkejnlohkgbgaaGreatDoor
set_option maxHeartbeats 4000000
namespace Go.Proofs.YtfkejnlohkgbgaaGreatDoor
open Go.SL Go.RowKit Go.Proofs Tryz
instance : Df (List P2) := ⟨[]⟩
def gQ (ls : List (List P2)) (i : Nat) : List (List P2 × List P2) := (List.range i).flatMap fun k => (ls.take k).map fun p => (p, ls.getD k [])
def xE (ls : List (List P2)) : List (List P2 × List P2) := gQ ls ls.length
theorem pairs_next {ls : List (List P2)} {i : Nat} : gQ ls (i + 1) = gQ ls i ++ (ls.take i).map fun p => (p, ls.getD i []) := by
 unfold gQ; rw [List.range_succ, List.flatMap_append]; simp
theorem pairs_to {ls : List (List P2)} {i : Nat} : ∀ {k : Nat}, ∃ post, gQ ls (i + k) = gQ ls i ++ post
 | 0 => ⟨[], by simp⟩
 | k + 1 => let ⟨p, h⟩ := @pairs_to ls i k; ⟨p ++ (ls.take (i + k)).map fun p => (p, ls.getD (i + k) []), by rw [← Nat.add_assoc, pairs_next, h, List.append_assoc]⟩
theorem pairs_at {ls : List (List P2)} {i j : Nat} (hi : i < ls.length) (hj : j < i) : ∃ post, xE ls = (gQ ls i ++ ((ls.take i).take j).map fun p => (p, ls.getD i [])) ++ (((ls.take i).getD j []), ls.getD i []) :: post := by
 obtain ⟨p, h⟩ := @pairs_to ls (i + 1) (ls.length - (i + 1))
 have e : i + 1 + (ls.length - (i + 1)) = ls.length := by omega
 rw [e] at h
 have hj2 : j < (ls.take i).length := by simp; omega
 refine ⟨((ls.take i).drop (j + 1)).map (fun p => (p, ls.getD i [])) ++ p, ?_⟩
 unfold xE
 rw [h, pairs_next]
 have h2 : ls.take i = (ls.take i).take j ++ (ls.take i).getD j [] :: (ls.take i).drop (j + 1) := by
  rw [List.getD_eq_getElem?_getD, List.getElem?_eq_getElem hj2, Option.getD_some, List.getElem_cons_drop, List.take_append_drop]
 conv => lhs; rw [h2]
 simp [List.map_append, List.append_assoc]
theorem pairs_in {ls : List (List P2)} {i j : Nat} (hj : j < (ls.take i).length) : ((ls.take i).take (j + 1)).map (fun p => (p, ls.getD i [])) = ((ls.take i).take j).map (fun p => (p, ls.getD i [])) ++ [((ls.take i).getD j [], ls.getD i [])] := by
 rw [List.take_succ_eq_append_getElem hj]; simp [List.getElem?_eq_getElem hj]
theorem ipairs {ls : List (List P2)} {n : Nat} (hl : ls.length ≤ 1000000) : CIt prog 183 [pa (sl 1 (ls.map (pcs n)))] (xE ls) (fun x => [sv (pcs n x.1), sv (pcs n x.2)]) := by
 refine cit func183 rfl rfl rfl rfl rfl fun X y YS YX hY hS => (zI (zJ rfl (mP (old rfl rfl) (mP (oln rfl) (mP (omv rfl) (mO (yF ?_)))))))
 rotate_left 1
 refine cV (σ := Nat) (fun i => [(9, True, exP (.int .i64 ((i : Nat) : Int)))]) (fun i => []) (fun i Y => YS (gQ ls i) Y ∧ i ≤ ls.length) (fun i => ls.length - i) (0) (tk 0 rfl (tk 1 rfl (tk 7 rfl (tk 8 rfl tn)))) ?_ rfl (⟨hS, by omega⟩) (fun i Y hG => ?_)
 refine tc rfl (zZ _) (tn)
 rotate_left 1
 obtain ⟨hS, hi⟩ := hG
 refine zI (zJ rfl (mP (olt rfl rfl) (mO (zI ?_))))
 refine jD rfl (fun c0 => ?_) (fun c0 => ?_)
 refine yQ (zI (yF (zI (zJ rfl (mP (omv rfl) (mP (oix _ rfl rfl rfl (fun _ => rfl) (fun _ => (by (have e0 := dt c0; omega)))) (mP (old rfl rfl) (mP (oas rfl) (mP (oas rfl) ?_)))))))))
 refine mO (zI (zJ rfl (mP (old rfl rfl) (mP (omv rfl) (mP (osl 0 _ rfl rfl ⟨_, _, _, _, rfl, fun _ => trivial, inferInstance, fun _ => rfl⟩ (fun _ => (by omega)) (fun _ => (by (simp; omega)))) (mP (oln rfl) (mP (omv rfl) (mO (yF ?_)))))))))
 rotate_left 1
 refine jO ?_
 rotate_left 1
 ·have hi' := dt c0
  refine cV (σ := Nat) (fun j => [(18, True, exP (.int .i64 ((j : Nat) : Int)))]) (fun j => []) (fun j Y => YS (gQ ls i ++ ((ls.take i).take j).map fun p => (p, ls.getD i [])) Y ∧ j ≤ (ls.take i).length) (fun j => (ls.take i).length - j) (0) (tk 0 rfl (tk 1 rfl (tk 4 rfl (tk 7 rfl (tk 8 rfl (tk 9 rfl (tk 16 rfl (tk 17 rfl tn)))))))) ?_ rfl (⟨by simpa using hS, by omega⟩) (fun j Y hG => ?_)
  refine tc rfl (zZ _) (tn)
  rotate_left 1
  obtain ⟨hS, hj⟩ := hG
  refine zI (zJ rfl (mP (olt rfl rfl) (mO (zI ?_))))
  refine jD rfl (fun c1 => ?_) (fun c1 => ?_)
  refine yQ (zI (yF (zI (zJ rfl (mP (oix _ rfl rfl rfl (fun _ => rfl) (fun _ => (by (have e0 := dt c1; omega)))) (mP (old rfl rfl) (mP (oas rfl) (mO (zI ?_)))))))))
  refine zJ rfl (mP (omv rfl) (mP (omv rfl) (mP (omv rfl) ?_)))
  rotate_left 1
  refine jO (zJ rfl (mP (oad rfl rfl (by omega)) (mP (omv rfl) (mO ?_))))
  rotate_left 1
  ·obtain ⟨post, hx⟩ := pairs_at (ls := ls) (i := i) (j := j) (by omega) (by have := dt c1; simp at this; omega)
   refine t_yield hY hS hx rfl rfl (fun _ _ _ h => h) (fun Y hS => ?_) (fun Y hX => ?_)
   ·have hj2 : j < (ls.take i).length := by have := dt c1; simp at this ⊢; omega
    have hj3 : (ls.take i).length ≤ ls.length := by simp; omega
    refine mP (ont rfl) (mO (t_iff rfl rfl (yQ (zJ rfl (mP (oad rfl rfl (by omega)) (mP (omv rfl) (mO ?_)))))))
    rotate_left 1
    refine ⟨j + 1, tes ?_ ?_ (List.Sublist.refl _), ?_, (by omega)⟩
    refine tc rfl (zZ _) (tn)
    refine tc rfl (zZ _) (tc rfl (zZ _) (tc rfl (zZ _) (tc rfl (zZ _) (tc rfl (zZ _) (tc rfl (zZ _) (tc rfl (zZ _) (tc rfl (zZ _) (tn))))))))
    rotate_left 1
    exact ⟨by rw [pairs_in hj2, ← List.append_assoc]; exact hS, by omega⟩
   ·refine mP (ont rfl) (mO (t_ift rfl rfl (yJ ?_)))
    rotate_left 1
    exact .inr hX
  ·have hj2 : j = (ls.take i).length := by have := df c1; simp at this hj ⊢; omega
   refine ⟨i + 1, tes ?_ ?_ (List.Sublist.refl _), ?_, (by omega)⟩
   refine tc rfl (zZ _) (tn)
   refine tc rfl (zZ _) (tc rfl (zZ _) (tc rfl (zZ _) (tc rfl (zZ _) (tn))))
   rotate_left 1
   exact ⟨by rw [pairs_next]; rw [hj2, List.take_length] at hS; exact hS, by omega⟩
 ·have : i = ls.length := by have := df c0; omega
  subst this; exact .inl hS
theorem kpairs {ls : List (List P2)} {n : Nat} : CTy prog 128 [sv (sl 1 (ls.map (pcs n)))] (fn 183 [pa (sl 1 (ls.map (pcs n)))]) := by
 refine ctc func128 rfl rfl rfl rfl fun X => (zI (zJ rfl (mP (obx rfl) (mP (oas rfl) (mO (zI (zJ rfl (mP (omf rfl) (mP (oas rfl) ?_)))))))))
 refine mO (yJ (⟨[_], rst rfl rs0, yX (PSub.refl _)⟩))
theorem kcsame {p q : Rat} {n m : Nat} (hn : n ≤ 90000) (hm : m ≤ 90000) : CTy prog 131 [ag (rtq n p), ag (rtq m q)] (exP (.bool (decide (qB p q = 0)))) := by
 refine ctc func131 rfl rfl rfl rfl fun X => (zI (zJ rfl (mP (obx rfl) (mP (obx rfl) (mP (oas rfl) (mO (zI (zJ rfl (mP (old rfl rfl) ?_)))))))))
 refine mP (old rfl rfl) (mP (oca rfl rfl fun _ => eQ (by omega) (by omega)) (mP (oeq rfl rfl) (mP (oas rfl) (mO (yJ (⟨[_], rst rfl rs0, yX (PSub.refl _)⟩))))))
theorem call1 {ps : List P2} {n m : Nat} {xs : List Rat} {v : Value} {bx : Nat} (hn : n + 1 ≤ m) (hm : m ≤ 90000) (hl : xs.length + ps.length ≤ 100000) : CTo prog 127 [sv (pcs n ps), exP (.pointer (some ⟨bx, 0, none⟩))] [.blk bx 22 [xc v], .row v 33 3 (xs.map (rtc m))] (fun ρ So => ρ = tu [] ∧ ∃ v', So = [.blk bx 22 [xc v'], .row v' 33 3 ((xs ++ ps.map (·.1)).map (rtc m))]) := by
 refine ctd func127 rfl rfl rfl rfl (fun _ _ _ _ _ _ _ hs hp => fI hs hp) fun X => (zI (zJ rfl (mP (omv rfl) (mP (oln rfl) (mP (omv rfl) (mO (yF ?_)))))))
 rotate_left 1
 refine jV (σ := Nat × Value) (fun s => [(7, True, exP (.int .i64 ((s.1 : Nat) : Int)))]) (fun s => [.blk bx 22 [xc s.2], .row s.2 33 3 ((xs ++ (ps.take s.1).map (·.1)).map (rtc m))]) (fun s => s.1 ≤ ps.length) (fun s => ps.length - s.1) ((0, v)) (tk 1 rfl (tk 5 rfl (tk 6 rfl tn))) ?_ (by (simp; done)) ((by simp)) (fun s hJ Y _ => ?_)
 refine tc rfl (zZ _) (tn)
 rotate_left 1
 refine zI (zJ rfl (mP (olt rfl rfl) (mO (zI ?_))))
 refine jD rfl (fun c0 => ?_) (fun c0 => ?_)
 refine yQ (zI (yF (zI (zJ rfl (mP (oix _ rfl rfl rfl (fun _ => rfl) (fun _ => (by (have e0 := dt c0; omega)))) (mP (old rfl rfl) (tal fun b4 => (tst 0 rfl rfl rfl rfl rfl rfl (uP (uF (s := 4) 0 rfl rfl) ?_)))))))))
 refine mO (xK 5 mixed rfl rfl (d1 (gC 0 rfl rfl rfl rfl) (d1 (ofa rfl rfl) (d1 (old rfl rfl) (d1 (oca rfl rfl fun _ => krnormM (m := m) (by omega) (by omega)) (d1 (obs rfl rfl rfl rfl rfl rfl) (d0 (tap 1 rfl rfl rfl (by (simp; omega)) rfl fun r16 => (tsw 0 1 rfl rfl rfl rfl rfl rfl rfl ?_)))))))))
 refine mO (zJ rfl (mP (oad rfl rfl (by omega)) (mP (omv rfl) (mO ?_))))
 rotate_left 1
 refine jO ?_
 rotate_left 1
 ·refine ⟨(s.1 + 1, r16), tes ?_ ?_ ?_, (by (have e0 := dt c0; omega)), (by (have e0 := dt c0; omega))⟩
  refine tc rfl (zZ _) (tn)
  refine tc rfl (zZ _) (tc rfl (zZ _) (tc rfl (zZ _) (tn)))
  rotate_left 1
  simp only [(xR (Df.d : P2) (show s.1 < ps.length by have := dt c0; omega)).1, List.map_append, ← List.append_assoc]
  exact List.Sublist.refl _
 ·have hs : s.1 = ps.length := by have := df c0; omega
  refine ⟨[], tu [], _, rs0, List.Sublist.refl _, ⟨rfl, s.2, ?_⟩, nil_r⟩
  rw [hs, List.take_length]
end Go.Proofs.YtfkejnlohkgbgaaGreatDoor
set_option maxHeartbeats 4000000
namespace Go.Proofs.YtfkejnlohkgbgaaGreatDoor
open Go.SL Go.RowKit Go.Proofs Tryz
theorem kcsameG {Ψ Φ : PV} {p q : Rat} {n m : Nat} [h : QR Ψ n p] [k : QR Φ m q] (hn : n ≤ 90000) (hm : m ≤ 90000) : CTy prog 131 [Ψ, Φ] (exP (.bool (decide (qB p q = 0)))) := qG (kcsame hn hm) (fs1 fJ (fs1 fJ fs0))
abbrev eqR (a b : Rat) : Bool := decide (qB a b = 0)
theorem wcompactR {v : Value} {l : List Rat} {m : Nat} (hm : m ≤ 80000) (hl : l.length ≤ 100000) : CTo prog 130 [exP v, exP (.func (.func 131) #[] #[])] [.row v 33 3 (l.map (rtc m))] (fun ρ So => ∃ v', ρ = exP v' ∧ So = [.row v' 33 3 ((qQ eqR 0 l l.length).map (rtc m))]) := by
 refine ctd func130 rfl rfl rfl rfl (fun _ _ _ _ _ _ _ hs hp => fI hs hp) fun X => (zI (zJ rfl (mP (oas rfl) (mO (zI (zI (zJ rfl (mP (omv rfl) (mP (olno 0 rfl rfl) ?_)))))))))
 refine mP (olt rfl rfl) (mO ?_)
 refine jD rfl (fun c0 => ?_) (fun c0 => ?_)
 refine zI (zJ rfl (mP (omv rfl) (mP (oas rfl) (mO (yJ ?_)))))
 rotate_left 1
 refine yQ (zI (zI (zJ rfl (mP (oas rfl) (mO (yF ?_))))))
 rotate_left 1
 ·have h2 := dt c0
  exact ⟨[_], exP v, _, rst rfl rs0, List.Sublist.refl _, ⟨v, rfl, by rw [aQ (Nat.le_refl _) fun i h1 h3 => by omega, List.take_length]⟩, yX (PSub.refl _)⟩
 have h2 := df c0
 refine jV (σ := Nat) (fun s => [(5, True, exP (.int .i64 ((s : Nat) : Int)))]) (fun s => [.row v 33 3 (l.map (rtc m))]) (fun s => 1 ≤ s ∧ s ≤ l.length ∧ ∀ i, 0 < i → i < s → eqR (l.getD i 0) (l.getD (i - 1) 0) = false) (fun s => l.length - s) (1) (tk 0 rfl (tk 1 rfl tn)) ?_ rfl (⟨by omega, by omega, fun i h1 h3 => by omega⟩) (fun s hJ Y _ => ?_)
 refine tc rfl (zZ _) (tn)
 rotate_left 1
 obtain ⟨j1, j2, j3⟩ := hJ
 refine zI (zI (zJ rfl (mP (omv rfl) (mP (omv rfl) (mP (olno 0 rfl rfl) (mP (olt rfl rfl) (mO ?_)))))))
 refine jD rfl (fun c1 => ?_) (fun c1 => ?_)
 refine yQ (zI (yF (zI (xK 11 mixed rfl rfl (d1 (omv rfl) (d1 (omv rfl) (d1 (omv rfl) (d1 (mE 0 _ rfl rfl rfl (fun _ => rfl) (fun _ => (by (have e0 := dt c1; simp; omega)))) (d1 (iU 0 rfl rfl (fun _ => (by (have e0 := dt c1; simp; omega))) rfl) ?_)))))))))
 refine d1 (omv rfl) (d1 (omv rfl) (d1 (osb rfl rfl (by omega)) (d1 (mE 0 (s - 1) rfl rfl rfl (fun _ => (by omega)) (fun _ => (by (simp; omega)))) (d1 (iU 0 rfl rfl (fun _ => (by (simp; omega))) rfl) (d1 (oca rfl rfl fun _ => kcsameG (by omega) (by omega)) (d0 (mO ?_)))))))
 refine jD rfl (fun c2 => ?_) (fun c2 => ?_)
 refine zI (zJ rfl (mP (omv rfl) (mP (omv rfl) (mP (osv 0 _ rfl rfl rfl (fun _ => rfl) (fun _ => (by (have e0 := df c0; have e1 := dt c1; have e2 := dt c2; simp; omega)))) (mP (oas rfl) (mO (zI (zI (zJ rfl ?_)))))))))
 refine mP (oas rfl) (mO (yF ?_))
 rotate_left 1
 refine yQ (zJ rfl (mP (omv rfl) (mP (oad rfl rfl (by omega)) (mP (oas rfl) (mO ?_)))))
 rotate_left 1
 refine jO (zI (zJ rfl (mP (omv rfl) (mP (oas rfl) (mO (yJ ?_))))))
 rotate_left 1
 ·have h3 := dt c1
  refine jV (σ := Nat × Nat × List Rat) (fun t => [(5, True, exP (.int .i64 ((t.1 : Nat) : Int))), (7, True, exP (.int .i64 ((t.2.1 : Nat) : Int)))]) (fun t => [.row v 33 3 (t.2.2.map (rtc m))]) (fun t => 1 ≤ t.2.1 ∧ s + t.2.1 ≤ l.length ∧ s ≤ t.1 ∧ t.1 < s + t.2.1 ∧ t.2.2.length = l.length ∧ t.2.2.take t.1 = qQ eqR 0 l (s + t.2.1) ∧ ∀ i, s + t.2.1 ≤ i + 1 → t.2.2.getD i 0 = l.getD i 0) (fun t => l.length - t.2.1) ((s, 1, l)) (tk 0 rfl (tk 1 rfl (tk 6 rfl tn))) ?_ rfl (⟨by simp, by simp only; omega, by simp, by simp, rfl, keepE_same (l := l) (s := s) (by omega) (by omega) j3 c2.h, fun _ _ => rfl⟩) (fun t hJ Y _ => ?_)
  refine tc rfl (zZ _) (tc rfl (zZ _) (tn))
  rotate_left 1
  obtain ⟨kk, m', l2⟩ := t
  dsimp only at hJ ⊢
  obtain ⟨j4, j5, j6, j7, j8, j9, j10⟩ := hJ
  refine zI (zI (zJ rfl (mP (omv rfl) (mP (omv rfl) (mP (olv 0 rfl rfl) (mP (olt rfl rfl) (mO ?_)))))))
  refine jD rfl (fun c3 => ?_) (fun c3 => ?_)
  refine yQ (zI (yF (zI (xK 12 mixed rfl rfl (d1 (omv rfl) (d1 (omv rfl) (d1 (omv rfl) (d1 (mD 0 m' rfl rfl rfl (fun _ => (by omega)) (fun _ => (by (have e0 := dt c3; omega)))) (d1 (iU 0 rfl rfl (fun _ => (by (have e0 := dt c3; omega))) rfl) ?_)))))))))
  refine d1 (omv rfl) (d1 (omv rfl) (d1 (osb rfl rfl (by omega)) (d1 (mD 0 (m' - 1) rfl rfl rfl (fun _ => (by omega)) (fun _ => (by (simp; omega)))) (d1 (iU 0 rfl rfl (fun _ => (by (simp; omega))) rfl) (d1 (oca rfl rfl fun _ => kcsameG (by omega) (by omega)) (d1 (ont rfl) (d0 (mO ?_))))))))
  refine jD rfl (fun c4 => ?_) (fun c4 => ?_)
  refine zI (zJ rfl (mP (omv rfl) (mP (omv rfl) (mP (omv rfl) (mP (omv rfl) (mP (mD 0 m' rfl rfl rfl (fun _ => (by omega)) (fun _ => (by (have e0 := dt c3; omega)))) (mP (iU 0 rfl rfl (fun _ => (by (have e0 := dt c3; omega))) rfl) (mP (mE 0 _ rfl rfl rfl (fun _ => rfl) (fun _ => (by (simp; omega)))) (tsr 0 _ rfl rfl rfl rfl rfl (by (simp; omega)) rfl ?_)))))))))
  refine mO (zJ rfl (mP (omv rfl) (mP (oad rfl rfl (by omega)) (mP (oas rfl) (mO (zJ rfl (mP (omv rfl) (mP (oad rfl rfl (by omega)) (mP (oas rfl) ?_)))))))))
  refine mO ?_
  rotate_left 1
  refine yQ (zJ rfl (mP (omv rfl) (mP (oad rfl rfl (by omega)) (mP (oas rfl) (mO ?_)))))
  rotate_left 1
  refine jO (zI (zJ rfl (mP (omv rfl) (mP (omv rfl) (mP (osv 0 _ rfl rfl rfl (fun _ => rfl) (fun _ => (by (simp; omega)))) (tclr 0 rfl rfl (by (simp; omega)) (mO (zI (zJ rfl ?_)))))))))
  refine mP (omv rfl) (mP (omv rfl) (tsh 0 _ rfl rfl rfl rfl (by (simp; omega)) fun r64 => (mP (oas rfl) (mO (yJ ?_)))))
  rotate_left 1
  ·have h5 : m' < l2.length - s := by have := dt c3; simp at this; omega
   have hd : l2.getD (s + m') 0 = l.getD (s + m') 0 := j10 _ (by omega)
   have hd2 : l2.getD (s + (m' - 1)) 0 = l.getD (s + m' - 1) 0 := by rw [show s + (m' - 1) = s + m' - 1 by omega]; exact j10 _ (by omega)
   have hc : ¬ eqR (l.getD (s + m') 0) (l.getD (s + m' - 1) 0) = true := by rw [← hd, ← hd2, Bool.not_eq_true]; exact (Bool.not_eq_true' _) ▸ c4.h
   refine ⟨(kk + 1, m' + 1, l2.set kk (l2.getD (s + m') 0)), tes ?_ ?_ ?_, ?_, (by (simp; omega))⟩
   refine tc rfl (zZ _) (tc rfl (zZ _) (tn))
   refine tc rfl (zZ _) (tc rfl (zZ _) (tc rfl (zZ _) (tn)))
   rotate_left 1
   rotate_left 1
   ·rw [List.map_set]; exact List.Sublist.refl _
   ·refine ⟨by simp, by simp only; omega, by simp only; omega, by simp only; omega, by simp [j8], ?_, fun i hi => ?_⟩
    ·simp only [← Nat.add_assoc]; rw [hd]; exact keepE_put (by omega) j9 hc
    ·simp only at hi ⊢; rw [getD_set_ne' (by omega)]; exact j10 i (by omega)
  ·have h5 : m' < l2.length - s := by have := dt c3; simp at this; omega
   have hd : l2.getD (s + m') 0 = l.getD (s + m') 0 := j10 _ (by omega)
   have hd2 : l2.getD (s + (m' - 1)) 0 = l.getD (s + m' - 1) 0 := by rw [show s + (m' - 1) = s + m' - 1 by omega]; exact j10 _ (by omega)
   have hc : eqR (l.getD (s + m') 0) (l.getD (s + m' - 1) 0) = true := by rw [← hd, ← hd2]; exact (Bool.not_eq_false' _) ▸ c4.h
   refine ⟨(kk, m' + 1, l2), tes ?_ ?_ (List.Sublist.refl _), ?_, (by (simp; omega))⟩
   refine tc rfl (zZ _) (tc rfl (zZ _) (tn))
   refine tc rfl (zZ _) (tc rfl (zZ _) (tc rfl (zZ _) (tn)))
   rotate_left 1
   exact ⟨by simp, by simp only; omega, j6, by simp only; omega, j8, by simp only [← Nat.add_assoc]; exact keepE_skip (by omega) j9 hc, fun i hi => j10 i (by simp only at hi; omega)⟩
  ·have h5 : ¬ m' < l2.length - s := by have := df c3; simp at this; omega
   have e : s + m' = l.length := by omega
   refine ⟨[_], exP r64, _, rst rfl rs0, List.Sublist.refl _, ⟨r64, rfl, ?_⟩, yX (PSub.refl _)⟩
   rw [← e, ← j9]
   simp [List.take_append, Nat.min_eq_left (show kk ≤ l2.length by omega)]
 ·have h3 := dt c1
  refine ⟨s + 1, tes ?_ ?_ (List.Sublist.refl _), ?_, (by omega)⟩
  refine tc rfl (zZ _) (tn)
  refine tc rfl (zZ _) (tc rfl (zZ _) (tn))
  rotate_left 1
  refine ⟨by omega, by omega, fun i h1 h4 => ?_⟩
  rcases Nat.lt_or_ge i s with h | h
  ·exact j3 i h1 h
  ·obtain rfl : i = s := by omega
   exact c2.h
 ·have h3 := df c1
  exact ⟨[_], exP v, _, rst rfl rs0, List.Sublist.refl _, ⟨v, rfl, by rw [aQ (Nat.le_refl _) fun i h1 h4 => j3 i h1 (by omega), List.take_length]⟩, yX (PSub.refl _)⟩
end Go.Proofs.YtfkejnlohkgbgaaGreatDoor
set_option maxHeartbeats 4000000
namespace Go.Proofs.YtfkejnlohkgbgaaGreatDoor
open Go.SL Go.RowKit Go.Proofs Tryz
theorem iQ : COrd qB := ⟨fun a b => qI, fun a b => by rw [cmpR_gt, qL], fun a b c h k => by rw [qL] at *; grind⟩
theorem ksortR {v : Value} {l : List Rat} {m : Nat} (hm : m ≤ 90000) (hl : l.length ≤ 1000000) : CTo prog 129 [exP v, exP (.func (.func 78) #[] #[])] [.row v 33 3 (l.map (rtc m))] (fun r So => r = tu [] ∧ ∃ l' : List Rat, l'.Perm l ∧ (∀ i j, i < j → j < l'.length → ¬ qB l'[j]! l'[i]! < 0) ∧ So = [.row v 33 3 (l'.map (rtc m))]) :=
 tsort (ρ := sortRat_ren) sortRat rfl eI (qA kH) (fun _ => rfl) iQ.swo (bo func129) (fun x y => eQ hm hm) hl
def dY (ls : List (List P2)) : List Rat := ls.flatMap fun l => l.map (·.1)
noncomputable def meetX (l : List (List P2 × List P2)) : List Rat := l.flatMap fun x => (allOf x.1 x.2).map (·.1)
noncomputable def rawC (ls : List (List P2)) (b : P2 × P2) : List Rat := [b.1.1, b.2.1] ++ dY ls ++ meetX (xE ls)
noncomputable def cutsOf (ls : List (List P2)) (b : P2 × P2) : List Rat := setOf qB (rawC ls b)
theorem cornX_len {ls : List (List P2)} (h6 : ∀ l ∈ ls, l.length ≤ 7) : (dY ls).length ≤ 7 * ls.length := by
 unfold dY
 induction ls with
 | nil => simp
 | cons a l ih =>
  rw [List.flatMap_cons, List.length_append, List.length_map, List.length_cons]
  have := h6 a (by simp); have := ih fun x hx => h6 x (by simp [hx]); omega
theorem pairs_mem {ls : List (List P2)} {i : Nat} {x : List P2 × List P2} (hi : i ≤ ls.length) (h : x ∈ gQ ls i) : x.1 ∈ ls ∧ x.2 ∈ ls := by
 unfold gQ at h
 obtain ⟨k, hk, h⟩ := List.mem_flatMap.1 h
 obtain ⟨p, hp, rfl⟩ := List.mem_map.1 h
 have hk := List.mem_range.1 hk
 exact ⟨List.mem_of_mem_take hp, by simp [List.getElem?_eq_getElem (show k < ls.length by omega)]⟩
theorem pairsTo_len {ls : List (List P2)} : ∀ i, (gQ ls i).length ≤ i * ls.length
 | 0 => by simp [gQ]
 | i + 1 => by
  rw [pairs_next, List.length_append, List.length_map, List.length_take, Nat.succ_mul]
  have := pairsTo_len (ls := ls) i; omega
theorem meetX_len {l : List (List P2 × List P2)} (h : ∀ x ∈ l, x.1.length ≤ 7 ∧ x.2.length ≤ 7) : (meetX l).length ≤ 98 * l.length := by
 unfold meetX
 induction l with
 | nil => simp
 | cons a l ih =>
  rw [List.flatMap_cons, List.length_append, List.length_map, List.length_cons]
  have h1 := allOf_len a.1 a.2
  obtain ⟨h2, h3⟩ := h a (by simp)
  have h4 : 2 * a.2.length * a.1.length ≤ 14 * 7 := Nat.mul_le_mul (by omega) h2
  have := ih fun x hx => h x (by simp [hx]); omega
theorem cto_w {P : Program} {f : FuncId} {τs σs : List PV} {Si : List Ow} {Q : PV → List Ow → Prop} (h : CTo P f σs Si Q) (k : mH τs σs) : CTo P f τs Si Q := ⟨h.bod, fun M w vs a b c d e => h.run M w vs a b c d (k _ _ _ e)⟩
theorem stp_map {α : Type} {f g : α → CT} (h : ∀ a {M w us}, (f a).p M w us → (g a).p M w us) {M : Nat → Prop} {w : World} : ∀ {xs : List α} {us : List Value}, stp (xs.map f) M w us → stp (xs.map g) M w us
 | [], _, e => e
 | a :: xs, _, ⟨x, y, e, h1, h2⟩ => ⟨x, y, e, h a h1, stp_map h h2⟩
theorem ps_row {α : Type} {f g : α → CT} {k : Nat} {xs : List α} (h : ∀ a {M w us}, (f a).p M w us → (g a).p M w us) (hs : ∀ a, (g a).sz = k) : PSub (sv (sl k (xs.map f))) (sv (sl k (xs.map g))) := fun M w v ⟨u, us, e, h1, h2, h3⟩ =>
 ⟨u, us, e, by rw [List.length_map] at h1 ⊢; exact h1, stp_map h h2, fun c hc => by obtain ⟨a, _, rfl⟩ := List.mem_map.1 hc; exact hs a⟩
theorem ptc_q {n : Nat} (a : P2) {M : Nat → Prop} {w : World} {us : List Value} (h : (ptc n a).p M w us) : (ptq n a).p M w us := by
 obtain ⟨s, x, d, t, y, e, rfl, g⟩ := CP.h (c := ptc n a) h
 exact ⟨[.bool s, x, d], [.bool t, y, e], rfl, ⟨s, x, d, rfl, (g.up (m := n) (by simp)).x⟩, [.bool t, y, e], [], rfl, ⟨t, y, e, rfl, (g.up (m := n) (by simp)).y⟩, rfl⟩
theorem kcall {ls : List (List P2)} {n : Nat} {b : P2 × P2} (hn : n ≤ 80) (hl0 : ls.length ≤ 5) (h6 : ∀ l ∈ ls, l.length ≤ 7) : CTy prog 68 [sv (sl 1 (ls.map (pcs n))), ag (st [ptq n b.1, ptq n b.2])] (sv (sl 3 ((cutsOf ls b).map (rtc (32 * n + 81))))) := by
 refine ctc func68 rfl rfl rfl rfl fun X => (zI (zJ rfl (mP (obx rfl) (mP (oas rfl) (mO (zI (t_drawC 2 10 [(8, 19, 0), (9, 5, 1)] rfl rfl mixed rfl rfl (cx1 (ofa rfl rfl) rfl (cx1 (ofa rfl rfl) rfl ?_)))))))))
 refine cx1 (old rfl rfl) rfl (cx1 (oca rfl rfl fun _ => krnormM (m := 32 * n + 81) (by omega) (by omega)) rfl (cx1 (ofa rfl rfl) rfl (cx1 (ofa rfl rfl) rfl (cx1 (old rfl rfl) rfl (cx1 (oca rfl rfl fun _ => krnormM (m := 32 * n + 81) (by omega) (by omega)) rfl (cN rfl rfl (cbs rfl rfl rfl rfl rfl rfl) (cN rfl rfl (cal) ?_)))))))
 refine cE (fun r19 b5 => ?_)
 refine tsw 0 1 rfl rfl rfl rfl rfl rfl rfl (mO (zI (zJ rfl (mP (omf rfl) (tal fun b6 => (tst 0 rfl rfl rfl rfl rfl rfl (uP (uF (s := 6) 0 rfl rfl) (mO (zI ?_)))))))))
 refine zI (zJ rfl (mP (omv rfl) (mP (oln rfl) (mP (omv rfl) (mO (yF ?_))))))
 rotate_left 1
 have hcl : ∀ s, (dY (ls.take s)).length ≤ 35 := fun s => by
  have := cornX_len (ls := ls.take s) fun l h => h6 l (List.mem_of_mem_take h)
  rw [List.length_take] at this; omega
 refine jV (σ := Nat × Value) (fun s => [(23, True, exP (.int .i64 ((s.1 : Nat) : Int)))]) (fun s => [.blk b5 22 [xc s.2], .row s.2 33 3 (([b.1.1, b.2.1] ++ dY (ls.take s.1)).map (rtc (32 * n + 81)))]) (fun s => s.1 ≤ ls.length) (fun s => ls.length - s.1) ((0, r19)) (tk 0 rfl (tk 5 rfl (tk 6 rfl (tk 21 rfl (tk 22 rfl tn))))) ?_ rfl ((by simp)) (fun s hJ Y _ => ?_)
 refine tc rfl (zZ _) (tn)
 rotate_left 1
 refine zI (zJ rfl (mP (olt rfl rfl) (mO (zI ?_))))
 refine jD rfl (fun c0 => ?_) (fun c0 => ?_)
 refine yQ (zI (yF (zI (zJ rfl (mP (oix _ rfl rfl rfl (fun _ => rfl) (fun _ => (by (have e0 := dt c0; omega)))) (mP (old rfl rfl) (mP (oas rfl) (mO (zJ rfl ?_)))))))))
 refine mP (old rfl rfl) (mP (omv rfl) ?_)
 rotate_left 1
 refine jO (zI (zI (zJ rfl (mP (omv rfl) (mP (oca rfl rfl fun _ => kpairs) (mO (yF ?_)))))))
 rotate_left 1
 ·have hs := dt c0
  have h7 : (ls.getD s.1 []).length ≤ 7 := h6 _ (by simp [List.getElem?_eq_getElem (show s.1 < ls.length by omega)])
  have := hcl s.1
  rw [show ls.getD s.1 [] = ls.getD s.1 Df.d from rfl] at h7
  refine tco [0, 1] rfl rfl rfl (call1 (n := n) (m := 32 * n + 81) (ps := ls.getD s.1 Df.d) (by omega) (by omega) (by rw [List.length_append]; simp only [List.length_cons, List.length_nil]; omega)) ?_
  rintro _ _ ⟨rfl, v', rfl⟩
  refine mO (zJ rfl (mP (oad rfl rfl (by omega)) (mP (omv rfl) (mO ?_))))
  rotate_left 1
  refine ⟨(s.1 + 1, v'), tes ?_ ?_ ?_, (by omega), (by omega)⟩
  refine tc rfl (zZ _) (tn)
  refine tc rfl (zZ _) (tc rfl (zZ _) (tc rfl (zZ _) (tc rfl (zZ _) (tc rfl (zZ _) (tn)))))
  rotate_left 1
  simp only [(xR (Df.d : List P2) (show s.1 < ls.length by omega)).1, dY, List.flatMap_append, List.flatMap_cons, List.flatMap_nil, List.append_nil, ← List.append_assoc]
  exact List.Sublist.refl _
 ·have hs : s.1 = ls.length := by have := df c0; omega
  refine eJ (σ := List (List P2 × List P2) × Value) (fun t => [.blk b5 22 [xc t.2], .row t.2 33 3 (([b.1.1, b.2.1] ++ dY ls ++ meetX t.1).map (rtc (32 * n + 81)))]) (fun pre t => t.1 = pre) ([], s.2) rfl (ipairs (by omega)) (fun _ => rfl) rfl lL (by simp [hs, meetX]) rfl (fun pre x post t hx hJ Y y hl => ?_) (fun t hJ Y _ => ?_)
  ·obtain ⟨h1, h2⟩ := pairs_mem (ls := ls) (i := ls.length) (x := x) (Nat.le_refl _) (by rw [show gQ ls ls.length = xE ls from rfl, hx]; simp)
   have h3 := h6 _ h1
   have h4 := h6 _ h2
   refine zI (zJ rfl (mP (oas rfl) (mO (zJ rfl (mP (oas rfl) (mO (⟨rfl, fun Y hl => (yF (xK 4 mixed rfl rfl ?_))⟩)))))))
   refine d1 (old rfl rfl) (d1 (omv rfl) (d1 (omv rfl) (d1 (oca rfl rfl fun _ => kmall (by omega) (by omega) (by omega) (by omega)) (d0 ?_))))
   rotate_left 1
   obtain ⟨pr, v1⟩ := t
   obtain rfl : pr = pre := hJ
   have h5 := meetX_len (l := pr) fun z hz => by
    obtain ⟨a, b⟩ := pairs_mem (ls := ls) (i := ls.length) (x := z) (Nat.le_refl _) (by rw [show gQ ls ls.length = xE ls from rfl, hx]; simp [hz])
    exact ⟨h6 _ a, h6 _ b⟩
   have h7 := pairsTo_len (ls := ls) ls.length
   rw [show gQ ls ls.length = xE ls from rfl, hx] at h7
   have h8 : ls.length * ls.length ≤ 5 * 5 := Nat.mul_le_mul hl0 hl0
   have h9 := allOf_len x.1 x.2
   have h10 : 2 * x.2.length * x.1.length ≤ 14 * 7 := Nat.mul_le_mul (by omega) h3
   have h11 := hcl ls.length
   rw [List.take_length] at h11
   refine tco [0, 1] rfl rfl rfl (cto_w (call1 (n := 32 * n + 80) (m := 32 * n + 81) (ps := allOf x.1 x.2) (by omega) (by omega) (by simp at h7 ⊢; omega)) (fs1 (ps_row (f := ptc (32 * max n n + 80)) (fun a M w us h => by rw [show 32 * max n n + 80 = 32 * n + 80 by omega] at h; exact ptc_q a h) fun _ => rfl) (fs1 (PSub.refl _) fs0))) ?_
   rintro _ _ ⟨rfl, v', rfl⟩
   refine mO ?_
   rotate_left 1
   have e : meetX (pr ++ [x]) = meetX pr ++ (allOf x.1 x.2).map (·.1) := by simp [meetX]
   refine ⟨(pr ++ [x], v'), ?_, rfl⟩
   rotate_left 1
   simp only [e, ← List.append_assoc]; exact List.Sublist.refl _
  ·obtain ⟨_, v2⟩ := t
   obtain rfl : _ = xE ls := hJ
   have h5 := meetX_len (l := xE ls) fun z hz => by
    obtain ⟨a, b⟩ := pairs_mem (ls := ls) (i := ls.length) (x := z) (Nat.le_refl _) hz
    exact ⟨h6 _ a, h6 _ b⟩
   have h7 := pairsTo_len (ls := ls) ls.length
   rw [show gQ ls ls.length = xE ls from rfl] at h7
   have h8 : ls.length * ls.length ≤ 5 * 5 := Nat.mul_le_mul hl0 hl0
   have h11 := hcl ls.length
   rw [List.take_length] at h11
   have hr : (rawC ls b).length ≤ 3000 := by unfold rawC; simp; omega
   change (rawC ls b).length ≤ 3000 at hr
   dsimp only
   rw [show [b.1.1, b.2.1] ++ dY ls ++ meetX (xE ls) = rawC ls b from rfl]
   refine zI (zJ rfl (mP (gC 0 rfl rfl rfl rfl) ?_))
   rotate_left 1
   refine tco [1] rfl rfl rfl (ksortR (by omega) (by omega)) ?_
   rintro _ _ ⟨rfl, l', hp, hso, rfl⟩
   have hll := hp.length_eq
   refine mO (zI (zJ rfl (mP (gC 1 rfl rfl rfl rfl) ?_)))
   rotate_left 1
   refine tco [0] rfl rfl rfl (wcompactR (by omega) (by omega)) ?_
   rintro _ _ ⟨v3, rfl, rfl⟩
   rw [show qQ eqR 0 l' l'.length = cutsOf ls b from (sd_of_sort iQ hp hso).eq iQ]
   refine mP (oas rfl) (mO (cL (fG (s := 4) 0 rfl rfl) (yJ (⟨[_], rst rfl rs0, yX (PSub.refl _)⟩))))
end Go.Proofs.YtfkejnlohkgbgaaGreatDoor
set_option maxHeartbeats 4000000
namespace Go.Proofs.YtfkejnlohkgbgaaGreatDoor
open Go.SL Go.RowKit Go.Proofs Tryz
abbrev RX := (Bool × List Nat) × List Nat
abbrev PX := RX × RX
def rtx (a : RX) : CT := st [itx a.1, ntx a.2]
def ptx (a : PX) : CT := st [rtx a.1, rtx a.2]
def qx (a : RX) : Rat := mkRat (zv a.1.1 a.1.2) (val a.2)
def px (a : PX) : P2 := (qx a.1, qx a.2)
def pcx (l : List PX) : CT := sl 6 (l.map ptx)
instance : Df PX := ⟨(((false, []), []), ((false, []), []))⟩
instance : Df (List PX) := ⟨[]⟩
instance {a : RX} : FA (rtx a) 0 (itx a.1) := ⟨fun h => kG (l := [itx a.1, ntx a.2]) (o := 0) h rfl⟩
instance {a : RX} : FA (rtx a) 2 (ntx a.2) := ⟨fun h => kG (l := [itx a.1, ntx a.2]) (o := 2) h rfl⟩
instance {a : PX} : FA (ptx a) 0 (rtx a.1) := ⟨fun h => kG (l := [rtx a.1, rtx a.2]) (o := 0) h rfl⟩
instance {a : PX} : FA (ptx a) 3 (rtx a.2) := ⟨fun h => kG (l := [rtx a.1, rtx a.2]) (o := 3) h rfl⟩
instance {l : List PX} : VS (sv (pcx l)) 6 (l.map ptx) := ⟨id⟩
instance {a : RX} : CQ (rtx a) (max a.1.2.length a.2.length) (qx a) := ⟨by
 rintro M w us ⟨x, y, rfl, ⟨x1, y1, rfl, ⟨rfl, _⟩, x2, y2, rfl, ⟨v, rfl, h1⟩, h2⟩, y3, y4, rfl, ⟨d, rfl, h3⟩, h4⟩
 obtain rfl : y2 = [] := h2
 obtain rfl : y4 = [] := h4
 exact ⟨a.1.1, v, d, rfl, a.1.2, a.2, h1, h3, Nat.le_max_left _ _, Nat.le_max_right _ _, rfl⟩⟩
def bG (a : RX) : Bool := decide (a.1.2.length ≤ 1) && decide (a.2.length ≤ 1) && (decide (a.1.2.length = 0) || decide (a.1.2.getD 0 Df.d ≤ 999)) && (decide (a.2.length = 0) || decide (a.2.getD 0 Df.d ≤ 12))
theorem ktiny {a : RX} : CTy prog 175 [ag (rtx a)] (exP (.bool (bG a))) := by
 refine ctc func175 rfl rfl rfl rfl fun X => (zI (zJ rfl (mP (obx rfl) (mP (oas rfl) (mO (zI (zJ rfl (mP (ofa rfl rfl) (mP (ofa rfl rfl) ?_)))))))))
 refine mP (old rfl rfl) (mP (oln rfl) (mP (ole rfl rfl) (mP (omv rfl) (t1g rfl rfl (ofa rfl rfl) (t1g rfl rfl (old rfl rfl) (t1g rfl rfl (oln rfl) (t1g rfl rfl (ole rfl rfl) (mP (opk rfl rfl rfl) (mP (omv rfl) ?_)))))))))
 refine t1g rfl rfl (ofa rfl rfl) (t1g rfl rfl (ofa rfl rfl) (t1g rfl rfl (old rfl rfl) (t1g rfl rfl (oln rfl) (t1g rfl rfl (oeq rfl rfl) (t1g rfl rfl (omv rfl) (t1g rfl rfl (ofa rfl rfl) (t1g rfl rfl (ofa rfl rfl) (t1g rfl rfl (old rfl rfl) (t1g rfl rfl (oix _ rfl rfl rfl (fun g => rfl) (fun g => (by (have e0 := of_decide_eq_false g.2; change (0 : Nat) < _; omega)))) ?_)))))))))
 refine t1g rfl rfl (old rfl rfl) (t1g rfl rfl (ole rfl rfl) (t1g rfl rfl (opk rfl rfl rfl) (mP (opk rfl rfl rfl) (mP (omv rfl) (t1g rfl rfl (ofa rfl rfl) (t1g rfl rfl (old rfl rfl) (t1g rfl rfl (oln rfl) (t1g rfl rfl (oeq rfl rfl) (t1g rfl rfl (omv rfl) ?_)))))))))
 refine t1g rfl rfl (ofa rfl rfl) (t1g rfl rfl (old rfl rfl) (t1g rfl rfl (oix _ rfl rfl rfl (fun g => rfl) (fun g => (by (have e0 := of_decide_eq_false g.2; change (0 : Nat) < _; omega)))) (t1g rfl rfl (old rfl rfl) (t1g rfl rfl (ole rfl rfl) (t1g rfl rfl (opk rfl rfl rfl) (mP (opk rfl rfl rfl) (mP (oas rfl) (mO (yJ ?_)))))))))
 refine ⟨[_], rst rfl rs0, yX ?_⟩
 refine psb ?_
 rotate_left 1
 unfold bG; rw [Bool.eq_iff_iff]; simp only [Bool.and_eq_true, Bool.or_eq_true, decide_eq_true_eq]; omega
def gJ (l : List PX) : Bool := l.all fun a => bG a.1 && bG a.2
theorem smallx_take {l : List PX} {i : Nat} (h : i < l.length) : gJ (l.take (i + 1)) = (gJ (l.take i) && (bG (l.getD i Df.d).1 && bG (l.getD i Df.d).2)) := by
 rw [(xR (Df.d : PX) h).1]; simp [gJ]
theorem smallx_no {l : List PX} {i : Nat} (h : i < l.length) (k : bG (l.getD i Df.d).1 = false ∨ bG (l.getD i Df.d).2 = false) : gJ l = false := by
 rw [List.getD_eq_getElem?_getD, List.getElem?_eq_getElem h, Option.getD_some] at k
 simp only [gJ, List.all_eq_false]
 exact ⟨l[i], List.getElem_mem h, by rcases k with k | k <;> simp [k]⟩
theorem ksmall {l : List PX} : CTy prog 119 [sv (pcx l)] (exP (.bool (gJ l))) := by
 refine ctc func119 rfl rfl rfl rfl fun X => (zI (zJ rfl (mP (oas rfl) (mO (zI (zI (zJ rfl (mP (oas rfl) (mO ?_)))))))))
 refine yF ?_
 rotate_left 1
 refine t_len 0 rfl fun hL => ?_
 rw [List.length_map] at hL
 refine jV (σ := Nat) (fun i => [(3, True, exP (.int .i64 ((i : Nat) : Int)))]) (fun i => []) (fun i => i ≤ l.length ∧ gJ (l.take i) = true) (fun i => l.length - i) (0) (tk 0 rfl tn) ?_ rfl (⟨by omega, rfl⟩) (fun i hJ Y _ => ?_)
 refine tc rfl (zZ _) (tn)
 rotate_left 1
 obtain ⟨hi, hs⟩ := hJ
 refine zI (zI (zJ rfl (mP (omv rfl) (mP (omv rfl) (mP (oln rfl) (mP (olt rfl rfl) (mO ?_)))))))
 refine jD rfl (fun c0 => ?_) (fun c0 => ?_)
 refine yQ (zI (yF (zI (zJ rfl (mP (omv rfl) (mP (omv rfl) (mP (oix _ rfl rfl rfl (fun _ => rfl) (fun _ => (by (have e0 := dt c0; omega)))) (mP (ofa rfl rfl) (mP (old rfl rfl) ?_)))))))))
 refine mP (oca rfl rfl fun _ => ktiny) (mP (ont rfl) (mP (omv rfl) (t1g rfl rfl (omv rfl) (t1g rfl rfl (omv rfl) (t1g rfl rfl (oix _ rfl rfl rfl (fun g => rfl) (fun g => (by (have e0 := dt c0; omega)))) (t1g rfl rfl (ofa rfl rfl) (t1g rfl rfl (old rfl rfl) (t1g rfl rfl (oca rfl rfl fun g => ktiny) (t1g rfl rfl (ont rfl) ?_)))))))))
 refine mP (opk rfl rfl rfl) (mO ?_)
 refine jD rfl (fun c1 => ?_) (fun c1 => ?_)
 refine zI (zJ rfl (mP (oas rfl) (mO (yJ (⟨[_], rst rfl rs0, yX ?_⟩)))))
 refine psb ?_
 rotate_left 1
 refine yQ (zJ rfl (mP (omv rfl) (mP (oad rfl rfl (by (have e0 := dt c0; omega))) (mP (oas rfl) (mO ?_)))))
 rotate_left 1
 refine jO (zI (zJ rfl (mP (oas rfl) (mO (yJ (⟨[_], rst rfl rs0, yX ?_⟩))))))
 refine psb ?_
 rotate_left 1
 ·rw [smallx_no (dt c0 |> fun h => by omega : i < l.length) (by have := c1.h; revert this; generalize bG (l.getD i Df.d).1 = a; generalize bG (l.getD i Df.d).2 = b; cases a <;> cases b <;> simp)]
 ·refine ⟨i + 1, tes ?_ ?_ (List.Sublist.refl _), ?_, (by (have e0 := dt c0; omega))⟩
  refine tc rfl (zZ _) (tn)
  refine tc rfl (zZ _) (tn)
  rotate_left 1
  have hi2 : i < l.length := by have := dt c0; omega
  exact ⟨by omega, by rw [smallx_take hi2, hs]; have := c1.h; revert this; generalize bG (l.getD i Df.d).1 = a; generalize bG (l.getD i Df.d).2 = b; cases a <;> cases b <;> simp⟩
 ·have : i = l.length := by have := df c0; omega
  subst this; rw [List.take_length] at hs; exact hs.symm
def lY (ls : List (List PX)) (b : PX × PX) : Bool := decide (ls.length ≤ 4) && gJ [b.1, b.2] && ls.all fun l => decide (l.length ≤ 6) && gJ l
theorem fewx_at {ls : List (List PX)} {b : PX × PX} {i : Nat} (h : i < ls.length) (k : (decide (6 < (ls.getD i Df.d).length) || !gJ (ls.getD i Df.d)) = true) : lY ls b = false := by
 rw [List.getD_eq_getElem?_getD, List.getElem?_eq_getElem h, Option.getD_some] at k
 unfold lY
 rw [Bool.and_eq_false_iff]
 refine .inr ?_
 simp only [List.all_eq_false]
 exact ⟨ls[i], List.getElem_mem h, fun c => by
  simp only [Bool.and_eq_true, decide_eq_true_eq, Bool.or_eq_true, Bool.not_eq_true'] at c k
  rcases k with k | k
  ·omega
  ·rw [c.2] at k; cases k⟩
theorem kfew {ls : List (List PX)} {b : PX × PX} : CTy prog 65 [sv (sl 1 (ls.map pcx)), ag (st [ptx b.1, ptx b.2])] (exP (.bool (lY ls b))) := by
 refine ctc func65 rfl rfl rfl rfl fun X => (zI (zJ rfl (mP (obx rfl) (mP (oas rfl) (mO (zI (zI (zJ rfl (mP (oas rfl) ?_)))))))))
 refine mO (yF ?_)
 rotate_left 1
 refine jV (σ := Nat) (fun i => [(5, True, exP (.int .i64 ((i : Nat) : Int)))]) (fun i => []) (fun i => i ≤ ls.length ∧ i ≤ 5 ∧ ∀ l ∈ ls.take i, l.length ≤ 6 ∧ gJ l = true) (fun i => ls.length - i) (0) (tk 0 rfl (tk 3 rfl tn)) ?_ rfl (⟨by omega, by omega, by simp⟩) (fun i hJ Y _ => ?_)
 refine tc rfl (zZ _) (tn)
 rotate_left 1
 obtain ⟨hi, h5, hs⟩ := hJ
 refine zI (zI (zJ rfl (mP (omv rfl) (mP (omv rfl) (mP (oln rfl) (mP (olt rfl rfl) (mP (omv rfl) (t1g rfl rfl (omv rfl) (t1g rfl rfl (ole rfl rfl) ?_)))))))))
 refine mP (opk rfl rfl rfl) (mO ?_)
 refine jD rfl (fun c0 => ?_) (fun c0 => ?_)
 refine yQ (zI (yF (zI (zJ rfl (mP (omv rfl) (mP (omv rfl) (mP (oix _ rfl rfl rfl (fun _ => rfl) (fun _ => (by (have e0 := eV c0; omega)))) (mP (old rfl rfl) (mP (oln rfl) ?_)))))))))
 refine mP (ogt rfl rfl) (mP (omv rfl) (t1g rfl rfl (omv rfl) (t1g rfl rfl (omv rfl) (t1g rfl rfl (oix _ rfl rfl rfl (fun g => rfl) (fun g => (by (have e0 := eV c0; omega)))) (t1g rfl rfl (old rfl rfl) (t1g rfl rfl (oca rfl rfl fun g => ksmall) (t1g rfl rfl (ont rfl) (mP (opk rfl rfl rfl) (mO ?_)))))))))
 refine jD rfl (fun c1 => ?_) (fun c1 => ?_)
 refine zI (zJ rfl (mP (oas rfl) (mO (yJ (⟨[_], rst rfl rs0, yX ?_⟩)))))
 refine psb ?_
 rotate_left 1
 refine yQ (zJ rfl (mP (omv rfl) (mP (oad rfl rfl (by omega)) (mP (oas rfl) (mO ?_)))))
 rotate_left 1
 refine jO (zI (zJ rfl (mP (omv rfl) (mP (oln rfl) (mP (ole rfl rfl) (mP (omv rfl) (t1g rfl rfl (ofa rfl rfl) (t1g rfl rfl (old rfl rfl) (t1g rfl rfl (ofa rfl rfl) ?_)))))))))
 refine t1g rfl rfl (old rfl rfl) (t1g rfl rfl (obs rfl rfl rfl rfl rfl rfl) (t1g rfl rfl (oca rfl rfl fun g => ksmall (l := [b.1, b.2])) (mP (opk rfl rfl rfl) (mP (oas rfl) (mO (yJ (⟨[_], rst rfl rs0, yX ?_⟩)))))))
 refine psb ?_
 rotate_left 1
 ·have hc := eV c0
  rw [fewx_at (i := i) (by omega) (by have := c1.h; rw [← this]; congr 1; rw [decide_eq_decide]; omega)]
 ·have hc := eV c0
  refine ⟨i + 1, tes ?_ ?_ (List.Sublist.refl _), ?_, (by omega)⟩
  refine tc rfl (zZ _) (tn)
  refine tc rfl (zZ _) (tc rfl (zZ _) (tn))
  rotate_left 1
  refine ⟨by omega, by omega, fun l hl => ?_⟩
  rw [(xR (Df.d : List PX) (show i < ls.length by omega)).1] at hl
  rcases List.mem_append.1 hl with h | h
  ·exact hs l h
  ·obtain rfl := List.mem_singleton.1 h
   have := c1.h
   rw [Bool.or_eq_false_iff] at this
   obtain ⟨a1, a2⟩ := this
   have := of_decide_eq_false a1
   exact ⟨by omega, by simpa using a2⟩
 ·have hc := dor c0
  have e1 : decide ((ls.length : Int) ≤ 4) = decide (ls.length ≤ 4) := by rw [decide_eq_decide]; omega
  unfold lY
  rw [e1]
  rcases Nat.lt_or_ge 4 ls.length with h | h
  ·rw [decide_eq_false (by omega)]; simp
  ·rw [show i = ls.length by omega, List.take_length] at hs
   rw [decide_eq_true h, show (ls.all fun l => decide (l.length ≤ 6) && gJ l) = true from List.all_eq_true.2 fun l hl => by simp [hs l hl], Bool.and_true, Bool.true_and]
end Go.Proofs.YtfkejnlohkgbgaaGreatDoor
set_option maxHeartbeats 4000000
namespace Go.Proofs.YtfkejnlohkgbgaaGreatDoor
open Go.SL Go.RowKit Go.Proofs Tryz
theorem k7told {p q : Rat} {n m : Nat} (hn : n ≤ 20000) (hm : m ≤ 20000) : CTy prog 74 [ag (rtc n p), ag (rtc m q)] (exP (.bool (decide (p = q)))) := by
 refine ctc func74 rfl rfl rfl rfl fun X => (zI (zJ rfl (mP (obx rfl) (mP (obx rfl) (mP (oas rfl) (mO (zI (zJ rfl (mP (ofx rfl) ?_)))))))))
 refine mP (old rfl rfl) (mP (ofx rfl) (mP (old rfl rfl) (mP (oca rfl rfl fun _ => k5told) (mP (omv rfl) (t1g rfl rfl (ofx rfl) (t1g rfl rfl (old rfl rfl) (t1g rfl rfl (ofx rfl) (t1g rfl rfl (old rfl rfl) (t1g rfl rfl (oca rfl rfl fun g => k1same) ?_)))))))))
 refine mP (opk rfl rfl rfl) (mP (oas rfl) (mO (yJ (⟨[_], rst rfl rs0, yX ?_⟩))))
 refine psb ?_
 rotate_left 1
 rw [← Bool.decide_and, decide_eq_decide]
 exact ⟨fun ⟨h1, h2⟩ => Rat.ext h1 (by have := congrArg val h2; rwa [zP, zP] at this), fun h => h ▸ ⟨rfl, rfl⟩⟩
theorem stp_mapm {α : Type} {f g : α → CT} : ∀ {xs : List α} {us : List Value} {M : Nat → Prop} {w : World}, (∀ a ∈ xs, ∀ {M w us}, (f a).p M w us → (g a).p M w us) → stp (xs.map f) M w us → stp (xs.map g) M w us
 | [], _, _, _, _, e => e
 | a :: xs, _, _, _, h, ⟨x, y, e, h1, h2⟩ => ⟨x, y, e, h a (by simp) h1, stp_mapm (fun b hb => h b (by simp [hb])) h2⟩
theorem ct_row {α : Type} {f g : α → CT} {k : Nat} {xs : List α} (h : ∀ a ∈ xs, ∀ {M w us}, (f a).p M w us → (g a).p M w us) (hs : ∀ a, (g a).sz = k) {M : Nat → Prop} {w : World} {us : List Value} : (sl k (xs.map f)).p M w us → (sl k (xs.map g)).p M w us := fun ⟨u, vs, e, h1, h2, h3⟩ =>
 ⟨u, vs, e, by rw [List.length_map] at h1 ⊢; exact h1, stp_mapm h h2, fun c hc => by obtain ⟨a, _, rfl⟩ := List.mem_map.1 hc; exact hs a⟩
theorem ptx_q {n : Nat} (a : PX) (h1 : a.1.1.2.length ≤ n) (h2 : a.1.2.length ≤ n) (h3 : a.2.1.2.length ≤ n) (h4 : a.2.2.length ≤ n) {M : Nat → Prop} {w : World} {us : List Value} (h : (ptx a).p M w us) : (ptq n (px a)).p M w us := by
 obtain ⟨s, x, d, t, y, e, rfl, g⟩ := CP.h (c := st [rtx a.1, rtx a.2]) h
 exact ⟨[.bool s, x, d], [.bool t, y, e], rfl, ⟨s, x, d, rfl, (g.up (m := n) (by simp; omega)).x⟩, [.bool t, y, e], [], rfl, ⟨t, y, e, rfl, (g.up (m := n) (by simp; omega)).y⟩, rfl⟩
theorem tiny_len {a : RX} (h : bG a = true) : a.1.2.length ≤ 1 ∧ a.2.length ≤ 1 := by
 unfold bG at h; simp only [Bool.and_eq_true, decide_eq_true_eq] at h; exact ⟨h.1.1.1, h.1.1.2⟩
theorem small_q {l : List PX} (h : gJ l = true) (a : PX) (ha : a ∈ l) {M : Nat → Prop} {w : World} {us : List Value} (k : (ptx a).p M w us) : (ptq 1 (px a)).p M w us := by
 have := List.all_eq_true.1 h a ha
 rw [Bool.and_eq_true] at this
 exact ptx_q a (tiny_len this.1).1 (tiny_len this.1).2 (tiny_len this.2).1 (tiny_len this.2).2 k
theorem pcx_q {l : List PX} (h : gJ l = true) {M : Nat → Prop} {w : World} {us : List Value} (k : (pcx l).p M w us) : (pcs 1 (l.map px)).p M w us := by
 unfold pcs; rw [List.map_map]
 exact ct_row (f := ptx) (g := ptq 1 ∘ px) (small_q h) (fun _ => rfl) k
theorem pcs_q {ls : List (List PX)} (h : ∀ l ∈ ls, gJ l = true) : PSub (sv (sl 1 (ls.map pcx))) (sv (sl 1 ((ls.map (List.map px)).map (pcs 1)))) := fun M w v k => by
 rw [List.map_map]
 exact ct_row (f := pcx) (g := pcs 1 ∘ List.map px) (fun a ha => pcx_q (h a ha)) (fun _ => rfl) k
theorem box_q {b : PX × PX} (h : gJ [b.1, b.2] = true) : PSub (ag (st [ptx b.1, ptx b.2])) (ag (st [ptq 1 (px b.1), ptq 1 (px b.2)])) := fun M w v ⟨us, e, x, y, e1, h1, z, o, e2, h2, h3⟩ =>
 ⟨us, e, x, y, e1, small_q h _ (by simp) h1, z, o, e2, small_q h _ (by simp) h2, h3⟩
end Go.Proofs.YtfkejnlohkgbgaaGreatDoor
set_option maxHeartbeats 4000000
namespace Go.Proofs.YtfkejnlohkgbgaaGreatDoor
open Go.SL Go.RowKit Go.Proofs Tryz
theorem cuts_len {ls : List (List P2)} {b : P2 × P2} (h0 : ls.length ≤ 5) (h : ∀ l ∈ ls, l.length ≤ 7) : (cutsOf ls b).length ≤ 10000 := by
 have h1 := setOf_len iQ (rawC ls b)
 have h2 := cornX_len h
 have h3 := meetX_len (l := xE ls) fun z hz => by
  obtain ⟨a, b⟩ := pairs_mem (ls := ls) (i := ls.length) (x := z) (Nat.le_refl _) hz
  exact ⟨h _ a, h _ b⟩
 have h4 := pairsTo_len (ls := ls) ls.length
 have h8 : ls.length * ls.length ≤ 5 * 5 := Nat.mul_le_mul h0 h0
 change (xE ls).length ≤ _ at h4
 have h5 : (rawC ls b).length = 2 + (dY ls).length + (meetX (xE ls)).length := by unfold rawC; simp; omega
 unfold cutsOf; omega
abbrev pxs (ls : List (List PX)) : List (List P2) := ls.map (List.map px)
abbrev bxs (b : PX × PX) : P2 × P2 := (px b.1, px b.2)
theorem few_ok {ls : List (List PX)} {b : PX × PX} (h : lY ls b = true) : ls.length ≤ 4 ∧ gJ [b.1, b.2] = true ∧ ∀ l ∈ ls, l.length ≤ 6 ∧ gJ l = true := by
 unfold lY at h
 simp only [Bool.and_eq_true, decide_eq_true_eq, List.all_eq_true] at h
 exact ⟨h.1.1, h.1.2, h.2⟩
theorem kcallx {ls : List (List PX)} {b : PX × PX} (h : ls.length ≤ 5) (hb : gJ [b.1, b.2] = true) (hs : ∀ l ∈ ls, l.length ≤ 6 ∧ gJ l = true) : CTy prog 68 [sv (sl 1 (ls.map pcx)), ag (st [ptx b.1, ptx b.2])] (sv (sl 3 ((cutsOf (pxs ls) (bxs b)).map (rtc 113)))) :=
 qG (kcall (n := 1) (by omega) (by simpa using h) fun l hl => by obtain ⟨a, ha, rfl⟩ := List.mem_map.1 hl; rw [List.length_map]; have := (hs a ha).1; omega) (fs1 (pcs_q fun l hl => (hs l hl).2) (fs1 (box_q hb) fs0))
end Go.Proofs.YtfkejnlohkgbgaaGreatDoor
set_option maxHeartbeats 4000000
namespace Go.Proofs.YtfkejnlohkgbgaaGreatDoor
open Go.SL Go.RowKit Go.Proofs Tryz
theorem edgeP_mv {p : List P2} {r : P2} {i : Nat} (h : i < p.length) : fW (p.map (xW · r)) i = kW (fW p i) r := by
 have hm : (i + 1) % p.length < p.length := Nat.mod_lt _ (by omega)
 have e : ∀ {j}, j < p.length → (p.map (xW · r)).getD j (0, 0) = xW (p.getD j (0, 0)) r := fun {j} hj => by simp [List.getD_eq_getElem?_getD, List.getElem?_eq_getElem hj]
 unfold fW
 rw [List.length_map, e h, e hm, from_add]
theorem edgesL_mv (p : List P2) (r : P2) : jR (p.map (xW · r)) = (jR p).map (kW · r) := by
 unfold jR; rw [List.length_map, List.map_map]; exact List.map_congr_left fun i hi => edgeP_mv (List.mem_range.1 hi)
theorem pairM_mv (m : Mt) (r : P2) : kS (lV m r) = (kS m).map (xW · r) := by
 unfold kS lV; by_cases h : m.1 = 0 <;> simp [h, fT]
theorem rawL_mv (es fs : List (P2 × P2)) (r : P2) : dT (es.map (kW · r)) (fs.map (kW · r)) = (dT es fs).map (xW · r) := by
 unfold dT; simp only [List.flatMap_map, List.map_flatMap, meets_add, pairM_mv]
theorem set_map {α β : Type} {cf : α → α → Int} {cg : β → β → Int} (hc : COrd cf) (h : COrd cg) {f : α → β} (hf : ∀ a b, cg (f a) (f b) = cf a b) (l : List α) : setOf cg (l.map f) = (setOf cf l).map f := by
 have k := setOf_spec hc l
 exact (IsSet.eq h ⟨List.pairwise_map.2 (k.rise.imp fun {a b} e => by rw [hf]; exact e), fun x => by simp only [List.mem_map, k.mem]⟩).symm
theorem allOf_mv (p q : List P2) (r : P2) : allOf (p.map (xW · r)) (q.map (xW · r)) = (allOf p q).map (xW · r) := by
 rw [allOf_set, allOf_set, edgesL_mv, edgesL_mv, rawL_mv, set_map lC lC fun a b => bV a b r]
abbrev mvL (r : P2) (ls : List (List P2)) : List (List P2) := ls.map (List.map (xW · r))
theorem mvL_at {ls : List (List P2)} {r : P2} {k : Nat} : (mvL r ls).getD k [] = (ls.getD k []).map (xW · r) := by
 simp only [List.getD_eq_getElem?_getD, List.getElem?_map]; cases ls[k]? <;> rfl
theorem pairs_mv (ls : List (List P2)) (r : P2) : xE (mvL r ls) = (xE ls).map fun x => (x.1.map (xW · r), x.2.map (xW · r)) := by
 unfold xE gQ
 rw [List.length_map, List.map_flatMap]
 congr 1; funext k
 rw [mvL_at, ← List.map_take, List.map_map, List.map_map]; rfl
theorem cuts_mv (ls : List (List P2)) (b : P2 × P2) (r : P2) : cutsOf (mvL r ls) (kW b r) = (cutsOf ls b).map (· + r.1) := by
 have e : rawC (mvL r ls) (kW b r) = (rawC ls b).map (· + r.1) := by
  unfold rawC dY meetX
  rw [pairs_mv]
  simp only [List.map_append, List.flatMap_map, List.map_flatMap, List.map_map, List.map_cons, List.map_nil, allOf_mv]
  rfl
 unfold cutsOf
 rw [e, set_map iQ iQ fun a b => cmpR_add a b r.1]
end Go.Proofs.YtfkejnlohkgbgaaGreatDoor
set_option maxHeartbeats 4000000
namespace Go.Proofs.YtfkejnlohkgbgaaGreatDoor
open Go.SL Go.RowKit Go.Proofs Tryz
instance {a : RX} : C3 (rtx a) := ⟨rfl⟩
abbrev mG (a : PX) : Nat := m4 (a.1.1.2.length, a.1.2.length, a.2.1.2.length, a.2.2.length)
def iV (l : List PX) : Bool := decide (8 < l.length) || l.any fun a => decide (2 < mG a)
theorem gr18_at {l : List PX} {i : Nat} (h : i < l.length) (k : 2 < mG (l.getD i Df.d)) : iV l = true := by
 rw [List.getD_eq_getElem?_getD, List.getElem?_eq_getElem h, Option.getD_some] at k
 unfold iV; rw [Bool.or_eq_true]
 exact .inr (List.any_eq_true.2 ⟨_, List.getElem_mem h, decide_eq_true k⟩)
theorem kg18 {l : List PX} : CTy prog 72 [sv (pcx l)] (exP (.bool (iV l))) := by
 refine ctc func72 rfl rfl rfl rfl fun X => (zI (zJ rfl (mP (oas rfl) (mO (zI (zI (zJ rfl (mP (oas rfl) (mO ?_)))))))))
 refine yF ?_
 rotate_left 1
 refine jV (σ := Nat) (fun i => [(3, True, exP (.int .i64 ((i : Nat) : Int)))]) (fun i => []) (fun i => i ≤ l.length ∧ i ≤ 9 ∧ ∀ j, j < i → mG (l.getD j Df.d) ≤ 2) (fun i => l.length - i) (0) (tk 0 rfl tn) ?_ rfl (⟨by omega, by omega, by omega⟩) (fun i hJ Y _ => ?_)
 refine tc rfl (zZ _) (tn)
 rotate_left 1
 obtain ⟨hi, h9, hs⟩ := hJ
 refine zI (zI (zJ rfl (mP (omv rfl) (mP (omv rfl) (mP (oln rfl) (mP (olt rfl rfl) (mP (omv rfl) (t1g rfl rfl (omv rfl) (t1g rfl rfl (ole rfl rfl) ?_)))))))))
 refine mP (opk rfl rfl rfl) (mO ?_)
 refine jD rfl (fun c0 => ?_) (fun c0 => ?_)
 refine yQ (zI (yF (zI (xK 32 mixed rfl rfl (d1 (omv rfl) (d1 (omv rfl) (d1 (oix _ rfl rfl rfl (fun _ => rfl) (fun _ => (by (have e0 := eV c0; omega)))) (d1 (ofa rfl rfl) (d1 (ofa rfl rfl) ?_)))))))))
 refine d1 (ofa rfl rfl) (d1 (old rfl rfl) (d1 (oln rfl) (d1 (omv rfl) (d1 (omv rfl) (d1 (oix _ rfl rfl rfl (fun _ => rfl) (fun _ => (by (have e0 := eV c0; omega)))) (d1 (ofa rfl rfl) (d1 (ofa rfl rfl) (d1 (old rfl rfl) (d1 (oln rfl) ?_)))))))))
 refine d1 (omv rfl) (d1 (omv rfl) (d1 (oix _ rfl rfl rfl (fun _ => rfl) (fun _ => (by (have e0 := eV c0; omega)))) (d1 (ofa rfl rfl) (d1 (ofa rfl rfl) (d1 (ofa rfl rfl) (d1 (old rfl rfl) (d1 (oln rfl) (d1 (omv rfl) (d1 (omv rfl) ?_)))))))))
 refine d1 (oix _ rfl rfl rfl (fun _ => rfl) (fun _ => (by (have e0 := eV c0; omega)))) (d1 (ofa rfl rfl) (d1 (ofa rfl rfl) (d1 (old rfl rfl) (d1 (oln rfl) (d1 (omx4 rfl rfl rfl rfl) (d1 (ogt rfl rfl) (d0 (mO ?_))))))))
 refine jD rfl (fun c1 => ?_) (fun c1 => ?_)
 refine zI (zJ rfl (mP (oas rfl) (mO (yJ (⟨[_], rst rfl rs0, yX ?_⟩)))))
 refine psb ?_
 rotate_left 1
 refine yQ (zJ rfl (mP (omv rfl) (mP (oad rfl rfl (by omega)) (mP (oas rfl) (mO ?_)))))
 rotate_left 1
 refine jO (zI (zJ rfl (mP (omv rfl) (mP (oln rfl) (mP (ogt rfl rfl) (mP (oas rfl) (mO (yJ (⟨[_], rst rfl rs0, yX ?_⟩)))))))))
 refine psb ?_
 rotate_left 1
 ·have := eV c0
  exact (gr18_at (i := i) (by omega) (by have := dt c1; unfold mG; omega)).symm
 ·have := eV c0
  refine ⟨i + 1, tes ?_ ?_ (List.Sublist.refl _), ?_, (by omega)⟩
  refine tc rfl (zZ _) (tn)
  refine tc rfl (zZ _) (tn)
  rotate_left 1
  refine ⟨by omega, by omega, fun j hj => ?_⟩
  rcases Nat.lt_or_ge j i with c | c
  ·exact hs j c
  ·rw [show j = i by omega]; have := df c1; unfold mG; omega
 ·have := dor c0
  unfold iV
  rw [Bool.eq_iff_iff, Bool.or_eq_true, decide_eq_true_eq, decide_eq_true_eq, List.any_eq_true]
  refine ⟨fun h => .inl (by omega), fun h => ?_⟩
  rcases h with h | ⟨a, ha, h⟩
  ·omega
  ·obtain ⟨k, hk, rfl⟩ := List.mem_iff_getElem.1 ha
   rcases Nat.lt_or_ge k i with c | c
   ·have := hs k c
    rw [List.getD_eq_getElem?_getD, List.getElem?_eq_getElem hk, Option.getD_some] at this
    have := of_decide_eq_true h; omega
   ·omega
theorem k8add {p q : P2} {n m : Nat} (hn : n ≤ 400) (hm : m ≤ 400) : CTy prog 29 [ag (ptq n p), ag (ptq m q)] (ag (ptc (2 * max n m + 8) (xW p q))) := by
 refine ctc func29 rfl rfl rfl rfl fun X => (zI (zJ rfl (mP (obx rfl) (mP (obx rfl) (tal fun b4 => (mO (zI (xK 13 mixed rfl rfl (d1 (ofa rfl rfl) ?_)))))))))
 refine d1 (old rfl rfl) (d1 (ofa rfl rfl) (d1 (old rfl rfl) (d1 (obs rfl rfl rfl rfl rfl rfl) (d1 (oca rfl rfl fun _ => k7add (by omega)) (d1 (ofa rfl rfl) (d1 (old rfl rfl) (d1 (ofa rfl rfl) (d1 (old rfl rfl) (d1 (obs rfl rfl rfl rfl rfl rfl) ?_)))))))))
 refine d1 (oca rfl rfl fun _ => k7add (by omega)) ?_
 refine d1 (obd rfl rfl rfl) (d0 (tst 0 rfl rfl rfl rfl rfl rfl (mO (yJ (⟨[_], rsc 0 rfl rfl rfl rfl rs0, yX ?_⟩)))))
 rotate_left 1
 exact lI (p := xW p q) rfl (by omega)
theorem k18shift {l : List P2} {d : P2} {n m : Nat} (hn : n ≤ 400) (hm : m ≤ 400) (hl : l.length ≤ 100) : CTy prog 73 [sv (pcs n l), ag (ptq m d)] (sv (sl 6 ((l.map (xW · d)).map (ptc (2 * max n m + 8))))) := by
 refine ctc func73 rfl rfl rfl rfl fun X => (zI (zJ rfl (mP (obx rfl) (mP (oas rfl) (mO (zI (zJ rfl (mP (oas rfl) (mO ?_)))))))))
 refine zI (zI (zJ rfl (mP (oas rfl) (mO (yF ?_)))))
 rotate_left 1
 refine cL (fF 39 6) ?_
 refine jV (σ := Nat × Value) (fun s => [(5, True, exP s.2), (6, True, exP (.int .i64 ((s.1 : Nat) : Int)))]) (fun s => [.row s.2 39 6 (((l.take s.1).map (xW · d)).map (ptc (2 * max n m + 8)))]) (fun s => s.1 ≤ l.length) (fun s => l.length - s.1) ((0, .slice none 0 0)) (tk 0 rfl (tk 3 rfl tn)) ?_ rfl ((by simp)) (fun s hJ Y _ => ?_)
 refine tc rfl (zZ _) (tc rfl (zZ _) (tn))
 rotate_left 1
 refine zI (zI (zJ rfl (mP (omv rfl) (mP (omv rfl) (mP (oln rfl) (mP (olt rfl rfl) (mO ?_)))))))
 refine jD rfl (fun c0 => ?_) (fun c0 => ?_)
 refine yQ (zI (yF (xK 8 mixed rfl rfl (d1 (omv rfl) (d1 (omv rfl) (d1 (omv rfl) (d1 (oix _ rfl rfl rfl (fun _ => rfl) (fun _ => (by (have e0 := dt c0; omega)))) (d1 (old rfl rfl) (d1 (old rfl rfl) ?_)))))))))
 refine d1 (oca rfl rfl fun _ => k8add (by omega) (by omega)) (d1 (obs rfl rfl rfl rfl rfl rfl) (d0 (tap 0 rfl rfl rfl (by (simp; omega)) rfl fun r21 => (mP (oas rfl) (mO (zJ rfl (mP (omv rfl) (mP (oad rfl rfl (by omega)) (mP (oas rfl) ?_)))))))))
 refine mO ?_
 rotate_left 1
 refine jO (zI (zJ rfl (mP (omv rfl) (mP (oas rfl) (mO (cL (fG (s := 4) 0 rfl rfl) (yJ (⟨[_], rst rfl rs0, yX ?_⟩))))))))
 rotate_left 1
 ·refine ⟨(s.1 + 1, r21), tes ?_ ?_ ?_, (by (have e0 := dt c0; omega)), (by (have e0 := dt c0; omega))⟩
  refine tc rfl (zZ _) (tc rfl (zZ _) (tn))
  refine tc rfl (zZ _) (tc rfl (zZ _) (tn))
  rotate_left 1
  rw [(xR (Df.d : P2) (show s.1 < l.length by have := dt c0; omega)).1, List.map_append, List.map_append]
  exact List.Sublist.refl _
 ·have h0 := df c0
  rw [List.take_of_length_le (by omega)]
  exact PSub.refl _
end Go.Proofs.YtfkejnlohkgbgaaGreatDoor
set_option maxHeartbeats 400000
namespace Go.Proofs.YtfkejnlohkgbgaaGreatDoor
open Go.SL Go.RowKit Go.Proofs Tryz
abbrev mcx (l : List P2) : CT := sl 6 (l.map (ptc 12))
theorem big_len {r : PX} (h : iV [r] = false) : r.1.1.2.length ≤ 2 ∧ r.1.2.length ≤ 2 ∧ r.2.1.2.length ≤ 2 ∧ r.2.2.length ≤ 2 := by
  unfold iV at h
  rw [Bool.or_eq_false_iff] at h
  have := h.2
  simp [mG, m4] at this
  omega
theorem kshx {l : List PX} {r : PX} (hl : l.length ≤ 100) (hs : gJ l = true) (hr : iV [r] = false) : CTy prog 73 [sv (pcx l), ag (ptx r)] (sv (mcx ((l.map px).map (xW · (px r))))) :=
 have g := big_len hr
 qG (k18shift (n := 1) (m := 2) (by omega) (by omega) (by simpa using hl)) (fs1 (fun M w v k => pcx_q hs k) (fs1 (fun M w v ⟨us, e, k⟩ => ⟨us, e, ptx_q r g.1 g.2.1 g.2.2.1 g.2.2.2 k⟩) fs0))
theorem kshb {b : PX × PX} {r : PX} (hs : gJ [b.1, b.2] = true) (hr : iV [r] = false) : CTy prog 73 [sv (sl 6 [ptx b.1, ptx b.2]), ag (ptx r)] (sv (sl 6 [ptc 12 (kW (bxs b) (px r)).1, ptc 12 (kW (bxs b) (px r)).2])) :=
 kshx (l := [b.1, b.2]) (by simp) hs hr
theorem kcallm {ls : List (List P2)} {b : P2 × P2} (hl0 : ls.length ≤ 5) (h6 : ∀ l ∈ ls, l.length ≤ 7) : CTy prog 68 [sv (sl 1 (ls.map mcx)), ag (st [ptc 12 b.1, ptc 12 b.2])] (sv (sl 3 ((cutsOf ls b).map (rtc 465)))) :=
 qG (kcall (n := 12) (by omega) hl0 h6) (fs1 (fun M w v k => ct_row (f := mcx) (g := pcs 12) (fun a _ _ _ _ => ct_row (f := ptc 12) (g := ptq 12) (fun a _ _ _ _ => ptc_q a) (fun _ => rfl)) (fun _ => rfl) k) (fs1 (fun M w v ⟨us, e, x, y, e1, h1, z, o, e2, h2, h3⟩ => ⟨us, e, x, y, e1, ptc_q _ h1, z, o, e2, ptc_q _ h2, h3⟩) fs0))
theorem moved_c {ls : List (List PX)} {b : PX × PX} {r : PX} (h : Tr ((!lY ls b || decide (3 < (ls.length : Int)) || iV [r]) = false)) : ls.length ≤ 3 ∧ gJ [b.1, b.2] = true ∧ (∀ l ∈ ls, l.length ≤ 6 ∧ gJ l = true) ∧ iV [r] = false := by
 have h1 := h.h
 rw [Bool.or_eq_false_iff, Bool.or_eq_false_iff] at h1
 have h2 := few_ok (ls := ls) (b := b) (by simpa using h1.1.1)
 have h3 := of_decide_eq_false h1.1.2
 exact ⟨by omega, h2.2.1, h2.2.2, h1.2⟩
theorem cuts_pos (ls : List (List P2)) (b : P2 × P2) : 0 < (cutsOf ls b).length := List.length_pos_of_mem (a := b.1.1) (by unfold cutsOf; rw [setOf_mem iQ]; simp [rawC])
theorem pxs_at {ls : List (List PX)} {k : Nat} : (pxs ls).getD k [] = (ls.getD k Df.d).map px := by
 simp only [List.getD_eq_getElem?_getD, List.getElem?_map]; cases ls[k]? <;> rfl
theorem law_CutsMoved {ls : List (List PX)} {b : PX × PX} {r : PX} : CTy prog 14 [sv (sl 1 (ls.map pcx)), ag (st [ptx b.1, ptx b.2]), ag (ptx r)] (exP (.bool true)) := by
 refine ctc func14 rfl rfl rfl rfl fun X => (zI (zJ rfl (mP (obx rfl) (mP (obx rfl) (mP (oas rfl) (mO (zI (zI (zJ rfl ?_)))))))))
 refine mP (omv rfl) (mP (old rfl rfl) (mP (oca rfl rfl fun _ => kfew) (mP (ont rfl) (mP (omv rfl) (t1g rfl rfl (omv rfl) (t1g rfl rfl (oln rfl) (t1g rfl rfl (ogt rfl rfl) (mP (opk rfl rfl rfl) (mP (omv rfl) ?_)))))))))
 refine t1g rfl rfl (old rfl rfl) (t1g rfl rfl (obs rfl rfl rfl rfl rfl rfl) (t1g rfl rfl (oca rfl rfl fun g => kg18 (l := [r])) (mP (opk rfl rfl rfl) (mO ?_))))
 refine jD rfl (fun c0 => ?_) (fun c0 => ?_)
 refine zI (zJ rfl (mP (oca rfl rfl fun _ => kwakes22) (mP (oas rfl) (mO (yJ (⟨[_], rst rfl rs0, yX (PSub.refl _)⟩))))))
 refine yQ (zI (zJ rfl (mP (oas rfl) (mO (zI (zI (zJ rfl (mP (oas rfl) (mO ?_)))))))))
 refine yF ?_
 rotate_left 1
 have hc := moved_c c0
 have hcm := cuts_mv (pxs ls) (bxs b) (px r)
 have h0 := cuts_pos (pxs ls) (bxs b)
 have hat : ∀ {i}, i < ls.length → (ls.getD i Df.d).length ≤ 6 ∧ gJ (ls.getD i Df.d) = true := fun {i} hi => hc.2.2.1 _ (by rw [List.getD_eq_getElem?_getD, List.getElem?_eq_getElem hi]; exact List.getElem_mem hi)
 refine cL (fF 63 1) ?_
 refine jV (σ := Nat × Value) (fun s => [(7, True, exP s.2), (8, True, exP (.int .i64 ((s.1 : Nat) : Int)))]) (fun s => [.row s.2 63 1 (((mvL (px r) (pxs ls)).take s.1).map mcx)]) (fun s => s.1 ≤ ls.length) (fun s => ls.length - s.1) ((0, .slice none 0 0)) (tk 0 rfl (tk 4 rfl (tk 5 rfl tn))) ?_ rfl ((by simp)) (fun s hJ Y _ => ?_)
 refine tc rfl (zZ _) (tc rfl (zZ _) (tn))
 rotate_left 1
 refine zI (zI (zJ rfl (mP (omv rfl) (mP (omv rfl) (mP (oln rfl) (mP (olt rfl rfl) (mO ?_)))))))
 refine jD rfl (fun c1 => ?_) (fun c1 => ?_)
 refine yQ (zI (yF (xK 8 mixed rfl rfl (d1 (omv rfl) (d1 (omv rfl) (d1 (omv rfl) (d1 (oix _ rfl rfl rfl (fun _ => rfl) (fun _ => (by (have e0 := dt c1; omega)))) (d1 (old rfl rfl) (d1 (old rfl rfl) ?_)))))))))
 refine d1 (oca rfl rfl fun _ => kshx ?_ ?_ ?_) ?_
 rotate_left 1
 rotate_left 1
 rotate_left 1
 refine d1 (obs rfl rfl rfl rfl rfl rfl) (d0 (tap 0 rfl rfl rfl (by (simp; omega)) rfl fun r42 => (mP (oas rfl) (mO (zJ rfl (mP (omv rfl) (mP (oad rfl rfl (by omega)) (mP (oas rfl) (mO ?_)))))))))
 rotate_left 1
 rotate_left 1
 ·have := hat (show s.1 < ls.length by have := dt c1; omega); omega
 ·exact (hat (by have := dt c1; omega)).2
 ·exact hc.2.2.2
 ·refine ⟨(s.1 + 1, r42), tes ?_ ?_ ?_, (by (have e0 := dt c1; omega)), (by (have e0 := dt c1; omega))⟩
  refine tc rfl (zZ _) (tc rfl (zZ _) (tn))
  refine tc rfl (zZ _) (tc rfl (zZ _) (tc rfl (zZ _) (tn)))
  rotate_left 1
  have hs := dt c1
  rw [(xR ([] : List P2) (l := mvL (px r) (pxs ls)) (show s.1 < _ by simp; omega)).1, List.map_append, mvL_at, pxs_at]
  exact List.Sublist.refl _
 ·have hs : s.1 = ls.length := by have := df c1; omega
  refine cL (fG 0 rfl (s := 7) rfl) ?_
  refine cL (ts_as (s := 7) rfl (ps_p (show _ = sv (sl 1 ((mvL (px r) (pxs ls)).map mcx)) from by rw [hs, List.take_of_length_le (by simp)]))) ?_
  refine jO (zI (zJ rfl (mP (ofa rfl rfl) (mP (old rfl rfl) (mP (ofa rfl rfl) (mP (old rfl rfl) (mP (obs rfl rfl rfl rfl rfl rfl) (mP (old rfl rfl) ?_))))))))
  refine mP (oca rfl rfl fun _ => kshb ?_ ?_) ?_
  rotate_left 1
  rotate_left 1
  refine mP (oas rfl) (mO (zI (xK 14 mixed rfl rfl (d1 (omv rfl) (d1 (old rfl rfl) ?_)))))
  refine d1 (oca rfl rfl fun _ => kcallx (by omega) ?_ ?_) ?_
  rotate_left 1
  rotate_left 1
  refine d1 (omv rfl) (d1 (omv rfl) (d1 (oix _ rfl rfl rfl (fun _ => rfl) (fun _ => (by (simp; done)))) (d1 (old rfl rfl) (d1 (omv rfl) (d1 (oix _ rfl rfl rfl (fun _ => rfl) (fun _ => (by (simp; done)))) (d1 (old rfl rfl) ?_))))))
  refine d1 (obd rfl rfl rfl) ?_
  refine d1 (oca rfl rfl fun _ => kcallm (ls := mvL (px r) (pxs ls)) (b := kW (bxs b) (px r)) (by (simp; omega)) ?_) ?_
  rotate_left 1
  refine d1 (oas rfl) (d1 (oas rfl) (d0 (mO (zI (zI (zJ rfl (mP (omv rfl) (mP (oln rfl) (mP (omv rfl) ?_)))))))))
  refine mP (oln rfl) (mP (oni rfl rfl) (mP (omv rfl) (t1g rfl rfl (omv rfl) (t1g rfl rfl (oln rfl) (t1g rfl rfl (oeq rfl rfl) (mP (opk rfl rfl rfl) (mO ?_)))))))
  refine jD rfl (fun c2 => ?_) (fun c2 => ?_)
  refine zI (zJ rfl (mP (oas rfl) (mO (yJ (⟨[_], rst rfl rs0, yX ?_⟩)))))
  refine psb ?_
  rotate_left 1
  refine yQ (zI (zI (zJ rfl (mP (oas rfl) (mO (yF ?_))))))
  rotate_left 1
  ·exact hc.2.1
  ·exact hc.2.2.2
  ·exact hc.2.1
  ·exact hc.2.2.1
  ·exact fun l hl => by
    obtain ⟨a, ha, rfl⟩ := List.mem_map.1 hl
    obtain ⟨c, hc2, rfl⟩ := List.mem_map.1 ha
    simp only [List.length_map]; have := (hc.2.2.1 c hc2).1; omega
  ·have h2 := c2.h
   rw [hcm, List.length_map, Bool.or_eq_true, decide_eq_true_eq, decide_eq_true_eq] at h2
   omega
  refine cL (ts_as (s := 11) rfl (ps_p (show _ = sv (sl 3 (((cutsOf (pxs ls) (bxs b)).map (· + (px r).1)).map (rtc 465))) from by rw [hcm]))) ?_
  refine jV (σ := Nat) (fun i => [(12, True, exP (.int .i64 ((i : Nat) : Int)))]) (fun i => []) (fun i => i ≤ (cutsOf (pxs ls) (bxs b)).length) (fun i => (cutsOf (pxs ls) (bxs b)).length - i) (0) (tk 5 rfl (tk 10 rfl (tk 11 rfl tn))) ?_ rfl ((by omega)) (fun i hJ Y _ => ?_)
  refine tc rfl (zZ _) (tn)
  rotate_left 1
  have hb := big_len hc.2.2.2
  have hl := cuts_len (ls := pxs ls) (b := bxs b) (by simp; omega) fun l hl => by
   obtain ⟨a, ha, rfl⟩ := List.mem_map.1 hl
   rw [List.length_map]; have := (hc.2.2.1 a ha).1; omega
  refine zI (zI (zJ rfl (mP (omv rfl) (mP (omv rfl) (mP (oln rfl) (mP (olt rfl rfl) (mO ?_)))))))
  refine jD rfl (fun c3 => ?_) (fun c3 => ?_)
  refine yQ (zI (yF (zI (xK 14 mixed rfl rfl (d1 (omv rfl) (d1 (omv rfl) (d1 (oix _ rfl rfl rfl (fun _ => rfl) (fun _ => (by (have e0 := dt c3; simp; omega)))) (d1 (old rfl rfl) (d1 (omv rfl) ?_)))))))))
  refine d1 (omv rfl) (d1 (oix _ rfl rfl rfl (fun _ => rfl) (fun _ => (by (have e0 := dt c3; omega)))) (d1 (old rfl rfl) (d1 (ofa rfl rfl) (d1 (old rfl rfl) (d1 (obs rfl rfl rfl rfl rfl rfl) (d1 (oca rfl rfl fun _ => k7add (by omega)) (d1 (oca rfl rfl fun _ => k7told (by omega) (by omega)) (d1 (ont rfl) (d0 ?_)))))))))
  refine mO ?_
  refine jD rfl (fun c4 => ?_) (fun c4 => ?_)
  refine zI (zJ rfl (mP (oas rfl) (mO (yJ (⟨[_], rst rfl rs0, yX ?_⟩)))))
  refine psb ?_
  rotate_left 1
  refine yQ (zJ rfl (mP (omv rfl) (mP (oad rfl rfl (by omega)) (mP (oas rfl) (mO ?_)))))
  rotate_left 1
  refine jO (zI (zJ rfl (mP (oca rfl rfl fun _ => kwakes22) (mP (oas rfl) (mO (yJ (⟨[_], rst rfl rs0, yX (PSub.refl _)⟩)))))))
  ·have h4 := c4.h
   have hi := dt c3
   simp [List.getD_eq_getElem?_getD, List.getElem?_eq_getElem (show i < (cutsOf (pxs ls) (bxs b)).length by omega)] at h4
   exact absurd rfl h4
  ·refine ⟨i + 1, tes ?_ ?_ (List.Sublist.refl _), (by (have e0 := dt c3; omega)), (by (have e0 := dt c3; omega))⟩
   refine tc rfl (zZ _) (tn)
   refine tc rfl (zZ _) (tc rfl (zZ _) (tc rfl (zZ _) (tn)))
end Go.Proofs.YtfkejnlohkgbgaaGreatDoor
namespace Go.Proofs.YtfkejnlohkgbgaaGreatDoor
open Go Go.SL Go.RowKit Go.Proofs Go.ChangeShapes Go.WideShapes Go.ChangeAt Go.Deep Tryz
section
variable {H : Type} {enc : TypeId × Value → H} {P : Program} {W : World} {B : Nat} {tp tr ti tn tb tw : TypeId}
abbrev BdX (B : Nat) (a : RX) : Prop := (True ∧ a.1.2.length ≤ B) ∧ a.2.length ≤ B
abbrev BpX (B : Nat) (a : PX) : Prop := BdX B a.1 ∧ BdX B a.2
theorem opn_ratx (T : NumTypes P tp tr ti tn tb tw) : Opn enc P W B tr 3 rtx (BdX B) :=
 opn_two T.r (opn_two T.i (opn_bool T.b T.cb) (opn_nat T.n T.w T.cw T.cn T.hb)) (opn_nat T.n T.w T.cw T.cn T.hb)
theorem opn_ptx (T : NumTypes P tp tr ti tn tb tw) : Opn enc P W B tp 6 ptx (BpX B) :=
 opn_two T.p (opn_ratx T) (opn_ratx T)
theorem opn_pcx {t : TypeId} (T : NumTypes P tp tr ti tn tb tw) (ht : P.underlying t = some (.slice tp)) (c : P.cellsOf t = 1) : Opn enc P W B t 1 pcx (fun l => l.length * P.bytesOf tp ≤ B ∧ ∀ a ∈ l, BpX B a) :=
 opn_slicew ht c (opn_ptx T) (by omega)
end
end Go.Proofs.YtfkejnlohkgbgaaGreatDoor
