/- Walks of the functions that the statement reaches, and the lemmas they stand on; no statement of the seat is proved here. -/
import Derived.Test.YtfkejnlohkgbgaaGreatDoorPe
set_option linter.unusedVariables false
set_option linter.unusedSimpArgs false
set_option maxRecDepth 100000
namespace Go.Proofs.YtfkejnlohkgbgaaGreatDoor
open Go.SL Go.RowKit Go.Proofs Tryz
variable {M : Nat → Prop} {w : World}
abbrev N4 := Nat × Nat × Nat × Nat
def m4 (k : N4) : Nat := max (max (max k.1 k.2.1) k.2.2.1) k.2.2.2
structure Q4 (M : Nat → Prop) (w : World) (n : Nat) (q : N4) (s : Bool) (a d : Value) (t : Bool) (b e : Value) : Prop where
  a : ∃ p c, a = .slice p q.1 c
  d : ∃ p c, d = .slice p q.2.1 c
  b : ∃ p c, b = .slice p q.2.2.1 c
  e : ∃ p c, e = .slice p q.2.2.2 c
theorem Q4.mono {M M' : Nat → Prop} {w w' : World} {n : Nat} {q : N4} {s : Bool} {a d : Value} {t : Bool} {b e : Value} {Fz : Nat → Prop} (h : Q4 M w n q s a d t b e) (l : Le Fz M w M' w') : Q4 M' w' n q s a d t b e := ⟨h.a, h.d, h.b, h.e⟩
theorem Q4.one {n : Nat} {q : N4} {s : Bool} {a d : Value} {t : Bool} {b e : Value} (h : Q4 M w n q s a d t b e) : a.oneCell' = true ∧ d.oneCell' = true ∧ b.oneCell' = true ∧ e.oneCell' = true ∧ True := by
  obtain ⟨⟨_, _, rfl⟩, ⟨_, _, rfl⟩, ⟨_, _, rfl⟩, ⟨_, _, rfl⟩⟩ := h; exact ⟨rfl, rfl, rfl, rfl, trivial⟩
def RQ4 (n : Nat) : cF N4 := fun M w q us => ∃ s a d t b e, us = [.bool s, a, d, .bool t, b, e] ∧ Q4 M w n q s a d t b e
structure Q4L (M : Nat → Prop) (w : World) (n : Nat) (q : List N4) (v : Value) : Prop where
  row : RowOf (RQ4 n) 6 M w v q
theorem Q4L.mono {M M' : Nat → Prop} {w w' : World} {n : Nat} {q : List N4} {v : Value} {Fz : Nat → Prop} (h : Q4L M w n q v) (l : Le Fz M w M' w') : Q4L M' w' n q v := ⟨h.row.mono l (fun _ _ ⟨a, b, c, d, e, f, e0, h0⟩ => ⟨a, b, c, d, e, f, e0, h0.mono l⟩)⟩
theorem Q4L.one {n : Nat} {q : List N4} {v : Value} (h : Q4L M w n q v) : v.oneCell' = true ∧ True := by obtain ⟨_, ⟨_, _, ad, cap, rfl, _⟩, _⟩ := h.row; exact ⟨rfl, trivial⟩
theorem getD_mem {α : Type} {l : List α} {s : Nat} (d : α) (h : s < l.length) : l.getD s d ∈ l := by rw [List.getD_eq_getElem?_getD, List.getElem?_eq_getElem h]; exact List.getElem_mem h
def fK (l : List N4) : Bool := decide (∃ x ∈ l, 2 < m4 x)
theorem longB_take {l : List N4} {s : Nat} (h : s < l.length) (hs : ∀ x ∈ l.take s, ¬ 2 < m4 x) (hx : ¬ 2 < m4 (l.getD s (0, 0, 0, 0))) : ∀ x ∈ l.take (s + 1), ¬ 2 < m4 x := by
  rw [(qI (0, 0, 0, 0) h).1]
  intro x hx2
  rcases List.mem_append.1 hx2 with c | c
  · exact hs x c
  · rw [List.mem_singleton.1 c]; exact hx
section
variable {P : Program} {r : Option Nat} {N : Nat} {all : Array Oper} {K : Pd} {D : List Deferred} {E : Env} {w : World} {rest : List Oper}
theorem ops_max4 {d : Nat} {x y z u : Operand} {ts : Array TypeId} {t' : TypeId} {pos : String} {af : Array Edge} {k : IntKind} {a b c e : Nat} (hd : Nat.blt d N = true)
    (hx : ev E x = some (.int k (a : Int))) (hy : ev E y = some (.int k (b : Int))) (hz : ev E z = some (.int k (c : Int))) (hu : ev E u = some (.int k (e : Int)))
    (h : Ops P r N all K rest D ((d, .int k ((m4 (a, b, c, e) : Nat) : Int)) :: E) w) : Ops P r N all K (⟨some d, .call ⟨.builtin .max, #[x, y, z, u], ts⟩, t', pos, af, none⟩ :: rest) D E w :=
  jG hd (by intro c hc; cases hc) (fun ac ha => by
    have e1 : (Builtin.max_ ts t' #[.int k (a : Int), .int k (b : Int), .int k (c : Int), .int k (e : Int)]).run P w = .ok (.int k ((m4 (a, b, c, e) : Nat) : Int)) w := by
      have : (let m1 := if (b : Int) > (a : Int) then (b : Int) else a; let m2 := if (c : Int) > m1 then (c : Int) else m1; if (e : Int) > m2 then (e : Int) else m2) = ((m4 (a, b, c, e) : Nat) : Int) := by
        unfold m4; simp only; split <;> split <;> split <;> omega
      rw [← this]; rfl
    simp only [execOp, resolve, invoke, builtin, Sem.run_bind, Sem.run_pure, Result.andThen, List.map_toArray, List.map_cons, List.map_nil, ha.ev hx, ha.ev hy, ha.ev hz, ha.ev hu]
    rw [e1]) h
end
theorem long_c {l : List N4} {n0 : Nat} {xa0 : Value} (h0 : Q4L M w n0 l xa0) (hl0 : n0 ≤ 20000) (hlen : l.length ≤ 1000) (hM : OkM M w) :
    CallsV prog 24 [xa0] w fun r w' => Below w.heap.size w w' ∧ r = .bool (fK l) := by
 obtain ⟨Fz, hFz, hF, LL⟩ := fz0 M w
 obtain ⟨oxa0, _⟩ := h0.one
 have hM0 := hM
 refine zP func24 rfl ntmps24 rfl ?_
 refine zF (zC (zE rfl rfl (zA (zF (zF (zC (zE rfl rfl (zA (yK ?_)))))))))
 refine jA (σ := Nat) [(0, _)] (fun s => [(3, .int .i64 ((s : Nat) : Int))]) (fun s w1 => Le Fz M w M w1 ∧ s ≤ l.length ∧ ∀ x ∈ l.take s, ¬ 2 < m4 x) (fun s => l.length - s) (0) (zG rfl (zG rfl yM)) ?_ (fun s w1 hJ => ?_)
 · exact ⟨Le.refl _ _ _, by omega, by simp⟩
 ·obtain ⟨LR, hk, hs⟩ := hJ
  replace LL := LL.trans LR
  replace hM := hM.mono LR
  replace hF := hF.mono LR
  replace h0 := h0.mono LR
  refine zF (zF (zC (zB rfl rfl (zB rfl rfl (aK rfl yu63 rfl h0.row (jR rfl rfl rfl (zA ?_)))))))
  refine yC rfl (fun hc0 => ?_) (fun hc0 => ?_)
  ·refine yO (zF (yK (zF ?_)))
   refine xL (R := Rb) (R' := Rb) (st := none) jJ 30 [0, 3, 4, 5, 6, 7, 10, 11, 12, 13, 14, 15, 16, 17, 18, 19, 20, 21, 22, 23, 24, 25, 26, 27, 28, 29, 30, 31, 32, 33, 34, 35, 36, 37, 38, 39] (qO (by decide +kernel)) xJ xU (xS _) (fun _ _ _ h => by cases h) ?_
   refine zX (fun v w => ∃ xa10, v = xa10 ∧ Q4L M w (n0) (l) xa10) (fun _ _ _ ⟨xa10, e, h0⟩ r => ⟨xa10, e, h0.mono (Fz := fun _ => False) (Le.of_below r)⟩) (fun wq hR hst => ?_) ?_
   ·refine zO rfl rfl (zD ?_)
    have Lq := Le.of_below (Fz := Fz) (M := M) hR
    replace h0 := h0.mono Lq
    refine zB rfl rfl ?_
    exact zA ⟨rfl, yP _, _, rfl, ⟨_, rfl, h0⟩⟩
   refine zM (fun _ _ _ => zO rfl rfl (zD (zB rfl rfl (zA ⟨rfl, yP _, _, rfl, rfl⟩)))) ?_
   refine zX (fun v w => ∃ b o xs12 xa12 xd12 xt12 xb12 xe12, v = .pointer (some ⟨b, o, none⟩) ∧ (∀ (q : Nat) (u : Value), [.bool xs12, xa12, xd12, .bool xt12, xb12, xe12][q]? = some u → w.cell? ⟨b, o + q, none⟩ = some u) ∧ Q4 M w (n0) (l.getD s (0, 0, 0, 0)) xs12 xa12 xd12 xt12 xb12 xe12) (fun _ _ _ ⟨b, o, xs12, xa12, xd12, xt12, xb12, xe12, e, hc, h⟩ r => ⟨b, o, xs12, xa12, xd12, xt12, xb12, xe12, e, fun q u hq => jI r (hc q u hq), h.mono (Fz := fun _ => False) (Le.of_below r)⟩) (fun wq hR hst => ?_) ?_
   ·refine yE rfl (fun v10 hp10 => ?_)
    obtain ⟨xa10, rfl, hn10⟩ := hp10
    refine zK rfl (zD ?_)
    refine gZ (dflt := ((0, 0, 0, 0) : N4)) (s) rfl yu63 xG rfl rfl hn10.row (by first | rfl | omega) (by first | omega | (simp; omega) | simp) (fun b12 o12 us12 hul12 hu12 hc12 => ?_)
    obtain ⟨xs12, xa12, xd12, xt12, xb12, xe12, rfl, hn12⟩ := hu12
    exact zA ⟨rfl, yP _, _, rfl, ⟨b12, o12, _, _, _, _, _, _, rfl, hc12, hn12⟩⟩
   refine zX (fun v w => ∃ b o xs13 xa13 xd13 xt13 xb13 xe13, v = .pointer (some ⟨b, o, none⟩) ∧ (∀ (q : Nat) (u : Value), [.bool xs13, xa13, xd13, .bool xt13, xb13, xe13][q]? = some u → w.cell? ⟨b, o + q, none⟩ = some u) ∧ Q4 M w (n0) (l.getD s (0, 0, 0, 0)) xs13 xa13 xd13 xt13 xb13 xe13) (fun _ _ _ ⟨b, o, xs13, xa13, xd13, xt13, xb13, xe13, e, hc, h⟩ r => ⟨b, o, xs13, xa13, xd13, xt13, xb13, xe13, e, fun q u hq => jI r (hc q u hq), h.mono (Fz := fun _ => False) (Le.of_below r)⟩) (fun wq hR hst => ?_) ?_
   ·refine yE rfl (fun v12 hp12 => ?_)
    obtain ⟨b12, o12, xs12, xa12, xd12, xt12, xb12, xe12, rfl, hc12, hn12⟩ := hp12
    refine zD ?_
    refine xA 0 rfl yu39 rfl rfl yN rfl rfl ?_
    exact zA ⟨rfl, yP _, _, rfl, ⟨_, _, _, _, _, _, _, _, rfl, hc12, hn12⟩⟩
   refine zX (fun v w => ∃ b o xs14 xa14 xd14 xt14 xb14 xe14, v = .pointer (some ⟨b, o, none⟩) ∧ (∀ (q : Nat) (u : Value), [.bool xs14, xa14, xd14, .bool xt14, xb14, xe14][q]? = some u → w.cell? ⟨b, o + q, none⟩ = some u) ∧ Q4 M w (n0) (l.getD s (0, 0, 0, 0)) xs14 xa14 xd14 xt14 xb14 xe14) (fun _ _ _ ⟨b, o, xs14, xa14, xd14, xt14, xb14, xe14, e, hc, h⟩ r => ⟨b, o, xs14, xa14, xd14, xt14, xb14, xe14, e, fun q u hq => jI r (hc q u hq), h.mono (Fz := fun _ => False) (Le.of_below r)⟩) (fun wq hR hst => ?_) ?_
   ·refine yE rfl (fun v13 hp13 => ?_)
    obtain ⟨b13, o13, xs13, xa13, xd13, xt13, xb13, xe13, rfl, hc13, hn13⟩ := hp13
    refine zD ?_
    refine xA 0 rfl yu33 rfl rfl xC rfl rfl ?_
    exact zA ⟨rfl, yP _, _, rfl, ⟨_, _, _, _, _, _, _, _, rfl, hc13, hn13⟩⟩
   refine zX (fun v w => ∃ b o xs15 xa15 xd15 xt15 xb15 xe15, v = .pointer (some ⟨b, o + 1, none⟩) ∧ (∀ (q : Nat) (u : Value), [.bool xs15, xa15, xd15, .bool xt15, xb15, xe15][q]? = some u → w.cell? ⟨b, o + q, none⟩ = some u) ∧ Q4 M w (n0) (l.getD s (0, 0, 0, 0)) xs15 xa15 xd15 xt15 xb15 xe15) (fun _ _ _ ⟨b, o, xs15, xa15, xd15, xt15, xb15, xe15, e, hc, h⟩ r => ⟨b, o, xs15, xa15, xd15, xt15, xb15, xe15, e, fun q u hq => jI r (hc q u hq), h.mono (Fz := fun _ => False) (Le.of_below r)⟩) (fun wq hR hst => ?_) ?_
   ·refine yE rfl (fun v14 hp14 => ?_)
    obtain ⟨b14, o14, xs14, xa14, xd14, xt14, xb14, xe14, rfl, hc14, hn14⟩ := hp14
    refine zD ?_
    refine xA 1 rfl yu31 rfl rfl xV rfl rfl ?_
    exact zA ⟨rfl, yP _, _, rfl, ⟨_, _, _, _, _, _, _, _, rfl, hc14, hn14⟩⟩
   refine zX (fun v w => ∃ p c, v = .slice p (l.getD s (0, 0, 0, 0)).1 c) (fun _ _ _ h _ => h) (fun wq hR hst => ?_) ?_
   ·refine yE rfl (fun v15 hp15 => ?_)
    obtain ⟨b15, o15, xs15, xa15, xd15, xt15, xb15, xe15, rfl, hc15, hn15⟩ := hp15
    refine zD ?_
    refine xQ rfl yX rfl (hc15 1 _ rfl) ?_
    exact zA ⟨rfl, yP _, _, rfl, hn15.a⟩
   refine zX (Ex (.int .i64 (((l.getD s (0, 0, 0, 0)).1 : Nat) : Int))) jW (fun wq hR hst => ?_) ?_
   ·refine yE rfl (fun v16 hp16 => ?_)
    obtain ⟨p16, c16, rfl⟩ := hp16
    refine zD ?_
    have Lq := Le.of_below (Fz := Fz) (M := M) hR
    replace LL := LL.trans Lq
    replace LR := LR.trans Lq
    replace hM := hM.mono Lq
    replace hF := hF.mono Lq
    replace h0 := h0.mono Lq
    first | refine yY rfl yu29 rfl ?_ | refine yS rfl yu29 rfl (IsNat.slc (by assumption)) ?_ | refine qG rfl yu29 rfl (by assumption) ?_ | refine qF rfl yu29 rfl (by assumption) ?_
    exact zA ⟨rfl, yP _, _, rfl, rfl⟩
   refine zX (fun v w => ∃ xa18, v = xa18 ∧ Q4L M w (n0) (l) xa18) (fun _ _ _ ⟨xa18, e, h0⟩ r => ⟨xa18, e, h0.mono (Fz := fun _ => False) (Le.of_below r)⟩) (fun wq hR hst => ?_) ?_
   ·refine zO rfl rfl (zD ?_)
    have Lq := Le.of_below (Fz := Fz) (M := M) hR
    replace h0 := h0.mono Lq
    refine zB rfl rfl ?_
    exact zA ⟨rfl, yP _, _, rfl, ⟨_, rfl, h0⟩⟩
   refine zM (fun _ _ _ => zO rfl rfl (zD (zB rfl rfl (zA ⟨rfl, yP _, _, rfl, rfl⟩)))) ?_
   refine zX (fun v w => ∃ b o xs20 xa20 xd20 xt20 xb20 xe20, v = .pointer (some ⟨b, o, none⟩) ∧ (∀ (q : Nat) (u : Value), [.bool xs20, xa20, xd20, .bool xt20, xb20, xe20][q]? = some u → w.cell? ⟨b, o + q, none⟩ = some u) ∧ Q4 M w (n0) (l.getD s (0, 0, 0, 0)) xs20 xa20 xd20 xt20 xb20 xe20) (fun _ _ _ ⟨b, o, xs20, xa20, xd20, xt20, xb20, xe20, e, hc, h⟩ r => ⟨b, o, xs20, xa20, xd20, xt20, xb20, xe20, e, fun q u hq => jI r (hc q u hq), h.mono (Fz := fun _ => False) (Le.of_below r)⟩) (fun wq hR hst => ?_) ?_
   ·refine yE rfl (fun v18 hp18 => ?_)
    obtain ⟨xa18, rfl, hn18⟩ := hp18
    refine zK rfl (zD ?_)
    refine gZ (dflt := ((0, 0, 0, 0) : N4)) (s) rfl yu63 xG rfl rfl hn18.row (by first | rfl | omega) (by first | omega | (simp; omega) | simp) (fun b20 o20 us20 hul20 hu20 hc20 => ?_)
    obtain ⟨xs20, xa20, xd20, xt20, xb20, xe20, rfl, hn20⟩ := hu20
    exact zA ⟨rfl, yP _, _, rfl, ⟨b20, o20, _, _, _, _, _, _, rfl, hc20, hn20⟩⟩
   refine zX (fun v w => ∃ b o xs21 xa21 xd21 xt21 xb21 xe21, v = .pointer (some ⟨b, o, none⟩) ∧ (∀ (q : Nat) (u : Value), [.bool xs21, xa21, xd21, .bool xt21, xb21, xe21][q]? = some u → w.cell? ⟨b, o + q, none⟩ = some u) ∧ Q4 M w (n0) (l.getD s (0, 0, 0, 0)) xs21 xa21 xd21 xt21 xb21 xe21) (fun _ _ _ ⟨b, o, xs21, xa21, xd21, xt21, xb21, xe21, e, hc, h⟩ r => ⟨b, o, xs21, xa21, xd21, xt21, xb21, xe21, e, fun q u hq => jI r (hc q u hq), h.mono (Fz := fun _ => False) (Le.of_below r)⟩) (fun wq hR hst => ?_) ?_
   ·refine yE rfl (fun v20 hp20 => ?_)
    obtain ⟨b20, o20, xs20, xa20, xd20, xt20, xb20, xe20, rfl, hc20, hn20⟩ := hp20
    refine zD ?_
    refine xA 0 rfl yu39 rfl rfl yN rfl rfl ?_
    exact zA ⟨rfl, yP _, _, rfl, ⟨_, _, _, _, _, _, _, _, rfl, hc20, hn20⟩⟩
   refine zX (fun v w => ∃ b o xs22 xa22 xd22 xt22 xb22 xe22, v = .pointer (some ⟨b, o + 2, none⟩) ∧ (∀ (q : Nat) (u : Value), [.bool xs22, xa22, xd22, .bool xt22, xb22, xe22][q]? = some u → w.cell? ⟨b, o + q, none⟩ = some u) ∧ Q4 M w (n0) (l.getD s (0, 0, 0, 0)) xs22 xa22 xd22 xt22 xb22 xe22) (fun _ _ _ ⟨b, o, xs22, xa22, xd22, xt22, xb22, xe22, e, hc, h⟩ r => ⟨b, o, xs22, xa22, xd22, xt22, xb22, xe22, e, fun q u hq => jI r (hc q u hq), h.mono (Fz := fun _ => False) (Le.of_below r)⟩) (fun wq hR hst => ?_) ?_
   ·refine yE rfl (fun v21 hp21 => ?_)
    obtain ⟨b21, o21, xs21, xa21, xd21, xt21, xb21, xe21, rfl, hc21, hn21⟩ := hp21
    refine zD ?_
    refine xA 2 rfl yu33 rfl rfl xV rfl rfl ?_
    exact zA ⟨rfl, yP _, _, rfl, ⟨_, _, _, _, _, _, _, _, rfl, hc21, hn21⟩⟩
   refine zX (fun v w => ∃ p c, v = .slice p (l.getD s (0, 0, 0, 0)).2.1 c) (fun _ _ _ h _ => h) (fun wq hR hst => ?_) ?_
   ·refine yE rfl (fun v22 hp22 => ?_)
    obtain ⟨b22, o22, xs22, xa22, xd22, xt22, xb22, xe22, rfl, hc22, hn22⟩ := hp22
    refine zD ?_
    refine xQ rfl yX rfl (hc22 2 _ rfl) ?_
    exact zA ⟨rfl, yP _, _, rfl, hn22.d⟩
   refine zX (Ex (.int .i64 (((l.getD s (0, 0, 0, 0)).2.1 : Nat) : Int))) jW (fun wq hR hst => ?_) ?_
   ·refine yE rfl (fun v23 hp23 => ?_)
    obtain ⟨p23, c23, rfl⟩ := hp23
    refine zD ?_
    have Lq := Le.of_below (Fz := Fz) (M := M) hR
    replace LL := LL.trans Lq
    replace LR := LR.trans Lq
    replace hM := hM.mono Lq
    replace hF := hF.mono Lq
    replace h0 := h0.mono Lq
    first | refine yY rfl yu29 rfl ?_ | refine yS rfl yu29 rfl (IsNat.slc (by assumption)) ?_ | refine qG rfl yu29 rfl (by assumption) ?_ | refine qF rfl yu29 rfl (by assumption) ?_
    exact zA ⟨rfl, yP _, _, rfl, rfl⟩
   refine zX (fun v w => ∃ xa25, v = xa25 ∧ Q4L M w (n0) (l) xa25) (fun _ _ _ ⟨xa25, e, h0⟩ r => ⟨xa25, e, h0.mono (Fz := fun _ => False) (Le.of_below r)⟩) (fun wq hR hst => ?_) ?_
   ·refine zO rfl rfl (zD ?_)
    have Lq := Le.of_below (Fz := Fz) (M := M) hR
    replace h0 := h0.mono Lq
    refine zB rfl rfl ?_
    exact zA ⟨rfl, yP _, _, rfl, ⟨_, rfl, h0⟩⟩
   refine zM (fun _ _ _ => zO rfl rfl (zD (zB rfl rfl (zA ⟨rfl, yP _, _, rfl, rfl⟩)))) ?_
   refine zX (fun v w => ∃ b o xs27 xa27 xd27 xt27 xb27 xe27, v = .pointer (some ⟨b, o, none⟩) ∧ (∀ (q : Nat) (u : Value), [.bool xs27, xa27, xd27, .bool xt27, xb27, xe27][q]? = some u → w.cell? ⟨b, o + q, none⟩ = some u) ∧ Q4 M w (n0) (l.getD s (0, 0, 0, 0)) xs27 xa27 xd27 xt27 xb27 xe27) (fun _ _ _ ⟨b, o, xs27, xa27, xd27, xt27, xb27, xe27, e, hc, h⟩ r => ⟨b, o, xs27, xa27, xd27, xt27, xb27, xe27, e, fun q u hq => jI r (hc q u hq), h.mono (Fz := fun _ => False) (Le.of_below r)⟩) (fun wq hR hst => ?_) ?_
   ·refine yE rfl (fun v25 hp25 => ?_)
    obtain ⟨xa25, rfl, hn25⟩ := hp25
    refine zK rfl (zD ?_)
    refine gZ (dflt := ((0, 0, 0, 0) : N4)) (s) rfl yu63 xG rfl rfl hn25.row (by first | rfl | omega) (by first | omega | (simp; omega) | simp) (fun b27 o27 us27 hul27 hu27 hc27 => ?_)
    obtain ⟨xs27, xa27, xd27, xt27, xb27, xe27, rfl, hn27⟩ := hu27
    exact zA ⟨rfl, yP _, _, rfl, ⟨b27, o27, _, _, _, _, _, _, rfl, hc27, hn27⟩⟩
   refine zX (fun v w => ∃ b o xs28 xa28 xd28 xt28 xb28 xe28, v = .pointer (some ⟨b, o + 3, none⟩) ∧ (∀ (q : Nat) (u : Value), [.bool xs28, xa28, xd28, .bool xt28, xb28, xe28][q]? = some u → w.cell? ⟨b, o + q, none⟩ = some u) ∧ Q4 M w (n0) (l.getD s (0, 0, 0, 0)) xs28 xa28 xd28 xt28 xb28 xe28) (fun _ _ _ ⟨b, o, xs28, xa28, xd28, xt28, xb28, xe28, e, hc, h⟩ r => ⟨b, o, xs28, xa28, xd28, xt28, xb28, xe28, e, fun q u hq => jI r (hc q u hq), h.mono (Fz := fun _ => False) (Le.of_below r)⟩) (fun wq hR hst => ?_) ?_
   ·refine yE rfl (fun v27 hp27 => ?_)
    obtain ⟨b27, o27, xs27, xa27, xd27, xt27, xb27, xe27, rfl, hc27, hn27⟩ := hp27
    refine zD ?_
    refine xA 3 rfl yu39 rfl rfl yN rfl rfl ?_
    exact zA ⟨rfl, yP _, _, rfl, ⟨_, _, _, _, _, _, _, _, rfl, hc27, hn27⟩⟩
   refine zX (fun v w => ∃ b o xs29 xa29 xd29 xt29 xb29 xe29, v = .pointer (some ⟨b, o + 3, none⟩) ∧ (∀ (q : Nat) (u : Value), [.bool xs29, xa29, xd29, .bool xt29, xb29, xe29][q]? = some u → w.cell? ⟨b, o + q, none⟩ = some u) ∧ Q4 M w (n0) (l.getD s (0, 0, 0, 0)) xs29 xa29 xd29 xt29 xb29 xe29) (fun _ _ _ ⟨b, o, xs29, xa29, xd29, xt29, xb29, xe29, e, hc, h⟩ r => ⟨b, o, xs29, xa29, xd29, xt29, xb29, xe29, e, fun q u hq => jI r (hc q u hq), h.mono (Fz := fun _ => False) (Le.of_below r)⟩) (fun wq hR hst => ?_) ?_
   ·refine yE rfl (fun v28 hp28 => ?_)
    obtain ⟨b28, o28, xs28, xa28, xd28, xt28, xb28, xe28, rfl, hc28, hn28⟩ := hp28
    refine zD ?_
    refine xA 0 rfl yu33 rfl rfl xC rfl rfl ?_
    exact zA ⟨rfl, yP _, _, rfl, ⟨_, _, _, _, _, _, _, _, rfl, hc28, hn28⟩⟩
   refine zX (fun v w => ∃ b o xs30 xa30 xd30 xt30 xb30 xe30, v = .pointer (some ⟨b, o + 4, none⟩) ∧ (∀ (q : Nat) (u : Value), [.bool xs30, xa30, xd30, .bool xt30, xb30, xe30][q]? = some u → w.cell? ⟨b, o + q, none⟩ = some u) ∧ Q4 M w (n0) (l.getD s (0, 0, 0, 0)) xs30 xa30 xd30 xt30 xb30 xe30) (fun _ _ _ ⟨b, o, xs30, xa30, xd30, xt30, xb30, xe30, e, hc, h⟩ r => ⟨b, o, xs30, xa30, xd30, xt30, xb30, xe30, e, fun q u hq => jI r (hc q u hq), h.mono (Fz := fun _ => False) (Le.of_below r)⟩) (fun wq hR hst => ?_) ?_
   ·refine yE rfl (fun v29 hp29 => ?_)
    obtain ⟨b29, o29, xs29, xa29, xd29, xt29, xb29, xe29, rfl, hc29, hn29⟩ := hp29
    refine zD ?_
    refine xA 1 rfl yu31 rfl rfl xV rfl rfl ?_
    exact zA ⟨rfl, yP _, _, rfl, ⟨_, _, _, _, _, _, _, _, rfl, hc29, hn29⟩⟩
   refine zX (fun v w => ∃ p c, v = .slice p (l.getD s (0, 0, 0, 0)).2.2.1 c) (fun _ _ _ h _ => h) (fun wq hR hst => ?_) ?_
   ·refine yE rfl (fun v30 hp30 => ?_)
    obtain ⟨b30, o30, xs30, xa30, xd30, xt30, xb30, xe30, rfl, hc30, hn30⟩ := hp30
    refine zD ?_
    refine xQ rfl yX rfl (hc30 4 _ rfl) ?_
    exact zA ⟨rfl, yP _, _, rfl, hn30.b⟩
   refine zX (Ex (.int .i64 (((l.getD s (0, 0, 0, 0)).2.2.1 : Nat) : Int))) jW (fun wq hR hst => ?_) ?_
   ·refine yE rfl (fun v31 hp31 => ?_)
    obtain ⟨p31, c31, rfl⟩ := hp31
    refine zD ?_
    have Lq := Le.of_below (Fz := Fz) (M := M) hR
    replace LL := LL.trans Lq
    replace LR := LR.trans Lq
    replace hM := hM.mono Lq
    replace hF := hF.mono Lq
    replace h0 := h0.mono Lq
    first | refine yY rfl yu29 rfl ?_ | refine yS rfl yu29 rfl (IsNat.slc (by assumption)) ?_ | refine qG rfl yu29 rfl (by assumption) ?_ | refine qF rfl yu29 rfl (by assumption) ?_
    exact zA ⟨rfl, yP _, _, rfl, rfl⟩
   refine zX (fun v w => ∃ xa33, v = xa33 ∧ Q4L M w (n0) (l) xa33) (fun _ _ _ ⟨xa33, e, h0⟩ r => ⟨xa33, e, h0.mono (Fz := fun _ => False) (Le.of_below r)⟩) (fun wq hR hst => ?_) ?_
   ·refine zO rfl rfl (zD ?_)
    have Lq := Le.of_below (Fz := Fz) (M := M) hR
    replace h0 := h0.mono Lq
    refine zB rfl rfl ?_
    exact zA ⟨rfl, yP _, _, rfl, ⟨_, rfl, h0⟩⟩
   refine zM (fun _ _ _ => zO rfl rfl (zD (zB rfl rfl (zA ⟨rfl, yP _, _, rfl, rfl⟩)))) ?_
   refine zX (fun v w => ∃ b o xs35 xa35 xd35 xt35 xb35 xe35, v = .pointer (some ⟨b, o, none⟩) ∧ (∀ (q : Nat) (u : Value), [.bool xs35, xa35, xd35, .bool xt35, xb35, xe35][q]? = some u → w.cell? ⟨b, o + q, none⟩ = some u) ∧ Q4 M w (n0) (l.getD s (0, 0, 0, 0)) xs35 xa35 xd35 xt35 xb35 xe35) (fun _ _ _ ⟨b, o, xs35, xa35, xd35, xt35, xb35, xe35, e, hc, h⟩ r => ⟨b, o, xs35, xa35, xd35, xt35, xb35, xe35, e, fun q u hq => jI r (hc q u hq), h.mono (Fz := fun _ => False) (Le.of_below r)⟩) (fun wq hR hst => ?_) ?_
   ·refine yE rfl (fun v33 hp33 => ?_)
    obtain ⟨xa33, rfl, hn33⟩ := hp33
    refine zK rfl (zD ?_)
    refine gZ (dflt := ((0, 0, 0, 0) : N4)) (s) rfl yu63 xG rfl rfl hn33.row (by first | rfl | omega) (by first | omega | (simp; omega) | simp) (fun b35 o35 us35 hul35 hu35 hc35 => ?_)
    obtain ⟨xs35, xa35, xd35, xt35, xb35, xe35, rfl, hn35⟩ := hu35
    exact zA ⟨rfl, yP _, _, rfl, ⟨b35, o35, _, _, _, _, _, _, rfl, hc35, hn35⟩⟩
   refine zX (fun v w => ∃ b o xs36 xa36 xd36 xt36 xb36 xe36, v = .pointer (some ⟨b, o + 3, none⟩) ∧ (∀ (q : Nat) (u : Value), [.bool xs36, xa36, xd36, .bool xt36, xb36, xe36][q]? = some u → w.cell? ⟨b, o + q, none⟩ = some u) ∧ Q4 M w (n0) (l.getD s (0, 0, 0, 0)) xs36 xa36 xd36 xt36 xb36 xe36) (fun _ _ _ ⟨b, o, xs36, xa36, xd36, xt36, xb36, xe36, e, hc, h⟩ r => ⟨b, o, xs36, xa36, xd36, xt36, xb36, xe36, e, fun q u hq => jI r (hc q u hq), h.mono (Fz := fun _ => False) (Le.of_below r)⟩) (fun wq hR hst => ?_) ?_
   ·refine yE rfl (fun v35 hp35 => ?_)
    obtain ⟨b35, o35, xs35, xa35, xd35, xt35, xb35, xe35, rfl, hc35, hn35⟩ := hp35
    refine zD ?_
    refine xA 3 rfl yu39 rfl rfl yN rfl rfl ?_
    exact zA ⟨rfl, yP _, _, rfl, ⟨_, _, _, _, _, _, _, _, rfl, hc35, hn35⟩⟩
   refine zX (fun v w => ∃ b o xs37 xa37 xd37 xt37 xb37 xe37, v = .pointer (some ⟨b, o + 5, none⟩) ∧ (∀ (q : Nat) (u : Value), [.bool xs37, xa37, xd37, .bool xt37, xb37, xe37][q]? = some u → w.cell? ⟨b, o + q, none⟩ = some u) ∧ Q4 M w (n0) (l.getD s (0, 0, 0, 0)) xs37 xa37 xd37 xt37 xb37 xe37) (fun _ _ _ ⟨b, o, xs37, xa37, xd37, xt37, xb37, xe37, e, hc, h⟩ r => ⟨b, o, xs37, xa37, xd37, xt37, xb37, xe37, e, fun q u hq => jI r (hc q u hq), h.mono (Fz := fun _ => False) (Le.of_below r)⟩) (fun wq hR hst => ?_) ?_
   ·refine yE rfl (fun v36 hp36 => ?_)
    obtain ⟨b36, o36, xs36, xa36, xd36, xt36, xb36, xe36, rfl, hc36, hn36⟩ := hp36
    refine zD ?_
    refine xA 2 rfl yu33 rfl rfl xV rfl rfl ?_
    exact zA ⟨rfl, yP _, _, rfl, ⟨_, _, _, _, _, _, _, _, rfl, hc36, hn36⟩⟩
   refine zX (fun v w => ∃ p c, v = .slice p (l.getD s (0, 0, 0, 0)).2.2.2 c) (fun _ _ _ h _ => h) (fun wq hR hst => ?_) ?_
   ·refine yE rfl (fun v37 hp37 => ?_)
    obtain ⟨b37, o37, xs37, xa37, xd37, xt37, xb37, xe37, rfl, hc37, hn37⟩ := hp37
    refine zD ?_
    refine xQ rfl yX rfl (hc37 5 _ rfl) ?_
    exact zA ⟨rfl, yP _, _, rfl, hn37.e⟩
   refine zX (Ex (.int .i64 (((l.getD s (0, 0, 0, 0)).2.2.2 : Nat) : Int))) jW (fun wq hR hst => ?_) ?_
   ·refine yE rfl (fun v38 hp38 => ?_)
    obtain ⟨p38, c38, rfl⟩ := hp38
    refine zD ?_
    have Lq := Le.of_below (Fz := Fz) (M := M) hR
    replace LL := LL.trans Lq
    replace LR := LR.trans Lq
    replace hM := hM.mono Lq
    replace hF := hF.mono Lq
    replace h0 := h0.mono Lq
    first | refine yY rfl yu29 rfl ?_ | refine yS rfl yu29 rfl (IsNat.slc (by assumption)) ?_ | refine qG rfl yu29 rfl (by assumption) ?_ | refine qF rfl yu29 rfl (by assumption) ?_
    exact zA ⟨rfl, yP _, _, rfl, rfl⟩
   refine xM (fun wq4 hR4 hpost4 => ?_)
   refine zO rfl rfl (zO rfl rfl (zO rfl rfl (zO rfl rfl (zO rfl rfl (zO rfl rfl (yE rfl (fun v10 hp10 => ?_)))))))
   obtain ⟨xa10, rfl, hn10⟩ := hp10
   refine zK rfl (yE rfl (fun v12 hp12 => ?_))
   obtain ⟨b12, o12, xs12, xa12, xd12, xt12, xb12, xe12, rfl, hc12, hn12⟩ := hp12
   refine yE rfl (fun v13 hp13 => ?_)
   obtain ⟨b13, o13, xs13, xa13, xd13, xt13, xb13, xe13, rfl, hc13, hn13⟩ := hp13
   refine yE rfl (fun v14 hp14 => ?_)
   obtain ⟨b14, o14, xs14, xa14, xd14, xt14, xb14, xe14, rfl, hc14, hn14⟩ := hp14
   refine yE rfl (fun v15 hp15 => ?_)
   obtain ⟨b15, o15, xs15, xa15, xd15, xt15, xb15, xe15, rfl, hc15, hn15⟩ := hp15
   refine yE rfl (fun v16 hp16 => ?_)
   obtain ⟨p16, c16, rfl⟩ := hp16
   refine zK rfl (yE rfl (fun v18 hp18 => ?_))
   obtain ⟨xa18, rfl, hn18⟩ := hp18
   refine zK rfl (yE rfl (fun v20 hp20 => ?_))
   obtain ⟨b20, o20, xs20, xa20, xd20, xt20, xb20, xe20, rfl, hc20, hn20⟩ := hp20
   refine yE rfl (fun v21 hp21 => ?_)
   obtain ⟨b21, o21, xs21, xa21, xd21, xt21, xb21, xe21, rfl, hc21, hn21⟩ := hp21
   refine yE rfl (fun v22 hp22 => ?_)
   obtain ⟨b22, o22, xs22, xa22, xd22, xt22, xb22, xe22, rfl, hc22, hn22⟩ := hp22
   refine yE rfl (fun v23 hp23 => ?_)
   obtain ⟨p23, c23, rfl⟩ := hp23
   refine zK rfl (yE rfl (fun v25 hp25 => ?_))
   obtain ⟨xa25, rfl, hn25⟩ := hp25
   refine zK rfl (yE rfl (fun v27 hp27 => ?_))
   obtain ⟨b27, o27, xs27, xa27, xd27, xt27, xb27, xe27, rfl, hc27, hn27⟩ := hp27
   refine yE rfl (fun v28 hp28 => ?_)
   obtain ⟨b28, o28, xs28, xa28, xd28, xt28, xb28, xe28, rfl, hc28, hn28⟩ := hp28
   refine yE rfl (fun v29 hp29 => ?_)
   obtain ⟨b29, o29, xs29, xa29, xd29, xt29, xb29, xe29, rfl, hc29, hn29⟩ := hp29
   refine yE rfl (fun v30 hp30 => ?_)
   obtain ⟨b30, o30, xs30, xa30, xd30, xt30, xb30, xe30, rfl, hc30, hn30⟩ := hp30
   refine yE rfl (fun v31 hp31 => ?_)
   obtain ⟨p31, c31, rfl⟩ := hp31
   refine zK rfl (yE rfl (fun v33 hp33 => ?_))
   obtain ⟨xa33, rfl, hn33⟩ := hp33
   refine zK rfl (yE rfl (fun v35 hp35 => ?_))
   obtain ⟨b35, o35, xs35, xa35, xd35, xt35, xb35, xe35, rfl, hc35, hn35⟩ := hp35
   refine yE rfl (fun v36 hp36 => ?_)
   obtain ⟨b36, o36, xs36, xa36, xd36, xt36, xb36, xe36, rfl, hc36, hn36⟩ := hp36
   refine yE rfl (fun v37 hp37 => ?_)
   obtain ⟨b37, o37, xs37, xa37, xd37, xt37, xb37, xe37, rfl, hc37, hn37⟩ := hp37
   refine yE rfl (fun v38 hp38 => ?_)
   obtain ⟨p38, c38, rfl⟩ := hp38
   refine zK rfl (zD ?_)
   simp only [List.drop_succ_cons, List.drop_zero, List.drop_nil, List.toList_toArray]
   have Lwq4 := Le.of_below (Fz := Fz) (M := M) hR4
   replace LL := LL.trans Lwq4
   replace LR := LR.trans Lwq4
   refine ops_max4 rfl rfl rfl rfl rfl (uD rfl rfl rfl (zA ?_))
   refine yC rfl (fun hc1 => ?_) (fun hc1 => ?_)
   ·refine zF (zC (zE rfl rfl (zA (zY ?_))))
    refine zN ⟨[_], ⟨rfl, trivial⟩, ?_⟩
    dsimp only [zV]
    have hsl : s < l.length := by omega
    have hc2 : 2 < m4 (l.getD s (0, 0, 0, 0)) := by change (2 : Int) < ((m4 (l.getD s (0, 0, 0, 0)) : Nat) : Int) at hc1; omega
    rw [show fK l = true from decide_eq_true ⟨l.getD s (0, 0, 0, 0), getD_mem _ hsl, hc2⟩]
    subst hFz
    exact ⟨LL.below (Nat.le_refl _), rfl⟩
   ·refine yO (zC (zB rfl rfl (xK rfl rfl rfl (by omega) (zE rfl rfl (zA ?_)))))
    refine ⟨rfl, s + 1, (yB rfl (by rw [Int.natCast_add]; rfl) (zG rfl yM)), ?_, ?_⟩
    exact ⟨LR, by omega, longB_take (by omega) hs (by change ¬ (2 : Int) < ((m4 (l.getD s (0, 0, 0, 0)) : Nat) : Int) at hc1; omega)⟩
    omega
  ·refine xY (xZ (zF (zC (zE rfl rfl (zA (zY ?_))))))
   refine zN ⟨[_], ⟨rfl, trivial⟩, ?_⟩
   dsimp only [zV]
   obtain rfl : s = l.length := by omega
   rw [List.take_length] at hs
   rw [show fK l = false from decide_eq_false fun ⟨x, hx, h2⟩ => hs x hx h2]
   subst hFz
   exact ⟨LL.below (Nat.le_refl _), rfl⟩
theorem gG {k : Nat} {l : Nat} (hk : k < 9223372036854775808) (hl : l < 9223372036854775808) (hM : OkM M w) :
    CallsV prog 31 [.int .i64 ((k : Nat) : Int), .int .i64 ((l : Nat) : Int)] w fun r w' => Below w.heap.size w w' ∧ ∃ xsr xar xdr xtr xbr xer, r = .agg #[.bool xsr, xar, xdr, .bool xtr, xbr, xer] ∧ PC M w' (2) ((((k : Nat) : Rat), ((l : Nat) : Rat))) xsr xar xdr xtr xbr xer := by
 obtain ⟨Fz, hFz, hF, LL⟩ := fz0 M w
 have hM0 := hM
 refine zP func31 rfl ntmps31 rfl ?_
 refine zF (zC (yJ rfl xG (fun w1 b4 N4 => ?_)))
 obtain ⟨_, nF4, nM4, Lw1, B4⟩ := nza hF hM N4
 obtain ⟨LL, hM⟩ := up2 Lw1 LL hM
 refine zA (zF (zC (zB rfl rfl (zB rfl rfl (zH rfl bod85 rfl rfl ?_)))))
 refine (r8of_c (k := k) (l := l)  (by omega) (by omega) hM).mono ?_
 rintro v7 w2 ⟨hB7, xs7, xa7, xd7, xt7, xb7, xe7, rfl, hn7⟩
 obtain ⟨LL, B4⟩ := ub2 hB7 LL B4
 obtain ⟨oxa7, oxd7, oxb7, oxe7, _⟩ := hn7.one
 refine zW rfl rfl xG B4 rfl rfl (zU rfl (zU (by first | rfl | assumption) (zU (by first | rfl | assumption) (zU rfl (zU (by first | rfl | assumption) (zU (by first | rfl | assumption) jC)))))) rfl (fun w3 Cw3 B4 => ?_)
 have Lw3 := Le.of_chg (M := (Ins b4 M)) Cw3 zR nF4
 obtain ⟨LL, hn7⟩ := up2 Lw3 LL hn7
 refine zA (zY ?_)
 refine zN ⟨[_], ⟨⟨_, rfl, yU yZ xG B4 rfl rfl⟩, trivial⟩, ?_⟩
 dsimp only [zV]
 subst hFz
 exact ⟨LL.below (Nat.le_refl _), _, _, _, _, _, _, rfl, (hn7.less (fun k c => zI c)).up (by omega)⟩
end Go.Proofs.YtfkejnlohkgbgaaGreatDoor
namespace Go.Proofs.YtfkejnlohkgbgaaGreatDoor
open Go Go.SL Go.RowKit Tryz
variable {Fz M M' : Nat → Prop} {w w' : World}
instance {n : Nat} {q : N4} {s t : Bool} {a d b e : Value} : Up Fz M M' w w' (Q4 M w n q s a d t b e) (Q4 M' w' n q s a d t b e) := ⟨fun l h => h.mono l⟩
instance {n : Nat} {q : N4} {s t : Bool} {a d b e : Value} : UpB w w' (Q4 M w n q s a d t b e) (Q4 M w' n q s a d t b e) := ⟨fun l h => h.mono (Fz := fun _ => False) (Le.of_below l)⟩
instance {n : Nat} {q : List N4} {v : Value} : Up Fz M M' w w' (Q4L M w n q v) (Q4L M' w' n q v) := ⟨fun l h => h.mono l⟩
instance {n : Nat} {q : List N4} {v : Value} : UpB w w' (Q4L M w n q v) (Q4L M w' n q v) := ⟨fun l h => h.mono (Fz := fun _ => False) (Le.of_below l)⟩
end Go.Proofs.YtfkejnlohkgbgaaGreatDoor
set_option maxRecDepth 100000
namespace Go.Proofs.YtfkejnlohkgbgaaGreatDoor
open Go.SL Go.RowKit Go.Proofs Tryz
variable {M : Nat → Prop} {w : World}
theorem wakes_c (hT : Tab M w) (hM : OkM M w) :
    CallsV prog 25 [] w fun r w' => Below w.heap.size w w' ∧ r = .bool true := by
 obtain ⟨Fz, hFz, hF, LL⟩ := fz0 M w
 have hM0 := hM
 refine zP func25 rfl ntmps25 rfl ?_
 refine zF (zC (zE rfl rfl (zA (zF (zC (zH rfl uS rfl rfl ?_))))))
 refine (gG (k := 0) (l := 0)  (by omega) (by omega) hM).mono ?_
 rintro v4 w1 ⟨hB4, xs4, xa4, xd4, xt4, xb4, xe4, rfl, hn4⟩
 obtain ⟨LL, hM, hF, hT⟩ := ub4 hB4 LL hM hF hT
 obtain ⟨oxa4, oxd4, oxb4, oxe4, _⟩ := hn4.one
 refine zH rfl uS rfl rfl ?_
 refine (gG (k := 2) (l := 2)  (by omega) (by omega) hM).mono ?_
 rintro v5 w2 ⟨hB5, xs5, xa5, xd5, xt5, xb5, xe5, rfl, hn5⟩
 obtain ⟨LL, hM, hF, hT, hn4⟩ := ub5 hB5 LL hM hF hT hn4
 obtain ⟨oxa5, oxd5, oxb5, oxe5, _⟩ := hn5.one
 refine zH rfl uS rfl rfl ?_
 refine (gG (k := 0) (l := 2)  (by omega) (by omega) hM).mono ?_
 rintro v6 w3 ⟨hB6, xs6, xa6, xd6, xt6, xb6, xe6, rfl, hn6⟩
 obtain ⟨LL, hM, hF, hT, hn4, hn5⟩ := ub6 hB6 LL hM hF hT hn4 hn5
 obtain ⟨oxa6, oxd6, oxb6, oxe6, _⟩ := hn6.one
 refine zH rfl uS rfl rfl ?_
 refine (gG (k := 2) (l := 0)  (by omega) (by omega) hM).mono ?_
 rintro v7 w4 ⟨hB7, xs7, xa7, xd7, xt7, xb7, xe7, rfl, hn7⟩
 obtain ⟨LL, hM, hF, hT, hn4, hn5, hn6⟩ := ub7 hB7 LL hM hF hT hn4 hn5 hn6
 obtain ⟨oxa7, oxd7, oxb7, oxe7, _⟩ := hn7.one
 refine zH rfl bod26 rfl rfl ?_
 refine (msegs_c hT hn4.gen hn5.gen hn6.gen hn7.gen (by omega) (by omega) (by omega) (by omega) hM).mono ?_
 rintro v8 w5 ⟨hB8, xs8, xa8, xd8, xt8, xb8, xe8, xs8b, xa8b, xd8b, xt8b, xb8b, xe8b, rfl, hn8, hnb8⟩
 obtain ⟨LL, hM, hF, hT⟩ := ub4 hB8 LL hM hF hT
 obtain ⟨oxa8, oxd8, oxb8, oxe8, _⟩ := hn8.one; obtain ⟨oxa8b, oxd8b, oxb8b, oxe8b, _⟩ := hnb8.one
 refine yJ rfl uW (fun w6 b1 N1 => ?_)
 obtain ⟨_, nF1, nM1, Lw6, B1⟩ := nza hF hM N1
 obtain ⟨LL, hM, hF, hT, hn8, hnb8⟩ := up6 Lw6 LL hM hF hT hn8 hnb8
 refine zW rfl rfl uW B1 rfl rfl (zU rfl (zU rfl (zU (by first | rfl | assumption) (zU (by first | rfl | assumption) (zU rfl (zU (by first | rfl | assumption) (zU (by first | rfl | assumption) (zU rfl (zU (by first | rfl | assumption) (zU (by first | rfl | assumption) (zU rfl (zU (by first | rfl | assumption) (zU (by first | rfl | assumption) jC))))))))))))) rfl (fun w7 Cw7 B1 => ?_)
 have Lw7 := Le.of_chg (M := (Ins b1 M)) Cw7 zR nF1
 obtain ⟨LL, hM, hF, hT, hn8, hnb8⟩ := up6 Lw7 LL hM hF hT hn8 hnb8
 refine zA (zF (zC (zH rfl uS rfl rfl ?_)))
 refine (gG (k := 0) (l := 0)  (by omega) (by omega) hM).mono ?_
 rintro v9 w8 ⟨hB9, xs9, xa9, xd9, xt9, xb9, xe9, rfl, hn9⟩
 obtain ⟨LL, hM, hF, hT, hn8, hnb8, B1⟩ := ub7 hB9 LL hM hF hT hn8 hnb8 B1
 obtain ⟨oxa9, oxd9, oxb9, oxe9, _⟩ := hn9.one
 refine zH rfl uS rfl rfl ?_
 refine (gG (k := 3) (l := 0)  (by omega) (by omega) hM).mono ?_
 rintro v10 w9 ⟨hB10, xs10, xa10, xd10, xt10, xb10, xe10, rfl, hn10⟩
 obtain ⟨LL, hM, hF, hT, hn8, hnb8, hn9, B1⟩ := ub8 hB10 LL hM hF hT hn8 hnb8 hn9 B1
 obtain ⟨oxa10, oxd10, oxb10, oxe10, _⟩ := hn10.one
 refine zH rfl uS rfl rfl ?_
 refine (gG (k := 1) (l := 0)  (by omega) (by omega) hM).mono ?_
 rintro v11 w10 ⟨hB11, xs11, xa11, xd11, xt11, xb11, xe11, rfl, hn11⟩
 obtain ⟨LL, hM, hF, hT, hn8, hnb8, hn9, hn10, B1⟩ := ub9 hB11 LL hM hF hT hn8 hnb8 hn9 hn10 B1
 obtain ⟨oxa11, oxd11, oxb11, oxe11, _⟩ := hn11.one
 refine zH rfl uS rfl rfl ?_
 refine (gG (k := 5) (l := 0)  (by omega) (by omega) hM).mono ?_
 rintro v12 w11 ⟨hB12, xs12, xa12, xd12, xt12, xb12, xe12, rfl, hn12⟩
 obtain ⟨LL, hM, hF, hT, hn8, hnb8, hn9, hn10, hn11, B1⟩ := dF hB12 LL hM hF hT hn8 hnb8 hn9 hn10 hn11 B1
 obtain ⟨oxa12, oxd12, oxb12, oxe12, _⟩ := hn12.one
 refine zH rfl bod26 rfl rfl ?_
 refine (msegs_c hT hn9.gen hn10.gen hn11.gen hn12.gen (by omega) (by omega) (by omega) (by omega) hM).mono ?_
 rintro v13 w12 ⟨hB13, xs13, xa13, xd13, xt13, xb13, xe13, xs13b, xa13b, xd13b, xt13b, xb13b, xe13b, rfl, hn13, hnb13⟩
 obtain ⟨LL, hM, hF, hT, hn8, hnb8, B1⟩ := ub7 hB13 LL hM hF hT hn8 hnb8 B1
 obtain ⟨oxa13, oxd13, oxb13, oxe13, _⟩ := hn13.one; obtain ⟨oxa13b, oxd13b, oxb13b, oxe13b, _⟩ := hnb13.one
 refine yJ rfl uW (fun w13 b2 N2 => ?_)
 obtain ⟨hBw13, nF2, nM2, Lw13, B2⟩ := nza hF hM N2
 obtain ⟨B1, ne1_2⟩ := bn B1 N2
 obtain ⟨LL, hM, hF, hT, hn8, hnb8, hn13, hnb13⟩ := up8 Lw13 LL hM hF hT hn8 hnb8 hn13 hnb13
 refine zW rfl rfl uW B2 rfl rfl (zU rfl (zU rfl (zU (by first | rfl | assumption) (zU (by first | rfl | assumption) (zU rfl (zU (by first | rfl | assumption) (zU (by first | rfl | assumption) (zU rfl (zU (by first | rfl | assumption) (zU (by first | rfl | assumption) (zU rfl (zU (by first | rfl | assumption) (zU (by first | rfl | assumption) jC))))))))))))) rfl (fun w14 Cw14 B2 => ?_)
 have Lw14 := Le.of_chg (M := (Ins b2 (Ins b1 M))) Cw14 zR nF2
 obtain ⟨LL, hM, hF, hT, hn8, hnb8, hn13, hnb13⟩ := up8 Lw14 LL hM hF hT hn8 hnb8 hn13 hnb13
 replace B1 := B1.other Cw14 ne1_2
 refine zA (zF (zC (zH rfl uS rfl rfl ?_)))
 refine (gG (k := 0) (l := 0)  (by omega) (by omega) hM).mono ?_
 rintro v14 w15 ⟨hB14, xs14, xa14, xd14, xt14, xb14, xe14, rfl, hn14⟩
 obtain ⟨LL, hM, hF, hT, hn8, hnb8, hn13, hnb13, B1, B2⟩ := dF hB14 LL hM hF hT hn8 hnb8 hn13 hnb13 B1 B2
 obtain ⟨oxa14, oxd14, oxb14, oxe14, _⟩ := hn14.one
 refine zH rfl uS rfl rfl ?_
 refine (gG (k := 1) (l := 0)  (by omega) (by omega) hM).mono ?_
 rintro v15 w16 ⟨hB15, xs15, xa15, xd15, xt15, xb15, xe15, rfl, hn15⟩
 obtain ⟨LL, hM, hF, hT, hn8, hnb8, hn13, hnb13, hn14, B1, B2⟩ := fS hB15 LL hM hF hT hn8 hnb8 hn13 hnb13 hn14 B1 B2
 obtain ⟨oxa15, oxd15, oxb15, oxe15, _⟩ := hn15.one
 refine zH rfl uS rfl rfl ?_
 refine (gG (k := 2) (l := 0)  (by omega) (by omega) hM).mono ?_
 rintro v16 w17 ⟨hB16, xs16, xa16, xd16, xt16, xb16, xe16, rfl, hn16⟩
 obtain ⟨LL, hM, hF, hT, hn8, hnb8, hn13, hnb13, hn14, hn15, B1, B2⟩ := fE hB16 LL hM hF hT hn8 hnb8 hn13 hnb13 hn14 hn15 B1 B2
 obtain ⟨oxa16, oxd16, oxb16, oxe16, _⟩ := hn16.one
 refine zH rfl uS rfl rfl ?_
 refine (gG (k := 3) (l := 0)  (by omega) (by omega) hM).mono ?_
 rintro v17 w18 ⟨hB17, xs17, xa17, xd17, xt17, xb17, xe17, rfl, hn17⟩
 obtain ⟨LL, hM, hF, hT, hn8, hnb8, hn13, hnb13, hn14, hn15, hn16, B1, B2⟩ := fY hB17 LL hM hF hT hn8 hnb8 hn13 hnb13 hn14 hn15 hn16 B1 B2
 obtain ⟨oxa17, oxd17, oxb17, oxe17, _⟩ := hn17.one
 refine zH rfl bod26 rfl rfl ?_
 refine (msegs_c hT hn14.gen hn15.gen hn16.gen hn17.gen (by omega) (by omega) (by omega) (by omega) hM).mono ?_
 rintro v18 w19 ⟨hB18, xs18, xa18, xd18, xt18, xb18, xe18, xs18b, xa18b, xd18b, xt18b, xb18b, xe18b, rfl, hn18, hnb18⟩
 obtain ⟨LL, hM, hF, hT, hn8, hnb8, hn13, hnb13, B1, B2⟩ := dF hB18 LL hM hF hT hn8 hnb8 hn13 hnb13 B1 B2
 obtain ⟨oxa18, oxd18, oxb18, oxe18, _⟩ := hn18.one; obtain ⟨oxa18b, oxd18b, oxb18b, oxe18b, _⟩ := hnb18.one
 refine yJ rfl uW (fun w20 b3 N3 => ?_)
 obtain ⟨hBw20, nF3, nM3, Lw20, B3⟩ := nza hF hM N3
 obtain ⟨B1, ne1_3⟩ := bn B1 N3
 obtain ⟨B2, ne2_3⟩ := bn B2 N3
 obtain ⟨LL, hM, hT, hn8, hnb8, hn13, hnb13, hn18, hnb18⟩ := up9 Lw20 LL hM hT hn8 hnb8 hn13 hnb13 hn18 hnb18
 refine zW rfl rfl uW B3 rfl rfl (zU rfl (zU rfl (zU (by first | rfl | assumption) (zU (by first | rfl | assumption) (zU rfl (zU (by first | rfl | assumption) (zU (by first | rfl | assumption) (zU rfl (zU (by first | rfl | assumption) (zU (by first | rfl | assumption) (zU rfl (zU (by first | rfl | assumption) (zU (by first | rfl | assumption) jC))))))))))))) rfl (fun w21 Cw21 B3 => ?_)
 have Lw21 := Le.of_chg (M := (Ins b3 (Ins b2 (Ins b1 M)))) Cw21 zR nF3
 obtain ⟨LL, hM, hT, hn8, hnb8, hn13, hnb13, hn18, hnb18⟩ := up9 Lw21 LL hM hT hn8 hnb8 hn13 hnb13 hn18 hnb18
 replace B1 := B1.other Cw21 ne1_3
 replace B2 := B2.other Cw21 ne2_3
 refine zA (zF ?_)
 refine xL (R := Rb) (R' := Rb) (st := none) jJ 17 [0, 31, 32, 35] (qO (by decide +kernel)) xJ xU (xS _) (fun _ _ _ h => by cases h) ?_
 refine zM (fun _ hR _ => zO rfl rfl (zD (zL rfl aO uW rfl (B1.below hR) rfl rfl (on0 rfl)))) ?_
 refine zX (vPC (Ins b3 (Ins b2 (Ins b1 M))) (2) ((((1 : Nat) : Rat), ((1 : Nat) : Rat)))) bA (fun wq hR hst => ?_) ?_
 ·refine zD ?_
  replace hM := ub1 hR hM
  refine zH rfl uS rfl rfl ?_
  refine (gG (k := 1) (l := 1)  (by omega) (by omega) hM).mono ?_
  rintro v20 w22 ⟨hB20, xs20, xa20, xd20, xt20, xb20, xe20, rfl, hn20⟩
  exact zA ⟨rfl, hB20, _, rfl, ⟨_, _, _, _, _, _, rfl, hn20⟩⟩
 refine zX (vPC (Ins b3 (Ins b2 (Ins b1 M))) (2) ((((1 : Nat) : Rat), ((1 : Nat) : Rat)))) bA (fun wq hR hst => ?_) ?_
 ·refine zD ?_
  replace hM := ub1 hR hM
  refine zH rfl uS rfl rfl ?_
  refine (gG (k := 1) (l := 1)  (by omega) (by omega) hM).mono ?_
  rintro v21 w23 ⟨hB21, xs21, xa21, xd21, xt21, xb21, xe21, rfl, hn21⟩
  exact zA ⟨rfl, hB21, _, rfl, ⟨_, _, _, _, _, _, rfl, hn21⟩⟩
 refine zX (fun v w => ∃ xs22 xa22 xd22 xt22 xb22 xe22 xs22b xa22b xd22b xt22b xb22b xe22b, v = .agg #[.int .i8 1, .bool xs22, xa22, xd22, .bool xt22, xb22, xe22, .bool xs22b, xa22b, xd22b, .bool xt22b, xb22b, xe22b] ∧ PC (Ins b3 (Ins b2 (Ins b1 M))) w (2) ((((1 : Nat) : Rat), ((1 : Nat) : Rat))) xs22 xa22 xd22 xt22 xb22 xe22 ∧ PC (Ins b3 (Ins b2 (Ins b1 M))) w (2) ((((1 : Nat) : Rat), ((1 : Nat) : Rat))) xs22b xa22b xd22b xt22b xb22b xe22b) (fun _ _ _ ⟨xs22, xa22, xd22, xt22, xb22, xe22, xs22b, xa22b, xd22b, xt22b, xb22b, xe22b, e, h0, h1⟩ r => ⟨xs22, xa22, xd22, xt22, xb22, xe22, xs22b, xa22b, xd22b, xt22b, xb22b, xe22b, e, h0.mono (Fz := fun _ => False) (Le.of_below r), h1.mono (Fz := fun _ => False) (Le.of_below r)⟩) (fun wq hR hst => ?_) ?_
 ·refine yE rfl (fun v20 hp20 => ?_)
  obtain ⟨xs20, xa20, xd20, xt20, xb20, xe20, rfl, hn20⟩ := hp20
  refine yE rfl (fun v21 hp21 => ?_)
  obtain ⟨xs21, xa21, xd21, xt21, xb21, xe21, rfl, hn21⟩ := hp21
  refine zD ?_
  exact xP rfl eQ rfl rfl (zZ (gN rfl) (zZ (rfl) (zZ (rfl) xF))) rfl (zA ⟨rfl, yP _, _, rfl, ⟨_, _, _, _, _, _, _, _, _, _, _, _, rfl, hn20, hn21⟩⟩)
 refine zX (Ex (.bool (decide ((((bT ((((0 : Nat) : Rat), ((0 : Nat) : Rat))) ((((2 : Nat) : Rat), ((2 : Nat) : Rat))) ((((0 : Nat) : Rat), ((2 : Nat) : Rat))) ((((2 : Nat) : Rat), ((0 : Nat) : Rat)))).1), ((bT ((((0 : Nat) : Rat), ((0 : Nat) : Rat))) ((((2 : Nat) : Rat), ((2 : Nat) : Rat))) ((((0 : Nat) : Rat), ((2 : Nat) : Rat))) ((((2 : Nat) : Rat), ((0 : Nat) : Rat)))).2.1), ((bT ((((0 : Nat) : Rat), ((0 : Nat) : Rat))) ((((2 : Nat) : Rat), ((2 : Nat) : Rat))) ((((0 : Nat) : Rat), ((2 : Nat) : Rat))) ((((2 : Nat) : Rat), ((0 : Nat) : Rat)))).2.2)) = (1, ((((1 : Nat) : Rat), ((1 : Nat) : Rat))), ((((1 : Nat) : Rat), ((1 : Nat) : Rat)))))))) jW (fun wq hR hst => ?_) ?_
 ·refine zK rfl (yE rfl (fun v22 hp22 => ?_))
  obtain ⟨xs22, xa22, xd22, xt22, xb22, xe22, xs22b, xa22b, xd22b, xt22b, xb22b, xe22b, rfl, hn22, hnb22⟩ := hp22; obtain ⟨oxa22, oxd22, oxb22, oxe22, _⟩ := hn22.one
  refine zD ?_
  obtain ⟨hM, hn8, hnb8⟩ := ub3 hR hM hn8 hnb8
  refine zH rfl bod27 rfl rfl ?_
  refine (r10alike_c hn8 hnb8 hn22 hnb22 (by omega) (by omega) (by omega) (by omega) hM).mono ?_
  rintro v23 w24 ⟨hB23, rfl⟩
  exact zA ⟨rfl, hB23, _, rfl, rfl⟩
 refine zX (Ex (.bool true)) jW (fun wq hR hst => ?_) ?_
 ·refine zK rfl (zD ?_)
  exact zB rfl rfl (zA ⟨rfl, yP _, _, rfl, congrArg Value.bool (by decide +kernel)⟩)
 refine zM (fun _ hR _ => zO rfl rfl (zK rfl (zD (zQ rfl rfl (zL rfl aO uW rfl (B2.below hR) rfl rfl (on0 rfl)))))) ?_
 refine zX (vPC (Ins b3 (Ins b2 (Ins b1 M))) (2) ((((1 : Nat) : Rat), ((0 : Nat) : Rat)))) bA (fun wq hR hst => ?_) ?_
 ·refine zK rfl (zD ?_)
  replace hM := ub1 hR hM
  refine zQ rfl rfl (zH rfl uS rfl rfl ?_)
  refine (gG (k := 1) (l := 0)  (by omega) (by omega) hM).mono ?_
  rintro v26 w25 ⟨hB26, xs26, xa26, xd26, xt26, xb26, xe26, rfl, hn26⟩
  exact zA ⟨rfl, hB26, _, rfl, ⟨_, _, _, _, _, _, rfl, hn26⟩⟩
 refine zX (vPC (Ins b3 (Ins b2 (Ins b1 M))) (2) ((((3 : Nat) : Rat), ((0 : Nat) : Rat)))) bA (fun wq hR hst => ?_) ?_
 ·refine zK rfl (zD ?_)
  replace hM := ub1 hR hM
  refine zQ rfl rfl (zH rfl uS rfl rfl ?_)
  refine (gG (k := 3) (l := 0)  (by omega) (by omega) hM).mono ?_
  rintro v27 w26 ⟨hB27, xs27, xa27, xd27, xt27, xb27, xe27, rfl, hn27⟩
  exact zA ⟨rfl, hB27, _, rfl, ⟨_, _, _, _, _, _, rfl, hn27⟩⟩
 refine zX (fun v w => ∃ xs28 xa28 xd28 xt28 xb28 xe28 xs28b xa28b xd28b xt28b xb28b xe28b, v = .agg #[.int .i8 2, .bool xs28, xa28, xd28, .bool xt28, xb28, xe28, .bool xs28b, xa28b, xd28b, .bool xt28b, xb28b, xe28b] ∧ PC (Ins b3 (Ins b2 (Ins b1 M))) w (2) ((((1 : Nat) : Rat), ((0 : Nat) : Rat))) xs28 xa28 xd28 xt28 xb28 xe28 ∧ PC (Ins b3 (Ins b2 (Ins b1 M))) w (2) ((((3 : Nat) : Rat), ((0 : Nat) : Rat))) xs28b xa28b xd28b xt28b xb28b xe28b) (fun _ _ _ ⟨xs28, xa28, xd28, xt28, xb28, xe28, xs28b, xa28b, xd28b, xt28b, xb28b, xe28b, e, h0, h1⟩ r => ⟨xs28, xa28, xd28, xt28, xb28, xe28, xs28b, xa28b, xd28b, xt28b, xb28b, xe28b, e, h0.mono (Fz := fun _ => False) (Le.of_below r), h1.mono (Fz := fun _ => False) (Le.of_below r)⟩) (fun wq hR hst => ?_) ?_
 ·refine yE rfl (fun v26 hp26 => ?_)
  obtain ⟨xs26, xa26, xd26, xt26, xb26, xe26, rfl, hn26⟩ := hp26
  refine yE rfl (fun v27 hp27 => ?_)
  obtain ⟨xs27, xa27, xd27, xt27, xb27, xe27, rfl, hn27⟩ := hp27
  refine zK rfl (zD ?_)
  exact zQ rfl rfl (xP rfl eQ rfl rfl (zZ (gN rfl) (zZ (rfl) (zZ (rfl) xF))) rfl (zA ⟨rfl, yP _, _, rfl, ⟨_, _, _, _, _, _, _, _, _, _, _, _, rfl, hn26, hn27⟩⟩))
 refine zX (Ex (.bool (decide ((((bT ((((0 : Nat) : Rat), ((0 : Nat) : Rat))) ((((3 : Nat) : Rat), ((0 : Nat) : Rat))) ((((1 : Nat) : Rat), ((0 : Nat) : Rat))) ((((5 : Nat) : Rat), ((0 : Nat) : Rat)))).1), ((bT ((((0 : Nat) : Rat), ((0 : Nat) : Rat))) ((((3 : Nat) : Rat), ((0 : Nat) : Rat))) ((((1 : Nat) : Rat), ((0 : Nat) : Rat))) ((((5 : Nat) : Rat), ((0 : Nat) : Rat)))).2.1), ((bT ((((0 : Nat) : Rat), ((0 : Nat) : Rat))) ((((3 : Nat) : Rat), ((0 : Nat) : Rat))) ((((1 : Nat) : Rat), ((0 : Nat) : Rat))) ((((5 : Nat) : Rat), ((0 : Nat) : Rat)))).2.2)) = (2, ((((1 : Nat) : Rat), ((0 : Nat) : Rat))), ((((3 : Nat) : Rat), ((0 : Nat) : Rat)))))))) jW (fun wq hR hst => ?_) ?_
 ·refine zK rfl (yE rfl (fun v28 hp28 => ?_))
  obtain ⟨xs28, xa28, xd28, xt28, xb28, xe28, xs28b, xa28b, xd28b, xt28b, xb28b, xe28b, rfl, hn28, hnb28⟩ := hp28; obtain ⟨oxa28, oxd28, oxb28, oxe28, _⟩ := hn28.one
  refine zK rfl (zD ?_)
  obtain ⟨hM, hn13, hnb13⟩ := ub3 hR hM hn13 hnb13
  refine zQ rfl rfl (zH rfl bod27 rfl rfl ?_)
  refine (r10alike_c hn13 hnb13 hn28 hnb28 (by omega) (by omega) (by omega) (by omega) hM).mono ?_
  rintro v29 w27 ⟨hB29, rfl⟩
  exact zA ⟨rfl, hB29, _, rfl, rfl⟩
 refine zX (Ex (.bool (decide ((((bT ((((0 : Nat) : Rat), ((0 : Nat) : Rat))) ((((3 : Nat) : Rat), ((0 : Nat) : Rat))) ((((1 : Nat) : Rat), ((0 : Nat) : Rat))) ((((5 : Nat) : Rat), ((0 : Nat) : Rat)))).1), ((bT ((((0 : Nat) : Rat), ((0 : Nat) : Rat))) ((((3 : Nat) : Rat), ((0 : Nat) : Rat))) ((((1 : Nat) : Rat), ((0 : Nat) : Rat))) ((((5 : Nat) : Rat), ((0 : Nat) : Rat)))).2.1), ((bT ((((0 : Nat) : Rat), ((0 : Nat) : Rat))) ((((3 : Nat) : Rat), ((0 : Nat) : Rat))) ((((1 : Nat) : Rat), ((0 : Nat) : Rat))) ((((5 : Nat) : Rat), ((0 : Nat) : Rat)))).2.2)) = (2, ((((1 : Nat) : Rat), ((0 : Nat) : Rat))), ((((3 : Nat) : Rat), ((0 : Nat) : Rat)))))))) jW (fun wq hR hst => ?_) ?_
 ·refine zK rfl (zK rfl (zD ?_))
  exact xB rfl rfl rfl (on0 rfl)
 refine zX (Ex (.bool true)) jW (fun wq hR hst => ?_) ?_
 ·refine zK rfl (zD ?_)
  exact zB rfl rfl (zA ⟨rfl, yP _, _, rfl, congrArg Value.bool (by decide +kernel)⟩)
 refine zM (fun _ hR _ => zO rfl rfl (zK rfl (zD (zQ rfl rfl (zL rfl aO uW rfl (B3.below hR) rfl rfl (on0 rfl)))))) ?_
 refine zX (vPC (Ins b3 (Ins b2 (Ins b1 M))) (2) ((((0 : Nat) : Rat), ((0 : Nat) : Rat)))) bA (fun wq hR hst => ?_) ?_
 ·refine zK rfl (zD ?_)
  replace hM := ub1 hR hM
  refine zQ rfl rfl (zH rfl uS rfl rfl ?_)
  refine (gG (k := 0) (l := 0)  (by omega) (by omega) hM).mono ?_
  rintro v33 w28 ⟨hB33, xs33, xa33, xd33, xt33, xb33, xe33, rfl, hn33⟩
  exact zA ⟨rfl, hB33, _, rfl, ⟨_, _, _, _, _, _, rfl, hn33⟩⟩
 refine zX (vPC (Ins b3 (Ins b2 (Ins b1 M))) (2) ((((0 : Nat) : Rat), ((0 : Nat) : Rat)))) bA (fun wq hR hst => ?_) ?_
 ·refine zK rfl (zD ?_)
  replace hM := ub1 hR hM
  refine zQ rfl rfl (zH rfl uS rfl rfl ?_)
  refine (gG (k := 0) (l := 0)  (by omega) (by omega) hM).mono ?_
  rintro v34 w29 ⟨hB34, xs34, xa34, xd34, xt34, xb34, xe34, rfl, hn34⟩
  exact zA ⟨rfl, hB34, _, rfl, ⟨_, _, _, _, _, _, rfl, hn34⟩⟩
 refine zX (fun v w => ∃ xs35 xa35 xd35 xt35 xb35 xe35 xs35b xa35b xd35b xt35b xb35b xe35b, v = .agg #[.int .i8 0, .bool xs35, xa35, xd35, .bool xt35, xb35, xe35, .bool xs35b, xa35b, xd35b, .bool xt35b, xb35b, xe35b] ∧ PC (Ins b3 (Ins b2 (Ins b1 M))) w (2) ((((0 : Nat) : Rat), ((0 : Nat) : Rat))) xs35 xa35 xd35 xt35 xb35 xe35 ∧ PC (Ins b3 (Ins b2 (Ins b1 M))) w (2) ((((0 : Nat) : Rat), ((0 : Nat) : Rat))) xs35b xa35b xd35b xt35b xb35b xe35b) (fun _ _ _ ⟨xs35, xa35, xd35, xt35, xb35, xe35, xs35b, xa35b, xd35b, xt35b, xb35b, xe35b, e, h0, h1⟩ r => ⟨xs35, xa35, xd35, xt35, xb35, xe35, xs35b, xa35b, xd35b, xt35b, xb35b, xe35b, e, h0.mono (Fz := fun _ => False) (Le.of_below r), h1.mono (Fz := fun _ => False) (Le.of_below r)⟩) (fun wq hR hst => ?_) ?_
 ·refine yE rfl (fun v33 hp33 => ?_)
  obtain ⟨xs33, xa33, xd33, xt33, xb33, xe33, rfl, hn33⟩ := hp33
  refine yE rfl (fun v34 hp34 => ?_)
  obtain ⟨xs34, xa34, xd34, xt34, xb34, xe34, rfl, hn34⟩ := hp34
  refine zK rfl (zD ?_)
  exact zQ rfl rfl (kE rfl eQ uW rfl (zZ (rfl) (zZ (rfl) xF)) rfl rfl (zA ⟨rfl, yP _, _, rfl, ⟨_, _, _, _, _, _, _, _, _, _, _, _, rfl, hn33, hn34⟩⟩))
 refine xM (fun wq4 hR4 hpost4 => ?_)
 refine zO rfl rfl (zK rfl (zK rfl (yE rfl (fun v35 hp35 => ?_))))
 obtain ⟨xs35, xa35, xd35, xt35, xb35, xe35, xs35b, xa35b, xd35b, xt35b, xb35b, xe35b, rfl, hn35, hnb35⟩ := hp35; obtain ⟨oxa35, oxd35, oxb35, oxe35, _⟩ := hn35.one
 refine zD ?_
 simp only [List.drop_succ_cons, List.drop_zero, List.drop_nil, List.toList_toArray]
 obtain ⟨LL, hM, hT, hn18, hnb18⟩ := ub5 hR4 LL hM hT hn18 hnb18
 refine zQ rfl rfl (zH rfl bod27 rfl rfl ?_)
 refine (r10alike_c hn18 hnb18 hn35 hnb35 (by omega) (by omega) (by omega) (by omega) hM).mono ?_
 rintro v36 w30 ⟨hB36, rfl⟩
 obtain ⟨LL, hM, hT⟩ := ub3 hB36 LL hM hT
 refine xB rfl rfl rfl (zB rfl rfl (eS (d := 38) rfl (by decide +kernel) (zQ rfl rfl (zH rfl uS rfl rfl ?_))))
 refine (gG (k := 0) (l := 0)  (by omega) (by omega) hM).mono ?_
 rintro v39 w31 ⟨hB39, xs39, xa39, xd39, xt39, xb39, xe39, rfl, hn39⟩
 obtain ⟨LL, hM, hT⟩ := ub3 hB39 LL hM hT
 refine zQ rfl rfl (zH rfl uS rfl rfl ?_)
 refine (gG (k := 0) (l := 0)  (by omega) (by omega) hM).mono ?_
 rintro v40 w32 ⟨hB40, xs40, xa40, xd40, xt40, xb40, xe40, rfl, hn40⟩
 obtain ⟨LL, hM, hT, hn39⟩ := ub4 hB40 LL hM hT hn39
 refine zQ rfl rfl (zH rfl uS rfl rfl ?_)
 refine (gG (k := 0) (l := 0)  (by omega) (by omega) hM).mono ?_
 rintro v41 w33 ⟨hB41, xs41, xa41, xd41, xt41, xb41, xe41, rfl, hn41⟩
 obtain ⟨LL, hM, hT, hn39, hn40⟩ := ub5 hB41 LL hM hT hn39 hn40
 refine zQ rfl rfl (zH rfl uS rfl rfl ?_)
 refine (gG (k := 1) (l := 1)  (by omega) (by omega) hM).mono ?_
 rintro v42 w34 ⟨hB42, xs42, xa42, xd42, xt42, xb42, xe42, rfl, hn42⟩
 obtain ⟨LL, hM, hT, hn39, hn40, hn41⟩ := ub6 hB42 LL hM hT hn39 hn40 hn41
 refine zQ rfl rfl (zH rfl bod28 rfl rfl ?_)
 refine (mmeets2_c hT hn39.gen hn40.gen hn41.gen hn42.gen (by omega) (by omega) (by omega) (by omega) hM).mono ?_
 rintro v43 w35 ⟨hB43, rfl⟩
 replace LL := ub1 hB43 LL
 refine eS (d := 43) rfl (by decide +kernel) (xB rfl rfl rfl (zE rfl rfl (zA (zY ?_))))
 refine zN ⟨[_], ⟨rfl, trivial⟩, ?_⟩
 dsimp only [zV]
 subst hFz
 exact ⟨LL.below (Nat.le_refl _), rfl⟩
end Go.Proofs.YtfkejnlohkgbgaaGreatDoor
set_option maxRecDepth 100000
namespace Go.Proofs.YtfkejnlohkgbgaaGreatDoor
open Go.SL Go.RowKit Go.Proofs Tryz
variable {M : Nat → Prop} {w : World}
theorem q4l2 {bb : Nat} {ty : TypeId} {q0 q1 : N4} {s0 t0 : Bool} {a0 d0 b0 e0 : Value} {s1 t1 : Bool} {a1 d1 b1 e1 : Value} (hk : KBlk M w bb ty [.bool s0, a0, d0, .bool t0, b0, e0, .bool s1, a1, d1, .bool t1, b1, e1]) (z0 : Q4 M w 0 q0 s0 a0 d0 t0 b0 e0) (z1 : Q4 M w 0 q1 s1 a1 d1 t1 b1 e1) : Q4L M w 0 [q0, q1] (.slice (some ⟨bb, 0, none⟩) 2 2) :=
  ⟨row_blk (l := [q0, q1]) hk (by simp) (by simp) ((Elems.nil.snoc (us := [.bool s0, a0, d0, .bool t0, b0, e0]) rfl ⟨_, _, _, _, _, _, rfl, z0⟩).snoc (us := [.bool s1, a1, d1, .bool t1, b1, e1]) rfl ⟨_, _, _, _, _, _, rfl, z1⟩)⟩
theorem longB_not {l : List N4} {x : N4} {n : Nat} (h : fK l = false) (hx : x ∈ l) (hn : n ≤ m4 x) : n ≤ 2 := by
  unfold fK at h
  rw [decide_eq_false_iff_not] at h
  have : ¬ 2 < m4 x := fun c => h ⟨x, hx, c⟩
  omega
end Go.Proofs.YtfkejnlohkgbgaaGreatDoor
set_option maxRecDepth 100000
namespace Go.Proofs.YtfkejnlohkgbgaaGreatDoor
open Go.SL Go.RowKit Go.Proofs Tryz
variable {M : Nat → Prop} {w : World}
theorem law_MeetHeights {p : P2} {n0 : Nat} {xs0 xt0 : Bool} {xa0 xd0 xb0 xe0 : Value} {q : P2} {n1 : Nat} {xs1 xt1 : Bool} {xa1 xd1 xb1 xe1 : Value} {x : Rat} {n2 : Nat} {xs2 : Bool} {xa2 xd2 : Value} (hT : Tab M w) (h0 : PQ M w n0 p xs0 xa0 xd0 xt0 xb0 xe0) (h1 : PQ M w n1 q xs1 xa1 xd1 xt1 xb1 xe1) (h2 : QC M w n2 x xs2 xa2 xd2) {q0 : N4} (z0 : Q4 M w 0 q0 xs0 xa0 xd0 xt0 xb0 xe0) (hn0 : n0 ≤ m4 q0) {q1 : N4} (z1 : Q4 M w 0 q1 xs1 xa1 xd1 xt1 xb1 xe1) (hn1 : n1 ≤ m4 q1) {k2 l2 : Nat} (za : ∃ p c, xa2 = .slice p k2 c) (zd : ∃ p c, xd2 = .slice p l2 c) (hn2 : n2 ≤ max k2 l2) (hM : OkM M w) :
    CallsV prog 6 [.agg #[.bool xs0, xa0, xd0, .bool xt0, xb0, xe0], .agg #[.bool xs1, xa1, xd1, .bool xt1, xb1, xe1], .agg #[.bool xs2, xa2, xd2]] w fun r w' => Below w.heap.size w w' ∧ r = .bool true := by
 obtain ⟨Fz, hFz, hF, LL⟩ := fz0 M w
 obtain ⟨oxa0, oxd0, oxb0, oxe0, _⟩ := h0.one
 obtain ⟨oxa1, oxd1, oxb1, oxe1, _⟩ := h1.one
 obtain ⟨oxa2, oxd2, _⟩ := h2.one
 obtain ⟨pa, ca, rfl⟩ := za
 obtain ⟨pd, cd, rfl⟩ := zd
 have hM0 := hM
 refine zP func6 rfl ntmps6 rfl ?_
 refine zF (zC (yL rfl rfl (fun w1 b3 N3 => ?_)))
 obtain ⟨_, nF3, nM3, Lw1, B3⟩ := nza hF hM N3
 obtain ⟨LL, hM, hF, hT, h0, h1, h2, z0, z1⟩ := up9 Lw1 LL hM hF hT h0 h1 h2 z0 z1
 refine yL rfl rfl (fun w2 b4 N4 => ?_)
 obtain ⟨hBw2, nF4, nM4, Lw2, B4⟩ := nza hF hM N4
 obtain ⟨B3, ne3_4⟩ := bn B3 N4
 obtain ⟨LL, hM, hF, hT, h0, h1, h2, z0, z1⟩ := up9 Lw2 LL hM hF hT h0 h1 h2 z0 z1
 refine yL rfl rfl (fun w3 b5 N5 => ?_)
 obtain ⟨hBw3, nF5, nM5, Lw3, B5⟩ := nza hF hM N5
 obtain ⟨B3, ne3_5⟩ := bn B3 N5
 obtain ⟨B4, ne4_5⟩ := bn B4 N5
 obtain ⟨LL, hM, hF, hT, h0, h1, h2, z0, z1⟩ := up9 Lw3 LL hM hF hT h0 h1 h2 z0 z1
 refine zE rfl rfl (zA (zF (zF (zC (zL rfl yZ xG rfl B3 rfl rfl (zL rfl yZ xG rfl B4 rfl rfl (xI rfl yu63 xG rfl rfl rfl rfl (zZ rfl (zZ rfl xF)) rfl rfl rfl (fun w4 b16 N16 => ?_))))))))
 have hBw4 := N16.below
 have nM16 := hM.new N16
 have B16 := N16.blk
 obtain ⟨LL, hM, hF, hT, h0, h1, h2, z0, z1, B3, B4, B5⟩ := fE hBw4 LL hM hF hT h0 h1 h2 z0 z1 B3 B4 B5
 refine zH rfl bod24 rfl rfl ?_
 refine (long_c (q4l2 (KBlk.mk B16 nM16) z0 z1) (by simp) (by simp) hM).mono ?_
 rintro v17 w5 ⟨hB17, rfl⟩
 obtain ⟨LL, hM, hF, hT, h0, h1, h2, B3, B4, B5⟩ := dF hB17 LL hM hF hT h0 h1 h2 B3 B4 B5
 refine zB rfl rfl (aW (d := 18) rfl (fun hg1_4 => ?_) (fun hg1_4 => ?_))
 ·refine zT rfl rfl rfl rfl (zT rfl rfl rfl rfl (zT rfl rfl rfl rfl (zT rfl rfl rfl rfl (zT rfl rfl rfl rfl (zT rfl rfl rfl rfl (zT rfl rfl rfl rfl (zT rfl rfl rfl rfl (zT rfl rfl rfl rfl (xB rfl rfl rfl (zA (kU rfl (zF (zC (zH rfl bod25 rfl rfl ?_))))))))))))))
  refine (wakes_c hT   hM).mono ?_
  rintro v29 w6 ⟨hB29, rfl⟩
  replace LL := ub1 hB29 LL
  refine zE rfl rfl (zA (zY ?_))
  refine zN ⟨[_], ⟨rfl, trivial⟩, ?_⟩
  dsimp only [zV]
  subst hFz
  exact ⟨LL.below (Nat.le_refl _), rfl⟩
 ·refine zQ rfl rfl (zJ 0 rfl yu33 rfl rfl xC rfl rfl (zQ rfl rfl (zJ 1 rfl yu31 rfl rfl xV rfl rfl (zQ rfl rfl (zS rfl yX rfl B5 rfl (zQ rfl rfl ?_))))))
  first | refine yS rfl yu29 rfl (IsNat.slc (by assumption)) ?_ | refine yY rfl yu29 rfl ?_
  refine zQ rfl rfl (zJ 2 rfl yu33 rfl rfl xV rfl rfl (zQ rfl rfl (zS rfl yX rfl B5 rfl (zQ rfl rfl ?_))))
  first | refine yS rfl yu29 rfl (IsNat.slc (by assumption)) ?_ | refine yY rfl yu29 rfl ?_
  refine zQ rfl rfl (kO rfl rfl rfl (zQ rfl rfl (uD rfl rfl rfl (xB rfl rfl rfl (zA ?_)))))
  refine yC rfl (fun hc0 => ?_) (fun hc0 => ?_)
  ·refine zF (zC (zH rfl bod25 rfl rfl ?_))
   refine (wakes_c hT   hM).mono ?_
   rintro v29 w7 ⟨hB29, rfl⟩
   replace LL := ub1 hB29 LL
   refine zE rfl rfl (zA (zY ?_))
   refine zN ⟨[_], ⟨rfl, trivial⟩, ?_⟩
   dsimp only [zV]
   subst hFz
   exact ⟨LL.below (Nat.le_refl _), rfl⟩
  ·have hz0 : n0 ≤ 2 := longB_not (by simpa using hg1_4) (x := q0) (by simp) hn0
   have hz1 : n1 ≤ 2 := longB_not (by simpa using hg1_4) (x := q1) (by simp) hn1
   have hz2 : n2 ≤ 3 := by omega
   refine yO (zF (zC (zL rfl yZ xG rfl B3 rfl rfl (zL rfl yZ xG rfl B4 rfl rfl (zL rfl yW yN rfl B5 rfl rfl (zH rfl bod39 rfl rfl ?_))))))
   refine (mheight_c hT h0 h1 h2 (by omega) (by omega) (by omega) hM).mono ?_
   rintro v34 w8 ⟨hB34, xs34, xa34, xd34, rfl, hn34⟩
   obtain ⟨LL, hM, hF, hT, h0, h1, h2, B3, B4, B5⟩ := dF hB34 LL hM hF hT h0 h1 h2 B3 B4 B5
   obtain ⟨oxa34, oxd34, _⟩ := hn34.one
   refine zB rfl rfl (yA rfl rfl rfl (yA rfl rfl rfl (yJ rfl yN (fun w9 b7 N7 => ?_))))
   obtain ⟨hBw9, nF7, nM7, Lw9, B7⟩ := nza hF hM N7
   obtain ⟨B3, ne3_7⟩ := bn B3 N7
   obtain ⟨B4, ne4_7⟩ := bn B4 N7
   obtain ⟨B5, ne5_7⟩ := bn B5 N7
   obtain ⟨LL, hM, hF, hT, h0, h1, h2, hn34⟩ := up8 Lw9 LL hM hF hT h0 h1 h2 hn34
   refine zW rfl rfl yN B7 rfl rfl (zU rfl (zU (by first | rfl | assumption) (zU (by first | rfl | assumption) jC))) rfl (fun w10 Cw10 B7 => ?_)
   have Lw10 := Le.of_chg (M := (Ins b7 (Ins b5 (Ins b4 (Ins b3 M))))) Cw10 zR nF7
   obtain ⟨LL, hM, hF, hT, h0, h1, h2, hn34⟩ := up8 Lw10 LL hM hF hT h0 h1 h2 hn34
   replace B3 := B3.other Cw10 ne3_7
   replace B4 := B4.other Cw10 ne4_7
   replace B5 := B5.other Cw10 ne5_7
   refine zE rfl rfl (zA (zF (zF (zC (zJ 0 rfl yu39 rfl rfl yN rfl rfl (zL rfl yW yN rfl B3 rfl rfl (zJ 0 rfl yu39 rfl rfl yN rfl rfl (zL rfl yW yN rfl B4 rfl rfl (zH rfl bod33 rfl rfl ?_)))))))))
   refine (r7cmp_c h0.x h1.x (by omega) (by omega) hM).mono ?_
   rintro v41 w11 ⟨hB41, rfl⟩
   obtain ⟨LL, hM, hF, hT, h0, h1, h2, hn34, B3, B4, B5, B7⟩ := fE hB41 LL hM hF hT h0 h1 h2 hn34 B3 B4 B5 B7
   refine gI rfl rfl rfl (zA ?_)
   refine yC rfl (fun hc1 => ?_) (fun hc1 => ?_)
   ·have hq0 : q.1 - p.1 = 0 := by have := aX.1 hc1; grind
    have hh0 : eY (qK p q x) = 0 := by unfold qK; rw [if_pos hq0]; exact sgnR_zero.2 rfl
    refine zF (zC (zB rfl rfl (qR rfl rfl (zB rfl rfl (eS (d := 45) rfl (by simp [hq0]) (zQ rfl rfl (zL rfl yW yN rfl B7 rfl rfl (zQ rfl rfl (zH rfl bod32 rfl rfl ?_)))))))))
    refine (r7sign_c hn34.gen (by omega) hM).mono ?_
    rintro v47 w12 ⟨hB47, rfl⟩
    obtain ⟨LL, hM, hT⟩ := ub3 hB47 LL hM hT
    refine zQ rfl rfl (gI rfl rfl rfl (eS (d := 48) rfl (decide_eq_true hh0) (xB rfl rfl rfl (zB rfl rfl (zQ rfl rfl (zH rfl bod25 rfl rfl ?_))))))
    refine (wakes_c hT   hM).mono ?_
    rintro v51 w13 ⟨hB51, rfl⟩
    replace LL := ub1 hB51 LL
    refine xB rfl rfl rfl (zE rfl rfl (zA (zY ?_)))
    refine zN ⟨[_], ⟨rfl, trivial⟩, ?_⟩
    dsimp only [zV]
    subst hFz
    exact ⟨LL.below (Nat.le_refl _), rfl⟩
   ·have hne : p.1 ≠ q.1 := fun c => hc1 (aX.2 c)
    have hq1 : q.1 - p.1 ≠ 0 := by grind
    have hq2 : p.1 - q.1 ≠ 0 := by grind
    obtain ⟨hh1, hh2⟩ := height_end hne
    have hh3 := height_on hne x
    refine yO (zF (zC (zL rfl yZ xG rfl B3 rfl rfl (zL rfl yZ xG rfl B4 rfl rfl (zJ 0 rfl yu39 rfl rfl yN rfl rfl (zL rfl yW yN rfl B3 rfl rfl (zH rfl bod39 rfl rfl ?_)))))))
    refine (mheight_c hT h0 h1 h0.x (by omega) (by omega) (by omega) hM).mono ?_
    rintro v58 w14 ⟨hB58, xs58, xa58, xd58, rfl, hn58⟩
    obtain ⟨LL, hM, hF, hT, h0, h1, h2, hn34, B3, B4, B5, B7⟩ := fE hB58 LL hM hF hT h0 h1 h2 hn34 B3 B4 B5 B7
    obtain ⟨oxa58, oxd58, _⟩ := hn58.one
    refine zB rfl rfl (yA rfl rfl rfl (yA rfl rfl rfl (yJ rfl yN (fun w15 b9 N9 => ?_))))
    obtain ⟨hBw15, nF9, nM9, Lw15, B9⟩ := nza hF hM N9
    obtain ⟨B3, ne3_9⟩ := bn B3 N9
    obtain ⟨B4, ne4_9⟩ := bn B4 N9
    obtain ⟨B5, ne5_9⟩ := bn B5 N9
    obtain ⟨B7, ne7_9⟩ := bn B7 N9
    obtain ⟨LL, hM, hF, hT, h0, h1, h2, hn34, hn58⟩ := up9 Lw15 LL hM hF hT h0 h1 h2 hn34 hn58
    refine zW rfl rfl yN B9 rfl rfl (zU rfl (zU (by first | rfl | assumption) (zU (by first | rfl | assumption) jC))) rfl (fun w16 Cw16 B9 => ?_)
    have Lw16 := Le.of_chg (M := (Ins b9 (Ins b7 (Ins b5 (Ins b4 (Ins b3 M)))))) Cw16 zR nF9
    obtain ⟨LL, hM, hF, hT, h0, h1, h2, hn34, hn58⟩ := up9 Lw16 LL hM hF hT h0 h1 h2 hn34 hn58
    replace B3 := B3.other Cw16 ne3_9
    replace B4 := B4.other Cw16 ne4_9
    replace B5 := B5.other Cw16 ne5_9
    replace B7 := B7.other Cw16 ne7_9
    refine zE rfl rfl (zA (zF (zC (zL rfl yZ xG rfl B4 rfl rfl (zL rfl yZ xG rfl B3 rfl rfl (zJ 0 rfl yu39 rfl rfl yN rfl rfl (zL rfl yW yN rfl B4 rfl rfl (zH rfl bod39 rfl rfl ?_))))))))
    refine (mheight_c hT h1 h0 h1.x (by omega) (by omega) (by omega) hM).mono ?_
    rintro v66 w17 ⟨hB66, xs66, xa66, xd66, rfl, hn66⟩
    obtain ⟨LL, hM, hF, hT, h0, h1, h2, hn34, hn58, B3, B4, B5, B7, B9⟩ := ub14 hB66 LL hM hF hT h0 h1 h2 hn34 hn58 B3 B4 B5 B7 B9
    obtain ⟨oxa66, oxd66, _⟩ := hn66.one
    refine zB rfl rfl (yA rfl rfl rfl (yA rfl rfl rfl (yJ rfl yN (fun w18 b11 N11 => ?_))))
    obtain ⟨hBw18, nF11, nM11, Lw18, B11⟩ := nza hF hM N11
    obtain ⟨B3, ne3_11⟩ := bn B3 N11
    obtain ⟨B4, ne4_11⟩ := bn B4 N11
    obtain ⟨B5, ne5_11⟩ := bn B5 N11
    obtain ⟨B7, ne7_11⟩ := bn B7 N11
    obtain ⟨B9, ne9_11⟩ := bn B9 N11
    obtain ⟨LL, hM, hF, hT, h0, h1, h2, hn34, hn58, hn66⟩ := fX Lw18 LL hM hF hT h0 h1 h2 hn34 hn58 hn66
    refine zW rfl rfl yN B11 rfl rfl (zU rfl (zU (by first | rfl | assumption) (zU (by first | rfl | assumption) jC))) rfl (fun w19 Cw19 B11 => ?_)
    have Lw19 := Le.of_chg (M := (Ins b11 (Ins b9 (Ins b7 (Ins b5 (Ins b4 (Ins b3 M))))))) Cw19 zR nF11
    obtain ⟨LL, hM, hF, hT, h0, h1, h2, hn34, hn58, hn66⟩ := fX Lw19 LL hM hF hT h0 h1 h2 hn34 hn58 hn66
    replace B3 := B3.other Cw19 ne3_11
    replace B4 := B4.other Cw19 ne4_11
    replace B5 := B5.other Cw19 ne5_11
    replace B7 := B7.other Cw19 ne7_11
    replace B9 := B9.other Cw19 ne9_11
    refine zE rfl rfl (zA (zF (zC (zL rfl yW yN rfl B5 rfl rfl (zL rfl yW yN rfl B7 rfl rfl (xP rfl dG rfl rfl (zZ (rfl) (zZ (rfl) xF)) rfl (yJ rfl xG (fun w20 b13 N13 => ?_))))))))
    obtain ⟨hBw20, nF13, nM13, Lw20, B13⟩ := nza hF hM N13
    obtain ⟨B3, ne3_13⟩ := bn B3 N13
    obtain ⟨B4, ne4_13⟩ := bn B4 N13
    have lt5_13 := B5.lt
    have ne5_13 := N13.ne lt5_13
    have lt7_13 := B7.lt
    have ne7_13 := N13.ne lt7_13
    obtain ⟨B9, ne9_13⟩ := bn B9 N13
    obtain ⟨B11, ne11_13⟩ := bn B11 N13
    obtain ⟨LL, hM, hT, h0, h1, h2, hn34, hn58, hn66⟩ := up9 Lw20 LL hM hT h0 h1 h2 hn34 hn58 hn66
    refine zW rfl rfl xG B13 rfl rfl (zU rfl (zU (by first | rfl | assumption) (zU (by first | rfl | assumption) (zU rfl (zU (by first | rfl | assumption) (zU (by first | rfl | assumption) jC)))))) rfl (fun w21 Cw21 B13 => ?_)
    have Lw21 := Le.of_chg (M := (Ins b13 (Ins b11 (Ins b9 (Ins b7 (Ins b5 (Ins b4 (Ins b3 M)))))))) Cw21 zR nF13
    obtain ⟨LL, hM, hT, h0, h1, h2, hn34, hn58, hn66⟩ := up9 Lw21 LL hM hT h0 h1 h2 hn34 hn58 hn66
    replace B3 := B3.other Cw21 ne3_13
    replace B4 := B4.other Cw21 ne4_13
    replace B9 := B9.other Cw21 ne9_13
    replace B11 := B11.other Cw21 ne11_13
    refine zA (zF ?_)
    refine xL (R := Rb) (R' := Rb) (st := none) jJ 27 [6, 93, 96, 97, 98] (qO (by decide +kernel)) xJ xU (xS _) (fun _ _ _ h => by cases h) ?_
    refine zX (Ex (.bool (decide (q.1 - p.1 ≠ 0)))) jW (fun wq hR hst => ?_) ?_
    ·refine zO rfl rfl (zD ?_)
     exact zB rfl rfl (on0 rfl)
    refine zX (Ex (.bool true)) jW (fun wq hR hst => ?_) ?_
    ·refine zK rfl (zD ?_)
     exact zB rfl rfl (zA ⟨rfl, yP _, _, rfl, congrArg Value.bool (decide_eq_true hq1)⟩)
    refine zX (Ex (.bool (decide (q.1 - p.1 ≠ 0)))) jW (fun wq hR hst => ?_) ?_
    ·refine zO rfl rfl (zK rfl (zD ?_))
     exact zQ rfl rfl (zB rfl rfl (on0 rfl))
    refine zX (Ex (.bool (decide (q.1 - p.1 ≠ 0)))) jW (fun wq hR hst => ?_) ?_
    ·refine zK rfl (zK rfl (zD ?_))
     exact xB rfl rfl rfl (on0 rfl)
    refine zX (Ex (.bool true)) jW (fun wq hR hst => ?_) ?_
    ·refine zK rfl (zD ?_)
     exact zB rfl rfl (zA ⟨rfl, yP _, _, rfl, congrArg Value.bool (decide_eq_true hq1)⟩)
    refine zX (Ex (.bool (decide (p.1 - q.1 ≠ 0)))) jW (fun wq hR hst => ?_) ?_
    ·refine zO rfl rfl (zK rfl (zD ?_))
     exact zQ rfl rfl (zB rfl rfl (on0 rfl))
    refine zX (Ex (.bool (decide (p.1 - q.1 ≠ 0)))) jW (fun wq hR hst => ?_) ?_
    ·refine zK rfl (zK rfl (zD ?_))
     exact xB rfl rfl rfl (on0 rfl)
    refine zX (Ex (.bool true)) jW (fun wq hR hst => ?_) ?_
    ·refine zK rfl (zD ?_)
     exact zB rfl rfl (zA ⟨rfl, yP _, _, rfl, congrArg Value.bool (decide_eq_true hq2)⟩)
    refine zM (fun _ hR _ => zO rfl rfl (zK rfl (zD (zQ rfl rfl (zL rfl yW yN rfl (B9.below hR) rfl rfl (on0 rfl)))))) ?_
    refine zM (fun _ _ _ => zO rfl rfl (zK rfl (zD (zQ rfl rfl (zJ 3 rfl yu39 rfl rfl yN rfl rfl (on0 rfl)))))) ?_
    refine zM (fun _ hR _ => zK rfl (zK rfl (zD (zQ rfl rfl (zL rfl yW yN rfl (B3.below hR) rfl rfl (on0 rfl)))))) ?_
    refine zX (Ex (.int .i64 (aV (qK p q p.1) p.2))) jW (fun wq hR hst => ?_) ?_
    ·refine zK rfl (zK rfl (zK rfl (zD ?_)))
     obtain ⟨hM, h0, hn58⟩ := ub3 hR hM h0 hn58
     refine zQ rfl rfl (zH rfl bod33 rfl rfl ?_)
     refine (r7cmp_c hn58.gen h0.y (by omega) (by omega) hM).mono ?_
     rintro v83 w22 ⟨hB83, rfl⟩
     exact zA ⟨rfl, hB83, _, rfl, rfl⟩
    refine zX (Ex (.bool (decide (((aV (qK p q p.1) p.2)) = 0)))) jW (fun wq hR hst => ?_) ?_
    ·refine zK rfl (zK rfl (zD ?_))
     exact zQ rfl rfl (gI rfl rfl rfl (on0 rfl))
    refine zX (Ex (.bool (decide (((aV (qK p q p.1) p.2)) = 0)))) jW (fun wq hR hst => ?_) ?_
    ·refine zK rfl (zK rfl (zD ?_))
     exact xB rfl rfl rfl (on0 rfl)
    refine zX (Ex (.bool true)) jW (fun wq hR hst => ?_) ?_
    ·refine zK rfl (zD ?_)
     exact zB rfl rfl (zA ⟨rfl, yP _, _, rfl, congrArg Value.bool (decide_eq_true (aX.2 hh1))⟩)
    refine zM (fun _ hR _ => zO rfl rfl (zK rfl (zD (zQ rfl rfl (zL rfl yW yN rfl (B11.below hR) rfl rfl (on0 rfl)))))) ?_
    refine zM (fun _ _ _ => zO rfl rfl (zK rfl (zD (zQ rfl rfl (zJ 3 rfl yu39 rfl rfl yN rfl rfl (on0 rfl)))))) ?_
    refine zM (fun _ hR _ => zK rfl (zK rfl (zD (zQ rfl rfl (zL rfl yW yN rfl (B4.below hR) rfl rfl (on0 rfl)))))) ?_
    refine zX (Ex (.int .i64 (aV (qK q p q.1) q.2))) jW (fun wq hR hst => ?_) ?_
    ·refine zK rfl (zK rfl (zK rfl (zD ?_)))
     obtain ⟨hM, h1, hn66⟩ := ub3 hR hM h1 hn66
     refine zQ rfl rfl (zH rfl bod33 rfl rfl ?_)
     refine (r7cmp_c hn66.gen h1.y (by omega) (by omega) hM).mono ?_
     rintro v90 w23 ⟨hB90, rfl⟩
     exact zA ⟨rfl, hB90, _, rfl, rfl⟩
    refine zX (Ex (.bool (decide (((aV (qK q p q.1) q.2)) = 0)))) jW (fun wq hR hst => ?_) ?_
    ·refine zK rfl (zK rfl (zD ?_))
     exact zQ rfl rfl (gI rfl rfl rfl (on0 rfl))
    refine zX (Ex (.bool (decide (((aV (qK q p q.1) q.2)) = 0)))) jW (fun wq hR hst => ?_) ?_
    ·refine zK rfl (zK rfl (zD ?_))
     exact xB rfl rfl rfl (on0 rfl)
    refine zX (Ex (.bool true)) jW (fun wq hR hst => ?_) ?_
    ·refine zK rfl (zD ?_)
     exact zB rfl rfl (zA ⟨rfl, yP _, _, rfl, congrArg Value.bool (decide_eq_true (aX.2 hh2))⟩)
    refine zM (fun _ hR _ => zO rfl rfl (zK rfl (zD (zQ rfl rfl (zL rfl yZ xG rfl (B4.below hR) rfl rfl (on0 rfl)))))) ?_
    refine zM (fun _ hR _ => zO rfl rfl (zK rfl (zD (zQ rfl rfl (zL rfl yZ xG rfl (B3.below hR) rfl rfl (on0 rfl)))))) ?_
    refine zX (vPC (Ins b13 (Ins b11 (Ins b9 (Ins b7 (Ins b5 (Ins b4 (Ins b3 M))))))) (n1 + n0 + 5) (gQ q p)) bA (fun wq hR hst => ?_) ?_
    ·refine zK rfl (zK rfl (zK rfl (zD ?_)))
     obtain ⟨hM, h0, h1⟩ := ub3 hR hM h0 h1
     refine zQ rfl rfl (zH rfl bod41 rfl rfl ?_)
     refine (r8sub_c h1 h0 (by omega) (by omega) hM).mono ?_
     rintro v96 w24 ⟨hB96, xs96, xa96, xd96, xt96, xb96, xe96, rfl, hn96⟩
     exact zA ⟨rfl, hB96, _, rfl, ⟨_, _, _, _, _, _, rfl, hn96⟩⟩
    refine zM (fun _ hR _ => zO rfl rfl (zK rfl (zD (zQ rfl rfl (zL rfl yZ xG rfl (B13.below hR) rfl rfl (on0 rfl)))))) ?_
    refine zM (fun _ hR _ => zO rfl rfl (zK rfl (zD (zQ rfl rfl (zL rfl yZ xG rfl (B3.below hR) rfl rfl (on0 rfl)))))) ?_
    refine xM (fun wq9 hR9 hpost9 => ?_)
    refine zO rfl rfl (zK rfl (yE rfl (fun v96 hp96 => ?_)))
    obtain ⟨xs96, xa96, xd96, xt96, xb96, xe96, rfl, hn96⟩ := hp96
    refine zK rfl (zK rfl (zD ?_))
    simp only [List.drop_succ_cons, List.drop_zero, List.drop_nil, List.toList_toArray]
    obtain ⟨LL, hM, hT, h0, h2, hn34⟩ := ub6 hR9 LL hM hT h0 h2 hn34
    refine zQ rfl rfl (zH rfl bod41 rfl rfl ?_)
    refine (r8sub_c (PQ.mk2 h2 hn34.gen) h0 (by omega) (by omega) hM).mono ?_
    rintro v99 w25 ⟨hB99, xs99, xa99, xd99, xt99, xb99, xe99, rfl, hn99⟩
    obtain ⟨LL, hM, hT, hn96⟩ := ub4 hB99 LL hM hT hn96
    refine zQ rfl rfl (zH rfl bod40 rfl rfl ?_)
    refine (r8cross_c hn96.gen hn99.gen (by omega) (by omega) hM).mono ?_
    rintro v100 w26 ⟨hB100, xs100, xa100, xd100, rfl, hn100⟩
    obtain ⟨LL, hM, hT⟩ := ub3 hB100 LL hM hT
    refine zQ rfl rfl (zH rfl bod32 rfl rfl ?_)
    refine (r7sign_c hn100.gen (by omega) hM).mono ?_
    rintro v101 w27 ⟨hB101, rfl⟩
    obtain ⟨LL, hM, hT⟩ := ub3 hB101 LL hM hT
    refine zQ rfl rfl (gI rfl rfl rfl (xB rfl rfl rfl (zB rfl rfl (eS (d := 104) rfl (decide_eq_true (sgnR_zero.2 hh3)) (zQ rfl rfl (zH rfl bod25 rfl rfl ?_))))))
    refine (wakes_c hT   hM).mono ?_
    rintro v105 w28 ⟨hB105, rfl⟩
    replace LL := ub1 hB105 LL
    refine xB rfl rfl rfl (zE rfl rfl (zA (zY ?_)))
    refine zN ⟨[_], ⟨rfl, trivial⟩, ?_⟩
    dsimp only [zV]
    subst hFz
    exact ⟨LL.below (Nat.le_refl _), rfl⟩
end Go.Proofs.YtfkejnlohkgbgaaGreatDoor
