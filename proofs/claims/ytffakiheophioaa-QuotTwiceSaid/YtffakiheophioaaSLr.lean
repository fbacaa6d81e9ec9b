import Derived.Test.YtffakiheophioaaSLa
import Derived.ProofKit
import Derived.Deep.Matrix
set_option linter.unusedVariables false
namespace Go.SL
open Go.ChangeShapes Go.WideShapes Go.ChangeAt Go.RowKit Go.Deep
section
variable {H : Type} {enc : TypeId × Value → H} {P : Program} {W : World}
theorem maxLen_is : maxLen = 9223372036854775807 := by decide
theorem lw_of {n : Int} (h : (Lit.int .u32 n).wf = true) : lw n.toNat = .int .u32 n ∧ n.toNat < 4294967296 := by
  have h' : 0 ≤ n ∧ n ≤ 4294967295 := by simpa [Lit.wf, IntKind.min, IntKind.max, IntKind.signed, IntKind.bits] using h
  refine ⟨?_, by omega⟩
  rw [lw, Int.toNat_of_nonneg h'.1]
theorem nat_of_cells {a : Addr} {n cap : Nat} {Z : List Int} (hn : n ≤ cap) (hc : cap ≤ maxLen) (hz : n ≤ Z.length) (hw : ∀ n ∈ Z, (Lit.int .u32 n).wf = true) (h : ∀ i, i < n → W.cell? (a.add i) = some (.int .u32 (Z.getD i 0))) :
    IsNat (fun _ => False) W (.slice (some a) n cap) ((List.range n).map fun i => (Z.getD i 0).toNat) := by
  rw [maxLen_is] at hc
  have hm : ∀ i, i < n → Z.getD i 0 ∈ Z := fun i hi => by
    rw [List.getD_eq_getElem?_getD, List.getElem?_eq_getElem (show i < Z.length by omega)]; exact List.getElem_mem _
  constructor
  · have := slc_arg (f := fun i => lw (Z.getD i 0).toNat) hn hc (fun i hi => by rw [(lw_of (hw _ (hm i hi))).1]; exact h i hi)
    simpa [List.map_map, Function.comp_def] using this
  · intro x hx
    obtain ⟨i, hi, rfl⟩ := List.mem_map.1 hx
    exact (lw_of (hw _ (hm i (List.mem_range.1 hi)))).2
theorem open_nat {r : Reach} {b0 : Nat} {t e : TypeId} {v : Value} {d : DataW H} {ps : List MemPlace} (ht : P.underlying t = some (.slice e)) (he : P.underlying e = some (.int .u32)) (hc : P.cellsOf e = 1)
    (hval : Value.okWide P W r b0 t v) (h : DataW.Trod enc P W 0 (fun _ => true) true t v d ps) : ∃ xs, IsNat (fun _ => False) W v xs := by
  obtain ⟨a0, len, cap, rfl⟩ := okWide_slice ht hval
  obtain ⟨fuel, hf⟩ := h
  rcases open_ints ht he hc hf with ⟨h1, _⟩ | ⟨a, l, c, zs, h1, _, h3, h4, h5, _, h7, h8⟩
  · simp [Value.cells] at h1
    obtain ⟨rfl, rfl, rfl⟩ := h1
    exact ⟨[], isNat_nil⟩
  · simp [Value.cells] at h1
    obtain ⟨rfl, rfl, rfl⟩ := h1
    simp only [if_true] at h5
    exact ⟨_, nat_of_cells h3 h4 (by omega) h8 (fun i hi => h7 i (by omega))⟩
theorem open_nats {r : Reach} {b0 : Nat} {t e q : TypeId} {v : Value} {d : DataW H} {ps : List MemPlace} (ht : P.underlying t = some (.slice e)) (he : P.underlying e = some (.slice q)) (hq : P.underlying q = some (.int .u32)) (ce : P.cellsOf e = 1) (cq : P.cellsOf q = 1)
    (hval : Value.okWide P W r b0 t v) (h : DataW.Trod enc P W 0 (fun _ => true) true t v d ps) : ∃ xss, IsNats (fun _ => False) W v xss := by
  obtain ⟨a0, len, cap, rfl⟩ := okWide_slice ht hval
  obtain ⟨fuel, hf⟩ := h
  rcases open_int_rows ht he hq ce cq hf with ⟨h1, _⟩ | ⟨a, l, c, A, L, C, Z, h1, _, h3, h4, _, h6⟩
  · simp [Value.cells] at h1
    obtain ⟨rfl, rfl, rfl⟩ := h1
    exact ⟨[], isNats_nil⟩
  · simp [Value.cells] at h1
    obtain ⟨rfl, rfl, rfl⟩ := h1
    refine ⟨(List.range len).map fun r => (List.range (L r)).map fun i => ((Z r).getD i 0).toNat, (List.range len).map fun r => .slice (A r) (L r) (C r), ?_, fun i xs hi => ?_⟩
    · have := slc_arg (f := fun r => .slice (A r) (L r) (C r)) h3 (by rw [maxLen_is] at h4; exact h4) (fun i hi => (h6 i (by omega)).1)
      simpa using this
    · obtain ⟨hlt, rfl⟩ := List.getElem?_eq_some_iff.1 hi
      have hlt' : i < len := by simpa using hlt
      obtain ⟨e1, r1, r2, r3, r4, r5, r6⟩ := h6 i (by omega)
      refine ⟨.slice (A i) (L i) (C i), by simp [hlt'], ?_⟩
      simp only [List.getElem_map, List.getElem_range]
      cases hA : A i with
      | none =>
        have hC := r5 hA
        have hL : L i = 0 := by omega
        rw [hC, hL]; exact isNat_nil
      | some a' => exact nat_of_cells r1 r2 (by omega) r4 (fun j hj => (r6 a' hA).2 j (by omega))
theorem trodAll_below (hl : laidOutB P = true) {W' : World} (hb : Below W.heap.size W W') : ∀ {ts : List TypeId} {vs : List Value} {ds : List (DataW H)} {ps : List MemPlace},
    (∀ t ∈ ts, P.readableRec t = true ∧ t < P.types.size) → (∀ x ∈ ps, x.block < W.heap.size) → DataW.TrodAll enc P W 0 (fun _ => true) true ts vs ds ps →
    DataW.TrodAll enc P W' 0 (fun b => decide (b < W.heap.size)) true ts vs ds ps
  | [], vs, ds, ps, ht, hp, h => by
    obtain ⟨rfl, rfl, rfl⟩ := trodAll_nil h; exact trodAll_mk0
  | t :: ts, vs, ds, ps, ht, hp, h => by
    obtain ⟨v, vs', d, ds', p, q, rfl, rfl, rfl, h1, h2⟩ := trodAll_cons h
    exact ⟨p, q, Below.trod hl (ht t (by simp)).1 (ht t (by simp)).2 h1 hb (fun x hx => hp x (by simp [hx])), trodAll_below hl hb (fun t' h' => ht t' (by simp [h'])) (fun x hx => hp x (by simp [hx])) h2, rfl⟩
theorem law_post {f : Func} {s : ChangeSpec} {W' : World} {args : Array Value} {ds gs : List (DataW H)} {before : List MemPlace} {tb : TypeId} (hl : laidOutB P = true) (hts : ∀ t ∈ f.params.toList, P.readableRec t = true ∧ t < P.types.size)
    (hb : P.underlying tb = some .bool) (hrt : f.resultTypes = #[tb]) (hv : s.vars = []) (hW : DataW.Whole enc P f.params.toList s.vars false W args.toList ds gs before)
    (hsr : (s.fn H ds).results = [.lit (.bool true)]) (hsa : (s.fn H ds).args = ds) (hsv : (s.fn H ds).vars = []) (hg : Below W.heap.size W W') : s.post enc P f false true false false W args (.bool true) W' := by
  have hlt := hW.lt
  have hW' := hW
  obtain ⟨p, q, hA, hV, rfl, _, _⟩ := hW
  rw [hv] at hV
  obtain ⟨rfl, rfl⟩ := trodVars_none hV
  simp only [List.append_nil] at hlt hW' 
  refine ⟨ds, [], p, [], p, [], hW', ?_, ?_, ?_, hg.frame _, fun h => by cases h⟩
  · rw [hrt, List.append_nil, hsr]
    exact trodAll_mk1 (shut_bool hb true)
  · rw [List.append_nil, hsa]
    exact trodAll_below hl hg hts hlt hA
  · rw [List.append_nil, hsv, hv]; exact rfl
end
end Go.SL
