import Derived.Test.YtffakiheophioaaSLp
import Derived.Laws.Tables
import Derived.Laws.Externs
set_option linter.unusedVariables false
set_option linter.unusedSimpArgs false
namespace Go.SL
open Go.RowKit

/-! ### structs -/
section strct
variable {P : Program} {r : Option Nat} {N : Nat} {all : Array Oper} {K : Pd} {D : List Deferred} {E : Env} {w : World} {rest : List Oper}
theorem ops_nilck {d : Nat} {x : Operand} {t' : TypeId} {pos : String} {af : Array Edge} {ad : Addr} (hd : Nat.blt d N = true) (hx : ev E x = some (.pointer (some ad)))
    (h : Ops P r N all K rest D ((d, .pointer (some ad)) :: E) w) : Ops P r N all K (⟨some d, .nilCheck x, t', pos, af, none⟩ :: rest) D E w :=
  ops_val hd (by intro c hc; cases hc) (fun ac ha => by simp only [execOp, ha.ev hx]; rfl) h
theorem run_fieldAt {s : TypeId} {f : Nat} {fields : Array Field} {fd : Field} {b o sz bytes : Nat} {z : Value} (hs : P.underlying s = some (.struct fields)) (hf : fields[f]? = some fd) (hz : Sz P fd.type sz bytes z) (h0 : Nat.beq sz 0 = false) (w : World) :
    (Instr.fieldAt s (.pointer (some ⟨b, o, none⟩)) f).run P w = .ok (.pointer (some ⟨b, o + fd.offset, none⟩)) w := by
  have h0' : sz ≠ 0 := Nat.ne_of_beq_eq_false h0
  have hf' := hf
  simp [Instr.fieldAt, run_underlying hs, Instr.sureAddr, fieldPlace, run_size hz, Result.andThen, hf', h0', addr_add]
/-- the address of a field -/
theorem ops_fieldAddr {d : Nat} {x : Operand} {s t' : TypeId} {pos : String} {af : Array Edge} {f : Nat} {fields : Array Field} {fd : Field} {b o sz bytes : Nat} {z : Value} (k : Nat) (hd : Nat.blt d N = true)
    (hs : P.underlying s = some (.struct fields)) (hf : fields[f]? = some fd) (hk : fd.offset = k) (hz : Sz P fd.type sz bytes z) (h0 : Nat.beq sz 0 = false) (hx : ev E x = some (.pointer (some ⟨b, o, none⟩)))
    (h : Ops P r N all K rest D ((d, .pointer (some ⟨b, o + k, none⟩)) :: E) w) : Ops P r N all K (⟨some d, .fieldAddr s x f, t', pos, af, none⟩ :: rest) D E w :=
  ops_val hd (by intro c hc; cases hc) (fun ac ha => by
    subst hk
    simp only [execOp, ha.ev hx, Sem.run_bind, run_fieldAt hs hf hz h0 w, Result.andThen]; rfl) h
/-- of a variable that begins at cell 0 -/
theorem ops_field0 {d : Nat} {x : Operand} {s t' : TypeId} {pos : String} {af : Array Edge} {f : Nat} {fields : Array Field} {fd : Field} {b sz bytes : Nat} {z : Value} (k : Nat) (hd : Nat.blt d N = true)
    (hs : P.underlying s = some (.struct fields)) (hf : fields[f]? = some fd) (hk : fd.offset = k) (hz : Sz P fd.type sz bytes z) (h0 : Nat.beq sz 0 = false) (hx : ev E x = some (.pointer (some ⟨b, 0, none⟩)))
    (h : Ops P r N all K rest D ((d, .pointer (some ⟨b, k, none⟩)) :: E) w) : Ops P r N all K (⟨some d, .fieldAddr s x f, t', pos, af, none⟩ :: rest) D E w :=
  ops_fieldAddr k hd hs hf hk hz h0 hx (by rw [Nat.zero_add]; exact h)

/-- the fields' sizes, all of them, in order -/
def Plc (P : Program) (t : TypeId) (szs : List Nat) : Prop := ∃ fields it z places, P.underlying t = some (.struct fields) ∧ P.info? t = some it ∧ it.zero = some z ∧ z.cells.size = szs.sum ∧
  fields.toList.mapM (fun f => (P.info? f.type).map fun i => (f.offset, i.size)) = some places ∧ ∀ i, i < szs.length → places[i]? = some ((szs.take i).sum, szs.getD i 0)
def plcs (szs : List Nat) : List (Nat × Nat) := (List.range szs.length).map fun i => ((szs.take i).sum, szs.getD i 0)
def plcB (P : Program) (t : TypeId) (szs : List Nat) : Bool := match P.underlying t, P.info? t with
  | some (.struct fields), some it => match it.zero with
    | some z => Nat.beq z.cells.size szs.sum && decide (fields.toList.mapM (fun f => (P.info? f.type).map fun i => (f.offset, i.size)) = some (plcs szs))
    | none => false
  | _, _ => false
theorem plc_of {P : Program} {t : TypeId} {szs : List Nat} (h : plcB P t szs = true) : Plc P t szs := by
  unfold plcB at h
  split at h
  case h_1 fields it h1 h2 =>
    split at h
    case h_1 z h3 =>
      simp only [Bool.and_eq_true, decide_eq_true_eq] at h
      refine ⟨fields, it, z, plcs szs, h1, h2, h3, Nat.eq_of_beq_eq_true h.1, h.2, fun i hi => ?_⟩
      simp [plcs, List.getElem?_map, List.getElem?_range hi]
    case h_2 => cases h
  case h_2 => cases h
/-- the values' cells -/
def Cls : List Value → List (List Value) → Prop
  | [], [] => True
  | v :: vs, c :: cs => v.cells = c.toArray ∧ Cls vs cs
  | _, _ => False
theorem take_mid {α : Type} (a b : List α) (u : α) (k : Nat) (h : a.length = k) : (a ++ u :: b).take (k + 1) = a ++ [u] := by
  subst h; rw [List.take_append, List.take_of_length_le (by omega)]; simp
theorem drop_mid {α : Type} (a b : List α) (u : α) (k m : Nat) (h : a.length = k) : (a ++ u :: b).drop (k + 1 + m) = b.drop m := by
  subst h; rw [List.drop_append]; simp [Nat.add_assoc, Nat.add_comm 1 m]
theorem fold_set : ∀ (c arr : List Value) (p n : Nat), p + n + c.length ≤ arr.length →
    (c.zipIdx n).foldl (fun (cs : Array Value) (x : Value × Nat) => cs.setIfInBounds (p + x.2) x.1) arr.toArray = (arr.take (p + n) ++ c ++ arr.drop (p + n + c.length)).toArray
  | [], arr, p, n, h => by simp
  | u :: c, arr, p, n, h => by
    simp only [List.length_cons] at h
    have e1 : arr.toArray.setIfInBounds (p + n) u = (arr.set (p + n) u).toArray := by simp
    rw [List.zipIdx_cons, List.foldl_cons, e1, fold_set c (arr.set (p + n) u) p (n + 1) (by simp; omega)]
    have e2 : arr.set (p + n) u = arr.take (p + n) ++ u :: arr.drop (p + n + 1) := by rw [List.set_eq_take_append_cons_drop, if_pos (by omega)]
    have hl : (arr.take (p + n)).length = p + n := by simp; omega
    rw [e2, show p + (n + 1) = (p + n) + 1 from rfl, take_mid _ _ _ _ hl, drop_mid _ _ _ _ _ hl, List.drop_drop]
    simp [Nat.add_assoc, Nat.add_comm 1]
theorem fill_places {places : List (Nat × Nat)} : ∀ (vs : List Value) (cs : List (List Value)) (pre old : List Value) (k : Nat), Cls vs cs → (∀ i, i < cs.length → places[k + i]? = some (pre.length + ((cs.take i).map List.length).sum, (cs.getD i []).length)) → old.length = (cs.map List.length).sum →
    Instr.fill (places.toArray[·]?) (pre ++ old).toArray ((vs.zipIdx k).map fun x => (x.2, x.1)) = some (pre ++ cs.flatten).toArray
  | [], [], pre, old, k, _, _, ho => by
    have : old = [] := by simpa using ho
    subst this; simp [Instr.fill]
  | [], _ :: _, _, _, _, h, _, _ => h.elim
  | _ :: _, [], _, _, _, h, _, _ => h.elim
  | v :: vs, c :: cs, pre, old, k, ⟨h1, h2⟩, hp, ho => by
    have hp0 := hp 0 (by simp)
    simp at hp0
    simp at ho
    have ih := fill_places vs cs (pre ++ c) (old.drop c.length) (k + 1) h2 (fun i hi => by
      have := hp (i + 1) (by simp; omega)
      rw [show k + 1 + i = k + (i + 1) by omega, this]; simp; omega) (by simp; omega)
    simp only [List.zipIdx_cons, List.map_cons, Instr.fill]
    have e0 : places.toArray[k]? = some (pre.length, c.length) := by simpa using hp0
    simp only [e0]
    rw [if_neg (by rw [h1]; simp; omega)]
    have e : (v.cells.zipIdx.foldl (fun (cs : Array Value) (x : Value × Nat) => cs.setIfInBounds (pre.length + x.2) x.1) (pre ++ old).toArray) = (pre ++ c ++ old.drop c.length).toArray := by
      rw [h1]
      have hle : c.length ≤ old.length := by omega
      have := fold_set c (pre ++ old) pre.length 0 (by simp; omega)
      have e4 : c.toArray.zipIdx = (c.zipIdx 0).toArray := by simp
      rw [e4, List.foldl_toArray, this]
      simp [List.drop_append]
    rw [e, ih]; simp
/-- a struct, all of whose fields are told -/
theorem ops_build {d : Nat} {t t' : TypeId} {pos : String} {af : Array Edge} {szs : List Nat} {parts : Array (Nat × Operand)} {vs : List Value} {cs : List (List Value)} (hd : Nat.blt d N = true)
    (ht : Plc P t szs) (hi : parts.toList.map (·.1) = List.range szs.length) (hx : evs E (parts.toList.map (·.2)) = some vs) (hc : Cls vs cs) (hsz : cs.map List.length = szs)
    (h : Ops P r N all K rest D ((d, .agg cs.flatten.toArray) :: E) w) : Ops P r N all K (⟨some d, .build t parts, t', pos, af, none⟩ :: rest) D E w := by
  refine ops_val hd (by intro c hc; cases hc) (fun a ha => ?_) h
  obtain ⟨fields, it, z, places, p1, p2, p3, p4, p5, p6⟩ := ht
  have hlen : ∀ (vs : List Value) (cs : List (List Value)), Cls vs cs → vs.length = cs.length := by
    intro vs
    induction vs with
    | nil => intro cs h; cases cs with
      | nil => rfl
      | cons => exact h.elim
    | cons v vs ih => intro cs h; cases cs with
      | nil => exact h.elim
      | cons c cs => simp [ih cs h.2]
  have hparts : parts.toList.map (fun x => (x.1, a.eval x.2)) = vs.zipIdx.map fun x => (x.2, x.1) := by
    have h3 := ha.evs hx
    have hl := hlen _ _ hc
    apply List.ext_getElem
    · have h2 := congrArg List.length hi; have h4 := congrArg List.length hsz; simp at h2 h4; simp; omega
    · intro n hn1 hn2
      simp at hn1 hn2
      have e1 : (parts.toList.map (·.1))[n]'(by simpa using hn1) = n := by simp [hi]
      have e2 : ((parts.toList.map (·.2)).map a.eval)[n]'(by simpa using hn1) = vs[n]'(by omega) := by simp [h3]
      simp at e1 e2
      simp [e1, e2]
  have hf := fill_places (places := places) vs cs [] z.cells.toList 0 hc (fun i hi => by
    have h4 := congrArg List.length hsz
    simp at h4
    have := p6 i (by omega)
    rw [Nat.zero_add, this, ← hsz]; simp [List.map_take, List.getD_eq_getElem?_getD, List.getElem?_map, List.getElem?_eq_getElem hi]) (by rw [hsz]; simpa using p4)
  have e1 : (Instr.build t (parts.map fun (i, x) => (i, a.eval x))).run P w = .ok (.agg cs.flatten.toArray) w := by
    refine run_build (P := P) w t _ _ ?_
    unfold Program.built
    rw [p2, p1]
    simp only [p3, p5]
    rw [Array.toList_map, show (List.map (fun (x : Nat × Operand) => match x with | (i, x) => (i, a.eval x)) parts.toList) = vs.zipIdx.map fun x => (x.2, x.1) from hparts]
    simpa using hf
  simp only [execOp, Sem.run_bind, e1, Result.andThen]; rfl

/-- an extern: the sum with carry -/
theorem ops_add64 {d : Nat} {f : FuncId} {xs : List Operand} {ts : Array TypeId} {t' : TypeId} {pos : String} {af : Array Edge} {fn : Func} {a b c : Nat} (hd : Nat.blt d N = true)
    (hf : P.funcs[f]? = some fn) (hname : (fn.name == "runtime.NumGoroutine") = false) (hb : fn.body.isNone = true) (hn : Extern.findNext fn = none) (he : Extern.find fn = some add64Entry)
    (hxs : evs E xs = some [.int .u64 (a : Int), .int .u64 (b : Int), .int .u64 (c : Int)]) (hc : c ≤ 1)
    (h : Ops P r N all K rest D ((d, .tuple #[.int .u64 (((a + b + c) % 18446744073709551616 : Nat) : Int), .int .u64 (((a + b + c) / 18446744073709551616 : Nat) : Int)]) :: E) w) :
    Ops P r N all K (⟨some d, .call ⟨.value (.func f), xs.toArray, ts⟩, t', pos, af, none⟩ :: rest) D E w :=
  ops_val hd (by intro c hc; cases hc) (fun ac ha => by
    have e1 : (xs.toArray.map ac.eval) = #[.int .u64 (a : Int), .int .u64 (b : Int), .int .u64 (c : Int)] := by rw [List.map_toArray, ha.evs hxs]
    have e2 := run_callFunc_extern (P := P) hf hname hb hn he #[.int .u64 (a : Int), .int .u64 (b : Int), .int .u64 (c : Int)] w
    rw [run_add64 (a : Int) b c (by omega) (by omega) (by omega) (by omega)] at e2
    have e3 : ac.eval (.func f) = .func (.func f) #[] #[] := rfl
    simp only [execOp, resolve, e1, e3, Deferred.ofValue, Sem.run_bind, Sem.run_pure, Result.andThen, invoke]
    simp only [Result.andThen] at e2
    simp only [Array.empty_append, Array.append_empty, e2]
    rfl) h
end strct

/-! ### results that lie in cells -/
theorem load_blk {P : Program} {w : World} {t te : TypeId} {b i : Nat} {cs : List Value} {u : Value} (ht : Flat P t) (hb : Blk w b te cs) (hu : cs[i]? = some u) : (loadVar t ⟨b, i, none⟩).run P w = .ok u w := by
  have : w.cell? ⟨b, i, none⟩ = some u := by rw [hb.cell]; exact hu
  simp [loadVar, ht w, this]

/-! ### a block that changes while a region draws -/
def Rs (S : Nat → Prop) (a b : World) : Prop := b.os = a.os ∧ b.tape = a.tape ∧ b.output = a.output ∧ a.heap.size ≤ b.heap.size ∧ ∀ k, k < a.heap.size → ¬ S k → b.heap[k]? = a.heap[k]?
theorem rs_trans {S : Nat → Prop} : ∀ a b c, Rs S a b → Rs S b c → Rs S a c := fun a b c ⟨h1, h2, h3, h4, h5⟩ ⟨k1, k2, k3, k4, k5⟩ =>
  ⟨k1.trans h1, k2.trans h2, k3.trans h3, Nat.le_trans h4 k4, fun k hk hs => (k5 k (by omega) hs).trans (h5 k hk hs)⟩
theorem rs_rb {S : Nat → Prop} : ∀ a b, Rb a b → Rs S a b := fun a b h => ⟨h.os, h.tape, h.output, h.size, fun k hk _ => h.block k hk⟩
theorem rs_drew {S : Nat → Prop} (w : World) : Rs S w { w with drawn := w.drawn + 1 } := rs_rb _ _ (rb_drew w)
theorem rs_chg {b : Nat} {w w' : World} (h : Chg w w' b) : Rs (· = b) w w' := ⟨h.os, h.tape, h.output, by rw [h.size]; exact Nat.le_refl _, fun k _ hk => h.other k hk⟩
theorem Le.of_rs {Fz M S : Nat → Prop} {w w' : World} (h : Rs S w w') (hM : ∀ k, S k → M k) (hF : ∀ k, S k → ¬ Fz k) : Le Fz M w M w' :=
  ⟨h.1, h.2.1, h.2.2.1, h.2.2.2.1, fun k hk hf => h.2.2.2.2 k hk (fun c => hF k c hf), fun k hk hm => h.2.2.2.2 k hk (fun c => hm (hM k c)), fun _ h => .inl h, fun ho k hk => Nat.lt_of_lt_of_le (ho k hk) h.2.2.2.1⟩
theorem Blk.rs {S : Nat → Prop} {w w' : World} {b : Nat} {t : TypeId} {cs : List Value} (h : Blk w b t cs) (hr : Rs S w w') (hs : ¬ S b) : Blk w' b t cs := (hr.2.2.2.2 b h.lt hs).trans h
theorem blk_ne {w : World} {b c : Nat} {t u : TypeId} {cs ds : List Value} (h : Blk w b t cs) (k : Blk w c u ds) (hne : Nat.beq t u = false ∨ cs.length ≠ ds.length) : b ≠ c := by
  intro e; subst e
  have := Option.some.inj ((show w.heap[b]? = _ from h).symm.trans k)
  injection this with h1 h2
  rcases hne with hne | hne
  · exact Nat.ne_of_beq_eq_false hne h2
  · apply hne; have := congrArg Array.size h1; simpa using this
/-- the address of a cell of a block of the call's own -/
theorem ops_idxb {P : Program} {r : Option Nat} {N : Nat} {all : Array Oper} {K : Pd} {D : List Deferred} {E : Env} {w : World} {rest : List Oper} {d : Nat} {x ix : Operand} {t e t' : TypeId} {pos : String} {af : Array Edge} {b o n c bytes : Nat} {z : Value} {k : IntKind} {i : Int} (j : Nat) (hd : Nat.blt d N = true)
    (ht : P.underlying t = some (.slice e)) (he : Sz P e 1 bytes z) (hx : ev E x = some (.slice (some ⟨b, o, none⟩) n c)) (hi : ev E ix = some (.int k i)) (hij : i = (j : Int)) (hj : j < n)
    (h : Ops P r N all K rest D ((d, .pointer (some ⟨b, o + j, none⟩)) :: E) w) :
    Ops P r N all K (⟨some d, .indexAddr t x ix, t', pos, af, none⟩ :: rest) D E w := by
  refine ops_val hd (by intro c hc; cases hc) (fun a ha => ?_) h
  have e1 : (Instr.indexAt t (.slice (some ⟨b, o, none⟩) n c) (.int k i)).run P w = .ok (.pointer (some ⟨b, o + j, none⟩)) w := by
    subst hij
    simp [Instr.indexAt, asIntOf, run_underlying ht, Result.andThen, run_size he, hj, addr_add]
  simp only [execOp, ha.ev hx, ha.ev hi, Sem.run_bind, e1, Result.andThen]; rfl
theorem ops_idxb0 {P : Program} {r : Option Nat} {N : Nat} {all : Array Oper} {K : Pd} {D : List Deferred} {E : Env} {w : World} {rest : List Oper} {d : Nat} {x ix : Operand} {t e t' : TypeId} {pos : String} {af : Array Edge} {b n c bytes : Nat} {z : Value} {k : IntKind} {i : Int} (j : Nat) (hd : Nat.blt d N = true)
    (ht : P.underlying t = some (.slice e)) (he : Sz P e 1 bytes z) (hx : ev E x = some (.slice (some ⟨b, 0, none⟩) n c)) (hi : ev E ix = some (.int k i)) (hij : i = (j : Int)) (hj : j < n)
    (h : Ops P r N all K rest D ((d, .pointer (some ⟨b, j, none⟩)) :: E) w) :
    Ops P r N all K (⟨some d, .indexAddr t x ix, t', pos, af, none⟩ :: rest) D E w := ops_idxb j hd ht he hx hi hij hj (by rw [Nat.zero_add]; exact h)

/-! ### lists that are told by their places -/
theorem rng_split {α : Type} {f : Nat → α} {n : Nat} {pre post : List α} {x : α} (h : (List.range n).map f = pre ++ x :: post) : pre.length < n ∧ x = f pre.length := by
  have hl := congrArg List.length h
  simp at hl
  have hx := congrArg (fun l => l[pre.length]?) h
  simp [List.getElem?_map, List.getElem?_range (show pre.length < n by omega)] at hx
  exact ⟨by omega, hx.symm⟩
theorem rng_at {α : Type} (f : Nat → α) {n k : Nat} (h : k < n) : ∃ post, (List.range n).map f = (List.range k).map f ++ f k :: post := by
  obtain ⟨m, rfl⟩ : ∃ m, n = k + 1 + m := ⟨n - (k + 1), by omega⟩
  exact ⟨((List.range m).map (k + 1 + ·)).map f, by rw [List.range_add, List.range_succ]; simp⟩
theorem rng_next {α : Type} (f : Nat → α) (k : Nat) : (List.range (k + 1)).map f = (List.range k).map f ++ [f k] := by rw [List.range_succ]; simp
theorem cell1 {v : Value} (h : v.oneCell' = true) : v.cells = [v].toArray := by cases v <;> first | rfl | simp [Value.oneCell'] at h
theorem own_rs {S : Nat → Prop} {w w' : World} {e : TypeId} {v : Value} {m : Nat} {xs : List Value} (h : w.ownsRow 0 e 1 v m xs) (r : Rs S w w') (hs : ∀ k, v.ownBlock = some k → ¬ S k) : w'.ownsRow 0 e 1 v m xs := by
  obtain ⟨h1, h2 | ⟨g, cap, cur, h3, h4, h5, h6⟩⟩ := h
  · exact ⟨h1, .inl h2⟩
  · exact ⟨h1, .inr ⟨g, cap, cur, h3, h4, (r.2.2.2.2 g (Array.getElem?_eq_some_iff.1 h5).1 (hs g (by rw [h3]; rfl))).trans h5, h6⟩⟩
theorem Fresh.rs {e : TypeId} {w0 w w' : World} {v : Value} {xs : List Nat} {b : Nat} (h : Fresh e w0 w v xs) (hb : b < w0.heap.size) (r : Rs (· = b) w w') : Fresh e w0 w' v xs :=
  ⟨own_rs h.own r (fun k hk e => by have := h.new k hk; subst e; omega), h.new, h.lt, h.len⟩
theorem Fresh.below {e : TypeId} {w0 w w' : World} {v : Value} {xs : List Nat} (h : Fresh e w0 w v xs) (r : Below w.heap.size w w') : Fresh e w0 w' v xs := ⟨own_below h.own r, h.new, h.lt, h.len⟩
theorem Fresh.nil {e : TypeId} {w w' : World} : Fresh e w w' (.slice none 0 0) [] := ⟨own_nil, fun k hk => by simp [Value.ownBlock] at hk, by simp, by simp⟩
/-- a part of a block of the call's own -/
theorem ops_sliceb {P : Program} {r : Option Nat} {N : Nat} {all : Array Oper} {K : Pd} {D : List Deferred} {E : Env} {w : World} {rest : List Oper} {d : Nat} {x lo hi : Operand} {t e t' : TypeId} {pos : String} {af : Array Edge} {b n c bytes : Nat} {z : Value} {k k' : IntKind} (l m : Nat) (hd : Nat.blt d N = true)
    (ht : P.underlying t = some (.slice e)) (he : Sz P e 1 bytes z) (hx : ev E x = some (.slice (some ⟨b, 0, none⟩) n c)) (hlo : ev E lo = some (.int k (l : Int))) (hhi : ev E hi = some (.int k' (m : Int))) (hlm : l < m) (hmc : m ≤ c)
    (h : Ops P r N all K rest D ((d, .slice (some ⟨b, l, none⟩) (m - l) (c - l)) :: E) w) :
    Ops P r N all K (⟨some d, .slice t x (some lo) (some hi) none, t', pos, af, none⟩ :: rest) D E w := by
  refine ops_slice l m c hd ht he hx ⟨_, hlo⟩ ⟨_, hhi⟩ rfl (by omega) hmc (Nat.le_refl _) ?_
  rw [if_neg (by omega)]
  simpa [addr_add] using h
/-- what an extern is -/
def ExtF (P : Program) (f : FuncId) (e : Array Value → Sem Value) : Prop := ∃ fn, P.funcs[f]? = some fn ∧ (fn.name == "runtime.NumGoroutine") = false ∧ fn.body.isNone = true ∧ Extern.findNext fn = none ∧ Extern.find fn = some e
theorem ops_add64' {P : Program} {r : Option Nat} {N : Nat} {all : Array Oper} {K : Pd} {D : List Deferred} {E : Env} {w : World} {rest : List Oper} {d : Nat} {f : FuncId} {xs : List Operand} {ts : Array TypeId} {t' : TypeId} {pos : String} {af : Array Edge} {a b c : Nat} (hd : Nat.blt d N = true)
    (hf : ExtF P f add64Entry) (hxs : evs E xs = some [.int .u64 (a : Int), .int .u64 (b : Int), .int .u64 (c : Int)]) (hc : c ≤ 1)
    (h : Ops P r N all K rest D ((d, .tuple #[.int .u64 (((a + b + c) % 18446744073709551616 : Nat) : Int), .int .u64 (((a + b + c) / 18446744073709551616 : Nat) : Int)]) :: E) w) :
    Ops P r N all K (⟨some d, .call ⟨.value (.func f), xs.toArray, ts⟩, t', pos, af, none⟩ :: rest) D E w := by
  obtain ⟨fn, h1, h2, h3, h4, h5⟩ := hf
  exact ops_add64 hd h1 h2 h3 h4 h5 hxs hc h

/-! ### division -/
theorem short_step {i H n o x T : Nat} (hn : 0 < n) (hx : x < 4294967296) (ho : o = H % n) (hT : T = 4294967296 ^ (i + 1) * (H / n)) :
    T + 4294967296 ^ i * ((o * 4294967296 + x) / n) = 4294967296 ^ i * ((x + 4294967296 * H) / n) ∧ (o * 4294967296 + x) % n = (x + 4294967296 * H) % n ∧ (o * 4294967296 + x) / n < 4294967296 := by
  have hon : o < n := by rw [ho]; exact Nat.mod_lt _ hn
  have e : x + 4294967296 * H = (o * 4294967296 + x) + n * (4294967296 * (H / n)) := by
    have h1 := Nat.div_add_mod H n
    rw [← ho] at h1
    have h2 : 4294967296 * H = 4294967296 * (n * (H / n)) + 4294967296 * o := by rw [← Nat.mul_add, h1]
    rw [h2, Nat.mul_left_comm]; omega
  refine ⟨?_, ?_, ?_⟩
  · rw [e, Nat.add_mul_div_left _ _ hn, hT, Nat.pow_succ, Nat.mul_add, Nat.mul_assoc]; omega
  · rw [e, Nat.add_mul_mod_self_left]
  · rw [Nat.div_lt_iff_lt_mul hn]
    have : (o + 1) * 4294967296 ≤ n * 4294967296 := Nat.mul_le_mul_right _ hon
    rw [Nat.mul_comm 4294967296 n]; omega
/-- where ways meet again, and the world is as it was -/
theorem wp_cutj {P : Program} {r : Option Nat} {N : Nat} {Kn Kr : Pd} {Ke Ke' : Nat → Pd} {D : List Deferred} {E : Env} {w : World} {x y : Code} (Ec Ej : Env) (hE : Sub Ej E)
    (hx : Wp P r N x (fun D' E' w' => D' = D ∧ w' = w ∧ Sub (Ec ++ Ej) E') Ke Kr D E w) (hy : Wp P r N y Kn Ke' Kr D (Ec ++ Ej) w) : Wp P r N x (fun D E w => Wp P r N y Kn Ke' Kr D E w) Ke Kr D E w :=
  wp_cut hx fun D' E' w' ⟨h1, h2, h3⟩ => by subst h1; subst h2; exact wp_sub h3 hy
theorem blk_limb {w : World} {b : Nat} {t : TypeId} {rs : List Nat} {ex : List Value} {j : Nat} (B : Blk w b t (rs.map lw ++ ex)) (hj : j < rs.length) : w.cell? ⟨b, j, none⟩ = some (lw (rs.getD j 0)) := by
  rw [B.cell, List.getElem?_append_left (by simpa using hj)]; exact map_lw_get hj
theorem set_limb {rs : List Nat} {ex : List Value} {j v : Nat} (hj : j < rs.length) : (rs.map lw ++ ex).set j (lw v) = (rs.set j v).map lw ++ ex := by
  rw [List.set_append, if_pos (by simpa using hj), List.map_set]
theorem and_low (n : Nat) : n &&& 4294967295 = n % 4294967296 := Nat.and_two_pow_sub_one_eq_mod n 32
theorem less_step {zs : List Nat} {R p i o o' u u' x m y old lo Y : Nat} (hz : p + i < zs.length) (h : val zs + 4294967296 ^ p * (m * Y) = R + 4294967296 ^ (p + i) * (o + u)) (hlo : x * m + o = lo + 4294967296 * o')
    (hy : y + lo + u = old + 4294967296 * u') (hold : zs.getD (p + i) 0 = old) : val (zs.set (p + i) y) + 4294967296 ^ p * (m * (Y + 4294967296 ^ i * x)) = R + 4294967296 ^ (p + (i + 1)) * (o' + u') := by
  have hv := val_set (zs := zs) (j := p + i) y hz
  rw [hold] at hv
  have e1 : 4294967296 ^ p * (m * (Y + 4294967296 ^ i * x)) = 4294967296 ^ p * (m * Y) + 4294967296 ^ (p + i) * (x * m) := by
    rw [Nat.mul_add, Nat.mul_add, Nat.pow_add, Nat.mul_assoc, Nat.mul_left_comm m, Nat.mul_comm m x]
  have e2 : 4294967296 ^ (p + (i + 1)) * (o' + u') = 4294967296 ^ (p + i) * (4294967296 * (o' + u')) := by rw [show p + (i + 1) = (p + i) + 1 from rfl, Nat.pow_succ, Nat.mul_assoc]
  rw [e1, e2]
  generalize 4294967296 ^ (p + i) = Q at *
  have e3 : Q * (o + u) + Q * y + Q * (x * m) = Q * old + Q * (4294967296 * (o' + u')) := by rw [← Nat.mul_add, ← Nat.mul_add, ← Nat.mul_add]; congr 1; omega
  omega
theorem more_step {zs : List Nat} {R p i o O x old Y : Nat} (hz : p + i < zs.length) (h : val zs + 4294967296 ^ (p + i) * o = R + 4294967296 ^ p * Y) (hO : O = o + x + old) (hold : zs.getD (p + i) 0 = old) :
    val (zs.set (p + i) (O % 4294967296)) + 4294967296 ^ (p + (i + 1)) * (O / 4294967296) = R + 4294967296 ^ p * (Y + 4294967296 ^ i * x) := by
  have hv := val_set (zs := zs) (j := p + i) (O % 4294967296) hz
  rw [hold] at hv
  have e1 : 4294967296 ^ p * (Y + 4294967296 ^ i * x) = 4294967296 ^ p * Y + 4294967296 ^ (p + i) * x := by rw [Nat.mul_add, Nat.pow_add, Nat.mul_assoc]
  have e2 : 4294967296 ^ (p + (i + 1)) * (O / 4294967296) = 4294967296 ^ (p + i) * (4294967296 * (O / 4294967296)) := by rw [show p + (i + 1) = (p + i) + 1 from rfl, Nat.pow_succ, Nat.mul_assoc]
  rw [e1, e2]
  generalize 4294967296 ^ (p + i) = Q at *
  have e3 : Q * (O % 4294967296) + Q * (4294967296 * (O / 4294967296)) = Q * o + Q * x + Q * old := by rw [← Nat.mul_add, ← Nat.mul_add, ← Nat.mul_add]; congr 1; omega
  omega
theorem val_high {zs : List Nat} {n : Nat} (h : ∀ z ∈ zs, z < 4294967296) (hz : ∀ j, n ≤ j → zs.getD j 0 = 0) : val zs < 4294967296 ^ n := by
  rw [← val_take hz]
  have h1 := val_lt (zs.take n) (fun z hm => h z (List.mem_of_mem_take hm))
  exact Nat.lt_of_lt_of_le h1 (Nat.pow_le_pow_right (by omega) (by simp; omega))
theorem Blk.eq {w : World} {b : Nat} {t : TypeId} {cs ds : List Value} (h : Blk w b t cs) (e : cs = ds) : Blk w b t ds := e ▸ h
theorem Blk.le {Fz M M' : Nat → Prop} {w w' : World} {b : Nat} {t : TypeId} {cs : List Value} (h : Blk w b t cs) (l : Le Fz M w M' w') (hm : ¬ M b) : Blk w' b t cs := (l.imm b h.lt hm).trans h
theorem Le.drift_to {Fz T : Nat → Prop} {n : Nat} {w w' : World} (l : Le Fz T w T w') (hn : n ≤ w.heap.size) : Drift T n w w' :=
  ⟨l.os, l.tape, l.output, l.size, fun k hk ht => l.imm k (by omega) ht, fun k cs t fz ht hc => (l.imm k (Array.getElem?_eq_some_iff.1 hc).1 ht).trans hc⟩
theorem val_top {zs : List Nat} {n : Nat} (hz : ∀ j, n < j → zs.getD j 0 = 0) : val zs = val (zs.take n) + 4294967296 ^ n * zs.getD n 0 := by
  rw [← take_snoc_val, val_take (fun j hj => hz j (by omega))]
/-- the guess is not too little -/
theorem guess_ok {zs ys : List Nat} {p : Nat} (hzl : ∀ z ∈ zs, z < 4294967296) (hz : ∀ j, p + ys.length < j → zs.getD j 0 = 0) (hS : val zs < 4294967296 ^ (p + 1) * val ys) (hy : 0 < ys.length) (ht : 0 < ys.getD (ys.length - 1) 0) :
    val zs < 4294967296 ^ p * val ys * (min ((zs.getD (p + ys.length) 0 * 4294967296 + zs.getD (p + ys.length - 1) 0) / ys.getD (ys.length - 1) 0) 4294967295 + 1) := by
  rcases Nat.le_total ((zs.getD (p + ys.length) 0 * 4294967296 + zs.getD (p + ys.length - 1) 0) / ys.getD (ys.length - 1) 0) 4294967295 with h | h
  · rw [Nat.min_eq_left h]
    generalize hT : zs.getD (p + ys.length) 0 * 4294967296 + zs.getD (p + ys.length - 1) 0 = T at *
    generalize hv : ys.getD (ys.length - 1) 0 = v at *
    obtain ⟨n, hn⟩ : ∃ n, ys.length = n + 1 := ⟨ys.length - 1, by omega⟩
    have e1 : val zs = val (zs.take (p + n)) + 4294967296 ^ (p + n) * T := by
      rw [val_top hz, hn, show p + (n + 1) = (p + n) + 1 from rfl, take_snoc_val, ← hT, hn, show p + (n + 1) - 1 = p + n by omega, Nat.pow_succ, Nat.mul_add, show p + (n + 1) = (p + n) + 1 from rfl, Nat.mul_assoc, Nat.mul_comm (zs.getD (p + n + 1) 0)]; omega
    have h2 : val (zs.take (p + n)) < 4294967296 ^ (p + n) := by
      have := val_lt (zs.take (p + n)) (fun z hm => hzl z (List.mem_of_mem_take hm))
      exact Nat.lt_of_lt_of_le this (Nat.pow_le_pow_right (by omega) (by simp; omega))
    have h3 : T + 1 ≤ v * (T / v + 1) := Nat.lt_mul_div_succ T ht
    have h4 : 4294967296 ^ n * v ≤ val ys := by
      have e : val ys = val (ys.take n) + 4294967296 ^ n * v := by
        rw [val_top (zs := ys) (n := n) (fun j hj => getD_out (by omega)), ← hv, hn, Nat.add_sub_cancel]
      omega
    have h5 : val zs < 4294967296 ^ (p + n) * (T + 1) := by rw [e1, Nat.mul_add]; omega
    refine Nat.lt_of_lt_of_le h5 ?_
    calc 4294967296 ^ (p + n) * (T + 1) ≤ 4294967296 ^ (p + n) * (v * (T / v + 1)) := Nat.mul_le_mul_left _ h3
      _ = 4294967296 ^ p * (4294967296 ^ n * v) * (T / v + 1) := by rw [Nat.pow_add]; simp only [Nat.mul_assoc]
      _ ≤ 4294967296 ^ p * val ys * (T / v + 1) := Nat.mul_le_mul_right _ (Nat.mul_le_mul_left _ h4)
  · rw [Nat.min_eq_right h]
    rw [Nat.pow_succ, Nat.mul_right_comm] at hS; exact hS
theorem div_found {S D q z : Nat} (h : z + D * q = S) (h2 : S < D * (q + 1)) : q = S / D ∧ z = S % D := by
  have hD : 0 < D := Nat.pos_of_ne_zero fun e => by subst e; simp at h2
  have hz : z < D := by rw [Nat.mul_add] at h2; omega
  rw [← h, Nat.add_mul_div_left _ _ hD, Nat.div_eq_of_lt hz, Nat.add_mul_mod_self_left, Nat.mod_eq_of_lt hz]; omega
theorem high_zero {zs : List Nat} {n : Nat} (h : val zs < 4294967296 ^ n) : ∀ j, n ≤ j → zs.getD j 0 = 0 := fun j hj => Classical.byContradiction fun c => by
  have h1 := val_ge zs j c
  have h2 : (4294967296 : Nat) ^ n ≤ 4294967296 ^ j := Nat.pow_le_pow_right (by omega) hj
  omega
/-- what has been laid since w0, and is not to be changed -/
structure Own (M : Nat → Prop) (e : TypeId) (w0 w : World) (v : Value) (xs : List Nat) : Prop where
  fresh : Fresh e w0 w v xs
  out : ∀ k, v.ownBlock = some k → ¬ M k
theorem own_le {Fz M M' : Nat → Prop} {w w' : World} {e : TypeId} {v : Value} {m : Nat} {xs : List Value} (h : w.ownsRow 0 e 1 v m xs) (l : Le Fz M w M' w') (hm : ∀ k, v.ownBlock = some k → ¬ M k) : w'.ownsRow 0 e 1 v m xs := by
  obtain ⟨h1, h2 | ⟨g, cap, cur, h3, h4, h5, h6⟩⟩ := h
  · exact ⟨h1, .inl h2⟩
  · exact ⟨h1, .inr ⟨g, cap, cur, h3, h4, (l.imm g (Array.getElem?_eq_some_iff.1 h5).1 (hm g (by rw [h3]; rfl))).trans h5, h6⟩⟩
theorem Own.mono {Fz M M' : Nat → Prop} {e : TypeId} {w0 w w' : World} {v : Value} {xs : List Nat} (h : Own M e w0 w v xs) (l : Le Fz M w M' w') : Own M' e w0 w' v xs :=
  ⟨⟨own_le h.fresh.own l h.out, h.fresh.new, h.fresh.lt, h.fresh.len⟩, fun k hk hm => (l.chg k hm).elim (h.out k hk) (fun c => by have := (h.fresh.own.lt k hk).2; omega)⟩
theorem Own.drift {M T : Nat → Prop} {n : Nat} {e : TypeId} {w0 w w' : World} {v : Value} {xs : List Nat} (h : Own M e w0 w v xs) (d : Drift T n w w') (hT : ∀ k, T k → M k) : Own M e w0 w' v xs :=
  ⟨⟨own_drift h.fresh.own d (fun k hk c => h.out k hk (hT k c)), h.fresh.new, h.fresh.lt, h.fresh.len⟩, h.out⟩
theorem Own.nat {M : Nat → Prop} {e : TypeId} {w0 w : World} {v : Value} {xs : List Nat} (h : Own M e w0 w v xs) : IsNat M w v xs := ⟨own_slc h.fresh.own h.out h.fresh.len, h.fresh.lt⟩
theorem Own.of {M : Nat → Prop} {e : TypeId} {w0 wc w : World} {v : Value} {xs : List Nat} (hf : Fresh e wc w v xs) (hM : OkM M wc) (hs : w0.heap.size ≤ wc.heap.size) : Own M e w0 w v xs :=
  ⟨hf.less hs, fun k hk hm => by have := hM k hm; have := hf.new k hk; omega⟩
theorem Fresh.natF {e : TypeId} {w0 w : World} {v : Value} {xs : List Nat} (h : Fresh e w0 w v xs) : IsNat (fun _ => False) w v xs := ⟨own_slc h.own (fun _ _ c => c) h.len, h.lt⟩
theorem rs_grown {w w' : World} {row : Option Nat} (h : w.grownBy w' row) : Rs (fun k => row = some k) w w' := ⟨h.os, h.tape, h.output, h.size, fun k hk hs => h.block k hk (fun e => hs e.symm)⟩
theorem own_to_blk {w : World} {e : TypeId} {v : Value} {xs : List Nat} {n : Nat} (h : w.ownsRow 0 e 1 v n (xs.map lw)) (hn : 0 < n) : ∃ b cap ex, v = .slice (some ⟨b, 0, none⟩) n cap ∧ Blk w b e (xs.map lw ++ ex) ∧ cap = n + ex.length := by
  obtain ⟨b, cur, cap, ho⟩ := own_open h hn
  refine ⟨b, cap, cur.drop n, ho.eq, ?_, ?_⟩
  · have := ho.blk; rw [← List.take_append_drop n cur, ho.take] at this; exact this
  · have := ho.len; have := ho.le; simp; omega
theorem Le.of_rs_to {Fz M M' S : Nat → Prop} {w w' : World} (h : Rs S w w') (hM : ∀ k, S k → M k) (hF : ∀ k, S k → ¬ Fz k) (h1 : ∀ k, M' k → M k ∨ w.heap.size ≤ k) (h2 : ∀ k, M' k → M k ∨ k < w'.heap.size) : Le Fz M w M' w' :=
  ⟨h.1, h.2.1, h.2.2.1, h.2.2.2.1, fun k hk hf => h.2.2.2.2 k hk (fun c => hF k c hf), fun k hk hm => h.2.2.2.2 k hk (fun c => hm (hM k c)), h1, fun ho k hk => (h2 k hk).elim (fun c => Nat.lt_of_lt_of_le (ho k c) h.2.2.2.1) id⟩
theorem Le.of_below_ins {Fz M : Nat → Prop} {w w' : World} {b : Nat} (h : Below w.heap.size w w') (h1 : w.heap.size ≤ b) (h2 : b < w'.heap.size) : Le Fz M w (Ins b M) w' :=
  ⟨h.os, h.tape, h.output, h.size, fun k hk _ => h.block k hk, fun k hk _ => h.block k hk, fun k hk => hk.elim (fun e => .inr (by omega)) .inl, fun ho k hk => hk.elim (fun e => by omega) (fun c => Nat.lt_of_lt_of_le (ho k c) h.size)⟩
theorem Le.weaken {Fz M N : Nat → Prop} {w w' : World} (h : Le Fz M w M w') (hs : ∀ k, M k → N k) : Le Fz N w N w' :=
  ⟨h.os, h.tape, h.output, h.size, h.frz, fun k hk hm => h.imm k hk (fun c => hm (hs k c)), fun _ c => .inl c, fun ho k hk => Nat.lt_of_lt_of_le (ho k hk) h.size⟩
theorem Keep.drift {M T : Nat → Prop} {w0 w w' : World} (h : Keep M w0 w) (d : Drift T w0.heap.size w w') (hT : ∀ k, T k → M k) : Keep M w0 w' :=
  ⟨Nat.le_trans h.1 d.size, fun k hk hm => (d.low k hk (fun c => hm (hT k c))).trans (h.2 k hk hm)⟩
theorem Keep.chg {M : Nat → Prop} {w0 w w' : World} {b : Nat} (h : Keep M w0 w) (c : Chg w w' b) (hb : M b) : Keep M w0 w' :=
  ⟨by rw [c.size]; exact h.1, fun k hk hm => (c.other k (fun e => hm (e ▸ hb))).trans (h.2 k hk hm)⟩

/-! ### division, put together -/
theorem limbs_len_ge {n k : Nat} (h : 4294967296 ^ k ≤ n) : k < (limbs n).length := by
  have h1 := val_lt (limbs n) (limbs_lt n)
  rw [val_limbs] at h1
  exact (Nat.pow_lt_pow_iff_right (by omega)).1 (Nat.lt_of_le_of_lt h h1)
theorem limbs_len_lt {n : Nat} (h : n ≠ 0) : 4294967296 ^ ((limbs n).length - 1) ≤ n := by
  have hne : limbs n ≠ [] := fun e => h (limbs_eq_nil.1 e)
  have := val_ge (limbs n) _ (limbs_last hne)
  rwa [val_limbs] at this
theorem norm_by {Y k : Nat} (hY : Y ≠ 0) (hk : k + bitsN ((limbs Y).getD ((limbs Y).length - 1) 0) = 32) : (limbs (Y * 2 ^ k)).length = (limbs Y).length ∧ 0 < (limbs (Y * 2 ^ k)).getD ((limbs (Y * 2 ^ k)).length - 1) 0 := by
  have hne : limbs Y ≠ [] := fun e => hY (limbs_eq_nil.1 e)
  have hlp : 0 < (limbs Y).length := List.length_pos_iff.2 hne
  have hYk : Y * 2 ^ k ≠ 0 := Nat.mul_ne_zero hY (Nat.ne_of_gt (two_pow_pos k))
  have hb := bits_limbs hne
  have h1 : bitsN (Y * 2 ^ k) = 32 * (limbs Y).length := by rw [bitsN_shift _ (Nat.pos_of_ne_zero hY), hb]; omega
  have h2 : Y * 2 ^ k < 4294967296 ^ (limbs Y).length := by rw [base_pow, ← h1]; exact bitsN_lt _
  have h3 := limbs_length_le h2
  have h4 : 4294967296 ^ ((limbs Y).length - 1) ≤ Y * 2 ^ k := Nat.le_trans (limbs_len_lt hY) (Nat.le_mul_of_pos_right _ (two_pow_pos k))
  have h5 := limbs_len_ge h4
  exact ⟨by omega, Nat.pos_of_ne_zero (limbs_last (fun e => hYk (limbs_eq_nil.1 e)))⟩
theorem up_lens {X k : Nat} (hX : X ≠ 0) (hk : k < 32) : (limbs X).length ≤ (limbs (X * 2 ^ k)).length ∧ (limbs (X * 2 ^ k)).length ≤ (limbs X).length + 1 := by
  have hne : limbs X ≠ [] := fun e => hX (limbs_eq_nil.1 e)
  have hlp : 0 < (limbs X).length := List.length_pos_iff.2 hne
  have h1 := limbs_len_ge (Nat.le_trans (limbs_len_lt hX) (Nat.le_mul_of_pos_right X (two_pow_pos k)))
  have h2 : X * 2 ^ k < 4294967296 ^ ((limbs X).length + 1) := by
    have h3 := val_lt (limbs X) (limbs_lt X)
    rw [val_limbs] at h3
    have h4 : 2 ^ k ≤ 4294967296 := two_pow_le (by omega)
    calc X * 2 ^ k ≤ X * 4294967296 := Nat.mul_le_mul_left _ h4
      _ < 4294967296 ^ (limbs X).length * 4294967296 := (Nat.mul_lt_mul_right (by omega)).2 h3
      _ = _ := (Nat.pow_succ _ _).symm
  exact ⟨by omega, limbs_length_le h2⟩
theorem div_room {X Y k m : Nat} (hY : Y ≠ 0) (hm : m + (limbs Y).length = (limbs X).length + 1) : X * 2 ^ k < 4294967296 ^ m * (Y * 2 ^ k) := by
  have hne : limbs Y ≠ [] := fun e => hY (limbs_eq_nil.1 e)
  have hlp : 0 < (limbs Y).length := List.length_pos_iff.2 hne
  have h1 := val_lt (limbs X) (limbs_lt X)
  rw [val_limbs] at h1
  rw [← Nat.mul_assoc]
  refine (Nat.mul_lt_mul_right (two_pow_pos k)).2 (Nat.lt_of_lt_of_le h1 ?_)
  calc 4294967296 ^ (limbs X).length = 4294967296 ^ m * 4294967296 ^ ((limbs Y).length - 1) := by rw [← Nat.pow_add]; congr 1; omega
    _ ≤ _ := Nat.mul_le_mul_left _ (limbs_len_lt hY)
theorem val_digits {N : Nat} : ∀ {zs : List Nat} {m : Nat}, zs.length = m → (∀ i, i < m → zs.getD i 0 = N / 4294967296 ^ i % 4294967296) → val zs = N % 4294967296 ^ m := by
  intro zs m hl h
  have key : ∀ k, k ≤ m → val (zs.take k) = N % 4294967296 ^ k := by
    intro k
    induction k with
    | zero => intro _; simp [val, Nat.mod_one]
    | succ k ih =>
      intro hk
      rw [take_snoc_val, ih (by omega), h k (by omega), Nat.pow_succ, Nat.mod_mul]
  have := key m (Nat.le_refl _)
  rwa [List.take_of_length_le (by omega)] at this
theorem quot_digits {A V m : Nat} {zs : List Nat} (hl : zs.length = m) (hV : 0 < V) (hA : A < 4294967296 ^ m * V) (h : ∀ j, j < m → zs.getD (m - j - 1) 0 = A / (4294967296 ^ (m - j - 1) * V) % 4294967296) : val zs = A / V := by
  rw [val_digits (N := A / V) hl (fun i hi => by
    have := h (m - i - 1) (by omega)
    rw [show m - (m - i - 1) - 1 = i by omega] at this
    rw [this, Nat.div_div_eq_div_mul, Nat.mul_comm V])]
  exact Nat.mod_eq_of_lt ((Nat.div_lt_iff_lt_mul hV).2 hA)
theorem rest_down {X Y k : Nat} (hY : 0 < Y) : X * 2 ^ k % (Y * 2 ^ k) / 2 ^ k = X % Y := by
  rw [Nat.mul_mod_mul_right, Nat.mul_div_cancel _ (two_pow_pos k)]
theorem two_of {a b : Nat} {Q : Nat → Prop} (ha : Q a) (hb : Q b) : ∀ k, (k = a ∨ k = b) → Q k := fun k h => h.elim (fun e => e ▸ ha) (fun e => e ▸ hb)
theorem limbs_len_mono {a b : Nat} (h : a ≤ b) : (limbs a).length ≤ (limbs b).length := by
  rcases Nat.eq_zero_or_pos a with h0 | h0
  · subst h0; rw [limbs_zero]; exact Nat.zero_le _
  · have h1 := limbs_len_ge (Nat.le_trans (limbs_len_lt (Nat.ne_of_gt h0)) h)
    omega
theorem cls_nil : Cls [] [] := trivial
theorem cls_cons {v : Value} {vs : List Value} {c : List Value} {cs : List (List Value)} (h : v.cells = c.toArray) (k : Cls vs cs) : Cls (v :: vs) (c :: cs) := ⟨h, k⟩
end Go.SL
