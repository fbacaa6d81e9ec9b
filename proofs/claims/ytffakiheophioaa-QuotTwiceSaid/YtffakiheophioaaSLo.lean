import Derived.Test.YtffakiheophioaaSLa
import Derived.Test.YtffakiheophioaaSLn
set_option linter.unusedVariables false
namespace Go.SL
open Go.RowKit
theorem own_nats {M : Nat → Prop} {w : World} {v : Value} {e : TypeId} {n : Nat} {us : List Value} {xss : List (List Nat)} (h : w.ownsRow 0 e 1 v n us) (hm : ∀ k, v.ownBlock = some k → ¬ M k) (hn : n = xss.length) (hle : n ≤ 9223372036854775807)
    (he : ∀ (i : Nat) (xs : List Nat), xss[i]? = some xs → ∃ u : Value, us[i]? = some u ∧ IsNat M w u xs) : IsNats M w v xss := by
  subst hn
  exact ⟨us, own_slc h hm hle, he⟩
theorem nats_cons {M : Nat → Prop} {w : World} {a : Value} {xs : List Nat} {vs : List Value} {xss : List (List Nat)} (h1 : IsNat M w a xs) (h : ∀ (i : Nat) (ys : List Nat), xss[i]? = some ys → ∃ u : Value, vs[i]? = some u ∧ IsNat M w u ys) :
    ∀ (i : Nat) (ys : List Nat), (xs :: xss)[i]? = some ys → ∃ u : Value, ([a] ++ vs)[i]? = some u ∧ IsNat M w u ys := by
  intro i ys hi
  match i with
  | 0 => simp at hi; subst hi; exact ⟨a, rfl, h1⟩
  | i + 1 => obtain ⟨u, hu, hn⟩ := h i ys (by simpa using hi); exact ⟨u, by simpa using hu, hn⟩
theorem els_one {M : Nat → Prop} {w : World} {v : Value} {vs : List Value} {xss : List (List Nat)} (hs : Slc M w 1 v xss.length vs) (h : ∀ (i : Nat) (ys : List Nat), xss[i]? = some ys → ∃ u : Value, vs[i]? = some u ∧ IsNat M w u ys) : ∀ u ∈ vs, u.oneCell' = true := by
  intro u hu
  obtain ⟨i, hi, rfl⟩ := List.getElem_of_mem hu
  have hl : vs.length = xss.length := by simpa using hs.1
  obtain ⟨u', hu', hn⟩ := h i xss[i] (by simp)
  rw [List.getElem?_eq_getElem hi] at hu'
  injection hu' with hu'
  subst hu'
  exact nat_one hn
theorem els_mono {Fz M M' : Nat → Prop} {w w' : World} {vs : List Value} {xss : List (List Nat)} (h : ∀ (i : Nat) (ys : List Nat), xss[i]? = some ys → ∃ u : Value, vs[i]? = some u ∧ IsNat M w u ys) (l : Le Fz M w M' w') :
    ∀ (i : Nat) (ys : List Nat), xss[i]? = some ys → ∃ u : Value, vs[i]? = some u ∧ IsNat M' w' u ys := fun i ys hi => let ⟨u, h1, h2⟩ := h i ys hi; ⟨u, h1, h2.mono l⟩
theorem drop_sum {xss : List (List Nat)} {k : Nat} (hk : k < xss.length) : ((xss.map val).drop k).sum = val (xss.getD k []) + ((xss.map val).drop (k + 1)).sum := by
  rw [List.drop_eq_getElem_cons (by simpa using hk)]
  simp [hk]
theorem take_sum {xss : List (List Nat)} {k : Nat} (hk : k < xss.length) : ((xss.map val).take (k + 1)).sum = ((xss.map val).take k).sum + val (xss.getD k []) :=
  (take_succ_sum hk rfl).symm
section zero
variable {P : Program} {w : World}
theorem run_append_zero (t ty tz e : TypeId) {bytes : Nat} {z : Value} (ht : P.underlying t = some (.slice e)) (htz : P.underlying tz = some (.int .i64)) (he : Sz P e 1 bytes z) (hz : z.oneCell' = true)
    {v : Value} {n m : Nat} {xs : List Value} (hown : w.ownsRow 0 e 1 v n xs) (hm : m ≤ 1000000) (hn : n + m ≤ 140737488355328) (hb : (n + m) * bytes ≤ 140737488355328) :
    ∃ v' w', (Builtin.append_ #[t, tz] ty #[v, .int .i64 (m : Int)]).run P w = .ok v' w' ∧ w'.ownsRow 0 e 1 v' (n + m) (xs ++ List.replicate m z) ∧ w.grownBy w' v.ownBlock ∧ (v'.ownBlock = v.ownBlock ∨ v'.ownBlock = some w.heap.size) := by
  obtain ⟨i, i1, i2, i3, i4⟩ := he
  have hzc : z.cells = #[z] := by cases z <;> first | rfl | simp [Value.oneCell'] at hz
  have h63 : n + m ≤ maxLen := by simp [maxLen]; omega
  have hwr : IntKind.i64.wrap (m : Int) = (m : Int) := IntWalk.i64_in _ (by omega)
  have hmb0 : m * bytes ≤ (n + m) * bytes := Nat.mul_le_mul_right _ (by omega)
  have hmb : ¬ (281474976710656 < (m : Int) * (i.bytes : Int)) := by
    rw [i3]
    have : ((m * bytes : Nat) : Int) ≤ 140737488355328 := by omega
    rw [Int.natCast_mul] at this; omega
  have hneg : ¬ ((m : Int) < 0) := by omega
  have hzs : Builtin.zeroCells z.cells m = (List.replicate m z).toArray := by
    unfold Builtin.zeroCells
    rw [hzc]; apply Array.ext
    · simp
    · intro a b1 b2; simp [Nat.mod_one]
  have hnl : (xs ++ List.replicate m z).length = (n + m) * 1 := by rw [List.length_append, hown.1, List.length_replicate]; omega
  have h1 : ∀ u ∈ List.replicate m z, u.oneCell' = true := fun u hu => by rw [(List.mem_replicate.1 hu).2]; exact hz
  have grown : ∀ (old : Nat), old < n + m → ∀ (row : Option Nat),
      (w.drew.alloc (.cells (xs.toArray ++ (List.replicate m z).toArray ++ Builtin.zeroCells z.cells (grownCap w (n + m) old e - (n + m))) e)).ownsRow 0 e 1
        (.slice (some ⟨w.heap.size, 0, none⟩) (n + m) (grownCap w (n + m) old e)) (n + m) (xs ++ List.replicate m z) ∧
      w.grownBy (w.drew.alloc (.cells (xs.toArray ++ (List.replicate m z).toArray ++ Builtin.zeroCells z.cells (grownCap w (n + m) old e - (n + m))) e)) row := by
    intro old ho row
    have hge := grownCap_ge w (n + m) old e
    have hcm : grownCap w (n + m) old e ≤ maxLen := grownCap_le_maxLen w (n + m) old e h63
    refine ⟨⟨hnl, .inr ⟨w.heap.size, _, _, rfl, Nat.zero_le _, heap_alloc_new w.drew _, hge, hcm, ?_, ?_⟩⟩, ⟨rfl, rfl, rfl, by simp, fun k hk _ => heap_alloc_old w.drew _ k hk⟩⟩
    · have := hown.1
      simp only [Array.size_append, List.size_toArray, size_zeroCells, hzc, List.length_replicate]
      simp at *; omega
    · simp only [Array.toList_append, List.append_assoc]
      rw [← List.append_assoc]
      exact List.take_left' (by omega)
  rcases hown.2 with ⟨rfl, rfl⟩ | ⟨g, cap, cur, rfl, hbg, hg, hnc, hcm, hcs, htake⟩
  · have hx : xs = [] := List.eq_nil_of_length_eq_zero (by simpa using hown.1)
    subst hx
    by_cases hm0 : m = 0
    · subst hm0
      refine ⟨.slice none 0 0, w, ?_, by simpa using World.ownsRow_nil w 0 e 1, ⟨rfl, rfl, rfl, Nat.le_refl _, fun _ _ _ => rfl⟩, Or.inl rfl⟩
      simp [Builtin.append_, run_underlying ht, run_underlying htz, sizeOf, typeInfo, i1, asInt, asIntOf, IntKind.wrap_i64]
    · have hgr := grown 0 (by omega) (Value.ownBlock (.slice none 0 0))
      simp only [Nat.zero_add, List.nil_append] at hgr
      refine ⟨.slice (some ⟨w.heap.size, 0, none⟩) m (grownCap w m 0 e), _, ?_, by simpa using hgr.1, hgr.2, Or.inr rfl⟩
      have h63' : ¬ (9223372036854775807 < (m : Int)) := by omega
      have h48' : ¬ (281474976710656 < Builtin.nextslicecap m 0 * i.bytes) := by
        have := growslice_fits (need := m) (old := 0) (by omega) (show m * i.bytes ≤ 140737488355328 by rw [i3]; omega); omega
      have hfo : (Builtin.firstCells 1 0 (Value.slice none 0 0)).run P w.drew = .ok #[] w.drew := rfl
      simp [Builtin.append_, run_underlying ht, run_underlying htz, sizeOf, typeInfo, zeroValue, i1, i2, i4, asInt, asIntOf, hwr, hmb, hneg, h63', h48', hm0, Question.forced, hfo, hzs, newRow, grownCap]
  · by_cases hroom : n + m ≤ cap
    · have hfit : n * 1 + (List.replicate m z).length ≤ cur.size := by rw [hcs, List.length_replicate]; omega
      have hst := run_storeCells_at P g (n * 1) e (List.replicate m z) 0 cur w hg (by simpa using hfit) h1
      simp only [Nat.add_zero, Nat.mul_one] at hst
      refine ⟨.slice (some ⟨g, 0, none⟩) (n + m) cap, _, ?_, ⟨hnl, .inr ⟨g, cap, _, rfl, hbg, setRow_heap w g cur (cur.toList.take n ++ List.replicate m z ++ cur.toList.drop (n + (List.replicate m z).length)).toArray e _ hg, hroom, hcm, ?_, ?_⟩⟩, ⟨rfl, rfl, rfl, by simp, fun k _ hk => setRow_other w g k _ (fun e => hk (by simp [Value.ownBlock, e]))⟩, Or.inl rfl⟩
      · by_cases hm0 : m = 0
        · subst hm0
          simp only [List.replicate_zero] at hst ⊢
          have hs0 : w.setRow g (cur.toList.take n ++ [] ++ cur.toList.drop (n + ([] : List Value).length)).toArray = w := by
            simp only [List.append_nil, List.length_nil, Nat.add_zero, List.take_append_drop, Array.toArray_toList]
            exact setRow_self w g cur e (0, 0) hg
          rw [hs0]
          simp [Builtin.append_, run_underlying ht, run_underlying htz, sizeOf, typeInfo, i1, asInt, asIntOf, IntKind.wrap_i64, hnc, storeCells]
        · simp [Builtin.append_, run_underlying ht, run_underlying htz, sizeOf, typeInfo, zeroValue, i1, i2, i4, asInt, asIntOf, hwr, hmb, hneg, hm0, hzs, hroom, Addr.add_lit, hst]
      · simp only [List.size_toArray, List.length_append, List.length_take, List.length_drop, Array.length_toList, List.length_replicate]
        omega
      · have h2 := hown.1
        simp only [Nat.mul_one] at htake
        rw [htake]
        exact List.take_left' (by omega)
    · have hm0 : ¬ m = 0 := by omega
      have holds : ∀ j u, xs[j]? = some u → w.cell? ((⟨g, 0, none⟩ : Addr).add j) = some u := hown.cells (g := g) rfl
      have hgr := grown cap (by omega) (Value.ownBlock (.slice (some ⟨g, 0, none⟩) n cap))
      refine ⟨_, _, ?_, hgr.1, hgr.2, Or.inr rfl⟩
      have h63' : ¬ (9223372036854775807 < ((n : Int) + (m : Int))) := by omega
      have h48' : ¬ (281474976710656 < Builtin.nextslicecap (n + m) cap * i.bytes) := by
        have := growslice_fits (need := n + m) (old := cap) (by omega) (show (n + m) * i.bytes ≤ 140737488355328 by rw [i3]; omega); omega
      have hfo := run_firstCells_some (P := P) w.drew 1 n ⟨g, 0, none⟩ n cap xs hown.1 (by simpa using holds)
      simp [Builtin.append_, run_underlying ht, run_underlying htz, sizeOf, typeInfo, zeroValue, i1, i2, i4, asInt, asIntOf, hwr, hmb, hneg, hm0, hroom, h63', h48', Question.forced, hfo, hzs, newRow, grownCap]
variable {r : Option Nat} {N : Nat} {all : Array Oper} {K : Pd} {D : List Deferred} {E : Env} {rest : List Oper}
theorem ops_append0 {d : Nat} {x y : Operand} {t tz e t' : TypeId} {pos : String} {af : Array Edge} {bytes : Nat} {z : Value} {v : Value} {n m : Nat} {j : Int} {xs : List Value} (hd : Nat.blt d N = true)
    (ht : P.underlying t = some (.slice e)) (htz : P.underlying tz = some (.int .i64)) (he : Sz P e 1 bytes z) (hz : z.oneCell' = true) (hx : ev E x = some v) (hy : ev E y = some (.int .i64 j)) (hj : j = (m : Int)) (hown : w.ownsRow 0 e 1 v n xs)
    (hm : m ≤ 1000000) (hn : n + m ≤ 140737488355328) (hb : (n + m) * bytes ≤ 140737488355328)
    (h : ∀ v' w', w'.ownsRow 0 e 1 v' (n + m) (xs ++ List.replicate m z) → w.grownBy w' v.ownBlock → (v'.ownBlock = v.ownBlock ∨ v'.ownBlock = some w.heap.size) → Ops P r N all K rest D ((d, v') :: E) w') :
    Ops P r N all K (⟨some d, .call ⟨.builtin .append, #[x, y], #[t, tz]⟩, t', pos, af, none⟩ :: rest) D E w := by
  subst hj
  obtain ⟨v', w', r1, r2, r3, r4⟩ := run_append_zero (P := P) t t' tz e ht htz he hz hown hm hn hb
  refine ops_val hd (by intro c hc; cases hc) (fun ac ha => ?_) (h v' w' r2 r3 r4)
  simp only [execOp, resolve, invoke, builtin, Sem.run_bind, Sem.run_pure, Result.andThen, List.map_toArray, List.map_cons, List.map_nil, ha.ev hx, ha.ev hy]
  rw [r1]
end zero
section notd
variable {P : Program} {r : Option Nat} {N : Nat} {all : Array Oper} {K : Pd} {D : List Deferred} {E : Env} {w : World} {rest : List Oper}
theorem ops_notd {d : Nat} {x : Operand} {t t' : TypeId} {pos : String} {af : Array Edge} {p : Prop} [Decidable p] (hd : Nat.blt d N = true) (hx : ev E x = some (.bool (decide p)))
    (h : Ops P r N all K rest D ((d, .bool (decide (¬ p))) :: E) w) : Ops P r N all K (⟨some d, .unOp .not t x, t', pos, af, none⟩ :: rest) D E w :=
  ops_not hd hx (by rw [decide_not] at h; exact h)
end notd
theorem order_g (a b : Nat) : (decide ((if a < b then (10 : Int) else 0) = 0) == decide ((a : Int) ≥ (b : Int))) = true := by
  rw [beq_iff_eq, decide_eq_decide]; split <;> omega
theorem fits_eq {n m : Nat} (hn : n < 18446744073709551616) (hm : m < 18446744073709551616) : (decide (n + m < 18446744073709551616) == decide ((((n + m) % 18446744073709551616 : Nat) : Int) ≥ (n : Int))) = true := by
  rw [beq_iff_eq, decide_eq_decide]; omega
theorem limbs2 {n : Nat} (h : n < 18446744073709551616) : (limbs n).length ≤ 2 := limbs_length_le (Nat.lt_of_lt_of_eq h (by decide))
theorem val_pad (n k : Nat) : val (limbs n ++ List.replicate k 0) = n := by rw [val_append, val_zeros, val_limbs]; simp
/-- what is owned, laid open -/
structure OwnB (w : World) (e : TypeId) (b : Nat) (v : Value) (n : Nat) (cs cur : List Value) (cap : Nat) : Prop where
  eq : v = .slice (some ⟨b, 0, none⟩) n cap
  blk : Blk w b e cur
  le : n ≤ cap
  max : cap ≤ maxLen
  len : cur.length = cap
  take : cur.take n = cs
  csl : cs.length = n
theorem OwnB.own {w : World} {e : TypeId} {b n cap : Nat} {v : Value} {cs cur : List Value} (h : OwnB w e b v n cs cur cap) : v.ownBlock = some b := by rw [h.eq]; rfl
theorem OwnB.get {w : World} {e : TypeId} {b n cap j : Nat} {v u : Value} {cs cur : List Value} (h : OwnB w e b v n cs cur cap) (hj : cs[j]? = some u) : cur[j]? = some u := by
  rw [← h.take, List.getElem?_take] at hj
  split at hj
  · exact hj
  · cases hj
theorem OwnB.set {w w' : World} {e : TypeId} {b n cap j : Nat} {v u : Value} {cs cur : List Value} (h : OwnB w e b v n cs cur cap) (hj : j < n) (hb : Blk w' b e (cur.take j ++ [u] ++ cur.drop (j + 1))) : w'.ownsRow 0 e 1 v n (cs.set j u) := by
  have hl := h.len; have hle := h.le; have hcl := h.csl
  refine ⟨by simp [hcl], .inr ⟨b, cap, (cur.take j ++ [u] ++ cur.drop (j + 1)).toArray, h.eq, Nat.zero_le _, hb, h.le, h.max, by simp; omega, ?_⟩⟩
  have e1 : cur.take j ++ [u] ++ cur.drop (j + 1) = cur.set j u := by rw [List.set_eq_take_append_cons_drop, if_pos (by omega)]; simp
  simp only [Nat.mul_one]
  rw [e1, List.take_set, h.take]
theorem own_open {w : World} {e : TypeId} {v : Value} {n : Nat} {cs : List Value} (h : w.ownsRow 0 e 1 v n cs) (hn : 0 < n) : ∃ b cur cap, OwnB w e b v n cs cur cap := by
  obtain ⟨h1, ⟨_, h0⟩ | ⟨g, cap, cur, rfl, _, hg, hnc, hcm, hcs, ht⟩⟩ := h
  · omega
  · exact ⟨g, cur.toList, cap, rfl, by unfold Blk; simpa using hg, hnc, hcm, by simpa using hcs, by simpa using ht, by simpa using h1⟩
section idxo
variable {P : Program} {r : Option Nat} {N : Nat} {all : Array Oper} {K : Pd} {D : List Deferred} {E : Env} {w : World} {rest : List Oper}
theorem ops_idxo {d : Nat} {x ix : Operand} {t e t' : TypeId} {pos : String} {af : Array Edge} {n bytes : Nat} {z : Value} {v : Value} {cs : List Value} {k : IntKind} {i : Int} (j : Nat) (hd : Nat.blt d N = true)
    (ht : P.underlying t = some (.slice e)) (he : Sz P e 1 bytes z) (hx : ev E x = some v) (hi : ev E ix = some (.int k i)) (hv : w.ownsRow 0 e 1 v n cs) (hij : i = (j : Int)) (hj : j < n)
    (h : ∀ b cur cap, OwnB w e b v n cs cur cap → Ops P r N all K rest D ((d, .pointer (some ⟨b, j, none⟩)) :: E) w) :
    Ops P r N all K (⟨some d, .indexAddr t x ix, t', pos, af, none⟩ :: rest) D E w := by
  obtain ⟨b, cur, cap, ho⟩ := own_open hv (by omega)
  have hx' := hx
  rw [ho.eq] at hx'
  refine ops_val hd (by intro c hc; cases hc) (fun a ha => ?_) (h b cur cap ho)
  have e1 : (Instr.indexAt t (.slice (some ⟨b, 0, none⟩) n cap) (.int k i)).run P w = .ok (.pointer (some ⟨b, j, none⟩)) w := by
    subst hij
    simp [Instr.indexAt, asIntOf, run_underlying ht, Result.andThen, run_size he, hj, addr_add]
  simp only [execOp, ha.ev hx', ha.ev hi, Sem.run_bind, e1, Result.andThen]; rfl
end idxo
/-- rows that are owned, each in a block of its own -/
def Owned (w : World) (e : TypeId) : List (Value × List Nat) → Prop
  | [] => True
  | p :: r => w.ownsRow 0 e 1 p.1 p.2.length (p.2.map lw) ∧ (∀ k, p.1.ownBlock = some k → ∀ q ∈ r, q.1.ownBlock ≠ some k) ∧ Owned w e r
theorem Owned.chg {w w' : World} {e : TypeId} {b : Nat} : ∀ {l : List (Value × List Nat)}, Owned w e l → Chg w w' b → (∀ q ∈ l, q.1.ownBlock ≠ some b) → Owned w' e l
  | [], h, _, _ => h
  | p :: r, h, c, hn => ⟨own_chg h.1 c (hn p (by simp)), h.2.1, Owned.chg h.2.2 c (fun q hq => hn q (by simp [hq]))⟩
theorem Le.of_fresh {Fz M : Nat → Prop} {w w' : World} {v : Value} {e : TypeId} {xs : List Nat} (hb : Below w.heap.size w w') (hf : Fresh e w w' v xs) : Le Fz M w (Mo v M) w' := by
  have l := Le.of_below (Fz := Fz) (M := M) hb
  refine ⟨l.os, l.tape, l.output, l.size, l.frz, l.imm, fun k hk => ?_, fun ho k hk => ?_⟩
  · rcases hk with hk | hk
    · exact .inr (hf.new k hk)
    · exact .inl hk
  · rcases hk with hk | hk
    · exact (hf.own.lt k hk).2
    · exact Nat.lt_of_lt_of_le (ho k hk) l.size
section more
variable {P : Program} {r : Option Nat} {N : Nat} {all : Array Oper} {K : Pd} {D : List Deferred} {E : Env} {w : World} {rest : List Oper}
theorem ops_quo32 {d : Nat} {x y : Operand} {tx ty t : TypeId} {pos : String} {af : Array Edge} {a b : Nat} (hd : Nat.blt d N = true)
    (hx : ev E x = some (.int .u32 (a : Int))) (hy : ev E y = some (.int .u32 (b : Int))) (hb : 0 < b) (ha : a < 4294967296)
    (h : Ops P r N all K rest D ((d, .int .u32 ((a / b : Nat) : Int)) :: E) w) : Ops P r N all K (⟨some d, .binOp .quo tx x y ty, t, pos, af, none⟩ :: rest) D E w :=
  ops_div hd (.inl rfl) hx hy (by omega) (by rw [IntWalk.u32_quo _ _ ⟨by omega, by omega, by omega⟩]; rfl) h
end more
theorem nats_mono {M : Nat → Prop} {xss : List (List Nat)} : ∀ v w w', IsNats M w v xss → Rb w w' → IsNats M w' v xss := fun _ _ _ h r => h.mono (Fz := fun _ => False) (Le.of_below r)
theorem IsNat.sub {M : Nat → Prop} {w : World} {v : Value} {xs : List Nat} {l m : Nat} (h : IsNat M w v xs) (hm : m ≤ xs.length) {u : Value} (hu : Slc M w 1 u (m - l) (((xs.map lw).drop (l * 1)).take ((m - l) * 1))) : IsNat M w u ((xs.drop l).take (m - l)) := by
  refine ⟨?_, fun x hx => h.lt x (List.mem_of_mem_drop (List.mem_of_mem_take hx))⟩
  have e : ((xs.drop l).take (m - l)).length = m - l := by rw [List.length_take, List.length_drop]; omega
  rw [e]
  simpa [List.map_take, List.map_drop] using hu
end Go.SL
