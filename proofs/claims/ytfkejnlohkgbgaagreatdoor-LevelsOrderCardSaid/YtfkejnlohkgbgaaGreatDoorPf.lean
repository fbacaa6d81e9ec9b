/- Lemmas and walks of functions; no statement. -/
import Derived.Test.YtfkejnlohkgbgaaGreatDoorPe
set_option linter.unusedVariables false
set_option linter.unusedSimpArgs false
set_option maxRecDepth 100000
namespace Go.SL
open Go.RowKit
abbrev lM (ty : TypeId) (k : Nat) (l : List CT) : Value → Value × Ow := fun v => (v, .row v ty k l)
abbrev blkS (ty : TypeId) (cs : List CT) : Nat → Value × Ow := fun b => (.pointer (some ⟨b, 0, none⟩), .blk b ty cs)
section
variable {P : Program} {r : Option Nat} {N : Nat} {ops : Array Oper} {S : List Ow} {X : Cx} {Γ : TE} {Kn Kr : TK} {Ke : Nat → TK} {rid : Nat}
theorem t_drawK {k0 : Option Nat} {Q : World × Gh → Prop} (k m : Nat) (cs : List (Nat × Nat × Nat)) (hcs : lE ops m k cs = true) (hda : (cs.all fun c => (tf Γ c.2.1).isNone) = true) (hm : P.follows .mixedOrders = true) (hlook : uO ops m = true) (hN : okN N ops.toList = true)
  (hk : (match k0 with | none => true | some k => Nat.blt k m && (match ops[k]? with | some o => o.dst.isNone | none => false)) = true) (hQ : ∀ a b : World × Gh, (∀ j v, a.2 j = some v → b.2 j = some v) → Q a → Q b) (hQn : k0 = none → ∀ x, Q x)
  (h : TDC P r N ops S k0 Q (fun ps Γ' => lG P r N ops X Kn m ps Γ' S) (ops.toList.take m) 0 (List.replicate k .non) cs Γ) : TW P r N X (.region rid ops true) Kn Ke Kr Γ S := by
 have hnon : ∀ (c : Nat) (p : Pv), (List.replicate k Pv.non)[c]? = some p → p = .non := fun c p hp => by
  rw [List.getElem?_replicate] at hp
  split at hp
  ·exact (Option.some.inj hp).symm
  ·cases hp
 refine t_drawG m cs (fun _ => none) none (List.replicate k .non) (by rw [List.length_replicate]; exact hcs) hda hm hlook hN (fun _ => rfl) (fun c p hp => by rw [hnon c p hp]; trivial) (fun E w hs => ?_) hk hQ hQn h
 have e : MH S X.M (fun _ => none) = Mk S X.M := funext fun b => propext ⟨fun c => c.elim (fun ⟨_, _, c, _⟩ => by cases c) (fun h => h), .inr⟩
 rw [e]
 exact ⟨hs.tm, hs.gd, hs.gd.ok, ⟨fun i a h => (by cases h), fun i a h => (by cases h), fun i j a _ _ _ h => (by cases h), fun i j a c h => (by cases h), fun i a h => (by cases h)⟩, fun b h => (by cases h), fun b ⟨_, _, h, _⟩ => (by cases h), hs.apt, hs.new⟩
theorem t_drawC (k m : Nat) (cs : List (Nat × Nat × Nat)) (hcs : lE ops m k cs = true) (hda : (cs.all fun c => (tf Γ c.2.1).isNone) = true) (hm : P.follows .mixedOrders = true) (hlook : uO ops m = true) (hN : okN N ops.toList = true)
  (h : TDC P r N ops S none (fun _ => True) (fun ps Γ' => lG P r N ops X Kn m ps Γ' S) (ops.toList.take m) 0 (List.replicate k .non) cs Γ) : TW P r N X (.region rid ops true) Kn Ke Kr Γ S := t_drawK (k0 := none) k m cs hcs hda hm hlook hN rfl (fun _ _ _ h => h) (fun _ _ => trivial) h
theorem t_drawS (k m i0 : Nat) (cs : List (Nat × Nat × Nat)) (hcs : lE ops m k cs = true) (hda : (cs.all fun c => (tf Γ c.2.1).isNone) = true) (hm : P.follows .mixedOrders = true) (hlook : uO ops m = true) (hN : okN N ops.toList = true)
  (hk : (Nat.blt i0 m && (match ops[i0]? with | some o => o.dst.isNone | none => false)) = true) {g : Nat} {α : Type} {sh0 sh : α → Value × Ow}
  (h : TDC P r N ops S (some i0) (QS g i0 sh0 sh) (fun ps Γ' => lG P r N ops X Kn m ps Γ' S) (ops.toList.take m) 0 (List.replicate k .non) cs Γ) : TW P r N X (.region rid ops true) Kn Ke Kr Γ S := t_drawK (k0 := some i0) k m cs hcs hda hm hlook hN hk (fun a b h ⟨q, h1, h2⟩ => ⟨q, h _ _ h1, h _ _ h2⟩) (fun c => by cases c) h
theorem td_tdc {F : TE → Prop} {F' : List Pv → TE → Prop} (hF : ∀ Γ, F Γ → F' [] Γ) : ∀ (l : List Oper) (i : Nat) (Γ : TE), TD P r N ops S F l Γ → TDC P r N ops S none (fun _ => True) F' l i [] [] Γ
 | [], _, _, h => ⟨rfl, hF _ h⟩
 | _ :: l, i, _, ⟨d, q, hd, h1, h2⟩ => .inl ⟨d, q, hd, fun c hc => (by cases hc), h1, td_tdc hF l (i + 1) _ h2⟩
theorem cM (m : Nat) (hm : P.follows .mixedOrders = true) (hlook : uO ops m = true) (hN : okN N ops.toList = true)
  (h : TD P r N ops S (fun Γ' => TO P r N ops X Kn (ops.toList.drop m) Γ' S) (ops.toList.take m) Γ) : TW P r N X (.region rid ops true) Kn Ke Kr Γ S :=
 t_drawC 0 m [] (by unfold lE; simp only [List.all_nil, Bool.and_true, List.Pairwise.nil, decide_true, Bool.true_and]; exact List.all_eq_true.2 fun x _ => by cases x.1.dst <;> rfl) rfl hm hlook hN (td_tdc (fun _ h => h) _ _ _ h)
theorem t_drawB {v : Value} {ty : TypeId} {sz : Nat} {l : List CT} (k m i : Nat) (cs : List (Nat × Nat × Nat)) (hi : S[i]? = some (.row v ty sz l)) (hcs : lE ops m (k + 1) cs = true) (hda : (cs.all fun c => (tf Γ c.2.1).isNone) = true) (hm : P.follows .mixedOrders = true) (hlook : uO ops m = true) (hN : okN N ops.toList = true)
  (h : TDC P r N ops (S.eraseIdx i) none (fun _ => True) (fun ps Γ' => lG P r N ops X Kn m ps Γ' (S.eraseIdx i)) (ops.toList.take m) 0 (.val v (.row v ty sz l) :: List.replicate k .non) cs Γ) : TW P r N X (.region rid ops true) Kn Ke Kr Γ S := by
 have hm' : Ow.row v ty sz l ∈ S := List.mem_of_getElem? hi
 have hnon : ∀ (c : Nat) (p : Pv), (List.replicate k Pv.non)[c]? = some p → p = .non := fun c p hp => by
  rw [List.getElem?_replicate] at hp
  split at hp
  ·exact (Option.some.inj hp).symm
  ·cases hp
 refine t_drawG m cs (fun j => if j = 0 then some (v, .row v ty sz l) else none) v.ownBlock (.val v (.row v ty sz l) :: List.replicate k .non) (by rw [List.length_cons, List.length_replicate]; exact hcs) hda hm hlook hN (fun _ => rfl) (fun c p hp => by
  cases c with
  | zero => obtain rfl := Option.some.inj hp; exact ⟨rfl, rfl⟩
  | succ c => rw [hnon c p (by simpa using hp)]; trivial) (fun E w hs => ?_) rfl (fun _ _ _ h => h) (fun _ _ => trivial) h
 have hback : ∀ o, o ∈ S → o = .row v ty sz l ∨ o ∈ S.eraseIdx i := fun o ho => by
  obtain ⟨j, hj⟩ := List.mem_iff_getElem?.1 ho
  by_cases e : j = i
  ·subst e; rw [hi] at hj; exact .inl (Option.some.inj hj).symm
  ·exact .inr (List.mem_eraseIdx_iff_getElem?.2 ⟨j, e, hj⟩)
 have hgb : ∀ b, gbk (fun j => if j = 0 then some (v, Ow.row v ty sz l) else none) b ↔ v.ownBlock = some b := fun b =>
  ⟨fun ⟨j, a, h1, h2⟩ => (by
   dsimp only at h1
   split at h1
   ·rw [← Option.some.inj h1] at h2; exact h2
   ·cases h1), fun c => ⟨0, _, rfl, c⟩⟩
 have e : MH (S.eraseIdx i) X.M (fun j => if j = 0 then some (v, .row v ty sz l) else none) = Mk S X.M := funext fun b => propext ⟨fun c => c.elim (fun c => .inl ⟨_, hm', (hgb b).1 c⟩) (eP (List.eraseIdx_sublist S i) b), fun c => by
  rcases c with ⟨o, ho, eo⟩ | c
  ·rcases hback o ho with rfl | ho
   ·exact .inl ((hgb b).2 eo)
   ·exact .inr (.inl ⟨o, ho, eo⟩)
  ·exact .inr (.inr c)⟩
 have hne : ∀ b, v.ownBlock = some b → ¬ Mk (S.eraseIdx i) X.M b := fun b hb c => by
  rcases c with ⟨p, hp, ep⟩ | c
  ·obtain ⟨j, hj, hp⟩ := mem_erase hp
   exact iF hs.apt hi hp (fun c => hj c.symm) hb ep
  ·rcases hs.new _ hm' b hb with h4 | h4
   ·have := hs.ok0 b c; omega
   ·exact hs.zm b h4 c
 have hsub := hs.sub (List.eraseIdx_sublist S i)
 refine ⟨by rw [e]; exact hs.tm, by rw [e]; exact ⟨hs.gd.ok, hs.gd.tab, fun o ho => hs.gd.own o ((List.eraseIdx_sublist S i).subset ho)⟩, hsub.gd.ok, ⟨fun j a h => ?_, fun j a h b hb => ?_, fun j q a hq _ _ h => ?_, fun j q a c h h2 hne2 => ?_, fun j a h _ => ?_⟩, fun b hb => hs.new _ hm' b hb, fun b hb => hs.new _ hm' b ((hgb b).1 hb), hsub.apt, hsub.new⟩
 ·dsimp only at h; split at h
  ·rename_i e
   subst e
   refine .inl ⟨.val v (.row v ty sz l), 0, ?_, rfl, Nat.le_refl _⟩
   have : fK cs 0 = 0 := by
    unfold fK
    rw [List.find?_eq_none.2 fun c _ => by simp]
   rw [this]; rfl
  ·cases h
 ·dsimp only at h; split at h
  ·obtain rfl := Option.some.inj h
   exact ⟨hne b hb, .inr hb, hs.okS _ hm' b hb⟩
  ·cases h
 ·dsimp only at h; split at h
  ·omega
  ·cases h
 ·dsimp only at h h2
  split at h
  ·split at h2
   ·rename_i e1 e2; exact absurd (by rw [e1, e2]) hne2
   ·cases h2
  ·cases h
 ·dsimp only at h; split at h
  ·obtain rfl := Option.some.inj h
   rw [e]; exact hs.gd.own _ hm'
  ·cases h
end
section
variable {P : Program} {r : Option Nat} {N : Nat} {ops : Array Oper} {S : List Ow} {ty : TypeId} {k bytes : Nat} {Γ : TE} {d : Nat} {x y : Operand} {t t' : TypeId} {pos : String} {af : Array Edge} {q qx qy : Prop} {Ψ Ψx Ψy : PV} {m l : List CT}
theorem cap_of {ev' : Env → Value → Prop} {os : Value → Ow → Prop} (hos : ∀ v ob, os v ob → ob = .row v ty k l) (hx : ∀ {M E w v}, Tm Γ (xQ ops ⟨some d, .call ⟨.builtin .append, #[x, y], #[t, t]⟩, t', pos, af, none⟩) M E w → ev' E v → ev E x = some v) (hy : tv Γ y = some (qy, Ψy)) [hq : Tr qy] [ht : TSl P t ty k bytes] [hv : VS Ψy k m] (hn : l.length + m.length ≤ 1000000000) (hb : Nat.ble bytes 1000 = true) :
  CkA P r N ops S ⟨some d, .call ⟨.builtin .append, #[x, y], #[t, t]⟩, t', pos, af, none⟩ Γ ev' os (lM ty k (l ++ m)) := fun M D E w d' v ob hd hN hg hT he ho hok hmo => by
 obtain rfl := Option.some.inj hd
 obtain rfl := hos v ob ho
 obtain ⟨us, g1, g2, g3⟩ := hok
 obtain ⟨u2, e2, h2⟩ := uT (p := True) hT hy trivial (by simp [Op.operands, Call.operands])
 obtain ⟨u3, vs, e3, h3, h4, h5⟩ := hv.h h2
 obtain rfl := List.singleton_inj.1 e3
 obtain ⟨z, hz, hzc⟩ := ht.s
 have hbb := Nat.le_of_ble_eq_true hb
 refine ops_appendk hN ht.u hz hzc (by have := Nat.ne_of_beq_eq_false ht.n; rw [Nat.blt_eq]; omega) (hx hT he) e2 g1 h3 (stp_one h4) (by omega) ?_ fun v' w' k1 k2 k3 => ?_
 ·exact Nat.le_trans (Nat.mul_le_mul hn hbb) (by omega)
 ·refine zD ⟨rfl, k2, v', uA (by simp), k3, _, by rw [List.length_append]; exact k1, qS (eQ g2 h4) fun b cur ty' fz hk hw => ?_, fun c hc => (List.mem_append.1 hc).elim (g3 c) (h5 c)⟩
  have hlt : b < w.heap.size := (Array.getElem?_eq_some_iff.1 hw).1
  refine ⟨fun c => ?_, (k2.block b hlt fun e => hk (hmo b e.symm)).trans hw⟩
  rcases c with c | c
  ·rcases k3 with e | e
   ·exact hk (hmo b (e.symm.trans c))
   ·have := Option.some.inj (e.symm.trans c); omega
  ·exact hk c
theorem cap {dp : Nat} (hy : tv Γ y = some (qy, Ψy)) [hq : Tr qy] [ht : TSl P t ty k bytes] [hv : VS Ψy k m] (hn : l.length + m.length ≤ 1000000000) (hb : Nat.ble bytes 1000 = true) :
  CkA P r N ops S ⟨some d, .call ⟨.builtin .append, #[.tmp dp, y], #[t, t]⟩, t', pos, af, none⟩ Γ (fun E v => get E dp = some v) (fun v ob => ∃ a, (v, ob) = lM ty k l a) (lM ty k (l ++ m)) :=
 cap_of (fun v ob ⟨a, e⟩ => by obtain ⟨rfl, rfl⟩ := Prod.mk.inj e; rfl) (fun _ h => h) hy hn hb
theorem cap0 {v0 : Value} (hx : tv Γ x = some (qx, exP v0)) [hqx : Tr qx] (hy : tv Γ y = some (qy, Ψy)) [hq : Tr qy] [ht : TSl P t ty k bytes] [hv : VS Ψy k m] (hn : l.length + m.length ≤ 1000000000) (hb : Nat.ble bytes 1000 = true) :
  CkA P r N ops S ⟨some d, .call ⟨.builtin .append, #[x, y], #[t, t]⟩, t', pos, af, none⟩ Γ (fun _ v => v = v0) (fun v ob => v = v0 ∧ ob = .row v0 ty k l) (lM ty k (l ++ m)) :=
 cap_of (fun v ob ⟨e1, e2⟩ => by rw [e1, e2]) (fun hT h => by
  obtain ⟨u, e, h1⟩ := uT (p := True) hT hx trivial (by simp [Op.operands, Call.operands])
  rw [e, h, show u = v0 from h1]) hy hn hb
theorem ops_bs0 {K : Pd} {D : List Deferred} {E : Env} {w : World} {rest : List Oper} {e : TypeId} (hd : Nat.blt d N = true) (ht : P.underlying t = some (.slice e)) (hs : ∃ z, Sz P e k bytes z)
  (h : ∀ w' b, New w w' b (.cells #[] e (0, 0)) → Ops P r N ops K rest D ((d, .slice (some ⟨b, 0, none⟩) 0 0) :: E) w') : Ops P r N ops K (⟨some d, .buildSlice t 0 #[], t', pos, af, none⟩ :: rest) D E w := by
 refine xT hd (by intro c hc; cases hc) (fun a ha => ?_) (h _ _ (New.of_alloc w (.cells #[] e)))
 obtain ⟨z, q, q1, q2, q3, q4⟩ := hs
 have e1 : (Instr.buildSlice t 0 #[]).run P w = .ok (.slice (some ⟨w.heap.size, 0, none⟩) 0 0) (w.alloc (.cells #[] e)) := by
  unfold Instr.buildSlice
  simp [run_underlying ht, sizeOf, typeInfo, q1, newRow, zeroValue, q4, Instr.fill, Array.range]
  congr 2
  exact Array.eq_empty_of_size_eq_zero (by simp)
 simp only [execOp, Sem.run_bind, List.map_toArray, List.map_nil]
 rw [e1]; rfl
theorem own_bs0 {w w' : World} {b : Nat} (h : New w w' b (.cells #[] ty (0, 0))) : w'.ownsRow 0 ty k (.slice (some ⟨b, 0, none⟩) 0 0) 0 [] :=
 ⟨by simp, .inr ⟨b, 0, #[], rfl, Nat.zero_le _, h.obj, Nat.le_refl _, Nat.zero_le _, by simp, by simp⟩⟩
theorem cb0 [ht : TSl P t ty k bytes] : CkN P r N ops S ⟨some d, .buildSlice t 0 #[], t', pos, af, none⟩ Γ (lM ty k []) := fun M D E w d' hd hN hg hT => by
 obtain rfl := Option.some.inj hd
 obtain ⟨z, hz, _⟩ := ht.s
 refine ops_bs0 hN ht.u ⟨z, hz⟩ fun w' b hn => zD ⟨rfl, hn.below, .slice (some ⟨b, 0, none⟩) 0 0, uA (by simp), fun c hc => ?_, [], own_bs0 hn, rfl, by simp [dC]⟩
 rw [← Option.some.inj (show some b = some c from hc), hn.at_]; exact Nat.le_refl _
theorem cal {z : Value} [tz : TZ P t z] : CkN P r N ops S ⟨some d, .alloc t, t', pos, af, none⟩ Γ (blkS t (zc z)) := fun M D E w d' hd hN hg hT => by
 obtain rfl := Option.some.inj hd
 obtain ⟨sz, b2, hz⟩ := tz.s
 refine yG hN hz fun w' b hn => zD ⟨rfl, hn.below, b, uA (by simp), fun c hc => ?_, z.cells.toList, by have := hn.blk; simpa using this, stp_xc tz.o⟩
 rw [← Option.some.inj (show some b = some c from hc), hn.at_]; exact Nat.le_refl _
theorem cst {dp sz : Nat} {c : CT} {cs B1 B2 : List CT} {a : Bool} (hy : tv Γ y = some (qy, Ψy)) [hq : Tr qy] [hc : CtOf Ψy c] [ht : TLd P t a sz] (hs : Nat.beq c.sz sz = true) (hB : iQ cs c.sz = some (B1, B2)) :
  CkS P r N ops S ⟨none, .store t (.tmp dp) y, t', pos, af, none⟩ Γ dp (blkS ty cs) (blkS ty (c :: B2)) := ⟨fun a => ⟨rfl, rfl⟩, fun M D E w b hg hT he hok hm => by
 obtain ⟨v, e2, h2⟩ := uT (p := True) hT hy trivial (by simp [Op.operands])
 obtain ⟨us, k1, k2⟩ := hc.h h2
 obtain ⟨vs, k3, k4⟩ := hok
 obtain ⟨rfl, f4⟩ := cutT_app hB
 obtain ⟨vc, vd, rfl, g3, g4⟩ := bR k4
 have hl3 := cO g3
 have hl := c.len k2
 have hsz := Nat.eq_of_beq_eq_true hs
 obtain ⟨bytes, z, hz⟩ := ht.s
 refine qN he e2 hz k3 (by rw [k1]; simp; omega) (by simp; omega) (by rw [k1]; exact fun u hu => c.one k2 u (by simpa using hu)) fun w' hch hB' => ?_
 have cl : Cl M w M w' := fun k cur t fz hk hw => ⟨hk, (hch.other k fun e => hk (e ▸ hm b rfl)).trans hw⟩
 rw [k1] at hB'
 have e4 : (vc ++ vd).drop (0 + sz) = vd := by rw [Nat.zero_add, ← hsz, ← f4, ← hl3, List.drop_left]
 rw [e4] at hB'
 refine zD ⟨rfl, ⟨⟨hch.os, hch.tape.eq, hch.output, Nat.le_of_eq hch.size.symm, fun k _ hk => hch.other k fun e => hk (e ▸ rfl)⟩, hch.tape.le⟩, us ++ vd, hB', qS (show stp ([c] ++ B2) M w (us ++ vd) from eQ ⟨us, [], by simp, k2, rfl⟩ g4) cl⟩⟩
end
def nln (n : Nat) : CT where
 sz := 1
 p M w cs := ∃ p c, cs = [.slice p n c]
 len h := by obtain ⟨_, _, rfl⟩ := h; rfl
 one h := by obtain ⟨_, _, rfl⟩ := h; exact fun u hu => by rw [List.mem_singleton.1 hu]; rfl
 mono h _ := h
class FA (c : CT) (off : Nat) (c' : outParam CT) : Prop where
 h : ∀ {M w us}, c.p M w us → c'.p M w ((us.drop off).take c'.sz)
section
variable {X : Cx} {Γ : TE} {S : List Ow}
theorem ts_as {s : Nat} {q : Prop} {Ψ Φ : PV} (h : tf Γ s = some (q, Ψ)) (hp : PSub Ψ Φ) : Ts X Γ S ((s, q, Φ) :: Γ) S := fun E w k =>
 ⟨k.bel, k.gd, k.new, k.apt, k.ok0, k.zm, fun t r ht => by
  unfold tf at ht
  cases hb : Nat.beq s t with
  | true =>
   rw [hb] at ht
   obtain rfl := Nat.eq_of_beq_eq_true hb
   obtain rfl := Option.some.inj ht
   have h3 := k.tm s _ h
   exact ⟨fun c => let ⟨u, h4, h5⟩ := h3.1 c; ⟨u, h4, hp _ _ _ h5⟩, h3.2⟩
  | false => rw [hb] at ht; exact k.tm t r ht⟩
variable {P : Program} {r : Option Nat} {N : Nat} {K : TK} {ops : Array Oper} {M : Nat → Prop} {p q qx qy : Prop} {Ψ Ψx Ψy : PV} {d : Nat} {x y : Operand} {t t' : TypeId} {pos : String} {af : Array Edge} {l : List Oper}
theorem t_len {Kn Kr : TK} {Ke : Nat → TK} {c : Code} {k : Nat} {cs : List CT} (s : Nat) (hx : tf Γ s = some (q, sv (sl k cs))) [hq : Tr q] (h : cs.length ≤ 9223372036854775807 → TW P r N X c Kn Ke Kr Γ S) : TW P r N X c Kn Ke Kr Γ S := fun D E w hs => by
 obtain ⟨v, e, u, us, _, h1, _⟩ := (hs.tm s _ hx).1 hq.h
 exact h h1.2.1 D E w hs
theorem wpk {c : Code} {N : Nat} {K K' : Pd} {Ke : Nat → Pd} {D : List Deferred} {E : Env} {w : World} (h : Wp P r N c K Ke K D E w) (hk : ∀ D E w, K D E w → K' D E w) : Wp P r N c K' Ke K' D E w := by
 intro a ha hd
 refine wpIn_mono (h a ha hd) fun e a' w' hq => ?_
 cases e with
 | normal => obtain ⟨E', h1, h2⟩ := hq; exact ⟨E', h1, hk _ _ _ h2⟩
 | ret => obtain ⟨E', h1, h2⟩ := hq; exact ⟨E', h1, hk _ _ _ h2⟩
 | exit id => exact hq
 | goto l => exact hq
 | panic c => exact hq
 | outgrown => exact hq
theorem bn_t {a : Prop} [Decidable a] (h : Tr ((!decide a) = true)) : ¬ a := by have := h.h; simpa using this
theorem bn_f {a : Prop} [Decidable a] (h : Tr ((!decide a) = false)) : a := by have := h.h; simpa using this
theorem tal {z : Value} [tz : TZ P t z] (h : ∀ b, TO P r N ops X K l ((d, True, exP (.pointer (some ⟨b, 0, none⟩))) :: Γ) (.blk b t (zc z) :: S)) : TO P r N ops X K (⟨some d, .alloc t, t', pos, af, none⟩ :: l) Γ S := fun hN D E w hs => by
 unfold okN at hN
 simp only [List.all_cons, Bool.and_eq_true] at hN
 obtain ⟨sz, bytes, hz⟩ := tz.s
 refine yG hN.1 hz fun w' b hn => ?_
 exact h b hN.2 D _ w' ((hs.addb hn (stp_xc tz.o)).put (xF _) (fun _ => rfl) (fun c => absurd trivial c))
theorem oll {e : TypeId} {sz bytes n : Nat} (hx : tv Γ x = some (qx, sv (nln n))) [Im p qx] [ht : TSl P t e sz bytes] : Ob P r N ops M S p ⟨some d, .call ⟨.builtin .len, #[x], #[t]⟩, t', pos, af, none⟩ Γ (exP (.int .i64 (n : Int))) :=
 ob1 hx (by simp [Op.operands, Call.operands]) fun D E w u hN hg e1 ⟨p, c, e⟩ => by
  obtain rfl := List.singleton_inj.1 e
  exact yP hN ht.u e1 (fin rfl)
theorem ofx {a : Bool} {f off sz : Nat} {c c' : CT} (hx : tv Γ x = some (qx, pa c)) [Im p qx] [ht : TFd P t f a off sz] [ha : FA c off c'] : Ob P r N ops M S p ⟨some d, .fieldAddr t x f, t', pos, af, none⟩ Γ (pa c') :=
 ob1 hx (by simp [Op.operands]) fun D E w u hN hg e1 ⟨b, o, us, e, h1, h2, h3⟩ => by
  subst e
  obtain ⟨fields, fd, bytes, z, k1, k2, k3, k4, k5, _⟩ := ht.h
  exact xB off hN k1 k2 k3 k4 k5 e1 (fin ⟨b, o + off, _, rfl, h1, h2.sub off c'.sz, ha.h h3⟩)
def rsT (P : Program) (Γ : TE) (S : List Ow) : List ResultVar → List PV → Prop
 | [], l => l = []
 | .tmp t :: r, l => ∃ q Ψ l', l = Ψ :: l' ∧ tf Γ t = some (q, Ψ) ∧ q ∧ rsT P Γ S r l'
 | .cell a t :: r, l => ∃ (q : Prop) (b i : Nat) (ty : TypeId) (cs : List CT) (c : CT) (f : Bool) (sz : Nat) (Ψ : PV) (l' : List PV), l = Ψ :: l' ∧ tf Γ a = some (q, exP (.pointer (some ⟨b, 0, none⟩))) ∧ q ∧ S[i]? = some (.blk b ty cs) ∧ fP cs 0 = some c ∧ c.sz = sz ∧ TLd P t f sz ∧ LdA f c Ψ ∧ rsT P Γ S r l'
theorem rs0 : rsT P Γ S [] [] := rfl
theorem rst {t : Nat} {rs : List ResultVar} {l : List PV} (h : tf Γ t = some (q, Ψ)) [hq : Tr q] (k : rsT P Γ S rs l) : rsT P Γ S (.tmp t :: rs) (Ψ :: l) := ⟨q, Ψ, l, rfl, h, hq.h, k⟩
theorem rsc {a b sz : Nat} {ty : TypeId} {cs : List CT} {c : CT} {f : Bool} {rs : List ResultVar} {l : List PV} (i : Nat) (h : tf Γ a = some (q, exP (.pointer (some ⟨b, 0, none⟩)))) [hq : Tr q] (hi : S[i]? = some (.blk b ty cs)) (ha : fP cs 0 = some c) [ht : TLd P t f sz] (hs : Nat.beq c.sz sz = true) [hl : LdA f c Ψ] (k : rsT P Γ S rs l) : rsT P Γ S (.cell a t :: rs) (Ψ :: l) :=
 ⟨q, b, i, ty, cs, c, f, sz, Ψ, l, rfl, h, hq.h, hi, ha, Nat.eq_of_beq_eq_true hs, ht, hl, k⟩
theorem rs_res {E : Env} {w : World} (hG : Gd M S w) (hT : TM Γ M E w) : ∀ {rs : List ResultVar} {l : List PV}, rsT P Γ S rs l → ∃ vs, Res P E w rs vs ∧ Fa l M w vs
 | [], _, h => ⟨[], trivial, by rw [show _ = [] from h]; rfl⟩
 | .tmp t :: rs, _, ⟨q, Ψ, l', e, h1, h2, h3⟩ => by
  subst e
  obtain ⟨v, k1, k2⟩ := (hT t _ h1).1 h2
  obtain ⟨vs, k3, k4⟩ := rs_res hG hT h3
  exact ⟨v :: vs, ⟨k1, k3⟩, v, vs, rfl, k2, k4⟩
 | .cell a t :: rs, _, ⟨q, b, i, ty, cs, c, f, sz, Ψ, l', e, h1, h2, h3, h4, h5, h6, h7, h8⟩ => by
  subst e
  obtain ⟨v, k1, k2⟩ := (hT a _ h1).1 h2
  obtain rfl : v = _ := k2
  obtain ⟨vs, k3, k4⟩ := rs_res hG hT h8
  obtain ⟨us, g1, g2⟩ := hG.own _ (List.mem_of_getElem? h3)
  have g3 := dA g2 h4
  have g4 := h7.h g3
  have g5 := c.len g3
  have hld := h6.h
  have key : ∃ u, (loadVar t ⟨b, 0, none⟩).run P w = .ok u w ∧ Ψ.p M w u := by
   cases f with
   | true =>
    obtain ⟨bytes, z, hz⟩ := h6.s
    exact ⟨_, yV hld hz g1 (by rw [← h5]) (g5.trans h5), g4⟩
   | false =>
    obtain ⟨k5, rfl⟩ := hld
    rw [h5] at g5 g4
    obtain ⟨u, hu⟩ := List.length_eq_one_iff.1 g5
    rw [hu] at g4
    refine ⟨u, bD k5 g1 ?_, g4 u rfl⟩
    have := congrArg (fun l : List Value => l[0]?) hu
    simpa using this
  obtain ⟨u, k5, k6⟩ := key
  exact ⟨u :: vs, ⟨⟨_, k1, k5⟩, k3⟩, u, vs, rfl, k6, k4⟩
def TRc (P : Program) (rs : List ResultVar) (ρ : PV) : TK := fun Γ S => ∃ l, rsT P Γ S rs l ∧ ∀ M w vs, Fa l M w vs → ρ.p M w (xI vs)
def TRd (P : Program) (rs : List ResultVar) (Q : PV → List Ow → Prop) : TK := fun Γ S => ∃ l ρ So, rsT P Γ S rs l ∧ So.Sublist S ∧ Q ρ So ∧ ∀ M w vs, Fa l M w vs → ρ.p M w (xI vs)
theorem ctd {f : FuncId} {fn : Func} {c : Code} {N : Nat} {τs : List PV} {Si : List Ow} {Q : PV → List Ow → Prop} (hf : P.funcs[f]? = some fn) (hb : fn.body = some c) (hn : fn.ntmps = N) (hN : Nat.ble τs.length N = true)
    (hnm : (fn.name == "runtime.NumGoroutine") = false) (hsc : ∀ ρ So, Q ρ So → ∀ {T : List Ow} {M : Nat → Prop} {w : World} {v : Value}, So.Sublist T → ρ.p (Mk T M) w v → ρ.p (Mk So M) w v) (h : ∀ X, TW P none N X c (TRd P fn.results.toList Q) (fun _ _ _ => False) (TRd P fn.results.toList Q) (par 0 τs) Si) : CTo P f τs Si Q := by
  refine ⟨⟨fn, hf, by rw [hb]; rfl, hnm⟩, fun M w vs hG hA hZ hM hv => ?_⟩
  have hs : St ⟨M, w, bks Si⟩ (par 0 τs) Si (iI 0 vs) w := ⟨⟨rfl, Tp.refl _, rfl, Nat.le_refl _, fun _ _ _ => rfl⟩, hG, fun o ho b hb => .inr ⟨o, ho, hb⟩, hA, hM, hZ, par_tm hv⟩
  refine jC hf hb hn (by rw [hv.len]; exact hN) ?_
  have hfin : ∀ D E w', lf ⟨M, w, bks Si⟩ (TRd P fn.results.toList Q) [] D E w' → Fin P fn.results.toList (fun v w' => BZ ⟨M, w, bks Si⟩ w' ∧ ∃ ρ So, Q ρ So ∧ Gd (Mk So M) So w' ∧ Apt So ∧ (∀ b, bks So b → w.heap.size ≤ b ∨ bks Si b) ∧ ρ.p (Mk So M) w' v) D E w' := by
    rintro D E w' ⟨rfl, Γ, S, ⟨l, ρ, So, h1, h3, h5, h6⟩, h4⟩
    obtain ⟨us, e1, e2⟩ := rs_res h4.gd h4.tm h1
    exact xC ⟨us, e1, h4.bel, ρ, So, h5, h4.gd.sub h3, apt_sub h3 h4.apt, fun b ⟨o, ho, e⟩ => h4.new o (h3.subset ho) b e, hsc ρ So h5 h3 (h6 _ _ _ e2)⟩
  have h1 := h ⟨M, w, bks Si⟩ [] _ w hs
  intro a ha hd
  refine wpIn_mono (h1 a ha hd) fun e a' w' hq => ?_
  cases e with
  | normal => obtain ⟨E', h1, h2⟩ := hq; exact ⟨E', h1, hfin _ _ _ h2⟩
  | exit id => obtain ⟨E', h1, _, _, _, h2, _⟩ := hq; exact h2.elim
  | ret => obtain ⟨E', h1, h2⟩ := hq; exact ⟨E', h1, hfin _ _ _ h2⟩
  | goto l => exact hq
  | panic c => exact hq
  | outgrown => exact hq
theorem sc_all {ρ : PV} {So T : List Ow} {M : Nat → Prop} {w : World} {v : Value} (hs : So.Sublist T) (h : ρ.p (Mk T M) w v) : ρ.p (Mk So M) w v := ρ.mono h (Cl.less (eP hs))
theorem ctc {f : FuncId} {fn : Func} {c : Code} {N : Nat} {τs : List PV} {ρ : PV} (hf : P.funcs[f]? = some fn) (hb : fn.body = some c) (hn : fn.ntmps = N) (hN : Nat.ble τs.length N = true)
    (hnm : (fn.name == "runtime.NumGoroutine") = false) (h : ∀ X, TW P none N X c (TRc P fn.results.toList ρ) (fun _ _ _ => False) (TRc P fn.results.toList ρ) (par 0 τs) []) : CTy P f τs ρ := by
  have h2 : CTo P f τs [] fun ρ' So => ρ' = ρ ∧ So = [] := ctd hf hb hn hN hnm (fun _ _ _ _ _ _ _ hs hp => sc_all hs hp) fun X D E w hs =>
    wpk (h X D E w hs) fun D' E' w' ⟨e, Γ', S', ⟨l, k1, k2⟩, k3⟩ => ⟨e, Γ', S', ⟨l, ρ, [], k1, List.nil_sublist _, ⟨rfl, rfl⟩, k2⟩, k3⟩
  refine ⟨h2.bod, fun M w vs hM hT hv => ?_⟩
  have hmk : Mk [] M = M := by funext k; simp [Mk]
  refine (h2.run M w vs ⟨by rw [hmk]; exact hM, by rw [hmk]; exact hT, by simp⟩ trivial (fun b ⟨o, ho, _⟩ => by cases ho) hM (by rw [hmk]; exact hv)).mono ?_
  rintro v w' ⟨k1, _, _, ⟨rfl, rfl⟩, _, _, _, k6⟩
  exact ⟨⟨k1.os, k1.tape, k1.output, k1.size, fun b hb => k1.block b hb fun ⟨o, ho, _⟩ => (by cases ho)⟩, by rw [hmk] at k6; exact k6⟩
end
end Go.SL
namespace Go.SL
open Go.Proofs Go.Proofs.YtfkejnlohkgbgaaGreatDoor
instance tsl22 : TSl Tryz.prog 22 33 3 56 := ⟨Tryz.underlying22, rfl, _, yK, rfl⟩
instance tld29 : TLd Tryz.prog 29 false 1 := ⟨⟨_, _, xS⟩, yS, rfl⟩
instance tsl29 : TSl Tryz.prog 29 107 1 4 := ⟨Tryz.underlying29, rfl, _, yU, rfl⟩
instance tfd31_1 : TFd Tryz.prog 31 1 false 1 1 := ⟨_, _, _, _, Tryz.underlying31, rfl, rfl, xS, rfl, yS, rfl⟩
instance tz33 : TZ Tryz.prog 33 (.agg #[(.bool false), (.slice none 0 0), (.slice none 0 0)]) := ⟨⟨_, _, yK⟩, rfl⟩
instance tld33 : TLd Tryz.prog 33 true 3 := ⟨⟨_, _, yK⟩, yO⟩
instance tfd33_0 : TFd Tryz.prog 33 0 true 0 2 := ⟨_, _, _, _, Tryz.underlying33, rfl, rfl, yY, rfl, xW⟩
instance tfd33_1 : TFd Tryz.prog 33 1 false 2 1 := ⟨_, _, _, _, Tryz.underlying33, rfl, rfl, xS, rfl, yS, rfl⟩
instance tld39 : TLd Tryz.prog 39 true 6 := ⟨⟨_, _, gH⟩, gI⟩
instance tfd39_0 : TFd Tryz.prog 39 0 true 0 3 := ⟨_, _, _, _, Tryz.underlying39, rfl, rfl, yK, rfl, yO⟩
instance tfd39_1 : TFd Tryz.prog 39 1 true 3 3 := ⟨_, _, _, _, Tryz.underlying39, rfl, rfl, yK, rfl, yO⟩
instance tpl39 : TPl Tryz.prog 39 [3, 3] := ⟨hP⟩
instance tsl63 : TSl Tryz.prog 63 39 6 112 := ⟨Tryz.underlying63, rfl, _, gH, rfl⟩
instance tsl67 : TSl Tryz.prog 67 83 6 112 := ⟨Tryz.underlying67, rfl, _, kG, rfl⟩
instance tz74 : TZ Tryz.prog 74 (.agg #[(.bool false), (.slice none 0 0), (.slice none 0 0), (.bool false), (.slice none 0 0), (.slice none 0 0), (.bool false), (.slice none 0 0), (.slice none 0 0), (.bool false), (.slice none 0 0), (.slice none 0 0)]) := ⟨⟨_, _, sz74⟩, rfl⟩
instance tld74 : TLd Tryz.prog 74 true 12 := ⟨⟨_, _, sz74⟩, fold74⟩
instance tfd74_0 : TFd Tryz.prog 74 0 true 0 6 := ⟨_, _, _, _, Tryz.underlying74, rfl, rfl, gH, rfl, gI⟩
instance tfd74_1 : TFd Tryz.prog 74 1 true 6 6 := ⟨_, _, _, _, Tryz.underlying74, rfl, rfl, gH, rfl, gI⟩
instance tpl74 : TPl Tryz.prog 74 [6, 6] := ⟨plc74⟩
instance tsl75 : TSl Tryz.prog 75 79 12 224 := ⟨Tryz.underlying75, rfl, _, lD, rfl⟩
instance tz79 : TZ Tryz.prog 79 (.agg #[(.bool false), (.slice none 0 0), (.slice none 0 0), (.bool false), (.slice none 0 0), (.slice none 0 0), (.bool false), (.slice none 0 0), (.slice none 0 0), (.bool false), (.slice none 0 0), (.slice none 0 0)]) := ⟨⟨_, _, lD⟩, rfl⟩
instance tld79 : TLd Tryz.prog 79 true 12 := ⟨⟨_, _, lD⟩, fold79⟩
instance tfd79_0 : TFd Tryz.prog 79 0 true 0 6 := ⟨_, _, _, _, Tryz.underlying79, rfl, rfl, gH, rfl, gI⟩
instance tfd79_1 : TFd Tryz.prog 79 1 true 6 6 := ⟨_, _, _, _, Tryz.underlying79, rfl, rfl, gH, rfl, gI⟩
instance tpl79 : TPl Tryz.prog 79 [6, 6] := ⟨plc79⟩
instance tz83 : TZ Tryz.prog 83 (.agg #[(.bool false), (.slice none 0 0), (.slice none 0 0), (.bool false), (.slice none 0 0), (.slice none 0 0)]) := ⟨⟨_, _, kG⟩, rfl⟩
instance tld83 : TLd Tryz.prog 83 true 6 := ⟨⟨_, _, kG⟩, cX⟩
instance tfd83_0 : TFd Tryz.prog 83 0 true 0 3 := ⟨_, _, _, _, Tryz.underlying83, rfl, rfl, yK, rfl, yO⟩
instance tfd83_1 : TFd Tryz.prog 83 1 true 3 3 := ⟨_, _, _, _, Tryz.underlying83, rfl, rfl, yK, rfl, yO⟩
instance tpl83 : TPl Tryz.prog 83 [3, 3] := ⟨plc83⟩
end Go.SL
namespace Go.Proofs.YtfkejnlohkgbgaaGreatDoor
open Go.SL Go.RowKit Go.Proofs Tryz
section
variable {M M' : Nat → Prop} {w w' : World} {n m : Nat} {q : Rat} {s : Bool} {a d : Value}
theorem QC.cl (h : QC M w n q s a d) (l : Cl M w M' w') : QC M' w' n q s a d := by obtain ⟨xs, ds, h1, h2, h3⟩ := h.ex; exact ⟨xs, ds, h1.cl l, h2.cl l, h3⟩
theorem RC.cl (h : RC M w n q s a d) (l : Cl M w M' w') : RC M' w' n q s a d := ⟨h.sgn, h.num.cl l, h.den.cl l, h.len⟩
end
def rtq (n : Nat) (q : Rat) : CT where
 sz := 3
 p M w cs := ∃ s a d, cs = [.bool s, a, d] ∧ QC M w n q s a d
 len h := by obtain ⟨_, _, _, rfl, _⟩ := h; rfl
 one h := by obtain ⟨_, _, _, rfl, h⟩ := h; exact eH rfl (eH h.one.1 (eH h.one.2.1 jN))
 mono h k := by obtain ⟨s, a, d, rfl, h⟩ := h; exact ⟨s, a, d, rfl, h.cl k⟩
def rtc (n : Nat) (q : Rat) : CT where
 sz := 3
 p M w cs := ∃ s a d, cs = [.bool s, a, d] ∧ RC M w n q s a d
 len h := by obtain ⟨_, _, _, rfl, _⟩ := h; rfl
 one h := by obtain ⟨_, _, _, rfl, h⟩ := h; exact eH rfl (eH h.one.1 (eH h.one.2.1 jN))
 mono h k := by obtain ⟨s, a, d, rfl, h⟩ := h; exact ⟨s, a, d, rfl, h.cl k⟩
def rtl (L : N2) (q : Rat) : CT where
 sz := 3
 p M w cs := ∃ s a d, cs = [.bool s, a, d] ∧ QC M w (max L.1 L.2) q s a d ∧ Q2 M w 0 L s a d
 len h := by obtain ⟨_, _, _, rfl, _⟩ := h; rfl
 one h := by obtain ⟨_, _, _, rfl, h, _⟩ := h; exact eH rfl (eH h.one.1 (eH h.one.2.1 jN))
 mono h k := by obtain ⟨s, a, d, rfl, h, h2⟩ := h; exact ⟨s, a, d, rfl, h.cl k, h2.a, h2.d⟩
class CQ (c : CT) (n : outParam Nat) (q : outParam Rat) : Prop where
 h : ∀ {M w us}, c.p M w us → ∃ s a d, us = [.bool s, a, d] ∧ QC M w n q s a d
instance {n : Nat} {q : Rat} : CQ (rtq n q) n q := ⟨id⟩
instance {n : Nat} {q : Rat} : CQ (rtc n q) n q := ⟨fun ⟨s, a, d, e, h⟩ => ⟨s, a, d, e, h.gen⟩⟩
instance {L : N2} {q : Rat} : CQ (rtl L q) (max L.1 L.2) q := ⟨fun ⟨s, a, d, e, h, _⟩ => ⟨s, a, d, e, h⟩⟩
class CP (c : CT) (n : outParam Nat) (q : outParam P2) : Prop where
 h : ∀ {M w us}, c.p M w us → ∃ s a d t b e, us = [.bool s, a, d, .bool t, b, e] ∧ PQ M w n q s a d t b e
instance {c d : CT} {n m : Nat} {p q : Rat} [h1 : CQ c n p] [h2 : CQ d m q] : CP (st [c, d]) (max n m) (p, q) := ⟨fun ⟨x, y, e, k1, z, o, e2, k2, e3⟩ => by
 obtain ⟨s, a, d, rfl, g1⟩ := h1.h k1
 obtain ⟨t, b, f, rfl, g2⟩ := h2.h k2
 obtain rfl : o = [] := e3
 exact ⟨s, a, d, t, b, f, by rw [e, e2]; rfl, g1.up (by omega), g2.up (by omega)⟩⟩
class QR (Ψ : PV) (n : outParam Nat) (q : outParam Rat) : Prop where
 h : ∀ {M w v}, Ψ.p M w v → ∃ s a d, v = .agg #[.bool s, a, d] ∧ QC M w n q s a d
instance {c : CT} {n : Nat} {q : Rat} [h : CQ c n q] : QR (ag c) n q := ⟨fun ⟨us, e, k⟩ => by obtain ⟨s, a, d, rfl, g⟩ := h.h k; exact ⟨s, a, d, e, g⟩⟩
class QP (Ψ : PV) (n : outParam Nat) (q : outParam P2) : Prop where
 h : ∀ {M w v}, Ψ.p M w v → ∃ s a d t b e, v = .agg #[.bool s, a, d, .bool t, b, e] ∧ PQ M w n q s a d t b e
instance {c : CT} {n : Nat} {q : P2} [h : CP c n q] : QP (ag c) n q := ⟨fun ⟨us, e, k⟩ => by obtain ⟨s, a, d, t, b, f, rfl, g⟩ := h.h k; exact ⟨s, a, d, t, b, f, e, g⟩⟩
theorem row_to {α : Type} {R : kA α} {f : α → CT} {k : Nat} {M : Nat → Prop} {w : World} {v : Value} {xs : List α} (hsz : ∀ a, (f a).sz = k) (hR : ∀ a us, (f a).p M w us → R M w a us) (h : (sl k (xs.map f)).p M w [v]) : RowOf R k M w v xs := by
 obtain ⟨u, us, e, h1, h2, h3⟩ := h
 obtain rfl := List.singleton_inj.1 e
 rw [List.length_map] at h1
 refine ⟨us, h1, fun i a ha => ?_⟩
 have hi := (List.getElem?_eq_some_iff.1 ha).1
 have h4 := fW h2 (i := i) (c := f a) (by rw [List.getElem?_map, ha]; rfl)
 rw [szs_take h3 (by rw [List.length_map]; omega), hsz] at h4
 refine ⟨_, ((f a).len h4).trans (hsz a), fun q u hq => ?_, hR _ _ h4⟩
 rw [List.getElem?_take] at hq
 split at hq
 ·simpa using hq
 ·cases hq
theorem stp_of {α : Type} {R : kA α} {f : α → CT} {k : Nat} {M : Nat → Prop} {w : World} (hR : ∀ a us, us.length = k → R M w a us → (f a).p M w us) : ∀ {xs : List α} {cs : List Value}, cs.length = xs.length * k →
    (∀ (i : Nat) (a : α), xs[i]? = some a → ∃ us : List Value, us.length = k ∧ (∀ (q : Nat) (u : Value), us[q]? = some u → cs[i * k + q]? = some u) ∧ R M w a us) → stp (xs.map f) M w cs
  | [], cs, h, _ => by have h0 : cs = [] := by simpa using h
                       exact h0
  | a :: xs, cs, h, h2 => by
    obtain ⟨us, k1, k2, k3⟩ := h2 0 a rfl
    rw [List.length_cons, Nat.succ_mul] at h
    have e : cs.take k = us := by
      apply List.ext_getElem?
      intro q
      rw [List.getElem?_take]
      split
      · rename_i hq
        have h5 := k2 q (us[q]'(by omega)) (List.getElem?_eq_getElem (by omega))
        simp only [Nat.zero_mul, Nat.zero_add] at h5
        rw [h5, List.getElem?_eq_getElem (by omega)]
      · rw [List.getElem?_eq_none (by omega)]
    refine ⟨us, cs.drop k, by rw [← e, List.take_append_drop], hR a us k1 k3, stp_of hR (by rw [List.length_drop]; omega) fun i b hb => ?_⟩
    obtain ⟨vs, g1, g2, g3⟩ := h2 (i + 1) b (by simpa using hb)
    refine ⟨vs, g1, fun q u hq => ?_, g3⟩
    have := g2 q u hq
    rw [List.getElem?_drop, show k + (i * k + q) = (i + 1) * k + q by rw [Nat.succ_mul]; omega]; exact this
theorem row_from {α : Type} {R : kA α} {f : α → CT} {k : Nat} {M : Nat → Prop} {w : World} {v : Value} {xs : List α} (hsz : ∀ a, (f a).sz = k) (hR : ∀ a us, us.length = k → R M w a us → (f a).p M w us) (h : RowOf R k M w v xs) : (sl k (xs.map f)).p M w [v] := by
 obtain ⟨cs, h1, h2⟩ := h
 exact ⟨v, cs, rfl, by rw [List.length_map]; exact h1, stp_of hR h1.1 h2, fun c hc => by obtain ⟨a, _, rfl⟩ := List.mem_map.1 hc; exact hsz a⟩
class CsQ (cs : List CT) (n : outParam Nat) (qs : outParam (List Rat)) : Prop where
 h : ∀ c ∈ cs, c.sz = 3
 l : cs.length = qs.length
 e : ∀ (i : Nat) (q : Rat), qs[i]? = some q → ∃ c, cs[i]? = some c ∧ ∀ {M w us}, c.p M w us → ∃ s a d, us = [.bool s, a, d] ∧ QC M w n q s a d
instance : CsQ [] 0 [] := ⟨by simp, rfl, by simp⟩
class C3 (c : CT) : Prop where
 h : c.sz = 3
instance {n : Nat} {q : Rat} : C3 (rtq n q) := ⟨rfl⟩
instance {n : Nat} {q : Rat} : C3 (rtc n q) := ⟨rfl⟩
instance {n : N2} {q : Rat} : C3 (rtl n q) := ⟨rfl⟩
instance {c : CT} {cs : List CT} {n m : Nat} {q : Rat} {qs : List Rat} [h1 : CQ c n q] [h3 : C3 c] [h2 : CsQ cs m qs] : CsQ (c :: cs) (max n m) (q :: qs) :=
 ⟨fun x hx => by rcases List.mem_cons.1 hx with rfl | hx; exact h3.h; exact h2.h x hx, by simp [h2.l], fun i p hi => by
  cases i with
  | zero => simp at hi; subst hi; exact ⟨c, rfl, fun k => let ⟨s, a, d, e, g⟩ := h1.h k; ⟨s, a, d, e, g.up (by omega)⟩⟩
  | succ i => obtain ⟨x, g1, g2⟩ := h2.e i p (by simpa using hi); exact ⟨x, by simpa using g1, fun k => let ⟨s, a, d, e, g⟩ := g2 k; ⟨s, a, d, e, g.up (by omega)⟩⟩⟩
theorem row_each {α : Type} {R : kA α} {k : Nat} {M : Nat → Prop} {w : World} {v : Value} {cs : List CT} {xs : List α} (hl : cs.length = xs.length) (h3 : ∀ c ∈ cs, c.sz = k) (hR : ∀ (i : Nat) (a : α), xs[i]? = some a → ∃ c, cs[i]? = some c ∧ ∀ us, c.p M w us → R M w a us) (h : (sl k cs).p M w [v]) : RowOf R k M w v xs := by
 obtain ⟨u, us, e, h1, h2, _⟩ := h
 obtain rfl := List.singleton_inj.1 e
 rw [hl] at h1
 refine ⟨us, h1, fun i a ha => ?_⟩
 have hi := (List.getElem?_eq_some_iff.1 ha).1
 obtain ⟨c, k1, k2⟩ := hR i a ha
 have h4 := fW h2 (i := i) (c := c) k1
 have hc := h3 c (List.mem_of_getElem? k1)
 rw [szs_take h3 (by omega), hc] at h4
 refine ⟨_, (c.len h4).trans hc, fun q u hq => ?_, k2 _ h4⟩
 rw [List.getElem?_take] at hq
 split at hq
 ·simpa using hq
 ·cases hq
class VQ (Ψ : PV) (n : outParam Nat) (l : outParam (List Rat)) : Prop where
 h : ∀ {M w v}, Ψ.p M w v → QL M w n l v
instance {cs : List CT} {n : Nat} {l : List Rat} [h : CsQ cs n l] : VQ (sv (sl 3 cs)) n l := ⟨fun k => ⟨row_each h.l h.h (fun i a ha => let ⟨c, g1, g2⟩ := h.e i a ha; ⟨c, g1, fun us hu => g2 hu⟩) k⟩⟩
instance {n : Nat} {l : List Rat} : VQ (sv (sl 3 (l.map (rtc n)))) n l := ⟨fun k => ⟨row_to (fun _ => rfl) (fun a us h => (CQ.h h : _)) k⟩⟩
class VPt (Ψ : PV) (n : outParam Nat) (l : outParam (List P2)) : Prop where
 h : ∀ {M w v}, Ψ.p M w v → PL M w n l v
def ptl (x : N4 × P2) : CT := st [rtl (x.1.1, x.1.2.1) x.2.1, rtl (x.1.2.2.1, x.1.2.2.2) x.2.2]
def intl (k : Nat) : CT where
 sz := 2
 p M w cs := ∃ s p c, cs = [.bool s, .slice p k c]
 len h := by obtain ⟨_, _, _, rfl⟩ := h; rfl
 one h := by obtain ⟨_, _, _, rfl⟩ := h; exact eH rfl (eH rfl jN)
 mono h _ := h
instance {L : N2} {q : Rat} : FA (rtl L q) 0 (intl L.1) := ⟨fun ⟨s, a, d, e, _, ⟨p, c, ea⟩, _⟩ => ⟨s, p, c, by rw [e, ea]; rfl⟩⟩
instance {L : N2} {q : Rat} : FA (rtl L q) 2 (nln L.2) := ⟨fun ⟨s, a, d, e, _, _, ⟨p, c, ea⟩⟩ => ⟨p, c, by rw [e, ea]; rfl⟩⟩
instance {k : Nat} : FA (intl k) 1 (nln k) := ⟨fun ⟨s, p, c, e⟩ => ⟨p, c, by rw [e]; rfl⟩⟩
instance : Df (N4 × P2) := ⟨((0, 0, 0, 0), (0, 0))⟩
instance {x : N4 × P2} : FA (ptl x) 0 (rtl (x.1.1, x.1.2.1) x.2.1) := ⟨fun h => dA (l := [rtl (x.1.1, x.1.2.1) x.2.1, rtl (x.1.2.2.1, x.1.2.2.2) x.2.2]) (o := 0) h rfl⟩
instance {x : N4 × P2} : FA (ptl x) 3 (rtl (x.1.2.2.1, x.1.2.2.2) x.2.2) := ⟨fun h => dA (l := [rtl (x.1.1, x.1.2.1) x.2.1, rtl (x.1.2.2.1, x.1.2.2.2) x.2.2]) (o := 3) h rfl⟩
abbrev N8 := N4 × N4
def edl (y : N8 × (P2 × P2)) : CT := st [ptl (y.1.1, y.2.1), ptl (y.1.2, y.2.2)]
instance : Df (N8 × (P2 × P2)) := ⟨(((0, 0, 0, 0), (0, 0, 0, 0)), ((0, 0), (0, 0)))⟩
instance {y : N8 × (P2 × P2)} : FA (edl y) 0 (ptl (y.1.1, y.2.1)) := ⟨fun h => dA (l := [ptl (y.1.1, y.2.1), ptl (y.1.2, y.2.2)]) (o := 0) h rfl⟩
instance {y : N8 × (P2 × P2)} : FA (edl y) 6 (ptl (y.1.2, y.2.2)) := ⟨fun h => dA (l := [ptl (y.1.1, y.2.1), ptl (y.1.2, y.2.2)]) (o := 6) h rfl⟩
theorem omx4 {P : Program} {r : Option Nat} {N : Nat} {ops : Array Oper} {M : Nat → Prop} {S : List Ow} {p q1 q2 q3 q4 : Prop} {Γ : TE} {d : Nat} {x y z u : Operand} {ts : Array TypeId} {t' : TypeId} {pos : String} {af : Array Edge} {k : IntKind} {a b c e : Nat}
  (hx : tv Γ x = some (q1, exP (.int k (a : Int)))) (hy : tv Γ y = some (q2, exP (.int k (b : Int)))) (hz : tv Γ z = some (q3, exP (.int k (c : Int)))) (hu : tv Γ u = some (q4, exP (.int k (e : Int)))) [Im p q1] [Im p q2] [Im p q3] [Im p q4] :
  Ob P r N ops M S p ⟨some d, .call ⟨.builtin .max, #[x, y, z, u], ts⟩, t', pos, af, none⟩ Γ (exP (.int k ((m4 (a, b, c, e) : Nat) : Int))) := fun D E w d' hd hN hg hp hT => by
 obtain rfl := Option.some.inj hd
 obtain ⟨v1, e1, rfl⟩ := uT hT hx hp (by simp [Op.operands, Call.operands])
 obtain ⟨v2, e2, rfl⟩ := uT hT hy hp (by simp [Op.operands, Call.operands])
 obtain ⟨v3, e3, rfl⟩ := uT hT hz hp (by simp [Op.operands, Call.operands])
 obtain ⟨v4, e4, rfl⟩ := uT hT hu hp (by simp [Op.operands, Call.operands])
 exact ops_max4 hN e1 e2 e3 e4 (fin rfl)
def fI (l : List (N4 × P2)) : Bool := decide (60 < l.length) || (l.take 61).any fun x => decide (6 < m4 x.1)
theorem great8_no {l : List (N4 × P2)} (h : fI l = false) : l.length ≤ 60 ∧ ∀ x ∈ l, m4 x.1 ≤ 6 := by
 unfold fI at h
 simp only [Bool.or_eq_false_iff, decide_eq_false_iff_not] at h
 refine ⟨by omega, fun x hx => ?_⟩
 have := h.2
 rw [List.take_of_length_le (by omega), List.any_eq_false] at this
 have := this x hx
 simp only [decide_eq_true_eq] at this; omega
theorem g8_take {α : Type} {l : List α} {s : Nat} {d : α} {Q : α → Prop} (h : s < l.length) (hs : ∀ x ∈ l.take s, Q x) (hx : Q (l.getD s d)) : ∀ x ∈ l.take (s + 1), Q x := by
 rw [(gZ d h).1]
 intro x hx2
 rcases List.mem_append.1 hx2 with c | c
 ·exact hs x c
 ·rw [List.mem_singleton.1 c]; exact hx
theorem mem_take_getD {α : Type} {l : List α} {s n : Nat} {d : α} (h : s < l.length) (hn : s < n) : l.getD s d ∈ l.take n := by
 rw [List.getD_eq_getElem?_getD, List.getElem?_eq_getElem h]
 exact List.mem_take_iff_getElem.2 ⟨s, by omega, rfl⟩
theorem m4_eta (x : N4) : m4 (x.1, x.2.1, x.2.2.1, x.2.2.2) = m4 x := rfl
theorem dand {a b : Prop} [Decidable a] [Decidable b] (h : Tr ((decide a && decide b) = true)) : a ∧ b := by simpa using h.h
theorem dor {a b : Prop} [Decidable a] [Decidable b] (h : Tr ((decide a && decide b) = false)) : ¬ (a ∧ b) := by have := h.h; simpa using this
theorem dt {a : Prop} [Decidable a] (h : Tr (decide a = true)) : a := of_decide_eq_true h.h
theorem df {a : Prop} [Decidable a] (h : Tr (decide a = false)) : ¬ a := of_decide_eq_false h.h
theorem take_eq_step {α : Type} {l m : List α} {s : Nat} {d : α} (hl : s < l.length) (hm : s < m.length) (h : l.take s = m.take s) (e : l.getD s d = m.getD s d) : l.take (s + 1) = m.take (s + 1) := by
 rw [(gZ d hl).1, (gZ d hm).1, h, e]
theorem take_eq_all {α : Type} {l m : List α} (h : l.length = m.length) (e : l.take l.length = m.take l.length) : l = m := by
 rw [List.take_length] at e; rw [h, List.take_length] at e; exact e
theorem getD_ne {α : Type} {l m : List α} {s : Nat} {d : α} (h : l.getD s d ≠ m.getD s d) : l ≠ m := fun e => h (by rw [e])
set_option maxHeartbeats 4000000 in
theorem k8great {l : List (N4 × P2)} : CTy prog 53 [sv (sl 6 (l.map ptl))] (exP (.bool (fI l))) := by
 refine ct (rs := [2]) func53 rfl rfl rfl rfl rfl eK fun X => (yQ (xD rfl (t1 (oas rfl) (t0 (yQ (yQ (xD rfl ?_)))))))
 refine t1 (oas rfl) (t0 (gW ?_))
 refine cL (σ := Nat) (fun s => [(0, True, sv (sl 6 (l.map ptl))), (3, True, exP (.int .i64 ((s : Nat) : Int)))]) (fun s => []) (fun s => s ≤ l.length ∧ s ≤ 61 ∧ ∀ x ∈ l.take s, ¬ 6 < m4 x.1) (fun s => l.length - s) (0) (kJ (tc rfl (gR _) (tc rfl (kH rfl) tn)) rfl) ⟨by omega, by omega, by simp⟩ (fun s hJ => ?_)
 obtain ⟨h1, h2, h3⟩ := hJ
 refine yQ (yQ (xD rfl (t1 (omv rfl) (t1 (omv rfl) (t1 (oln rfl) (t1 (olt rfl rfl) (t1 (omv rfl) ?_)))))))
 refine t1g rfl rfl (omv rfl) (t1g rfl rfl (ole rfl rfl) (t1 (opk rfl rfl rfl) (t0 ?_)))
 refine aN rfl (fun c0 => ?_) (fun c0 => ?_)
 ·have hc := dand c0
  refine gV (yQ (gW (yQ (cM 32 mixed rfl rfl (d1 (omv rfl) (d1 (omv rfl) (d1 (oix s rfl rfl rfl (fun _ => rfl) (fun _ => by omega)) ?_)))))))
  refine d1 (ofx rfl) (d1 (ofx rfl) (d1 (ofx rfl) (d1 (old rfl rfl) (d1 (oll rfl) (d1 (omv rfl) (d1 (omv rfl) (d1 (oix s rfl rfl rfl (fun _ => rfl) (fun _ => by omega)) ?_)))))))
  refine d1 (ofx rfl) (d1 (ofx rfl) (d1 (old rfl rfl) (d1 (oll rfl) (d1 (omv rfl) (d1 (omv rfl) (d1 (oix s rfl rfl rfl (fun _ => rfl) (fun _ => by omega)) (d1 (ofx rfl) ?_)))))))
  refine d1 (ofx rfl) (d1 (ofx rfl) (d1 (old rfl rfl) (d1 (oll rfl) (d1 (omv rfl) (d1 (omv rfl) (d1 (oix s rfl rfl rfl (fun _ => rfl) (fun _ => by omega)) (d1 (ofx rfl) ?_)))))))
  refine d1 (ofx rfl) (d1 (old rfl rfl) (d1 (oll rfl) (d1 (omx4 rfl rfl rfl rfl) (d1 (ogt rfl rfl) (d0 (t0 ?_))))))
  refine aN rfl (fun c1 => ?_) (fun c1 => ?_)
  ·refine yQ ?_
   refine xD rfl (t1 (oas rfl) (t0 (qR ?_)))
   have hc1 := dt c1
   exact tr1 rfl (psb (by
    unfold fI
    symm
    rw [Bool.or_eq_true, List.any_eq_true]
    exact .inr ⟨_, mem_take_getD (d := ((0, 0, 0, 0), (0, 0))) (show s < l.length by omega) (show s < 61 by omega), by simp only [Df.d, m4_eta] at hc1; simp only [decide_eq_true_eq]; omega⟩))
  ·refine gV ?_
   refine xD rfl (t1 (omv rfl) (t1 (oad rfl rfl (by omega)) (t1 (oas rfl) (t0 ?_))))
   exact ⟨s + 1, kJ (tc rfl (gR _) (tc rfl (kH (by omega)) tn)) rfl, ⟨by omega, by omega, g8_take (d := ((0, 0, 0, 0), (0, 0))) (by omega) h3 (by have := df c1; simp only [Df.d, m4_eta] at this; omega)⟩, by omega⟩
 ·have hc := dor c0
  refine bN (yQ (xD rfl (t1 (omv rfl) (t1 (oln rfl) (t1 (ogt rfl rfl) (t1 (oas rfl) (t0 ?_)))))))
  refine qR ?_
  exact tr1 rfl (psb (by
   unfold fI
   rw [Bool.eq_iff_iff, Bool.or_eq_true, List.any_eq_true]
   simp only [decide_eq_true_eq]
   refine ⟨fun h => .inl (by omega), fun h => h.elim (fun h => by omega) fun ⟨x, hx, h⟩ => ?_⟩
   rcases Nat.lt_or_ge 60 l.length with c | c
   ·omega
   ·rw [List.take_of_length_le (by omega)] at hx
    rw [List.take_of_length_le (by omega)] at h3
    exact absurd h (h3 x hx)))
def eX (l : List (N8 × (P2 × P2))) : List (N4 × P2) := l.flatMap fun x => [(x.1.1, x.2.1), (x.1.2, x.2.2)]
theorem endsL_len (l : List (N8 × (P2 × P2))) : (eX l).length = 2 * l.length := by
 induction l with
 | nil => rfl
 | cons x l ih => show (_ :: _ :: eX l).length = _; simp only [List.length_cons, ih]; omega
theorem endsL_take {l : List (N8 × (P2 × P2))} {s : Nat} (h : s < l.length) : eX (l.take (s + 1)) = eX (l.take s) ++ [((l.getD s Df.d).1.1, (l.getD s Df.d).2.1), ((l.getD s Df.d).1.2, (l.getD s Df.d).2.2)] := by
 rw [(gZ (Df.d : N8 × (P2 × P2)) h).1]; simp [eX]
def great23e (l : List (N8 × (P2 × P2))) : Bool := decide (40 < l.length) || fI (eX l)
set_option maxHeartbeats 4000000 in
theorem k23greatE {l : List (N8 × (P2 × P2))} : CTy prog 54 [sv (sl 12 (l.map edl))] (exP (.bool (great23e l))) := by
 refine ct (rs := [2]) func54 rfl rfl rfl rfl rfl eK fun X => (yQ (xD rfl (t1 (oas rfl) (t0 (yQ (xD rfl (t1 (oas rfl) ?_)))))))
 refine t0 (yQ (yQ (xD rfl (t1 (oas rfl) (t0 (gW (fF (ts_nil 39 6) ?_)))))))
 refine cL (σ := Nat × Value) (fun z => [(0, True, sv (sl 12 (l.map edl))), (3, True, exP z.2), (4, True, exP (.int .i64 ((z.1 : Nat) : Int)))]) (fun z => [.row z.2 39 6 ((eX (l.take z.1)).map ptl)]) (fun z => z.1 ≤ l.length ∧ z.1 ≤ 41) (fun z => l.length - z.1) ((0, .slice none 0 0)) (kJ (tc rfl (gR _) (tc rfl (gR _) (tc rfl (kH rfl) tn))) rfl) ⟨by simp, by simp⟩ (fun z hJ => ?_)
 obtain ⟨s, v3⟩ := z
 dsimp only at hJ ⊢
 obtain ⟨h1, h2⟩ := hJ
 refine yQ (yQ (xD rfl (t1 (omv rfl) (t1 (omv rfl) (t1 (oln rfl) (t1 (olt rfl rfl) (t1 (omv rfl) ?_)))))))
 refine t1g rfl rfl (omv rfl) (t1g rfl rfl (ole rfl rfl) (t1 (opk rfl rfl rfl) (t0 ?_)))
 refine aN rfl (fun c0 => ?_) (fun c0 => ?_)
 ·have hc := dand c0
  refine gV (yQ (gW (t_drawB 0 13 0 [(12, 27, 0)] rfl rfl rfl mixed rfl rfl (cx1 (omv rfl) rfl (cx1 (omv rfl) rfl (cx1 (omv rfl) rfl (cx1 (oix s rfl rfl rfl (fun _ => rfl) (fun _ => by omega)) rfl ?_)))))))
  refine cx1 (ofx rfl) rfl (cx1 (old rfl rfl) rfl (cx1 (omv rfl) rfl (cx1 (omv rfl) rfl (cx1 (oix s rfl rfl rfl (fun _ => rfl) (fun _ => by omega)) rfl (cx1 (ofx rfl) rfl (cx1 (old rfl rfl) rfl (cx1 (obs rfl rfl rfl rfl rfl rfl) rfl ?_)))))))
  refine cB rfl rfl (cap0 rfl rfl (by simp [endsL_len]; omega) rfl) ?_
  refine cE (fun r27 => ?_)
  refine t1 (oas rfl) (t0 (xD rfl (t1 (omv rfl) (t1 (oad rfl rfl (by omega)) (t1 (oas rfl) (t0 ?_))))))
  exact ⟨(s + 1, r27), kJ (tc rfl (gR _) (tc rfl (gR _) (tc rfl (kH (by simp)) tn))) (by rw [endsL_take (by omega)]; simp), ⟨by dsimp only; omega, by dsimp only; omega⟩, by dsimp only; omega⟩
 ·have hc := dor c0
  refine fF (ts_frz 0 rfl (s := 3) rfl) (fF (ts_as (s := 3) rfl (ps_p (show sv (sl 6 ((eX (l.take s)).map ptl)) = sv (sl 6 ((eX (l.take 41)).map ptl)) from by rcases Nat.lt_or_ge 40 l.length with c | c; rw [show s = 41 by omega]; rw [List.take_of_length_le (show l.length ≤ s by omega), List.take_of_length_le (show l.length ≤ 41 by omega)]))) (bN (yQ (xD rfl (t1 (omv rfl) (t1 (oln rfl) (t1 (ogt rfl rfl) ?_)))))))
  refine t1 (omv rfl) (t1g rfl rfl (omv rfl) (t1g rfl rfl (oca rfl rfl fun g => k8great) (t1 (opk rfl rfl rfl) (t1 (oas rfl) (t0 (qR ?_))))))
  exact tr1 rfl (psb (by
   have e : decide ((40 : Int) < (l.length : Int)) = decide (40 < l.length) := by rw [decide_eq_decide]; omega
   unfold great23e
   rw [e]
   rcases Nat.lt_or_ge 40 l.length with c | c
   ·rw [decide_eq_true c]; rfl
   ·rw [List.take_of_length_le (show l.length ≤ 41 by omega)]))
theorem fa1 {τ : PV} {M : Nat → Prop} {w : World} {vs : List Value} (h : Fa [τ] M w vs) : ∃ v, vs = [v] ∧ τ.p M w v := by
 obtain ⟨v, us, e, h1, h2⟩ := h; exact ⟨v, by rw [e, show us = [] from h2], h1⟩
theorem fa2 {τ σ : PV} {M : Nat → Prop} {w : World} {vs : List Value} (h : Fa [τ, σ] M w vs) : ∃ v u, vs = [v, u] ∧ τ.p M w v ∧ σ.p M w u := by
 obtain ⟨v, us, e, h1, h2⟩ := h; obtain ⟨u, e2, h3⟩ := fa1 h2; exact ⟨v, u, by rw [e, e2], h1, h3⟩
theorem fa4 {τ σ ρ θ : PV} {M : Nat → Prop} {w : World} {vs : List Value} (h : Fa [τ, σ, ρ, θ] M w vs) : ∃ v u x y, vs = [v, u, x, y] ∧ τ.p M w v ∧ σ.p M w u ∧ ρ.p M w x ∧ θ.p M w y := by
 obtain ⟨v, us, e, h1, u, us2, e2, h2, h3⟩ := h; obtain ⟨x, y, e3, h4, h5⟩ := fa2 h3; exact ⟨v, u, x, y, by rw [e, e2, e3], h1, h2, h4, h5⟩
theorem eL {M : Nat → Prop} {w : World} {n : Nat} {q : Rat} {s : Bool} {a d : Value} (h : RC M w n q s a d) : (ag (rtc n q)).p M w (.agg #[.bool s, a, d]) := ⟨_, rfl, _, _, _, rfl, h⟩
def Fsub (τs σs : List PV) : Prop := ∀ M w vs, Fa τs M w vs → Fa σs M w vs
theorem fs0 : Fsub [] [] := fun _ _ _ h => h
theorem fs1 {τ σ : PV} {τs σs : List PV} (h : PSub τ σ) (k : Fsub τs σs) : Fsub (τ :: τs) (σ :: σs) := fun M w vs ⟨v, us, e, h1, h2⟩ => ⟨v, us, e, h _ _ _ h1, k _ _ _ h2⟩
theorem iM {P : Program} {f : FuncId} {τs σs : List PV} {ρ : PV} (h : CTy P f σs ρ) (hs : Fsub τs σs) : CTy P f τs ρ := ⟨h.bod, fun M w vs hM hT hv => h.run M w vs hM hT (hs _ _ _ hv)⟩
instance dfR : Df Rat := ⟨0⟩
instance dfP : Df P2 := ⟨(0, 0)⟩
abbrev ptq (n : Nat) (x : P2) : CT := st [rtq n x.1, rtq n x.2]
theorem fR {Ψ : PV} {n : Nat} {q : Rat} [h : QR Ψ n q] : PSub Ψ (ag (rtq n q)) := fun M w v k => by
 obtain ⟨s, a, d, rfl, g⟩ := h.h k
 exact ⟨_, rfl, s, a, d, rfl, g⟩
theorem ptq_of {M : Nat → Prop} {w : World} {n : Nat} {q : P2} {s : Bool} {a d : Value} {t : Bool} {b e : Value} (h : PQ M w n q s a d t b e) : (ptq n q).p M w [.bool s, a, d, .bool t, b, e] := ⟨[.bool s, a, d], [.bool t, b, e], rfl, ⟨s, a, d, rfl, h.x⟩, [.bool t, b, e], [], rfl, ⟨t, b, e, rfl, h.y⟩, rfl⟩
theorem qp_q {Ψ : PV} {n : Nat} {q : P2} [h : QP Ψ n q] : PSub Ψ (ag (ptq n q)) := fun M w v k => by
 obtain ⟨s, a, d, t, b, e, rfl, g⟩ := h.h k
 exact ⟨_, rfl, ptq_of g⟩
theorem iK {Ψ : PV} {n : Nat} {l : List P2} [h : VPt Ψ n l] : PSub Ψ (sv (sl 6 (l.map (ptq n)))) := fun M w v k => by
 refine row_from (R := RP n) (fun _ => rfl) (fun a us _ ⟨s, x, d, t, b, e, e0, g⟩ => by rw [e0]; exact ptq_of g) (h.h k).row
abbrev ptc (n : Nat) (x : P2) : CT := st [rtc n x.1, rtc n x.2]
instance vpt_c {n : Nat} {l : List P2} : VPt (sv (sl 6 (l.map (ptc n)))) n l := ⟨fun k => ⟨row_to (fun _ => rfl) (fun a us h => by
 obtain ⟨s, b, d, t, c, e, e0, g⟩ := CP.h (c := ptc n a) h
 exact ⟨s, b, d, t, c, e, e0, by rw [Nat.max_self] at g; exact g⟩) k⟩⟩
instance vpt_p {n : Nat} {l : List P2} : VPt (sv (sl 6 (l.map (ptq n)))) n l := ⟨fun k => ⟨row_to (fun _ => rfl) (fun a us h => by
 obtain ⟨s, b, d, t, c, e, e0, g⟩ := CP.h (c := ptq n a) h
 exact ⟨s, b, d, t, c, e, e0, by rw [Nat.max_self] at g; exact g⟩) k⟩⟩
theorem ql_rats {M : Nat → Prop} {w : World} {v : Value} {n : Nat} {l : List Rat} (h : QL M w n l v) : ∃ l0 : List RRt, IsRats M w v l0 ∧ l0.map rq = l ∧ (∀ x ∈ l0, (∀ y ∈ x.2.1, y < 4294967296) ∧ ∀ y ∈ x.2.2, y < 4294967296) ∧ ∀ x ∈ l0, x.2.1.length ≤ n ∧ x.2.2.length ≤ n := by
 obtain ⟨cs, h1, h2⟩ := h.row
 have h3 : ∀ i, i < l.length → ∃ y : RRt, rq y = l.getD i 0 ∧ (∃ us : List Value, us.length = 3 ∧ (∀ (q : Nat) (u : Value), us[q]? = some u → cs[i * 3 + q]? = some u) ∧ RRc M w y us) ∧ ((∀ z ∈ y.2.1, z < 4294967296) ∧ ∀ z ∈ y.2.2, z < 4294967296) ∧ y.2.1.length ≤ n ∧ y.2.2.length ≤ n := fun i hi => by
  obtain ⟨us, k1, k2, s, a, d, e, g⟩ := h2 i _ (List.getElem?_eq_getElem hi)
  obtain ⟨xs, ds, g1, g2, g3, g4, g5⟩ := g.ex
  exact ⟨(s, xs, ds), by rw [List.getD_eq_getElem?_getD, List.getElem?_eq_getElem hi]; exact g5, ⟨us, k1, k2, a, d, e, g1, g2⟩, ⟨g1.lt, g2.lt⟩, g3, g4⟩
 haveI : Inhabited RRt := ⟨(false, [], [])⟩
 obtain ⟨Y, hY⟩ := Go.Deep.choose_lt h3
 refine ⟨(List.range l.length).map Y, ⟨cs, by simpa using h1, fun i p hp => ?_⟩, ?_, fun x hx => ?_, fun x hx => ?_⟩
 ·obtain ⟨hlt, rfl⟩ := List.getElem?_eq_some_iff.1 hp
  have hlt' : i < l.length := by simpa using hlt
  simpa using (hY i hlt').2.1
 ·apply List.ext_getElem
  ·simp
  ·intro i hi1 hi2
   have := (hY i hi2).1
   simp only [List.getElem_map, List.getElem_range]
   rw [this, List.getD_eq_getElem?_getD, List.getElem?_eq_getElem hi2]; rfl
 ·obtain ⟨i, hi, rfl⟩ := List.mem_map.1 hx
  exact (hY i (List.mem_range.1 hi)).2.2.1
 ·obtain ⟨i, hi, rfl⟩ := List.mem_map.1 hx
  exact (hY i (List.mem_range.1 hi)).2.2.2
theorem kradd {Ψ : PV} {n : Nat} {p q : Rat} [h : VQ Ψ n [p, q]] (hn : n ≤ 90000) : CTy prog 163 [Ψ] (ag (rtc (2 * n + 3) (p + q))) :=
 ⟨(bo func163), fun M w vs hM hT hv => by
  obtain ⟨v, rfl, h1⟩ := fa1 hv
  have hq := h.h h1
  obtain ⟨l0, g1, g2, g3, g4⟩ := ql_rats hq
  have hl : l0.length = 2 := by have := congrArg List.length g2; simpa using this
  obtain ⟨x, y, rfl⟩ : ∃ x y, l0 = [x, y] := by
   match l0, hl with
   | [x, y], _ => exact ⟨x, y, rfl⟩
  simp only [List.map_cons, List.map_nil, List.cons.injEq, and_true] at g2
  have e2 : cP [x, y] = p + q := by simp [cP, g2.1, g2.2, Rat.zero_add]
  have hx := dY (g3 x (by simp)).1 (g3 x (by simp)).2 (g4 x (by simp)).1 (g4 x (by simp)).2
  have hy := dY (g3 y (by simp)).1 (g3 y (by simp)).2 (g4 y (by simp)).1 (g4 y (by simp)).2
  rw [g2.1] at hx; rw [g2.2] at hy
  exact (radds_c hT g1 g3 g4 (by simp; omega) hM).mono fun r w' ⟨hB, a, d, e, k1, k2⟩ => ⟨hB, by rw [e2] at e k1 k2; exact e ▸ eL ⟨rfl, k1, k2, jP (kK hx hy) (by omega)⟩⟩⟩
theorem krmul {Ψ : PV} {n : Nat} {p q : Rat} [h : VQ Ψ n [p, q]] (hn : n ≤ 90000) : CTy prog 160 [Ψ] (ag (rtc (2 * n + 3) (p * q))) :=
 ⟨(bo func160), fun M w vs hM hT hv => by
  obtain ⟨v, rfl, h1⟩ := fa1 hv
  have hq := h.h h1
  obtain ⟨l0, g1, g2, g3, g4⟩ := ql_rats hq
  have hl : l0.length = 2 := by have := congrArg List.length g2; simpa using this
  obtain ⟨x, y, rfl⟩ : ∃ x y, l0 = [x, y] := by
   match l0, hl with
   | [x, y], _ => exact ⟨x, y, rfl⟩
  simp only [List.map_cons, List.map_nil, List.cons.injEq, and_true] at g2
  have e2 : aF [x, y] = p * q := by simp [aF, g2.1, g2.2, Rat.one_mul]
  have hx := dY (g3 x (by simp)).1 (g3 x (by simp)).2 (g4 x (by simp)).1 (g4 x (by simp)).2
  have hy := dY (g3 y (by simp)).1 (g3 y (by simp)).2 (g4 y (by simp)).1 (g4 y (by simp)).2
  rw [g2.1] at hx; rw [g2.2] at hy
  exact (rmuls_c hT g1 g3 g4 (by simp; omega) hM).mono fun r w' ⟨hB, a, d, e, k1, k2⟩ => ⟨hB, by rw [e2] at e k1 k2; exact e ▸ eL ⟨rfl, k1, k2, jP (bT hx hy) (by omega)⟩⟩⟩
section
variable {Ψ Φ : PV} {n m : Nat} {p q : Rat}
theorem krcmp [h : QR Ψ n p] [k : QR Φ m q] (hn : n ≤ 90000) (hm : m ≤ 90000) : CTy prog 78 [Ψ, Φ] (exP (.int .i64 (gD p q))) :=
 ⟨(bo func78), fun M w vs hM hT hv => by
  obtain ⟨v, u, rfl, h1, h2⟩ := fa2 hv
  obtain ⟨s, a, d, rfl, g1⟩ := h.h h1
  obtain ⟨t, b, e, rfl, g2⟩ := k.h h2
  exact eM hT g1 g2 hn hm hM⟩
theorem krsub [h : QR Ψ n p] [k : QR Φ m q] (hn : n ≤ 90000) (hm : m ≤ 90000) : CTy prog 98 [Ψ, Φ] (ag (rtc (n + m + 3) (p - q))) :=
 ⟨(bo func98), fun M w vs hM hT hv => by
  obtain ⟨v, u, rfl, h1, h2⟩ := fa2 hv
  obtain ⟨s, a, d, rfl, g1⟩ := h.h h1
  obtain ⟨t, b, e, rfl, g2⟩ := k.h h2
  exact (fX hT g1 g2 hn hm hM).mono fun r w' ⟨hB, x, y, z, e, g⟩ => ⟨hB, e ▸ eL g⟩⟩
theorem krquo [h : QR Ψ n p] [k : QR Φ m q] (hn : n ≤ 90000) (hm : m ≤ 90000) : CTy prog 94 [Ψ, Φ] (tu [ag (rtc (n + m + 3) (p / q)), exP (.int .i64 (if q = 0 then 30 else 0))]) :=
 ⟨(bo func94), fun M w vs hM hT hv => by
  obtain ⟨v, u, rfl, h1, h2⟩ := fa2 hv
  obtain ⟨s, a, d, rfl, g1⟩ := h.h h1
  obtain ⟨t, b, e, rfl, g2⟩ := k.h h2
  exact (rquo_q hT g1 g2 hn hm hM).mono fun r w' ⟨hB, x, y, z, e, g⟩ => ⟨hB, _, e, _, _, rfl, eL g, _, _, rfl, rfl, rfl⟩⟩
theorem krof {k : Nat} (hk : k < 9223372036854775808) : CTy prog 77 [exP (.int .i64 ((k : Nat) : Int))] (ag (rtc 2 ((k : Nat) : Rat))) :=
 ⟨(bo func77), fun M w vs hM hT hv => by
  obtain ⟨v, rfl, h1⟩ := fa1 hv
  obtain rfl : v = _ := h1
  exact (rofn_q hk hM).mono fun r w' ⟨hB, x, y, z, e, g⟩ => ⟨hB, e ▸ eL g⟩⟩
end
theorem pc_ret {M : Nat → Prop} {w : World} {n : Nat} {q : P2} {s : Bool} {a d : Value} {t : Bool} {b e : Value} (h : PC M w n q s a d t b e) : (ag (st [rtc n q.1, rtc n q.2])).p M w (.agg #[.bool s, a, d, .bool t, b, e]) := ⟨_, rfl, [.bool s, a, d], [.bool t, b, e], rfl, ⟨s, a, d, rfl, h.x⟩, [.bool t, b, e], [], rfl, ⟨t, b, e, rfl, h.y⟩, rfl⟩
theorem lO {k l : Nat} (hk : k < 9223372036854775808) (hl : l < 9223372036854775808) : CTy prog 85 [exP (.int .i64 ((k : Nat) : Int)), exP (.int .i64 ((l : Nat) : Int))] (ag (st [rtc 2 ((k : Nat) : Rat), rtc 2 ((l : Nat) : Rat)])) :=
 ⟨(bo func85), fun M w vs hM hT hv => by
  obtain ⟨v, u, rfl, h1, h2⟩ := fa2 hv
  obtain rfl : v = _ := h1
  obtain rfl : u = _ := h2
  exact (r8of_c hk hl hM).mono fun r w' ⟨hB, _, _, _, _, _, _, e, g⟩ => ⟨hB, e ▸ pc_ret g⟩⟩
theorem k7cmp {Ψ Φ : PV} {n m : Nat} {p q : Rat} [h : QR Ψ n p] [k : QR Φ m q] (hn : n ≤ 1990) (hm : m ≤ 1990) : CTy prog 33 [Ψ, Φ] (exP (.int .i64 (gD p q))) :=
 ⟨(bo func33), fun M w vs hM hT hv => by
  obtain ⟨v, u, rfl, h1, h2⟩ := fa2 hv
  obtain ⟨s, a, d, rfl, g1⟩ := h.h h1
  obtain ⟨t, b, e, rfl, g2⟩ := k.h h2
  exact r7cmp_c g1 g2 hn hm hM⟩
theorem iD {Ψ Φ : PV} {n m : Nat} {p q : Rat} [h : QR Ψ n p] [k : QR Φ m q] (hn : n ≤ 1990) (hm : m ≤ 1990) : CTy prog 58 [Ψ, Φ] (exP (.bool (decide (gD p q = 0)))) :=
 ⟨(bo func58), fun M w vs hM hT hv => by
  obtain ⟨v, u, rfl, h1, h2⟩ := fa2 hv
  obtain ⟨s, a, d, rfl, g1⟩ := h.h h1
  obtain ⟨t, b, e, rfl, g2⟩ := k.h h2
  exact r7same_c g1 g2 hn hm hM⟩
theorem omx {P : Program} {r : Option Nat} {N : Nat} {ops : Array Oper} {M : Nat → Prop} {S : List Ow} {p q1 q2 : Prop} {Γ : TE} {Ψ Φ : PV} {d : Nat} {x y : Operand} {ts : Array TypeId} {t' : TypeId} {pos : String} {af : Array Edge} {k : IntKind} {a b : Int}
  (hx : tv Γ x = some (q1, Ψ)) (hy : tv Γ y = some (q2, Φ)) [Im p q1] [Im p q2] [ha : VI Ψ k a] [hb : VI Φ k b] : Ob P r N ops M S p ⟨some d, .call ⟨.builtin .max, #[x, y], ts⟩, t', pos, af, none⟩ Γ (exP (.int k (max a b))) :=
 ob2 hx hy (by simp [Op.operands, Call.operands]) (by simp [Op.operands, Call.operands]) fun D E w u v hN _ e1 e2 h1 h2 => by rw [ha.h h1] at e1; rw [hb.h h2] at e2; exact kM hN e1 e2 (fin rfl)
theorem rise_y2 {a b : P2} (h : Tr (((decide (0 < gD a.1 b.1) || decide (0 < gD a.2 b.2)) || decide (gD a.1 b.1 + gD a.2 b.2 = 0)) = true)) : ¬ kL a b := by
 have h := h.h
 have h1 := cmpR_bnd a.1 b.1; have h2 := cmpR_bnd a.2 b.2
 simp only [Bool.or_eq_true, decide_eq_true_eq] at h
 rcases h with (h | h) | h
 ·exact rise_no1 h
 ·exact rise_no2 h
 ·by_cases c : 0 < gD a.1 b.1
  ·exact rise_no1 c
  ·by_cases c2 : 0 < gD a.2 b.2
   ·exact rise_no2 c2
   ·exact rise_no3 (by omega) (by omega)
theorem rise_n2 {a b : P2} (h : Tr (((decide (0 < gD a.1 b.1) || decide (0 < gD a.2 b.2)) || decide (gD a.1 b.1 + gD a.2 b.2 = 0)) = false)) : kL a b := by
 have h := h.h
 simp only [Bool.or_eq_false_iff, decide_eq_false_iff_not] at h
 exact rise_ok h.1.1 h.1.2 fun c => h.2 (by rw [c.1, c.2]; rfl)
theorem same_y {a b : P2} (h : Tr ((!decide (gD a.1 b.1 = 0) || !decide (gD a.2 b.2 = 0)) = true)) : a ≠ b := fun e => by
 have h := h.h
 subst e
 simp [gY] at h
theorem same_n {a b : P2} (h : Tr ((!decide (gD a.1 b.1 = 0) || !decide (gD a.2 b.2 = 0)) = false)) : a = b := by
 have h := h.h
 simp only [Bool.or_eq_false_iff, Bool.not_eq_false', decide_eq_true_eq, gY] at h
 exact Prod.ext h.1 h.2
set_option maxHeartbeats 4000000 in
theorem wlrises {l : List P2} {n : Nat} (hn : n ≤ 90000) (hlen : l.length ≤ 1000000) : CTy prog 64 [sv (sl 6 (l.map (ptq n)))] (exP (.bool (decide (fZ l)))) := by
 refine ct (rs := [2]) func64 rfl rfl rfl rfl rfl eK fun X => (yQ (xD rfl (t1 (oas rfl) (t0 (yQ (yQ (xD rfl ?_)))))))
 have hll : l.length ≤ 1000000 := hlen
 refine t1 (omv rfl) (t1 (oln rfl) (t1 (osb rfl rfl (by omega)) (t1 (omx rfl rfl) (t1 (omv rfl) (t0 (gW ?_))))))
 refine cL (σ := Nat) (fun s => [(0, True, sv (sl 6 (l.map (ptq n)))), (9, True, exP (.int .i64 (max (((l.length : Nat) : Int) - 1) 0))), (10, True, exP (.int .i64 ((s : Nat) : Int)))]) (fun s => []) (fun s => s ≤ l.length ∧ ∀ i, i < s → kL (l.getD i (0, 0)) (l.getD (i + 1) (0, 0))) (fun s => l.length - s) (0) (kJ (tc rfl (gR _) (tc rfl (gR _) (tc rfl (kH rfl) tn))) rfl) ⟨by omega, fun i hi => by omega⟩ (fun s hJ => ?_)
 obtain ⟨h1, h2⟩ := hJ
 refine yQ (xD rfl (t1 (olt rfl rfl) (t0 (yQ ?_))))
 refine aN rfl (fun c0 => ?_) (fun c0 => ?_)
 ·have hc : s + 1 < l.length := by have := dt c0; omega
  refine gV (yQ (gW (yQ (xD rfl (t1 (omv rfl) (t1 (oas rfl) (t0 ?_)))))))
  refine yQ (cM 26 mixed rfl rfl (d1 (omv rfl) (d1 (omv rfl) (d1 (oix s rfl rfl rfl (fun _ => rfl) (fun _ => by omega)) (d1 (ofa rfl rfl) (d1 (old rfl rfl) (d1 (omv rfl) ?_)))))))
  refine d1 (omv rfl) (d1 (oad rfl rfl (by omega)) (d1 (oix (s + 1) rfl rfl rfl (fun _ => by omega) (fun _ => by omega)) (d1 (ofa rfl rfl) (d1 (old rfl rfl) (d1 (oca rfl rfl fun _ => krcmp hn hn) (d1 (omv rfl) (d1 (omv rfl) ?_)))))))
  refine d1 (oix s rfl rfl rfl (fun _ => rfl) (fun _ => by omega)) (d1 (ofa rfl rfl) (d1 (old rfl rfl) (d1 (omv rfl) (d1 (omv rfl) (d1 (oad rfl rfl (by omega)) (d1 (oix (s + 1) rfl rfl rfl (fun _ => by omega) (fun _ => by omega)) (d1 (ofa rfl rfl) ?_)))))))
  refine d1 (old rfl rfl) (d1 (oca rfl rfl fun _ => krcmp hn hn) (d1 (oas rfl) (d1 (oas rfl) (d0 (t0 (yQ (xD rfl ?_)))))))
  refine t1 (omv rfl) (t1 (ogt rfl rfl) (t1 (omv rfl) (t1g rfl rfl (omv rfl) (t1g rfl rfl (ogt rfl rfl) (t1 (opk rfl rfl rfl) (t1 (omv rfl) (t1g rfl rfl (omv rfl) ?_)))))))
  refine t1g rfl rfl (omv rfl) (t1g rfl rfl (oad rfl rfl (by have := cmpR_bnd (l.getD s Df.d).1 (l.getD (s + 1) Df.d).1; have := cmpR_bnd (l.getD s Df.d).2 (l.getD (s + 1) Df.d).2; omega)) (t1g rfl rfl (oeq rfl rfl) (t1 (opk rfl rfl rfl) (t0 ?_))))
  refine aN rfl (fun c1 => ?_) (fun c1 => ?_)
  ·refine yQ ?_
   refine xD rfl (t1 (oas rfl) (t0 (qR ?_)))
   exact tr1 rfl (psb (Eq.symm (rise_not (s := s) hc (rise_y2 c1))))
  ·refine gV ?_
   refine xD rfl (t1 (oad rfl rfl (by omega)) (t1 (omv rfl) (t0 ?_)))
   exact ⟨s + 1, kJ (tc rfl (gR _) (tc rfl (gR _) (tc rfl (kH (by omega)) tn))) rfl, ⟨by omega, fun i hi => by
    rcases Nat.lt_or_ge i s with c | c
    ·exact h2 i c
    ·obtain rfl : i = s := by omega
     exact rise_n2 c1⟩, by omega⟩
 ·have hc := df c0
  refine bN (yQ (xD rfl (t1 (oas rfl) (t0 (qR ?_)))))
  exact tr1 rfl (psb (Eq.symm (decide_eq_true fun i hi => h2 i (by omega))))
set_option maxHeartbeats 4000000 in
theorem w23same {l m : List P2} {n k : Nat} (hn : n ≤ 1990) (hm : k ≤ 1990) : CTy prog 105 [sv (sl 6 (l.map (ptq n))), sv (sl 6 (m.map (ptq k)))] (exP (.bool (decide (l = m)))) := by
 refine ct (rs := [4]) func105 rfl rfl rfl rfl rfl eK fun X => (yQ (xD rfl (t1 (oas rfl) (t0 (yQ (yQ (xD rfl ?_)))))))
 refine t1 (omv rfl) (t1 (oln rfl) (t1 (omv rfl) (t1 (oln rfl) (t1 (oni rfl rfl) (t0 ?_)))))
 refine aN rfl (fun c0 => ?_) (fun c0 => ?_)
 ·refine yQ ?_
  refine xD rfl (t1 (oas rfl) (t0 (qR ?_)))
  exact tr1 rfl (psb (Eq.symm (decide_eq_false fun e => (dt c0) (by rw [e]))))
 ·have hlm : l.length = m.length := by have := df c0; omega
  refine gV (yQ (yQ (xD rfl (t1 (oas rfl) (t0 (gW (t_len 0 rfl fun hll => ?_)))))))
  rw [List.length_map] at hll
  refine cL (σ := Nat) (fun s => [(0, True, sv (sl 6 (l.map (ptq n)))), (1, True, sv (sl 6 (m.map (ptq k)))), (5, True, exP (.int .i64 ((s : Nat) : Int)))]) (fun s => []) (fun s => s ≤ l.length ∧ l.take s = m.take s) (fun s => l.length - s) (0) (kJ (tc rfl (gR _) (tc rfl (gR _) (tc rfl (kH rfl) tn))) rfl) ⟨by omega, by simp⟩ (fun s hJ => ?_)
  obtain ⟨h1, h2⟩ := hJ
  refine yQ (yQ (xD rfl (t1 (omv rfl) (t1 (omv rfl) (t1 (oln rfl) (t1 (olt rfl rfl) (t0 ?_)))))))
  refine aN rfl (fun c1 => ?_) (fun c1 => ?_)
  ·have hc := dt c1
   refine gV (yQ (gW (yQ (cM 26 mixed rfl rfl (d1 (omv rfl) (d1 (omv rfl) (d1 (oix s rfl rfl rfl (fun _ => rfl) (fun _ => by omega)) ?_)))))))
   refine d1 (ofa rfl rfl) (d1 (old rfl rfl) (d1 (omv rfl) (d1 (omv rfl) (d1 (oix s rfl rfl rfl (fun _ => rfl) (fun _ => by omega)) (d1 (ofa rfl rfl) (d1 (old rfl rfl) (d1 (oca rfl rfl fun _ => iD hn hm) ?_)))))))
   refine d1 (ont rfl) (d1 (omv rfl) (d1g rfl rfl (omv rfl) (d1g rfl rfl (omv rfl) (d1g rfl rfl (oix s rfl rfl rfl (fun g => rfl) (fun g => by omega)) (d1g rfl rfl (ofa rfl rfl) (d1g rfl rfl (old rfl rfl) (d1g rfl rfl (omv rfl) ?_)))))))
   refine d1g rfl rfl (omv rfl) (d1g rfl rfl (oix s rfl rfl rfl (fun g => rfl) (fun g => by omega)) (d1g rfl rfl (ofa rfl rfl) (d1g rfl rfl (old rfl rfl) (d1g rfl rfl (oca rfl rfl fun g => iD hn hm) (d1g rfl rfl (ont rfl) (d1 (opk rfl rfl rfl) (d0 ?_)))))))
   refine t0 ?_
   refine aN rfl (fun c2 => ?_) (fun c2 => ?_)
   ·have hne : l.getD s Df.d ≠ m.getD s Df.d := same_y c2
    refine yQ (xD rfl (t1 (oas rfl) (t0 (qR ?_))))
    exact tr1 rfl (psb (Eq.symm (decide_eq_false (getD_ne hne))))
   ·have heq : l.getD s Df.d = m.getD s Df.d := same_n c2
    refine gV (xD rfl (t1 (omv rfl) (t1 (oad rfl rfl (by omega)) (t1 (oas rfl) (t0 ?_)))))
    exact ⟨s + 1, kJ (tc rfl (gR _) (tc rfl (gR _) (tc rfl (kH (by omega)) tn))) rfl, ⟨by omega, take_eq_step (by omega) (by omega) h2 heq⟩, by omega⟩
  ·have hc := df c1
   refine bN (yQ (xD rfl (t1 (oas rfl) (t0 (qR ?_)))))
   exact tr1 rfl (psb (Eq.symm (decide_eq_true (take_eq_all hlm (by rw [show s = l.length by omega] at h2; exact h2)))))
theorem omn {P : Program} {r : Option Nat} {N : Nat} {ops : Array Oper} {M : Nat → Prop} {S : List Ow} {p q1 q2 : Prop} {Γ : TE} {Ψ Φ : PV} {d : Nat} {x y : Operand} {ts : Array TypeId} {t' : TypeId} {pos : String} {af : Array Edge} {k : IntKind} {a b : Int}
  (hx : tv Γ x = some (q1, Ψ)) (hy : tv Γ y = some (q2, Φ)) [Im p q1] [Im p q2] [ha : VI Ψ k a] [hb : VI Φ k b] : Ob P r N ops M S p ⟨some d, .call ⟨.builtin .min, #[x, y], ts⟩, t', pos, af, none⟩ Γ (exP (.int k (min a b))) :=
 ob2 hx hy (by simp [Op.operands, Call.operands]) (by simp [Op.operands, Call.operands]) fun D E w u v hN _ e1 e2 h1 h2 => by
  rw [ha.h h1] at e1; rw [hb.h h2] at e2
  refine xT hN (by intro c hc; cases hc) (fun ac ha => ?_) (fin rfl)
  have e : (Builtin.min_ ts t' #[.int k a, .int k b]).run P w = .ok (.int k (min a b)) w := by
   have : (if b < a then b else a) = min a b := by split <;> omega
   rw [← this]; rfl
  simp only [execOp, resolve, invoke, builtin, Sem.run_bind, Sem.run_pure, Result.andThen, List.map_toArray, List.map_cons, List.map_nil, ha.ev e1, ha.ev e2]
  rw [e]
instance dfL : Df (N2 × Rat) := ⟨((0, 0), 0)⟩
abbrev rlq (x : N2 × Rat) : CT := rtl x.1 x.2
theorem sumM_at {l : List (N2 × Rat)} {s : Nat} (h : s < l.length) : iP (l.map (·.1)) (s + 1) = iP (l.map (·.1)) s + min ((l.getD s Df.d).1.1 + (l.getD s Df.d).1.2) 1000 := by
 rw [iP]
 simp [List.getD_eq_getElem?_getD, List.getElem?_eq_getElem h]
theorem getD_in {α : Type} [Df α] {l : List α} {s : Nat} (h : s < l.length) : l.getD s Df.d ∈ l := by rw [List.getD_eq_getElem?_getD, List.getElem?_eq_getElem h]; exact List.getElem_mem h
set_option maxHeartbeats 4000000 in
theorem w7great {l : List (N2 × Rat)} (hb : ∀ x ∈ l.map (·.1), x.1 + x.2 ≤ 1000000000000000000) : CTy prog 45 [sv (sl 3 (l.map rlq))] (exP (.bool (iE (l.map (·.1))))) := by
 refine ct (rs := [2]) func45 rfl rfl rfl rfl rfl eK fun X => (yQ (xD rfl (t1 (oas rfl) (t0 (yQ (xD rfl (t1 (oas rfl) ?_)))))))
 refine t0 (yQ (yQ (xD rfl (t1 (oas rfl) (t0 (gW ?_))))))
 refine cL (σ := Nat) (fun s => [(0, True, sv (sl 3 (l.map rlq))), (3, True, exP (.int .i64 ((iP (l.map (·.1)) s : Nat) : Int))), (4, True, exP (.int .i64 ((s : Nat) : Int)))]) (fun s => []) (fun s => s ≤ l.length ∧ s ≤ 61) (fun s => l.length - s) (0) (kJ (tc rfl (gR _) (tc rfl (kH rfl) (tc rfl (kH rfl) tn))) rfl) ⟨by omega, by omega⟩ (fun s hJ => ?_)
 obtain ⟨h1, h2⟩ := hJ
 have hsm := sumM_le (l.map (·.1)) s
 refine yQ (yQ (xD rfl (t1 (omv rfl) (t1 (omv rfl) (t1 (oln rfl) (t1 (olt rfl rfl) (t1 (omv rfl) ?_)))))))
 refine t1g rfl rfl (omv rfl) (t1g rfl rfl (ole rfl rfl) (t1 (opk rfl rfl rfl) (t0 ?_)))
 refine aN rfl (fun c0 => ?_) (fun c0 => ?_)
 ·have hc := dand c0
  have hbs := hb _ (List.mem_map_of_mem (getD_in (l := l) (s := s) (by omega)))
  refine gV (yQ (gW (cM 18 mixed rfl rfl (d1 (omv rfl) (d1 (omv rfl) (d1 (omv rfl) (d1 (oix s rfl rfl rfl (fun _ => rfl) (fun _ => by omega)) ?_)))))))
  refine d1 (ofx rfl) (d1 (ofx rfl) (d1 (old rfl rfl) (d1 (oll rfl) (d1 (omv rfl) (d1 (omv rfl) (d1 (oix s rfl rfl rfl (fun _ => rfl) (fun _ => by omega)) (d1 (ofx rfl) ?_)))))))
  refine d1 (old rfl rfl) (d1 (oll rfl) (d1 (oad rfl rfl (by omega)) (d1 (omn rfl rfl) (d1 (oad rfl rfl (by omega)) (d1 (oas rfl) (d0 (t0 ?_)))))))
  refine xD rfl (t1 (omv rfl) (t1 (oad rfl rfl (by omega)) (t1 (oas rfl) (t0 ?_))))
  exact ⟨s + 1, kJ (tc rfl (gR _) (tc rfl (kH (by rw [sumM_at (by omega)]; omega)) (tc rfl (kH (by omega)) tn))) rfl, ⟨by omega, by omega⟩, by omega⟩
 ·have hc := dor c0
  refine bN (yQ (xD rfl (t1 (omv rfl) (t1 (oln rfl) (t1 (ogt rfl rfl) (t1 (omv rfl) (t1g rfl rfl (omv rfl) ?_)))))))
  refine t1g rfl rfl (ogt rfl rfl) (t1 (opk rfl rfl rfl) (t1 (oas rfl) (t0 (qR ?_))))
  exact tr1 rfl (psb (by
   unfold iE
   rw [Bool.eq_iff_iff]
   simp only [Bool.or_eq_true, decide_eq_true_eq, List.length_map]
   rcases Nat.lt_or_ge 60 l.length with c | c
   ·exact ⟨fun _ => .inl c, fun _ => .inl (by omega)⟩
   ·rw [show s = l.length by omega]; omega))
theorem k7great {l : List (N2 × Rat)} {ls : List N2} {cs : List CT} (e : ls = l.map (·.1)) (ec : cs = l.map rlq) (hb : ∀ x ∈ ls, x.1 + x.2 ≤ 1000000000000000000) : CTy prog 45 [sv (sl 3 cs)] (exP (.bool (iE ls))) := by
 subst e; subst ec; exact w7great hb
class QRR (Ψ : PV) (n : outParam Nat) (p : outParam Rat) (m : outParam Nat) (q : outParam Rat) : Prop where
 h : ∀ {M w v}, Ψ.p M w v → ∃ s a d t b e, v = .agg #[.bool s, a, d, .bool t, b, e] ∧ QC M w n p s a d ∧ QC M w m q t b e
instance {c d : CT} {n m : Nat} {p q : Rat} [h1 : CQ c n p] [h2 : CQ d m q] : QRR (ag (st [c, d])) n p m q := ⟨fun ⟨us, e1, x, y, e, k1, z, o, e2, k2, e3⟩ => by
 obtain ⟨s, a, d, rfl, g1⟩ := h1.h k1
 obtain ⟨t, b, f, rfl, g2⟩ := h2.h k2
 obtain rfl : o = [] := e3
 exact ⟨s, a, d, t, b, f, by rw [e1, e, e2]; rfl, g1, g2⟩⟩
theorem gT {k : Nat} (hk : k < 9223372036854775808) : CTy prog 48 [exP (.int .i64 ((k : Nat) : Int))] (ag (rtc 2 ((k : Nat) : Rat))) :=
 ⟨(bo func48), fun M w vs hM hT hv => by
  obtain ⟨v, rfl, h1⟩ := fa1 hv
  obtain rfl : v = _ := h1
  exact (l23whole_c hk hM).mono fun r w' ⟨hB, x, y, z, e, g⟩ => ⟨hB, e ▸ eL g⟩⟩
theorem rlen_sub2 {p q : Rat} {A B : Nat} (h1 : gO p A) (h2 : gO q B) : gO (p - q) (A + B + 1) := by
 rw [Rat.sub_eq_add_neg]; exact kK h1 (rlen_neg h2)
theorem rlen_height {lo hi x : Rat} {l : P2} {a b c e : Nat} (h1 : gO lo a) (h2 : gO hi b) (h3 : gO x c) (h4 : gO l.1 e) (h5 : gO l.2 e) (h : lo < hi) : gO (aD l (dB lo hi x)) (2 * a + b + c + 3 * e + 5) := by
 unfold aD dB
 rw [if_pos h]
 exact jP (kK h4 (bT (rlen_quo (rlen_sub2 h3 h1) (rlen_sub2 h2 h1)) (rlen_sub2 h5 h4))) (by omega)
theorem PL.rl {M : Nat → Prop} {w : World} {n : Nat} {l : List P2} {v : Value} (h : PL M w n l v) : ∀ x ∈ l, gO x.1 (n + 1) ∧ gO x.2 (n + 1) := fun x hx => by
 obtain ⟨cs, h1, h2⟩ := h.row
 obtain ⟨i, hi, rfl⟩ := List.mem_iff_getElem.1 hx
 obtain ⟨us, h3, h4, s, a, d, t, b, e, e0, g⟩ := h2 i _ (List.getElem?_eq_getElem hi)
 exact ⟨g.x.rlen, g.y.rlen⟩
theorem iW {n m : Nat} {p q : Rat} (h : n ≤ m) (e : p = q) : PSub (ag (rtc n p)) (ag (rtc m q)) := fun _ _ _ ⟨us, e1, s, a, d, e2, g⟩ => ⟨us, e1, s, a, d, e2, by subst e; exact g.up h⟩
theorem one_c {Ψ ρ : PV} (h : PSub Ψ ρ) : ∀ M w vs, Fa [Ψ] M w vs → ρ.p M w (xI vs) := fun M w vs ⟨v, us, e, h1, h2⟩ => by
 subst e; rw [show us = [] from h2]; exact h _ _ _ h1
theorem iU {Ψ Φ ρ σ : PV} (h : PSub Ψ ρ) (k : PSub Φ σ) : ∀ M w vs, Fa [Ψ, Φ] M w vs → (tu [ρ, σ]).p M w (xI vs) := fun M w vs ⟨v, us, e, h1, u, us2, e2, h2, e3⟩ => by
 subst e; subst e2; rw [show us2 = [] from e3]; exact ⟨[v, u], rfl, v, _, rfl, h _ _ _ h1, u, _, rfl, k _ _ _ h2, rfl⟩
theorem tup_r {ρ σ : PV} : ∀ M w vs, Fa [ρ, σ] M w vs → (tu [ρ, σ]).p M w (xI vs) := iU (PSub.refl _) (PSub.refl _)
theorem tr2 {t u : Nat} {q q' : Prop} {Ψ Φ ρ σ : PV} {Γ : TE} {S : List Ow} (h : tv Γ (.tmp t) = some (q, Ψ)) (k : tv Γ (.tmp u) = some (q', Φ)) [hq : Tr q] [hq' : Tr q'] (hs : PSub Ψ ρ) (hs' : PSub Φ σ) : TR [t, u] [ρ, σ] Γ S :=
 ⟨q ∧ q' ∧ True, [Ψ, Φ], by show tvs Γ [.tmp t, .tmp u] = _; unfold tvs tvs; rw [h, k]; rfl, ⟨hq.h, hq'.h, trivial⟩, fun M w vs ⟨v, us, e, h1, u, us2, e2, h2, e3⟩ => ⟨v, us, e, hs _ _ _ h1, u, us2, e2, hs' _ _ _ h2, e3⟩⟩
theorem hsL_take {lo hi x : Rat} {l : List P2} {s : Nat} (h : s < l.length) : hsL lo hi x (l.take (s + 1)) = hsL lo hi x (l.take s) ++ [aD (l.getD s (0, 0)) (dB lo hi x)] := by
 rw [(gZ ((0, 0) : P2) h).1]; unfold hsL; simp
theorem geF {p q : Rat} (h : Tr (decide (0 ≤ gD p q) = false)) : p < q := by have := of_decide_eq_false h.h; rw [bM] at this; grind
theorem geT {p q : Rat} (h : Tr (decide (0 ≤ gD p q) = true)) : ¬ p < q := by have := of_decide_eq_true h.h; rw [bM] at this; grind
theorem fd_lt {p q : Rat} (h : Tr (decide (gD p q < 0) = true)) : p < q := (eF).1 (of_decide_eq_true h.h)
theorem fd_nlt {p q : Rat} (h : Tr (decide (gD p q < 0) = false)) : ¬ p < q := fun c => of_decide_eq_false h.h ((eF).2 c)
theorem fd_e {p q : Rat} (h : Tr (decide (gD p q = 0) = true)) : p = q := gY.1 (of_decide_eq_true h.h)
theorem fd_n {p q : Rat} (h : Tr (decide (gD p q = 0) = false)) : p ≠ q := fun c => of_decide_eq_false h.h (gY.2 c)
theorem fd_ne {ys : List Rat} {y : Rat} {s : Nat} (h : ∀ i, i < s → ys.getD i 0 ≠ y) (k : ys.getD s 0 ≠ y) : ∀ i, i < s + 1 → ys.getD i 0 ≠ y := fun i hi => by
 rcases Nat.lt_or_ge i s with c | c
 ·exact h i c
 ·obtain rfl : i = s := by omega
  exact k
set_option maxHeartbeats 4000000 in
theorem wlpart {lo hi x : Rat} {a b c : Nat} (ha : a ≤ 20000) (hb : b ≤ 20000) (hc : c ≤ 20000) : CTy prog 117 [ag (rtq a lo), ag (rtq b hi), ag (rtq c x)] (tu [ag (rtc (2 * a + b + c + 9) (dB lo hi x)), exP (.bool (decide (lo < hi)))]) := by
 refine ctc func117 rfl rfl rfl rfl fun X => (yQ (xD rfl (t1 (obx rfl) (t1 (obx rfl) (t1 (obx rfl) ?_)))))
 refine tal fun b6 => ?_
 refine t1 (oas rfl) (t0 (yQ (yQ (xD rfl (t1 (old rfl rfl) (t1 (old rfl rfl) (t1 (oca rfl rfl fun _ => krcmp (by omega) (by omega)) ?_)))))))
 refine t1 (oge rfl rfl) (t0 ?_)
 refine aN rfl (fun c0 => ?_) (fun c0 => ?_)
 ·refine yQ ?_
  refine xD rfl (t1 (oca rfl rfl fun _ => krof (k := 0) (by omega)) (tst 0 rfl rfl rfl rfl rfl rfl (t1 (oas rfl) (t0 (qR ?_)))))
  have hq := geT c0
  exact ⟨[_, _], rsc 0 rfl rfl rfl rfl (rst rfl rs0), iU (iW (by omega) (by unfold dB; rw [if_neg hq]; rfl)) (psb (Eq.symm (decide_eq_false hq)))⟩
 ·refine gV ?_
  refine yQ ?_
  apply t_drawS 1 12 11 [(10, 8, 0), (11, 1000011, 0)] rfl rfl mixed rfl rfl rfl
  refine cx1 (old rfl rfl) rfl (cx1 (old rfl rfl) rfl (cx1 (oca rfl rfl fun _ => krsub (by omega) (by omega)) rfl (cx1 (old rfl rfl) rfl (cx1 (old rfl rfl) rfl (cx1 (oca rfl rfl fun _ => krsub (by omega) (by omega)) rfl (cx1 (oca rfl rfl fun _ => krquo (by omega) (by omega)) rfl (cx1 (omv rfl) rfl ?_)))))))
  refine cx1 (oex rfl rfl) rfl (cx1 (oex rfl rfl) rfl (cN rfl rfl (cal) (cS rfl rfl rfl (cst rfl rfl rfl) ?_)))
  refine cE (fun b8 => ?_)
  refine t1 (oas rfl) (t0 (yQ (xD rfl (t1 (iG 0 rfl rfl rfl rfl) (tst 1 rfl rfl rfl rfl rfl rfl (t1 (oas rfl) (t0 ?_)))))))
  refine qR ?_
  have hq := geF c0
  exact ⟨[_, _], rsc 1 rfl rfl rfl rfl (rst rfl rs0), iU (iW (by omega) (by unfold dB; rw [if_pos hq])) (psb (Eq.symm (decide_eq_true hq)))⟩
set_option maxHeartbeats 4000000 in
theorem wlheight {l : P2} {t : Rat} {n m : Nat} (hn : n ≤ 10000) (hm : m ≤ 10000) : CTy prog 118 [ag (ptq n l), ag (rtq m t)] (ag (rtc (8 * n + 4 * m + 30) (aD l t))) := by
 refine ctc func118 rfl rfl rfl rfl fun X => (yQ (xD rfl (t1 (obx rfl) (t1 (obx rfl) ?_))))
 refine tal fun b4 => ?_
 refine t0 (yQ (cM 12 mixed rfl rfl (d1 (ofa rfl rfl) (d1 (old rfl rfl) (d1 (old rfl rfl) (d1 (ofa rfl rfl) (d1 (old rfl rfl) ?_)))))))
 refine d1 (ofa rfl rfl) (d1 (old rfl rfl) (d1 (oca rfl rfl fun _ => krsub (by omega) (by omega)) (d1 (obs rfl rfl rfl rfl rfl rfl) (d1 (oca rfl rfl fun _ => krmul (by omega)) (d1 (obs rfl rfl rfl rfl rfl rfl) (d1 (oca rfl rfl fun _ => kradd (by omega)) (d0 ?_)))))))
 refine tst 0 rfl rfl rfl rfl rfl rfl (t0 (qR ?_))
 exact ⟨[_], rsc 0 rfl rfl rfl rfl rs0, one_c (iW (by omega) rfl)⟩
theorem klheight {Ψ Φ : PV} {l : P2} {t : Rat} {n m : Nat} [QP Ψ n l] [QR Φ m t] (hn : n ≤ 10000) (hm : m ≤ 10000) : CTy prog 118 [Ψ, Φ] (ag (rtc (8 * n + 4 * m + 30) (aD l t))) := iM (wlheight hn hm) (fs1 qp_q (fs1 fR fs0))
set_option maxHeartbeats 4000000 in
theorem wlHeight {l : P2} {lo hi x : Rat} {n a b c : Nat} (hn : n ≤ 2000) (ha : a ≤ 2000) (hb : b ≤ 2000) (hc : c ≤ 2000) : CTy prog 104 [ag (ptq n l), ag (rtq a lo), ag (rtq b hi), ag (rtq c x)] (tu [ag (rtc (8 * n + 4 * (2 * a + b + c + 9) + 30) (heightAt l lo hi x)), exP (.int .i64 (if lo < hi then 0 else 2))]) := by
 refine ctc func104 rfl rfl rfl rfl fun X => (yQ (xD rfl (t1 (obx rfl) (t1 (obx rfl) (t1 (obx rfl) (t1 (obx rfl) ?_))))))
 refine tal fun b8 => ?_
 refine t1 (oas rfl) (t0 (yQ (xD rfl (t1 (old rfl rfl) (t1 (old rfl rfl) (t1 (old rfl rfl) (t1 (oca rfl rfl fun _ => wlpart (by omega) (by omega) (by omega)) ?_)))))))
 refine t1 (omv rfl) (t1 (oex rfl rfl) (t1 (oex rfl rfl) ?_))
 refine tal fun b10 => ?_
 refine tst 0 rfl rfl rfl rfl rfl rfl (t1 (oas rfl) (t0 (yQ (yQ (xD rfl (t1 (omv rfl) (t1 (ont rfl) ?_)))))))
 refine t0 ?_
 refine aN rfl (fun c0 => ?_) (fun c0 => ?_)
 ·refine yQ ?_
  refine xD rfl (t1 (oca rfl rfl fun _ => krof (k := 0) (by omega)) (tst 1 rfl rfl rfl rfl rfl rfl (t1 (oas rfl) (t0 (qR ?_)))))
  have hq : ¬ lo < hi := bn_t c0
  exact ⟨[_, _], rsc 1 rfl rfl rfl rfl (rst rfl rs0), iU (iW (by omega) (by unfold heightAt; rw [if_neg hq]; rfl)) (kH (by rw [if_neg hq]))⟩
 ·refine gV ?_
  refine yQ (xD rfl (t1 (old rfl rfl) (t1 (iG 0 rfl rfl rfl rfl) (t1 (oca rfl rfl fun _ => klheight (by omega) (by omega)) (tst 1 rfl rfl rfl rfl rfl rfl (t1 (oas rfl) (t0 ?_)))))))
  refine qR ?_
  have hq : lo < hi := bn_f c0
  exact ⟨[_, _], rsc 1 rfl rfl rfl rfl (rst rfl rs0), iU (iW (by omega) (by unfold heightAt; rw [if_pos hq])) (kH (by rw [if_pos hq]))⟩
theorem klHeight {Ψ Φ Θ Ξ : PV} {l : P2} {lo hi x : Rat} {n a b c : Nat} [QP Ψ n l] [QR Φ a lo] [QR Θ b hi] [QR Ξ c x] (hn : n ≤ 2000) (ha : a ≤ 2000) (hb : b ≤ 2000) (hc : c ≤ 2000) : CTy prog 104 [Ψ, Φ, Θ, Ξ] (tu [ag (rtc (8 * n + 4 * (2 * a + b + c + 9) + 30) (heightAt l lo hi x)), exP (.int .i64 (if lo < hi then 0 else 2))]) := iM (wlHeight hn ha hb hc) (fs1 qp_q (fs1 fR (fs1 fR (fs1 fR fs0))))
set_option maxHeartbeats 4000000 in
theorem wlheights {l : List P2} {lo hi x : Rat} {n a b c : Nat} (hn : n ≤ 1000) (ha : a ≤ 1000) (hb : b ≤ 1000) (hc : c ≤ 1000) (hlen : l.length ≤ 1000000) (hq : lo < hi) : CTy prog 57 [ag (rtq a lo), ag (rtq b hi), ag (rtq c x), sv (sl 6 (l.map (ptq n)))] (sv (sl 3 ((hsL lo hi x l).map (rtc (8 * n + 4 * (2 * a + b + c + 9) + 30))))) := by
 refine ct (rs := [8]) func57 rfl rfl rfl rfl rfl eK fun X => (yQ (xD rfl (t1 (obx rfl) (t1 (obx rfl) (t1 (obx rfl) (t1 (oas rfl) (t0 ?_)))))))
 refine yQ (xD rfl (t1 (old rfl rfl) (t1 (old rfl rfl) (t1 (old rfl rfl) (t1 (oca rfl rfl fun _ => wlpart (by omega) (by omega) (by omega)) (t1 (omv rfl) (t1 (oex rfl rfl) ?_)))))))
 refine t1 (oex rfl rfl) ?_
 refine tal fun b9 => ?_
 refine tst 0 rfl rfl rfl rfl rfl rfl (t1 (oas rfl) (t0 (yQ (yQ (xD rfl (t1 (omv rfl) (t1 (ont rfl) ?_)))))))
 refine t0 ?_
 refine aN rfl (fun c0 => ?_) (fun c0 => ?_)
 ·exact (bn_t c0 hq).elim
 ·refine gV ?_
  refine yQ (yQ (xD rfl (t1 (omv rfl) (t1 (oln rfl) (t1 (omv rfl) (t0 (gW ?_)))))))
  refine fF (ts_nil 33 3) ?_
  refine cL (σ := Nat × Value) (fun z => [(8, True, exP z.2), (9, True, exP (.pointer (some ⟨b9, 0, none⟩))), (22, True, sv (sl 6 (l.map (ptq n)))), (23, True, exP (.int .i64 ((l.length : Nat) : Int))), (24, True, exP (.int .i64 ((z.1 : Nat) : Int)))]) (fun z => [.row z.2 33 3 ((hsL lo hi x (l.take z.1)).map (rtc (8 * n + 4 * (2 * a + b + c + 9) + 30))), .blk b9 33 [rtc (2 * a + b + c + 9) (dB lo hi x)]]) (fun z => z.1 ≤ l.length) (fun z => l.length - z.1) ((0, .slice none 0 0)) (kJ (tc rfl (gR _) (tc rfl (gR _) (tc rfl (gR _) (tc rfl (kH (by simp)) (tc rfl (kH rfl) tn))))) rfl) (Nat.zero_le _) (fun z hJ => ?_)
  obtain ⟨s, v8⟩ := z
  dsimp only at hJ ⊢
  refine yQ (xD rfl (t1 (olt rfl rfl) (t0 (yQ ?_))))
  refine aN rfl (fun c1 => ?_) (fun c1 => ?_)
  ·have hc1 : s < l.length := by have := dt c1; omega
   refine gV (yQ (gW (yQ (xD rfl (t1 (oix s rfl rfl rfl (fun _ => rfl) (fun _ => by omega)) (t1 (old rfl rfl) ?_))))))
   refine tal fun b12 => ?_
   refine tst 0 rfl rfl rfl rfl rfl rfl (t0 (xD rfl (t1 (omv rfl) (t1 (iG 0 rfl rfl rfl rfl) (t1 (iG 2 rfl rfl rfl rfl) (t1 (oca rfl rfl fun _ => klheight (by omega) (by omega)) (t1 (obs rfl rfl rfl rfl rfl rfl) ?_)))))))
   refine tap 1 rfl rfl rfl (by simp [hsL]; omega) rfl fun r33 => ?_
   refine t1 (oas rfl) (t0 (fF (ts_sub (List.sublist_cons_self _ _)) (xD rfl (t1 (oad rfl rfl (by omega)) (t1 (omv rfl) (t0 ?_))))))
   exact ⟨(s + 1, r33), kJ (tc rfl (gR _) (tc rfl (gR _) (tc rfl (gR _) (tc rfl (gR _) (tc rfl (kH (by simp)) tn))))) (by rw [hsL_take hc1]; simp; rfl), (by dsimp only; omega), by dsimp only; omega⟩
  ·have hc1 := df c1
   refine fF (ts_frz 0 rfl (s := 8) rfl) ?_
   rw [show l.take s = l from List.take_of_length_le (by omega)]
   refine bN (yQ (xD rfl (t1 (omv rfl) (t1 (oas rfl) (t0 (qR ?_))))))
   exact tr1 rfl (gR _)
theorem klheights0 {Ψ Φ Θ Ξ : PV} {l : List P2} {lo hi x : Rat} {n a b c : Nat} [QR Ψ a lo] [QR Φ b hi] [QR Θ c x] [VPt Ξ n l] (hn : n ≤ 1000) (ha : a ≤ 1000) (hb : b ≤ 1000) (hc : c ≤ 1000) (hlen : l.length ≤ 1000000) (hq : lo < hi) : CTy prog 57 [Ψ, Φ, Θ, Ξ] (sv (sl 3 ((hsL lo hi x l).map (rtc (8 * n + 4 * (2 * a + b + c + 9) + 30))))) := iM (wlheights hn ha hb hc hlen hq) (fs1 fR (fs1 fR (fs1 fR (fs1 iK fs0))))
set_option maxHeartbeats 4000000 in
theorem wlfind {l : List P2} {lo hi x y : Rat} {n a b c d : Nat} (hn : n ≤ 300) (ha : a ≤ 300) (hb : b ≤ 300) (hc : c ≤ 300) (hd : d ≤ 19000) (hlen : l.length ≤ 1000000) (hq : lo < hi) : CTy prog 51 [ag (rtq a lo), ag (rtq b hi), ag (st [rtq c x, rtq d y]), sv (sl 6 (l.map (ptq n)))] (tu [exP (.int .i64 (findL lo hi (x, y) l).1), exP (.bool (findL lo hi (x, y) l).2)]) := by
 refine ct (rs := [8, 9]) func51 rfl rfl rfl rfl rfl tup_r fun X => (yQ (xD rfl (t1 (obx rfl) (t1 (obx rfl) (t1 (obx rfl) (t1 (oas rfl) (t1 (oas rfl) ?_)))))))
 refine t0 (t_scope (yQ (xD rfl (t1 (oas rfl) (t0 (yQ (t_label ?_)))))))
 refine yQ (yQ (xD rfl (t1 (old rfl rfl) (t1 (old rfl rfl) (t1 (ofa rfl rfl) (t1 (old rfl rfl) (t1 (omv rfl) ?_)))))))
 refine t1 (oca rfl rfl fun _ => klheights0 (by omega) (by omega) (by omega) (by omega) hlen hq) (t1 (oln rfl) (t1 (omv rfl) (t0 (gW ?_))))
 refine cL (σ := Nat) (fun s => [(6, True, pa (st [rtq c x, rtq d y])), (8, True, exP (.int .i64 (kR (hsL lo hi x l) y s - 1))), (9, True, exP (.bool false)), (18, True, sv (sl 3 ((hsL lo hi x l).map (rtc (8 * n + 4 * (2 * a + b + c + 9) + 30))))), (19, True, exP (.int .i64 (((hsL lo hi x l).length : Nat) : Int))), (20, True, exP (.int .i64 ((s : Nat) : Int)))]) (fun s => []) (fun s => s ≤ (hsL lo hi x l).length ∧ ∀ i, i < s → (hsL lo hi x l).getD i 0 ≠ y) (fun s => (hsL lo hi x l).length - s) (0) (kJ (tc rfl (gR _) (tc rfl (kH rfl) (tc rfl (gR _) (tc rfl (gR _) (tc rfl (kH (by simp)) (tc rfl (kH rfl) tn)))))) rfl) ⟨Nat.zero_le _, fun i hi => by omega⟩ (fun s hJ => ?_)
 obtain ⟨h1, h2⟩ := hJ
 have hyl := eV lo hi x l
 have hbb := belowY_bnd (hsL lo hi x l) y s
 refine yQ (xD rfl (t1 (olt rfl rfl) (t0 (yQ ?_))))
 refine aN rfl (fun c0 => ?_) (fun c0 => ?_)
 ·have hc1 : s < (hsL lo hi x l).length := by have := dt c0; omega
  refine gV (yQ (gW (yQ (xD rfl (t1 (omv rfl) (t1 (oix s rfl rfl rfl (fun _ => rfl) (fun _ => by omega)) (t1 (old rfl rfl) ?_)))))))
  refine tal fun b11 => ?_
  refine t1 (oas rfl) (tst 0 rfl rfl rfl rfl rfl rfl (t0 (yQ (xD rfl (t1 (iG 0 rfl rfl rfl rfl) (t1 (ofa rfl rfl) (t1 (old rfl rfl) ?_)))))))
  refine t1 (oca rfl rfl fun _ => krcmp (by omega) (by omega)) (t1 (oas rfl) (t0 (fF (ts_sub (List.sublist_cons_self _ _)) (gW (yQ (xD rfl (t1 (omv rfl) ?_)))))))
  refine t1 (oeq rfl rfl) (t1 (oas rfl) (t0 ?_))
  refine aN rfl (fun c1 => ?_) (fun c1 => ?_)
  ·refine yQ ?_
   refine xD rfl (t1 (omv rfl) (t1 (oas rfl) (t1 (oas rfl) (t0 (bN (yQ (xD rfl ?_)))))))
   refine t1 (omv rfl) (t1 (omv rfl) (t1 (oas rfl) (t1 (oas rfl) (t0 (qR ?_)))))
   have e := findY_hit hc1 h2 (fd_e c1)
   exact tr2 rfl rfl (kH (congrArg Prod.fst e).symm) (psb (congrArg Prod.snd e).symm)
  ·refine yQ ?_
   refine xD rfl (t1 (omv rfl) (t1 (olt rfl rfl) (t1 (oas rfl) (t0 ?_))))
   refine aN rfl (fun c2 => ?_) (fun c2 => ?_)
   ·refine xD rfl ?_
    refine t1 (omv rfl) (t1 (oad rfl rfl (by omega)) (t1 (oas rfl) (t0 (xD rfl (t1 (oad rfl rfl (by omega)) (t1 (omv rfl) (t0 ?_)))))))
    exact ⟨s + 1, kJ (tc rfl (gR _) (tc rfl (kH (below_yes (fd_lt c2)).symm) (tc rfl (gR _) (tc rfl (gR _) (tc rfl (gR _) (tc rfl (kH (by simp)) tn)))))) rfl, ⟨by omega, fd_ne h2 (fd_n c1)⟩, by omega⟩
   ·refine gV ?_
    refine xD rfl (t1 (oad rfl rfl (by omega)) (t1 (omv rfl) (t0 ?_)))
    exact ⟨s + 1, kJ (tc rfl (gR _) (tc rfl (kH (below_no (fd_nlt c2)).symm) (tc rfl (gR _) (tc rfl (gR _) (tc rfl (gR _) (tc rfl (kH (by simp)) tn)))))) rfl, ⟨by omega, fd_ne h2 (fd_n c1)⟩, by omega⟩
 ·have hc1 := df c0
  refine bN (yQ (xD rfl (t1 (omv rfl) (t1 (omv rfl) (t1 (oas rfl) (t1 (oas rfl) (t0 ?_)))))))
  refine qR ?_
  have e := findY_miss (y := y) (ys := hsL lo hi x l) (fun i hi => h2 i (by omega))
  exact tr2 rfl rfl (kH (by rw [show s = (hsL lo hi x l).length by omega]; exact (congrArg Prod.fst e).symm)) (psb (congrArg Prod.snd e).symm)
instance {x : N4 × P2} : CP (ptl x) (m4 x.1) x.2 := ⟨fun h => by
 obtain ⟨s, a, d, t, b, e, k, g⟩ := CP.h (c := st [rtl (x.1.1, x.1.2.1) x.2.1, rtl (x.1.2.2.1, x.1.2.2.2) x.2.2]) h
 exact ⟨s, a, d, t, b, e, k, g.up (by unfold m4; omega)⟩⟩
class QB (Ψ : PV) (n : outParam Nat) (p : outParam P2) (m : outParam Nat) (q : outParam P2) : Prop where
 h : ∀ {M w v}, Ψ.p M w v → ∃ s a d t b e s2 a2 d2 t2 b2 e2, v = .agg #[.bool s, a, d, .bool t, b, e, .bool s2, a2, d2, .bool t2, b2, e2] ∧ PQ M w n p s a d t b e ∧ PQ M w m q s2 a2 d2 t2 b2 e2
instance {c d : CT} {n m : Nat} {p q : P2} [h1 : CP c n p] [h2 : CP d m q] : QB (ag (st [c, d])) n p m q := ⟨fun ⟨us, e, x, y, e1, k1, z, o, e2, k2, e3⟩ => by
 obtain ⟨s, a, d, t, b, f, rfl, g⟩ := h1.h k1
 obtain ⟨s2, a2, d2, t2, b2, f2, rfl, g2⟩ := h2.h k2
 obtain rfl : o = [] := e3
 exact ⟨s, a, d, t, b, f, s2, a2, d2, t2, b2, f2, by rw [e, e1, e2]; rfl, g, g2⟩⟩
class CsE (cs : List CT) (n : outParam Nat) (es : outParam (List (P2 × P2))) : Prop where
 h : ∀ c ∈ cs, c.sz = 12
 l : cs.length = es.length
 e : ∀ (i : Nat) (q : P2 × P2), es[i]? = some q → ∃ c, cs[i]? = some c ∧ ∀ {M w us}, c.p M w us → RE n M w q us
theorem PQ.up2 {M : Nat → Prop} {w : World} {n m : Nat} {p : P2} {s t : Bool} {a d b e : Value} (h : PQ M w n p s a d t b e) (k : n ≤ m) : PQ M w m p s a d t b e := ⟨h.x.up k, h.y.up k⟩
theorem RE.up {n m : Nat} {M : Nat → Prop} {w : World} {q : P2 × P2} {us : List Value} (h : RE n M w q us) (k : n ≤ m) : RE m M w q us := by
 obtain ⟨s, a, d, t, b, e, s2, a2, d2, t2, b2, e2, h1, h2, h3⟩ := h
 exact ⟨s, a, d, t, b, e, s2, a2, d2, t2, b2, e2, h1, h2.up2 k, h3.up2 k⟩
theorem re_of {c d : CT} {n m : Nat} {p q : P2} [h1 : CP c n p] [h2 : CP d m q] {M : Nat → Prop} {w : World} {us : List Value} (h : (st [c, d]).p M w us) : RE (max n m) M w (p, q) us := by
 obtain ⟨x, y, e1, k1, z, o, e2, k2, e3⟩ := h
 obtain ⟨s, a, d, t, b, f, rfl, g⟩ := h1.h k1
 obtain ⟨s2, a2, d2, t2, b2, f2, rfl, g2⟩ := h2.h k2
 obtain rfl : o = [] := e3
 exact ⟨s, a, d, t, b, f, s2, a2, d2, t2, b2, f2, by rw [e1, e2]; rfl, g.up2 (by omega), g2.up2 (by omega)⟩
theorem csE_map {l : List (N8 × (P2 × P2))} {n : Nat} (h : ∀ x ∈ l, m4 x.1.1 ≤ n ∧ m4 x.1.2 ≤ n) : CsE (l.map edl) n (l.map (·.2)) :=
 ⟨fun c hc => by obtain ⟨x, _, rfl⟩ := List.mem_map.1 hc; rfl, by simp, fun i q hi => by
  rw [List.getElem?_map] at hi
  obtain ⟨x, hx, rfl⟩ := Option.map_eq_some_iff.1 hi
  have hb := h x (List.mem_of_getElem? hx)
  exact ⟨edl x, by rw [List.getElem?_map, hx]; rfl, fun k => (re_of (c := ptl (x.1.1, x.2.1)) (d := ptl (x.1.2, x.2.2)) k).up (Nat.max_le.2 hb)⟩⟩
theorem csE_app {A B : List CT} {a b : List (P2 × P2)} {n : Nat} (h1 : CsE A n a) (h2 : CsE B n b) : CsE (A ++ B) n (a ++ b) :=
 ⟨fun c hc => (List.mem_append.1 hc).elim (h1.h c) (h2.h c), by simp [h1.l, h2.l], fun i q hi => by
  rcases Nat.lt_or_ge i a.length with c | c
  ·rw [List.getElem?_append_left c] at hi
   obtain ⟨x, g1, g2⟩ := h1.e i q hi
   exact ⟨x, by rw [List.getElem?_append_left (by rw [h1.l]; exact c)]; exact g1, g2⟩
  ·rw [List.getElem?_append_right c] at hi
   obtain ⟨x, g1, g2⟩ := h2.e _ q hi
   exact ⟨x, by rw [List.getElem?_append_right (by rw [h1.l]; exact c), h1.l]; exact g1, g2⟩⟩
theorem csE_one {c d : CT} {n m N : Nat} {p q : P2} [h1 : CP c n p] [h2 : CP d m q] (hsz : c.sz + d.sz = 12) (hn : max n m ≤ N) : CsE [st [c, d]] N [(p, q)] :=
 ⟨fun x hx => by rw [List.mem_singleton.1 hx]; show c.sz + (d.sz + 0) = 12; omega, rfl, fun i r hi => by
  cases i with
  | zero => simp at hi; subst hi; exact ⟨_, rfl, fun k => (re_of k).up hn⟩
  | succ i => simp at hi⟩
class VE (Ψ : PV) (n : outParam Nat) (l : outParam (List (P2 × P2))) : Prop where
 h : ∀ {M w v}, Ψ.p M w v → EL M w n l v
instance {cs : List CT} {n : Nat} {l : List (P2 × P2)} [h : CsE cs n l] : VE (sv (sl 12 cs)) n l := ⟨fun k => ⟨row_each h.l h.h (fun i a ha => let ⟨c, g1, g2⟩ := h.e i a ha; ⟨c, g1, fun us hu => g2 hu⟩) k⟩⟩
noncomputable def lvOf (lo hi yl yh : Rat) (es : List (P2 × P2)) : List P2 := Classical.epsilon fun l => if lo < hi then IsLv lo hi yl yh es l else l = []
theorem lvOf_eq {lo hi yl yh : Rat} {es : List (P2 × P2)} {l : List P2} (h : if lo < hi then IsLv lo hi yl yh es l else l = []) : l = lvOf lo hi yl yh es := by
 have h2 := Classical.epsilon_spec (p := fun l => if lo < hi then IsLv lo hi yl yh es l else l = []) ⟨l, h⟩
 show l = Classical.epsilon _
 split at h
 ·rename_i c; simp only [if_pos c] at h2 ⊢; exact lv_uniq h h2
 ·rename_i c; simp only [if_neg c] at h2 ⊢; exact h.trans h2.symm
theorem rlen_heightP {a b : P2} {x : Rat} {A B : Nat} (ha : plen a A) (hb : plen b A) (hx : gO x B) : gO (cV a b x) (6 * A + B + 5) := by
 unfold cV
 split
 ·exact jP rlen_zero' (by omega)
 ·exact jP (ha.at_ hb (rlen_quo (rlen_sub hx ha.x) (rlen_sub hb.x ha.x))).y (by omega)
theorem thru_mem {lo hi : Rat} {es : List (P2 × P2)} {x : P2} : ∀ {s : Nat}, s ≤ es.length → (x ∈ qB lo hi es s ↔ ∃ e ∈ es.take s, eJ lo hi e ∧ x = dO lo hi e)
 | 0, _ => by simp [qB]
 | s + 1, h => by
  have hg : es.getD s ((0, 0), (0, 0)) = es[s] := by simp [List.getD_eq_getElem?_getD, List.getElem?_eq_getElem (show s < es.length by omega)]
  rw [qB, List.mem_append, thru_mem (s := s) (by omega), hg, List.take_succ_eq_append_getElem (show s < es.length by omega)]
  simp only [List.mem_append, List.mem_singleton]
  constructor
  ·rintro (⟨e, h1, h2⟩ | h1)
   ·exact ⟨e, .inl h1, h2⟩
   ·split at h1
    ·rename_i c; exact ⟨_, .inr rfl, c, List.mem_singleton.1 h1⟩
    ·cases h1
  ·rintro ⟨e, h1 | rfl, h2, h3⟩
   ·exact .inl ⟨e, h1, h2, h3⟩
   ·exact .inr (by rw [if_pos h2]; exact List.mem_singleton.2 h3)
theorem dI {lo hi : Rat} {es : List (P2 × P2)} {x : P2} : x ∈ qB lo hi es es.length ↔ ∃ e ∈ es, eJ lo hi e ∧ x = dO lo hi e := by
 rw [thru_mem (Nat.le_refl _), List.take_length]
theorem EL.pl {M : Nat → Prop} {w : World} {n : Nat} {l : List (P2 × P2)} {v : Value} (h : EL M w n l v) : ∀ x ∈ l, plen x.1 (n + 1) ∧ plen x.2 (n + 1) := fun x hx => by
 obtain ⟨cs, h1, h2⟩ := h.row
 obtain ⟨i, hi, rfl⟩ := List.mem_iff_getElem.1 hx
 obtain ⟨us, h3, h4, s, a, d, t, b, e, s2, a2, d2, t2, b2, e2, e0, g1, g2⟩ := h2 i _ (List.getElem?_eq_getElem hi)
 exact ⟨g1.plen (Nat.le_refl _), g2.plen (Nat.le_refl _)⟩
theorem klof {Ψ Φ Θ Ξ : PV} {n0 n1 n2 n3 n4 : Nat} {lo hi : Rat} {bl bh : P2} {es : List (P2 × P2)} [h1 : QR Ψ n1 lo] [h2 : QR Φ n2 hi] [h3 : QB Θ n3 bl n4 bh] [h0 : VE Ξ n0 es] (hl1 : n1 ≤ 40) (hl2 : n2 ≤ 40) (hl3 : n3 ≤ 6) (hl4 : n4 ≤ 6) (hl0 : n0 ≤ 40) (hlen : es.length ≤ 1000) :
  CTy prog 55 [Ψ, Φ, Θ, Ξ] (sv (sl 6 ((lvOf lo hi bl.2 bh.2 es).map (ptc 300)))) :=
 ⟨(bo func55), fun M w vs hM hT hv => by
  obtain ⟨v0, v1, v2, v3, rfl, k1, k2, k3, k0⟩ := fa4 hv
  obtain ⟨s1, a1, d1, rfl, g1⟩ := h1.h k1
  obtain ⟨s2, a2, d2, rfl, g2⟩ := h2.h k2
  obtain ⟨s3, a3, d3, t3, b3, e3, s4, a4, d4, t4, b4, e4, rfl, g3, g4⟩ := h3.h k3
  have g0 := h0.h k0
  refine (levelsof_c hT g1 g2 g3 g4 g0 (by omega) (by omega) (by omega) (by omega) (by omega) hlen hM).mono fun r w' ⟨hB, l, hl, g⟩ => ⟨hB, ?_⟩
  rw [← lvOf_eq hl]
  have hpl := g0.pl
  have hr : ∀ x ∈ l, plen x 300 := fun x hx => by
   by_cases c : lo < hi
   ·rw [if_pos c] at hl
    rcases List.mem_append.1 ((hl.mem x).1 hx) with h | h
    ·obtain ⟨e, he, _, rfl⟩ := dI.1 h
     have := hpl e he
     exact ⟨jP (rlen_heightP this.1 this.2 g1.rlen) (by omega), jP (rlen_heightP this.1 this.2 g2.rlen) (by omega)⟩
    ·have e3 := jP g3.y.rlen (show n3 + 1 ≤ 300 by omega)
     have e4 := jP g4.y.rlen (show n4 + 1 ≤ 300 by omega)
     simp only [List.mem_cons, List.not_mem_nil, or_false] at h
     rcases h with rfl | rfl
     ·exact ⟨e3, e3⟩
     ·exact ⟨e4, e4⟩
   ·rw [if_neg c] at hl; subst hl; cases hx
  obtain ⟨cs, f1, f2⟩ := g.row
  refine row_from (R := fun M w (a : P2) us => ∃ s x d t b e, us = [.bool s, x, d, .bool t, b, e] ∧ PC M w 300 a s x d t b e) (fun _ => rfl) (fun a us _ ⟨s, x, d, t, b, e, e0, f⟩ => ⟨[.bool s, x, d], [.bool t, b, e], e0, ⟨s, x, d, rfl, f.x⟩, [.bool t, b, e], [], rfl, ⟨t, b, e, rfl, f.y⟩, rfl⟩) ⟨cs, f1, fun i a ha => ?_⟩
  obtain ⟨us, f3, f4, s, x, d, t, b, e, f5, f6⟩ := f2 i a ha
  have := hr a (List.mem_of_getElem? ha)
  exact ⟨us, f3, f4, s, x, d, t, b, e, f5, ⟨f6.x.relen this.x, f6.y.relen this.y⟩⟩⟩
theorem klsame {Ψ Φ : PV} {n m : Nat} {p q : P2} [h : QP Ψ n p] [k : QP Φ m q] (hn : n ≤ 20000) (hm : m ≤ 20000) : CTy prog 115 [Ψ, Φ] (exP (.bool (decide (p = q)))) :=
 ⟨(bo func115), fun M w vs hM hT hv => by
  obtain ⟨v, u, rfl, h1, h2⟩ := fa2 hv
  obtain ⟨s, a, d, t, b, e, rfl, g1⟩ := h.h h1
  obtain ⟨s2, a2, d2, t2, b2, e2, rfl, g2⟩ := k.h h2
  exact lsame_c hT g1 g2 hn hm hM⟩
section
variable {Ψ Φ Θ Ξ : PV} {n0 n1 n2 n3 : Nat} {lo hi x : Rat} {l : List P2} [h0 : QR Ψ n0 lo] [h1 : QR Φ n1 hi] [h2 : QR Θ n2 x] [h3 : VPt Ξ n3 l]
theorem hts_k {P : Program} {f : FuncId} {N : Nat} (hq : lo < hi) (h : CTy P f [ag (rtq n0 lo), ag (rtq n1 hi), ag (rtq n2 x), sv (sl 6 (l.map (ptq n3)))] (sv (sl 3 ((hsL lo hi x l).map (rtc N))))) :
  CTy P f [Ψ, Φ, Θ, Ξ] (sv (sl 3 ((hsL lo hi x l).map (rtc (2 * n0 + n1 + n2 + 3 * n3 + 12))))) :=
 ⟨h.bod, fun M w vs hM hT hv => by
  refine (h.run M w vs hM hT ((fs1 fR (fs1 fR (fs1 fR (fs1 iK fs0)))) _ _ _ hv)).mono fun r w' ⟨hB, y⟩ => ⟨hB, ?_⟩
  obtain ⟨v0, v1, v2, v3, rfl, k0, k1, k2, k3⟩ := fa4 hv
  obtain ⟨s0, a0, d0, rfl, g0⟩ := h0.h k0
  obtain ⟨s1, a1, d1, rfl, g1⟩ := h1.h k1
  obtain ⟨s2, a2, d2, rfl, g2⟩ := h2.h k2
  have hr := (h3.h k3).rl
  obtain ⟨cs, f1, f2⟩ := row_to (R := RQc N) (f := rtc N) (fun _ => rfl) (fun a us h => h) y
  refine row_from (R := RQc (2 * n0 + n1 + n2 + 3 * n3 + 12)) (fun _ => rfl) (fun a us _ ⟨s, b, c, e, f⟩ => ⟨s, b, c, e, f⟩) ⟨cs, f1, fun i a ha => ?_⟩
  obtain ⟨us, f3, f4, s, b, c, f5, f6⟩ := f2 i a ha
  refine ⟨us, f3, f4, s, b, c, f5, f6.relen ?_⟩
  have ham := List.mem_of_getElem? ha
  unfold hsL at ham
  obtain ⟨p, hp, rfl⟩ := List.mem_map.1 ham
  exact jP (rlen_height g0.rlen g1.rlen g2.rlen (hr p hp).1 (hr p hp).2 hq) (by omega)⟩
theorem klheights (hl0 : n0 ≤ 300) (hl1 : n1 ≤ 300) (hl2 : n2 ≤ 300) (hl3 : n3 ≤ 300) (hlen : l.length ≤ 1000) (hq : lo < hi) : CTy prog 57 [Ψ, Φ, Θ, Ξ] (sv (sl 3 ((hsL lo hi x l).map (rtc (2 * n0 + n1 + n2 + 3 * n3 + 12))))) :=
 hts_k hq (wlheights (by omega) (by omega) (by omega) (by omega) (by omega) hq)
end
theorem qrr_q {Ψ : PV} {n m : Nat} {p q : Rat} [h : QRR Ψ n p m q] : PSub Ψ (ag (st [rtq n p, rtq m q])) := fun M w v k => by
 obtain ⟨s, a, d, t, b, e, rfl, g1, g2⟩ := h.h k
 exact ⟨_, rfl, [.bool s, a, d], [.bool t, b, e], rfl, ⟨s, a, d, rfl, g1⟩, [.bool t, b, e], [], rfl, ⟨t, b, e, rfl, g2⟩, rfl⟩
theorem kfind {Ψ Φ Θ Ξ : PV} {n0 n1 n2 m2 n3 : Nat} {lo hi x y : Rat} {l : List P2} [h0 : QR Ψ n0 lo] [h1 : QR Φ n1 hi] [h2 : QRR Θ n2 x m2 y] [h3 : VPt Ξ n3 l] (hl0 : n0 ≤ 300) (hl1 : n1 ≤ 300) (hl2 : n2 ≤ 300) (hm2 : m2 ≤ 19000) (hl3 : n3 ≤ 300) (hlen : l.length ≤ 1000) (hq : lo < hi) :
  CTy prog 51 [Ψ, Φ, Θ, Ξ] (tu [exP (.int .i64 (findL lo hi (x, y) l).1), exP (.bool (findL lo hi (x, y) l).2)]) :=
 iM (wlfind hl3 hl0 hl1 hl2 hm2 (by omega) hq) (fs1 fR (fs1 fR (fs1 qrr_q (fs1 iK fs0))))
theorem klrises {Ψ : PV} {n : Nat} {l : List P2} [h : VPt Ψ n l] (hn : n ≤ 90000) (hl : l.length ≤ 1000) : CTy prog 64 [Ψ] (exP (.bool (decide (fZ l)))) := iM (wlrises hn (by omega)) (fs1 iK fs0)
theorem k23same {Ψ Φ : PV} {n m : Nat} {l k : List P2} [h : VPt Ψ n l] [h' : VPt Φ m k] (hn : n ≤ 1990) (hm : m ≤ 1990) : CTy prog 105 [Ψ, Φ] (exP (.bool (decide (l = k)))) := iM (w23same hn hm) (fs1 iK (fs1 iK fs0))
theorem k23m1 : CTy prog 48 [exP (.int .i64 (-1))] (ag (rtc 2 ((-1 : Int) : Rat))) :=
 ⟨(bo func48), fun M w vs hM hT hv => by
  obtain ⟨v, rfl, h1⟩ := fa1 hv
  obtain rfl : v = _ := h1
  exact (l23m1_c hM).mono fun r w' ⟨hB, x, y, z, e, g⟩ => ⟨hB, e ▸ eL g⟩⟩
theorem k8m1 {k : Nat} (hk : k < 9223372036854775808) : CTy prog 85 [exP (.int .i64 ((k : Nat) : Int)), exP (.int .i64 (-1))] (ag (st [rtc 2 ((k : Nat) : Rat), rtc 2 ((-1 : Int) : Rat)])) :=
 ⟨(bo func85), fun M w vs hM hT hv => by
  obtain ⟨v, u, rfl, h1, h2⟩ := fa2 hv
  obtain rfl : v = _ := h1
  obtain rfl : u = _ := h2
  exact (r8m1_c hk hM).mono fun r w' ⟨hB, _, _, _, _, _, _, e, g⟩ => ⟨hB, e ▸ pc_ret g⟩⟩
def eI : List P2 := [(((-1 : Int) : Rat), ((-1 : Int) : Rat)), (((0 : Nat) : Rat), ((2 : Nat) : Rat)), (((3 : Nat) : Rat), ((3 : Nat) : Rat))]
abbrev iS : List (P2 × P2) := [((((0 : Nat) : Rat), ((0 : Nat) : Rat)), (((2 : Nat) : Rat), ((2 : Nat) : Rat)))]
theorem wake_t : qB ((0 : Nat) : Rat) ((2 : Nat) : Rat) iS 1 = [(((0 : Nat) : Rat), ((2 : Nat) : Rat))] := by decide +kernel
theorem wake_lv : IsLv ((0 : Nat) : Rat) ((2 : Nat) : Rat) ((-1 : Int) : Rat) ((3 : Nat) : Rat) iS eI := ⟨by unfold eI; decide +kernel, fun x => by
 rw [show iS.length = 1 from rfl, wake_t]
 simp only [eI, List.mem_cons, List.mem_append, List.not_mem_nil, or_false]
 exact ⟨fun h => by rcases h with h | h | h; exact .inr (.inl h); exact .inl h; exact .inr (.inr h), fun h => by rcases h with h | h | h; exact .inr (.inl h); exact .inl h; exact .inr (.inr h)⟩⟩
theorem wake_rises : fZ eI := fun i hi => by
 have h : ∀ j : Fin 2, kL (eI.getD j.1 (0, 0)) (eI.getD (j.1 + 1) (0, 0)) := by unfold kL; decide +kernel
 exact h ⟨i, by simp [eI] at hi; omega⟩
instance csE_w {a b c d : Rat} : CsE [st [st [rtc 2 a, rtc 2 b], st [rtc 2 c, rtc 2 d]]] 2 [((a, b), (c, d))] := csE_one rfl (by simp)
theorem kwof {Ψ Φ Θ Ξ : PV} {n0 n1 n2 n3 n4 : Nat} {a b : Rat} [h1 : QR Ψ n1 ((0 : Nat) : Rat)] [h2 : QR Φ n2 ((2 : Nat) : Rat)] [h3 : QB Θ n3 (a, ((-1 : Int) : Rat)) n4 (b, ((3 : Nat) : Rat))] [h0 : VE Ξ n0 iS] (hl1 : n1 ≤ 40) (hl2 : n2 ≤ 40) (hl3 : n3 ≤ 6) (hl4 : n4 ≤ 6) (hl0 : n0 ≤ 40) :
  CTy prog 55 [Ψ, Φ, Θ, Ξ] (sv (sl 6 (eI.map (ptc 300)))) := by
 have e : eI = lvOf ((0 : Nat) : Rat) ((2 : Nat) : Rat) ((-1 : Int) : Rat) ((3 : Nat) : Rat) iS := lvOf_eq (by rw [if_pos (show ((0 : Nat) : Rat) < ((2 : Nat) : Rat) by decide +kernel)]; exact wake_lv)
 have k := klof (h1 := h1) (h2 := h2) (h3 := h3) (h0 := h0) hl1 hl2 hl3 hl4 hl0 (Nat.le_add_left 1 999)
 rw [← e] at k
 exact k
set_option maxHeartbeats 4000000 in
theorem k23wakes : CTy prog 49 [] (exP (.bool true)) := by
 refine ct (rs := [0]) func49 rfl rfl rfl rfl rfl eK fun X => (yQ (xD rfl (t1 (oas rfl) (t0 (yQ (xD rfl (t1 (oca rfl rfl fun _ => k8m1 (k := 0) (by omega)) ?_)))))))
 refine t1 (oca rfl rfl fun _ => lO (k := 2) (l := 3) (by omega) (by omega)) (t1 (obd rfl rfl rfl) ?_)
 refine tal fun b1 => ?_
 refine tst 0 rfl rfl rfl rfl rfl rfl (t0 (yQ (cM 9 mixed rfl rfl (d1 (oca rfl rfl fun _ => gT (k := 0) (by omega)) (d1 (oca rfl rfl fun _ => gT (k := 2) (by omega)) (d1 (iG 0 rfl rfl rfl rfl) (d1 (oca rfl rfl fun _ => lO (k := 0) (l := 0) (by omega) (by omega)) ?_)))))))
 refine d1 (oca rfl rfl fun _ => lO (k := 2) (l := 2) (by omega) (by omega)) (d1 (obd rfl rfl rfl) (d1 (obs rfl rfl rfl rfl rfl rfl) (d1 (oca rfl rfl fun _ => kwof (by omega) (by omega) (by omega) (by omega) (by omega)) (d1 (oas rfl) (d0 (t0 (yQ ?_)))))))
 refine xD rfl (t1 (oca rfl rfl fun _ => k23m1) (t1 (oca rfl rfl fun _ => k23m1) (t1 (obd rfl rfl rfl) (t1 (oca rfl rfl fun _ => gT (k := 0) (by omega)) (t1 (oca rfl rfl fun _ => gT (k := 2) (by omega)) (t1 (obd rfl rfl rfl) (t1 (oca rfl rfl fun _ => gT (k := 3) (by omega)) ?_)))))))
 refine t1 (oca rfl rfl fun _ => gT (k := 3) (by omega)) (t1 (obd rfl rfl rfl) (t1 (obs rfl rfl rfl rfl rfl rfl) (t1 (oas rfl) (t0 (fF (ts_as (s := 3) rfl (ps_p (show _ = sv (sl 6 (eI.map (ptc 2))) from rfl))) (yQ (xD rfl ?_)))))))
 refine t1 (oca rfl rfl fun _ => gT (k := 0) (by omega)) (t1 (oca rfl rfl fun _ => gT (k := 2) (by omega)) (t1 (oca rfl rfl fun _ => lO (k := 1) (l := 1) (by omega) (by omega)) (t1 (omv rfl) (t1 (oca rfl rfl fun _ => kfind (by omega) (by omega) (by omega) (by omega) (by omega) (by decide) (by decide +kernel)) (t1 (omv rfl) (t1 (oex rfl rfl) (t1 (oex rfl rfl) ?_)))))))
 refine t1 (oas rfl) (t1 (oas rfl) (t0 (yQ (xD rfl (t1 (oca rfl rfl fun _ => gT (k := 0) (by omega)) (t1 (oca rfl rfl fun _ => gT (k := 2) (by omega)) (t1 (oca rfl rfl fun _ => lO (k := 1) (l := 2) (by omega) (by omega)) ?_)))))))
 refine t1 (omv rfl) (t1 (oca rfl rfl fun _ => kfind (by omega) (by omega) (by omega) (by omega) (by omega) (by decide) (by decide +kernel)) (t1 (omv rfl) (t1 (oex rfl rfl) (t1 (oex rfl rfl) (t1 (oas rfl) (t1 (oas rfl) (t0 ?_)))))))
 refine yQ ?_
 apply t_drawS 1 12 11 [(10, 8, 0), (11, 1000011, 0)] rfl rfl mixed rfl rfl rfl
 refine cx1 (omv rfl) rfl (cx1 (oix 1 rfl rfl rfl (fun _ => by decide) (fun _ => by decide)) rfl (cx1 (old rfl rfl) rfl (cx1 (oca rfl rfl fun _ => gT (k := 0) (by omega)) rfl (cx1 (oca rfl rfl fun _ => gT (k := 2) (by omega)) rfl (cx1 (oca rfl rfl fun _ => gT (k := 1) (by omega)) rfl (cx1 (oca rfl rfl fun _ => klHeight (by omega) (by omega) (by omega) (by omega)) rfl (cx1 (omv rfl) rfl ?_)))))))
 refine cx1 (oex rfl rfl) rfl (cx1 (oex rfl rfl) rfl (cN rfl rfl (cal) (cS rfl rfl rfl (cst rfl rfl rfl) ?_)))
 refine cE (fun b8 => ?_)
 refine t1 (oas rfl) (t0 (yQ (cM 32 mixed rfl rfl (d1 (omv rfl) (d1 (omv rfl) (d1 (oca rfl rfl fun _ => k23same (by omega) (by omega)) (d1 (omv rfl) ?_)))))))
 refine d1g rfl rfl (omv rfl) (d1g rfl rfl (oeq rfl rfl) (d1 (opk rfl rfl rfl) (d1 (omv rfl) (d1g rfl rfl (omv rfl) (d1 (opk rfl rfl rfl) (d1 (omv rfl) (d1g rfl rfl (omv rfl) ?_)))))))
 refine d1g rfl rfl (oeq rfl rfl) (d1 (opk rfl rfl rfl) (d1 (omv rfl) (d1g rfl rfl (omv rfl) (d1g rfl rfl (ont rfl) (d1 (opk rfl rfl rfl) (d1 (omv rfl) (d1g rfl rfl (omv rfl) ?_)))))))
 refine d1g rfl rfl (oca rfl rfl fun g => klrises (by omega) (by decide)) (d1 (opk rfl rfl rfl) (d1 (omv rfl) (d1g rfl rfl (omv rfl) (d1g rfl rfl (oeq rfl rfl) (d1 (opk rfl rfl rfl) (d1 (omv rfl) (d1g rfl rfl (iG 0 rfl rfl rfl rfl) ?_)))))))
 refine d1g rfl rfl (oca rfl rfl fun g => gT (k := 1) (by omega)) (d1g rfl rfl (oca rfl rfl fun g => iD (by omega) (by omega)) (d1 (opk rfl rfl rfl) (d1 (oas rfl) (d0 (t0 (qR ?_))))))
 exact tr1 rfl (psb (by rw [decide_eq_true wake_rises]; decide +kernel))
set_option maxHeartbeats 4000000 in
theorem keqL {l m : List P2} {n1 n2 : Nat} (hn1 : n1 ≤ 20000) (hn2 : n2 ≤ 20000) : CTy prog 116 [sv (sl 6 (l.map (ptc n1))), sv (sl 6 (m.map (ptc n2))), exP (.func (.func 115) #[] #[])] (exP (.bool (decide (l = m)))) := by
 refine ct (rs := [6]) func116 rfl rfl rfl rfl rfl eK fun X => (yQ (xD rfl (t1 (oas rfl) (t0 (yQ (yQ (xD rfl ?_)))))))
 refine t1 (omv rfl) (t1 (oln rfl) (t1 (omv rfl) (t1 (oln rfl) (t1 (oni rfl rfl) (t0 ?_)))))
 refine aN rfl (fun c0 => ?_) (fun c0 => ?_)
 ·refine yQ ?_
  refine xD rfl (t1 (oas rfl) (t0 (qR ?_)))
  exact tr1 rfl (psb (Eq.symm (decide_eq_false fun e => (dt c0) (by rw [e]))))
 ·have hlm : l.length = m.length := by have := df c0; omega
  refine gV (yQ (yQ (xD rfl (t1 (omv rfl) (t1 (oln rfl) (t1 (omv rfl) (t0 ?_)))))))
  refine gW (t_len 15 rfl fun hll => ?_)
  rw [List.length_map] at hll
  refine cL (σ := Nat) (fun s => [(1, True, sv (sl 6 (m.map (ptc n2)))), (2, True, exP (.func (.func 115) #[] #[])), (15, True, sv (sl 6 (l.map (ptc n1)))), (16, True, exP (.int .i64 ((l.length : Nat) : Int))), (17, True, exP (.int .i64 ((s : Nat) : Int)))]) (fun s => []) (fun s => s ≤ l.length ∧ l.take s = m.take s) (fun s => l.length - s) (0) (kJ (tc rfl (gR _) (tc rfl (gR _) (tc rfl (gR _) (tc rfl (gR _) (tc rfl (kH rfl) tn))))) rfl) ⟨by omega, by simp⟩ (fun s hJ => ?_)
  obtain ⟨h1, h2⟩ := hJ
  refine yQ (xD rfl (t1 (olt rfl rfl) (t0 (yQ ?_))))
  refine aN rfl (fun c1 => ?_) (fun c1 => ?_)
  ·have hc := dt c1
   refine gV (yQ (gW (yQ (xD rfl (t1 (omv rfl) (t1 (oix s rfl rfl rfl (fun _ => rfl) (fun _ => by omega)) (t1 (old rfl rfl) ?_)))))))
   refine tal fun b8 => ?_
   refine t1 (oas rfl) (tst 0 rfl rfl rfl rfl rfl rfl (t0 (yQ (xD rfl (t1 (omv rfl) (t1 (omv rfl) (t1 (oix s rfl rfl rfl (fun _ => rfl) (fun _ => by omega)) ?_)))))))
   refine t1 (old rfl rfl) ?_
   refine tal fun b9 => ?_
   refine tst 0 rfl rfl rfl rfl rfl rfl (t0 (yQ (xD rfl (t1 (omv rfl) (t1 (iG 1 rfl rfl rfl rfl) (t1 (iG 0 rfl rfl rfl rfl) (t1 (oca rfl rfl fun _ => klsame (by omega) (by omega)) ?_)))))))
   refine t1 (ont rfl) (t0 ?_)
   refine aN rfl (fun c2 => ?_) (fun c2 => ?_)
   ·have hne : l.getD s Df.d ≠ m.getD s Df.d := bn_t c2
    refine yQ (xD rfl (t1 (oas rfl) (t0 (qR ?_))))
    exact tr1 rfl (psb (Eq.symm (decide_eq_false (getD_ne hne))))
   ·have heq : l.getD s Df.d = m.getD s Df.d := bn_f c2
    refine gV (xD rfl (t1 (oad rfl rfl (by omega)) (t1 (omv rfl) (t0 ?_))))
    exact ⟨s + 1, (ts_sub (S' := []) (List.nil_sublist _)).trans (kJ (tc rfl (gR _) (tc rfl (gR _) (tc rfl (gR _) (tc rfl (gR _) (tc rfl (kH (by omega)) tn))))) rfl), ⟨by omega, take_eq_step (by omega) (by omega) h2 heq⟩, by omega⟩
  ·have hc := df c1
   refine bN (yQ (xD rfl (t1 (oas rfl) (t0 (qR ?_)))))
   exact tr1 rfl (psb (Eq.symm (decide_eq_true (take_eq_all hlm (by rw [show s = l.length by omega] at h2; exact h2)))))
set_option maxHeartbeats 4000000 in
theorem klSame {l m : List P2} {n1 n2 : Nat} (hn1 : n1 ≤ 20000) (hn2 : n2 ≤ 20000) : CTy prog 56 [sv (sl 6 (l.map (ptc n1))), sv (sl 6 (m.map (ptc n2)))] (exP (.bool (decide (l = m)))) := by
 refine ct (rs := [4]) func56 rfl rfl rfl rfl rfl eK fun X => (yQ (xD rfl (t1 (oas rfl) (t0 (yQ (xD rfl (t1 (omv rfl) ?_)))))))
 refine t1 (omv rfl) (t1 (oca rfl rfl fun _ => keqL hn1 hn2) (t1 (oas rfl) (t0 (qR ?_))))
 exact tr1 rfl (gR _)
theorem great7_two {a b : N2} (h : iE [a, b] = false) : max a.1 a.2 ≤ 40 ∧ max b.1 b.2 ≤ 40 := by
 unfold iE at h
 rw [decide_eq_false_iff_not] at h
 simp only [List.length_cons, List.length_nil, iP, List.getD_cons_zero, List.getD_cons_succ] at h
 omega
theorem ix_k2 {a n : Int} {m : Nat} (e : n = (m : Int)) (hn : 0 < m) : ∃ k : Nat, ((a.tmod n) + n).tmod n = (k : Int) ∧ k < m ∧ -n < a.tmod n ∧ a.tmod n < n := by
 subst e
 have h1 : a.tmod m < m := Int.tmod_lt_of_pos a (by omega)
 have h2 : -(m : Int) < a.tmod m := Int.lt_tmod_of_pos a (by omega)
 have h3 : ((a.tmod (m : Int)) + (m : Int)).tmod (m : Int) = ((a.tmod (m : Int)) + (m : Int)) % (m : Int) := Int.tmod_eq_emod_of_nonneg (by omega)
 have h4 := Int.emod_nonneg ((a.tmod (m : Int)) + (m : Int)) (show (m : Int) ≠ 0 by omega)
 have h5 := Int.emod_lt_of_pos ((a.tmod (m : Int)) + (m : Int)) (show (0 : Int) < m by omega)
 exact ⟨_, h3.trans (Int.toNat_of_nonneg h4).symm, by omega, h2, h1⟩
theorem lvOf_spec {lo hi yl yh : Rat} {es : List (P2 × P2)} (h : ∃ l, if lo < hi then IsLv lo hi yl yh es l else l = []) : if lo < hi then IsLv lo hi yl yh es (lvOf lo hi yl yh es) else lvOf lo hi yl yh es = [] := Classical.epsilon_spec h
theorem lvOf_same {lo hi yl yh : Rat} {es fs : List (P2 × P2)} (h : ∀ x, (∃ e ∈ es, eJ lo hi e ∧ x = dO lo hi e) ↔ (∃ e ∈ fs, eJ lo hi e ∧ x = dO lo hi e)) : lvOf lo hi yl yh es = lvOf lo hi yl yh fs := by
 have hh : ∀ l, (if lo < hi then IsLv lo hi yl yh es l else l = []) ↔ (if lo < hi then IsLv lo hi yl yh fs l else l = []) := fun l => by
  split
  ·constructor
   ·exact fun k => ⟨k.rise, fun x => by rw [k.mem, List.mem_append, List.mem_append, dI, dI, h]⟩
   ·exact fun k => ⟨k.rise, fun x => by rw [k.mem, List.mem_append, List.mem_append, dI, dI, h]⟩
  ·exact Iff.rfl
 unfold lvOf
 congr 1
 funext l
 exact propext (hh l)
theorem lvOf_turn {lo hi yl yh : Rat} {es : List (P2 × P2)} (k : Nat) : lvOf lo hi yl yh (es.drop k ++ es.take k) = lvOf lo hi yl yh es := lvOf_same fun x => by
 have : ∀ e, e ∈ es.drop k ++ es.take k ↔ e ∈ es := fun e => by
  rw [List.mem_append, Or.comm, ← List.mem_append, List.take_append_drop]
 simp only [this]
theorem lvOf_more {lo hi yl yh : Rat} {es : List (P2 × P2)} {a b : Rat} (k : Nat) : lvOf lo hi yl yh (es.drop k ++ es.take k ++ es ++ [((lo, a), (lo, b))]) = lvOf lo hi yl yh es := lvOf_same fun x => by
 constructor
 ·rintro ⟨e, he, h1, h2⟩
  simp only [List.mem_append, List.mem_singleton] at he
  rcases he with ((he | he) | he) | rfl
  ·exact ⟨e, List.mem_of_mem_drop he, h1, h2⟩
  ·exact ⟨e, List.mem_of_mem_take he, h1, h2⟩
  ·exact ⟨e, he, h1, h2⟩
  ·have := h1.2.2; exact absurd this (by grind)
 ·rintro ⟨e, he, h⟩
  exact ⟨e, by simp [he], h⟩
theorem great23e_no {l : List (N8 × (P2 × P2))} (h : great23e l = false) : l.length ≤ 40 ∧ ∀ x ∈ l, m4 x.1.1 ≤ 6 ∧ m4 x.1.2 ≤ 6 := by
 unfold great23e at h
 simp only [Bool.or_eq_false_iff, decide_eq_false_iff_not] at h
 obtain ⟨_, h2⟩ := great8_no h.2
 exact ⟨by omega, fun x hx => ⟨h2 (x.1.1, x.2.1) (List.mem_flatMap.2 ⟨x, hx, by simp⟩), h2 (x.1.2, x.2.2) (List.mem_flatMap.2 ⟨x, hx, by simp⟩)⟩⟩
theorem hs_lo {lo hi : Rat} {l : List P2} {s : Nat} (h : lo < hi) (hs : s < l.length) : (hsL lo hi lo l).getD s 0 = (l.getD s (0, 0)).1 := by
 rw [hsL_getD hs]
 unfold aD dB
 rw [if_pos h]
 grind
theorem hs_hi {lo hi : Rat} {l : List P2} {s : Nat} (h : lo < hi) (hs : s < l.length) : (hsL lo hi hi l).getD s 0 = (l.getD s (0, 0)).2 := by
 rw [hsL_getD hs]
 unfold aD dB
 rw [if_pos h]
 have : (hi - lo) / (hi - lo) = 1 := by rw [Rat.div_def]; exact Rat.mul_inv_cancel _ (by grind)
 rw [this]
 grind
theorem ex_sort : ∀ m : List P2, ∃ l : List P2, l.Pairwise (fun a b => cH a b < 0) ∧ ∀ x, x ∈ l ↔ x ∈ m
 | [] => ⟨[], .nil, fun x => Iff.rfl⟩
 | a :: m => by
  obtain ⟨l, h1, h2⟩ := ex_sort m
  refine ⟨l.filter (fun x => decide (cH x a < 0)) ++ a :: l.filter (fun x => decide (cH a x < 0)), ?_, fun x => ?_⟩
  ·refine List.pairwise_append.2 ⟨h1.filter _, List.pairwise_cons.2 ⟨fun b hb => by simpa using (List.mem_filter.1 hb).2, h1.filter _⟩, fun b hb c hc => ?_⟩
   have hb' : cH b a < 0 := by simpa using (List.mem_filter.1 hb).2
   rcases List.mem_cons.1 hc with rfl | hc
   ·exact hb'
   ·exact cmpL_lt_trans hb' (by simpa using (List.mem_filter.1 hc).2)
  ·simp only [List.mem_append, List.mem_cons, List.mem_filter, decide_eq_true_eq, h2]
   constructor
   ·rintro (⟨h, _⟩ | rfl | ⟨h, _⟩)
    ·exact .inr h
    ·exact .inl rfl
    ·exact .inr h
   ·rintro (rfl | h)
    ·exact .inr (.inl rfl)
    ·rcases leL_total x a with c | c
     ·by_cases e : leL a x
      ·exact .inr (.inl (leL_anti c e))
      ·exact .inl ⟨h, cY.2 e⟩
     ·by_cases e : leL x a
      ·exact .inr (.inl (leL_anti e c))
      ·exact .inr (.inr ⟨h, cY.2 e⟩)
theorem exists_lv {lo hi yl yh : Rat} {es : List (P2 × P2)} : ∃ l, if lo < hi then IsLv lo hi yl yh es l else l = [] := by
 split
 ·obtain ⟨l, h1, h2⟩ := ex_sort (qB lo hi es es.length ++ [(yl, yl), (yh, yh)])
  exact ⟨l, h1, h2⟩
 ·exact ⟨[], rfl⟩
theorem lvOf_none {lo hi yl yh : Rat} {es : List (P2 × P2)} (h : ¬ lo < hi) : lvOf lo hi yl yh es = [] := by
 have := lvOf_spec (exists_lv (lo := lo) (hi := hi) (yl := yl) (yh := yh) (es := es)); rwa [if_neg h] at this
theorem lvOf_some {lo hi yl yh : Rat} {es : List (P2 × P2)} (h : lo < hi) : IsLv lo hi yl yh es (lvOf lo hi yl yh es) := by
 have := lvOf_spec (exists_lv (lo := lo) (hi := hi) (yl := yl) (yh := yh) (es := es)); rwa [if_pos h] at this
theorem lvOf_pos {lo hi yl yh : Rat} {es : List (P2 × P2)} (h : lo < hi) : 1 ≤ (lvOf lo hi yl yh es).length := List.length_pos_of_mem (((lvOf_some h).mem (yl, yl)).2 (by simp))
theorem lv_nodup : ∀ {l m : List P2}, l.Pairwise (fun a b => cH a b < 0) → (∀ x ∈ l, x ∈ m) → l.length ≤ m.length
 | [], m, _, _ => Nat.zero_le _
 | a :: l, m, h, hs => by
  obtain ⟨h1, h2⟩ := List.pairwise_cons.1 h
  have h3 := lv_nodup (m := m.erase a) h2 fun x hx => (List.mem_erase_of_ne fun e => by have := h1 x hx; rw [e] at this; exact dQ a this).2 (hs x (by simp [hx]))
  have h4 := List.length_erase_of_mem (hs a (by simp))
  have h5 := List.length_pos_of_mem (hs a (by simp))
  simp only [List.length_cons]; omega
theorem lvOf_len {lo hi yl yh : Rat} {es : List (P2 × P2)} : (lvOf lo hi yl yh es).length ≤ es.length + 2 := by
 by_cases h : lo < hi
 ·have h1 := lvOf_some (yl := yl) (yh := yh) (es := es) h
  have h2 := lv_nodup h1.rise fun x hx => (h1.mem x).1 hx
  have h3 := thru_len lo hi es es.length
  rw [List.length_append] at h2
  simp only [List.length_cons, List.length_nil] at h2; omega
 ·rw [lvOf_none h]; simp
theorem lo_no {A B C : List P2} (h : (!decide (A = B) || !decide (C = B)) = true) (h1 : A = B) (h2 : C = B) : False := by subst h1; subst h2; simp at h
theorem lo_no2 {a b c : Nat} (h : (decide ((a : Int) ≠ (b : Int)) || decide ((c : Int) ≠ (b : Int))) = true) (h1 : a = b) (h2 : c = b) : False := by subst h1; subst h2; simp at h
theorem lo_no3 {a b : Int} (h : (!decide (a = 0) || !decide (b = 0)) = true) (h1 : a = 0) (h2 : b = 0) : False := by subst h1; subst h2; simp at h
set_option maxHeartbeats 4000000 in
theorem law_LevelsOrder {lo hi : Rat} {L0 L1 : N2} {b0 b1 : N4 × P2} {l : List (N8 × (P2 × P2))} {at' : Int} (hb7 : ∀ y ∈ [L0, L1], y.1 + y.2 ≤ 1000000000000000000) : CTy prog 9 [ag (rtl L0 lo), ag (rtl L1 hi), ag (st [ptl b0, ptl b1]), sv (sl 12 (l.map edl)), exP (.int .i64 at')] (exP (.bool true)) := by
 refine ct (rs := [10]) func9 rfl rfl rfl rfl rfl eK fun X => (yQ (xD rfl (t1 (obx rfl) (t1 (obx rfl) (t1 (obx rfl) (t1 (oas rfl) (t0 ?_)))))))
 refine yQ (yQ (xD rfl (t1 (old rfl rfl) (t1 (old rfl rfl) (t1 (obs rfl rfl rfl rfl rfl rfl) (t1 (oca rfl rfl fun _ => k7great (ls := [L0, L1]) (l := [(L0, lo), (L1, hi)]) rfl rfl hb7) (t1 (omv rfl) ?_)))))))
 refine t1g rfl rfl (ofa rfl rfl) (t1g rfl rfl (old rfl rfl) (t1g rfl rfl (ofa rfl rfl) (t1g rfl rfl (old rfl rfl) (t1g rfl rfl (obs rfl rfl rfl rfl rfl rfl) (t1g rfl rfl (oca rfl rfl fun g => k8great (l := [b0, b1])) (t1 (opk rfl rfl rfl) (t1 (omv rfl) ?_)))))))
 refine t1g rfl rfl (omv rfl) (t1g rfl rfl (oca rfl rfl fun g => k23greatE) (t1 (opk rfl rfl rfl) (t1 (omv rfl) (t1g rfl rfl (omv rfl) (t1g rfl rfl (oln rfl) (t1g rfl rfl (ogt rfl rfl) (t1 (opk rfl rfl rfl) ?_)))))))
 refine t0 ?_
 refine aN rfl (fun c0 => ?_) (fun c0 => ?_)
 ·refine yQ ?_
  refine xD rfl (t1 (oca rfl rfl fun _ => k23wakes) (t1 (oas rfl) (t0 (qR ?_))))
  exact tr1 rfl (psb rfl)
 ·have hx := c0.h
  have f1 := orl (orl (orl hx)); have f2 := orr (orl (orl hx)); have f3 := orr (orl hx); have f4 := of_decide_eq_false (orr hx)
  obtain ⟨g0, g1⟩ := great7_two f1
  obtain ⟨_, g2⟩ := great8_no f2
  have g20 := g2 b0 (by simp); have g21 := g2 b1 (by simp)
  obtain ⟨_, g3⟩ := great23e_no f3
  have hel : l.length ≤ 20 := by omega
  haveI i0 : CsE (l.map edl) 6 (l.map (·.2)) := csE_map g3
  refine gV (yQ (xD rfl (t1 (old rfl rfl) (t1 (old rfl rfl) (t1 (old rfl rfl) (t1 (omv rfl) (t1 (oca rfl rfl fun _ => klof (by omega) (by omega) (by omega) (by omega) (by omega) (by simp only [List.length_append, List.length_map, List.length_drop, List.length_take, List.length_cons, List.length_nil]; omega)) ?_)))))))
  refine t1 (oas rfl) (t0 (yQ (yQ (xD rfl (t1 (old rfl rfl) (t1 (old rfl rfl) (t1 (oca rfl rfl fun _ => k7cmp (by omega) (by omega)) ?_)))))))
  refine t1 (oge rfl rfl) (t0 ?_)
  refine aN rfl (fun c1 => ?_) (fun c1 => ?_)
  ·have hq : ¬ lo < hi := by have := of_decide_eq_true c1.h; rw [bM] at this; grind
   refine yQ (xD rfl (t1 (omv rfl) (t1 (oln rfl) (t1 (oeq rfl rfl) (t1 (omv rfl) (t1g rfl rfl (oca rfl rfl fun g => k23wakes) (t1 (opk rfl rfl rfl) ?_)))))))
   refine t1 (oas rfl) (t0 (qR ?_))
   exact tr1 rfl (psb (by rw [lvOf_none hq]; rfl))
  ·have hlo : lo < hi := by have := of_decide_eq_false c1.h; rw [bM] at this; grind
   obtain ⟨k, hk, hkl, ht1, ht2⟩ := ix_k2 (a := at') (n := (l.length : Int) + 1) (m := l.length + 1) (by omega) (by omega)
   rw [← Int.add_assoc] at hk
   have g4 : ∀ x ∈ l.drop k ++ l.take k, m4 x.1.1 ≤ 6 ∧ m4 x.1.2 ≤ 6 := fun x hx => g3 x ((List.mem_append.1 hx).elim List.mem_of_mem_drop List.mem_of_mem_take)
   haveI i1 : CsE ((l.drop k ++ l.take k).map edl) 6 ((l.drop k ++ l.take k).map (·.2)) := csE_map g4
   haveI i2 : CsE ((l.drop k ++ l.take k).map edl ++ l.map edl ++ [st [st [rtl L0 lo, rtc 2 ((0 : Nat) : Rat)], st [rtl L0 lo, rtc 2 ((1 : Nat) : Rat)]]]) 40 ((l.drop k ++ l.take k).map (·.2) ++ l.map (·.2) ++ [((lo, ((0 : Nat) : Rat)), (lo, ((1 : Nat) : Rat)))]) :=
    csE_app (csE_app (csE_map fun x hx => by have := g4 x hx; omega) (csE_map fun x hx => by have := g3 x hx; omega)) (csE_one rfl (by omega))
   have hdt : (l.drop k ++ l.take k).map (·.2) = (l.map (·.2)).drop k ++ (l.map (·.2)).take k := by simp
   obtain ⟨A, hA⟩ : ∃ A, A = lvOf lo hi b0.2.2 b1.2.2 (l.map (·.2)) := ⟨_, rfl⟩
   have hA1 : lvOf lo hi b0.2.2 b1.2.2 ((l.drop k ++ l.take k).map (·.2)) = A := by rw [hA, hdt]; exact lvOf_turn k
   have hA2 : lvOf lo hi b0.2.2 b1.2.2 ((l.drop k ++ l.take k).map (·.2) ++ l.map (·.2) ++ [((lo, ((0 : Nat) : Rat)), (lo, ((1 : Nat) : Rat)))]) = A := by rw [hA, hdt]; exact lvOf_more k
   have hAl : A.length ≤ 1000 := by rw [hA]; have := lvOf_len (lo := lo) (hi := hi) (yl := b0.2.2) (yh := b1.2.2) (es := l.map (·.2)); rw [List.length_map] at this; omega
   have hAp : 1 ≤ A.length := by rw [hA]; exact lvOf_pos hlo
   rw [← hA]
   refine gV (yQ (xD rfl (t1 (omv rfl) (t1 (omv rfl) (t1 (oln rfl) (t1 (oad rfl rfl (by omega)) (t1 (ort rfl rfl (by omega)) ?_)))))))
   refine t1 (omv rfl) (t1 (oln rfl) (t1 (oad rfl rfl (by omega)) (t1 (oad rfl rfl (by omega)) (t1 (omv rfl) (t1 (oln rfl) (t1 (oad rfl rfl (by omega)) (t1 (ort rfl rfl (by omega)) ?_)))))))
   refine t1 (oas rfl) (t0 (yQ (t_drawC 1 9 [(0, 68, 0), (4, 72, 0), (8, 76, 0)] rfl rfl mixed rfl rfl (cN rfl rfl (cb0) (cx1 (omv rfl) rfl (cx1 (omv rfl) rfl (cx1 (osl k l.length rfl ⟨_, _, _, _, rfl, fun _ => trivial, ⟨id⟩, fun _ => hk⟩ (fun _ => by simp) (fun _ => by omega) (fun _ => by simp)) rfl ?_)))))))
   refine cA rfl rfl rfl (cap rfl (by simp; omega) rfl) (cx1 (omv rfl) rfl (cx1 (omv rfl) rfl (cx1 (osl 0 k rfl rfl ⟨_, _, _, _, rfl, fun _ => trivial, ⟨id⟩, fun _ => hk⟩ (fun _ => by omega) (fun _ => by simp; omega)) rfl (cA rfl rfl rfl (cap rfl (by simp; omega) rfl) ?_))))
   refine cE (fun r76 => ?_)
   refine t1 (oas rfl) (t0 (fF (ts_frz 0 rfl (s := 12) rfl) (fF (ts_as (s := 12) rfl (ps_p (show _ = sv (sl 12 ((l.drop k ++ l.take k).map edl)) from by simp [List.take_of_length_le]))) (yQ (t_drawC 1 8 [(7, 13, 0)] rfl rfl mixed rfl rfl (cx1 (old rfl rfl) rfl (cx1 (oca rfl rfl fun _ => gT (k := 0) (by omega)) rfl ?_)))))))
   refine cx1 (obd rfl rfl rfl) rfl (cx1 (old rfl rfl) rfl (cx1 (oca rfl rfl fun _ => gT (k := 1) (by omega)) rfl (cx1 (obd rfl rfl rfl) rfl (cx1 (obd rfl rfl rfl) rfl (cN rfl rfl (cal) ?_)))))
   refine cE (fun b13 => ?_)
   refine tst 0 rfl rfl rfl rfl rfl rfl (t0 (yQ (t_drawC 1 8 [(0, 84, 0), (2, 86, 0), (4, 88, 0), (7, 91, 0)] rfl rfl mixed rfl rfl (cN rfl rfl (cb0) (cx1 (omv rfl) rfl (cA rfl rfl rfl (cap rfl (by simp; omega) rfl) (cx1 (omv rfl) rfl ?_)))))))
   refine cA rfl rfl rfl (cap rfl (by simp; omega) rfl) (cx1 (iG 0 rfl rfl rfl rfl) rfl (cx1 (obs rfl rfl rfl rfl rfl rfl) rfl (cA rfl rfl rfl (cap rfl (by simp; omega) rfl) ?_)))
   refine cE (fun r91 => ?_)
   refine t1 (oas rfl) (t0 (fF (ts_frz 0 rfl (s := 14) rfl) (fF (ts_as (s := 14) rfl (ps_p (show _ = sv (sl 12 ((l.drop k ++ l.take k).map edl ++ l.map edl ++ [st [st [rtl L0 lo, rtc 2 ((0 : Nat) : Rat)], st [rtl L0 lo, rtc 2 ((1 : Nat) : Rat)]]])) from by simp))) (yQ (yQ (xD rfl (t1 (old rfl rfl) ?_)))))))
   refine t1 (old rfl rfl) (t1 (old rfl rfl) (t1 (omv rfl) (t1 (oca rfl rfl fun _ => klof (by omega) (by omega) (by omega) (by omega) (by omega) (by simp only [List.length_append, List.length_map, List.length_drop, List.length_take, List.length_cons, List.length_nil]; omega)) (t1 (omv rfl) (t1 (oca rfl rfl fun _ => klSame (by omega) (by omega)) (t1 (ont rfl) (t1 (omv rfl) ?_)))))))
   refine t1g rfl rfl (old rfl rfl) (t1g rfl rfl (old rfl rfl) (t1g rfl rfl (old rfl rfl) (t1g rfl rfl (omv rfl) (t1g rfl rfl (oca rfl rfl fun g => klof (by omega) (by omega) (by omega) (by omega) (by omega) (by simp only [List.length_append, List.length_map, List.length_drop, List.length_take, List.length_cons, List.length_nil]; omega)) (t1g rfl rfl (omv rfl) (t1g rfl rfl (oca rfl rfl fun g => klSame (by omega) (by omega)) (t1g rfl rfl (ont rfl) ?_)))))))
   refine t1 (opk rfl rfl rfl) (t0 ?_)
   refine aN rfl (fun c2 => ?_) (fun c2 => ?_)
   ·exact (lo_no c2.h hA1 hA2).elim
   ·refine gV ?_
    refine yQ (cM 12 mixed rfl rfl (d1 (old rfl rfl) (d1 (old rfl rfl) (d1 (old rfl rfl) (d1 (omv rfl) (d1 (oca rfl rfl fun _ => klheights (by omega) (by omega) (by omega) (by omega) hAl hlo) (d1 (old rfl rfl) ?_)))))))
    refine d1 (old rfl rfl) (d1 (old rfl rfl) (d1 (omv rfl) (d1 (oca rfl rfl fun _ => klheights (by omega) (by omega) (by omega) (by omega) hAl hlo) (d1 (oas rfl) (d1 (oas rfl) (d0 (t0 ?_)))))))
    refine yQ (yQ (xD rfl (t1 (omv rfl) (t1 (oln rfl) (t1 (omv rfl) (t1 (oln rfl) (t1 (oni rfl rfl) ?_)))))))
    refine t1 (omv rfl) (t1g rfl rfl (omv rfl) (t1g rfl rfl (oln rfl) (t1g rfl rfl (omv rfl) (t1g rfl rfl (oln rfl) (t1g rfl rfl (oni rfl rfl) (t1 (opk rfl rfl rfl) (t0 ?_)))))))
    refine aN rfl (fun c3 => ?_) (fun c3 => ?_)
    ·exact (lo_no2 c3.h (by rw [eV]) (by rw [eV])).elim
    ·refine gV ?_
     refine yQ (yQ (xD rfl (t1 (oas rfl) (t0 (gW (fF (ts_sub (List.nil_sublist _)) ?_))))))
     refine cL (σ := Nat) (fun s => [(11, True, sv (sl 6 (A.map (ptc 300)))), (15, True, sv (sl 3 ((hsL lo hi lo A).map (rtc (2 * max L0.1 L0.2 + max L1.1 L1.2 + max L0.1 L0.2 + 3 * 300 + 12))))), (16, True, sv (sl 3 ((hsL lo hi hi A).map (rtc (2 * max L0.1 L0.2 + max L1.1 L1.2 + max L1.1 L1.2 + 3 * 300 + 12))))), (17, True, exP (.int .i64 ((s : Nat) : Int)))]) (fun s => []) (fun s => s ≤ A.length) (fun s => A.length - s) (0) (kJ (tc rfl (gR _) (tc rfl (gR _) (tc rfl (gR _) (tc rfl (kH rfl) tn)))) rfl) (by omega) (fun s hJ => ?_)
     have hl1 : (hsL lo hi lo A).length = A.length := eV _ _ _ _
     have hl2 : (hsL lo hi hi A).length = A.length := eV _ _ _ _
     refine yQ (yQ (xD rfl (t1 (omv rfl) (t1 (omv rfl) (t1 (oln rfl) (t1 (olt rfl rfl) (t0 ?_)))))))
     refine aN rfl (fun c4 => ?_) (fun c4 => ?_)
     ·have hs := dt c4
      refine gV (yQ (gW (yQ (cM 24 mixed rfl rfl (d1 (omv rfl) (d1 (omv rfl) (d1 (oix s rfl rfl rfl (fun _ => rfl) (fun _ => by omega)) ?_)))))))
      refine d1 (old rfl rfl) (d1 (omv rfl) (d1 (omv rfl) (d1 (oix s rfl rfl rfl (fun _ => rfl) (fun _ => by omega)) (d1 (ofa rfl rfl) (d1 (old rfl rfl) (d1 (oca rfl rfl fun _ => iD (by omega) (by omega)) (d1 (ont rfl) ?_)))))))
      refine d1 (omv rfl) (d1g rfl rfl (omv rfl) (d1g rfl rfl (omv rfl) (d1g rfl rfl (oix s rfl rfl rfl (fun g => rfl) (fun g => by omega)) (d1g rfl rfl (old rfl rfl) (d1g rfl rfl (omv rfl) (d1g rfl rfl (omv rfl) (d1g rfl rfl (oix s rfl rfl rfl (fun g => rfl) (fun g => by omega)) ?_)))))))
      refine d1g rfl rfl (ofa rfl rfl) (d1g rfl rfl (old rfl rfl) (d1g rfl rfl (oca rfl rfl fun g => iD (by omega) (by omega)) (d1g rfl rfl (ont rfl) (d1 (opk rfl rfl rfl) (d0 (t0 ?_))))))
      refine aN rfl (fun c5 => ?_) (fun c5 => ?_)
      ·exact (lo_no3 c5.h (gY.2 (hs_lo hlo (by omega))) (gY.2 (hs_hi hlo (by omega)))).elim
      ·refine gV ?_
       refine xD rfl (t1 (omv rfl) (t1 (oad rfl rfl (by omega)) (t1 (oas rfl) (t0 ?_))))
       exact ⟨s + 1, kJ (tc rfl (gR _) (tc rfl (gR _) (tc rfl (gR _) (tc rfl (kH (by omega)) tn)))) rfl, (by omega), by omega⟩
     ·have hs := df c4
      refine bN (yQ (xD rfl (t1 (omv rfl) (t1 (oln rfl) (t1 (oge rfl rfl) (t1 (omv rfl) (t1g rfl rfl (oca rfl rfl fun g => k23wakes) ?_)))))))
      refine t1 (opk rfl rfl rfl) (t1 (oas rfl) (t0 (qR ?_)))
      exact tr1 rfl (psb (by simp; omega))
end Go.Proofs.YtfkejnlohkgbgaaGreatDoor
namespace Go.Proofs.YtfkejnlohkgbgaaGreatDoor
open Go Go.SL Go.RowKit Go.Proofs Go.ChangeShapes Go.WideShapes Go.ChangeAt Go.Deep Tryz
abbrev F0 : Nat → Prop := fun _ => False
structure Opn {H : Type} (enc : TypeId × Value → H) (P : Program) (W : World) (B : Nat) (t : TypeId) {α : Type} (sz : Nat) (f : α → CT) (Bd : α → Prop) : Prop where
 c : P.cellsOf t = sz
 s : ∀ a, (f a).sz = sz
 o : ∀ {fuel : Nat} {cs : List Value} {x : DataW H × List MemPlace}, (∀ m ∈ x.1.weights P t, m ≤ B) → DataW.trod enc P W 0 (fun _ => true) true fuel t cs = some x → ∃ a, (f a).p F0 W cs ∧ Bd a
def Two (P : Program) (t t0 t1 : TypeId) (k0 k1 : Nat) : Prop := ∃ fs f0 f1, P.underlying t = some (.struct fs) ∧ fs[0]? = some f0 ∧ fs[1]? = some f1 ∧ f0.type = t0 ∧ f1.type = t1 ∧ f0.offset = 0 ∧ f1.offset = k0 ∧ P.cellsOf t = k0 + k1
def ntx (xs : List Nat) : CT where
 sz := 1
 p M w cs := ∃ v, cs = [v] ∧ IsNat M w v xs
 len h := by obtain ⟨_, rfl, _⟩ := h; rfl
 one h u hu := by obtain ⟨v, rfl, h⟩ := h; rw [List.mem_singleton.1 hu]; exact yN h
 mono h k := by obtain ⟨v, rfl, h⟩ := h; exact ⟨v, rfl, h.cl k⟩
section
variable {H : Type} {enc : TypeId × Value → H} {P : Program} {W : World} {B : Nat}
theorem weights_all {e : TypeId} {m : Nat} {d : DataW H} (hm : m ∈ d.weights P e) : ∀ {l : List (DataW H)}, d ∈ l → m ∈ DataW.weightsAll P e l
 | c :: l, h => by
  simp only [DataW.weightsAll, List.mem_append]
  rcases List.mem_cons.1 h with rfl | h
  ·exact .inl hm
  ·exact .inr (weights_all hm h)
theorem opn_two {α β : Type} {t t0 t1 : TypeId} {k0 k1 : Nat} {f : α → CT} {g : β → CT} {Bf : α → Prop} {Bg : β → Prop} (ht : Two P t t0 t1 k0 k1) (h0 : Opn enc P W B t0 k0 f Bf) (h1 : Opn enc P W B t1 k1 g Bg) :
  Opn enc P W B t (k0 + k1) (fun a : α × β => st [f a.1, g a.2]) (fun a => Bf a.1 ∧ Bg a.2) := by
 obtain ⟨fs, f0, f1, u1, u2, u3, u4, u5, u6, u7, u8⟩ := ht
 refine ⟨u8, fun a => by show (f a.1).sz + ((g a.2).sz + 0) = _; rw [h0.s, h1.s]; rfl, fun {fuel cs x} hw h => ?_⟩
 obtain ⟨xs, n, _, hxe, hl, hx, hall⟩ := DataW.trod_struct u1 h
 have l0 := (Array.getElem?_eq_some_iff.1 u2).1
 have l1 := (Array.getElem?_eq_some_iff.1 u3).1
 have e0 := hall 0 f0 u2
 have e1 := hall 1 f1 u3
 have n0 : P.cellsOf f0.type = k0 := by rw [u4]; exact h0.c
 have n1 : P.cellsOf f1.type = k1 := by rw [u5]; exact h1.c
 rw [u6, n0, List.drop_zero] at e0
 rw [u7, n1] at e1
 have hd : (cs.drop k0).length = k1 := by rw [List.length_drop]; omega
 rw [List.take_of_length_le (by omega)] at e1
 have hwe : ∀ m ∈ DataW.weightsEach P (fs.toList.map (·.type)) (xs.map (·.1)), m ≤ B := fun m hm => hw m (by rw [hxe]; simpa [DataW.weights, u1] using hm)
 have hwi : ∀ (i : Nat) (f : Field) (hi : i < xs.length), fs[i]? = some f → ∀ m ∈ (xs[i]'hi).1.weights P f.type, m ≤ B := fun i f hi hf m hm =>
  hwe m (DataW.weights_mem_each (j := i) (by rw [List.getElem?_map]; simp [hf]) (by rw [List.getElem?_map, List.getElem?_eq_getElem hi]; rfl) m hm)
 have w0 := hwi 0 f0 (by omega) u2
 have w1 := hwi 1 f1 (by omega) u3
 rw [List.getElem?_eq_getElem (show 0 < xs.length by omega)] at e0
 rw [List.getElem?_eq_getElem (show 1 < xs.length by omega)] at e1
 rw [u4] at w0 e0; rw [u5] at w1 e1
 obtain ⟨a, p0, b0⟩ := h0.o w0 e0
 obtain ⟨b, p1, b1⟩ := h1.o w1 e1
 exact ⟨(a, b), ⟨cs.take k0, cs.drop k0, (List.take_append_drop _ _).symm, p0, cs.drop k0, [], by simp, p1, rfl⟩, b0, b1⟩
theorem opn_map {α β : Type} {t : TypeId} {k : Nat} {f : α → CT} {g : β → CT} {Bf : α → Prop} {Bg : β → Prop} (h : Opn enc P W B t k f Bf) (hs : ∀ b, (g b).sz = k) (hm : ∀ a, ∃ b, (∀ cs, (f a).p F0 W cs → (g b).p F0 W cs) ∧ (Bf a → Bg b)) : Opn enc P W B t k g Bg :=
 ⟨h.c, hs, fun hw ht => let ⟨a, p, b⟩ := h.o hw ht; let ⟨c, h1, h2⟩ := hm a; ⟨c, h1 _ p, h2 b⟩⟩
theorem opn_nat {t e : TypeId} (ht : P.underlying t = some (.slice e)) (he : P.underlying e = some (.int .u32)) (ce : P.cellsOf e = 1) (c : P.cellsOf t = 1) (hb : 0 < P.bytesOf e) : Opn enc P W B t 1 ntx (fun xs => xs.length ≤ B) := by
 refine ⟨c, fun _ => rfl, fun {fuel cs x} hw h => ?_⟩
 rcases open_ints ht he ce h with ⟨h1, _⟩ | ⟨a, l, c, zs, h1, _, h3, h4, h5, h6, h7, h8⟩
 ·exact ⟨[], ⟨_, h1, kY⟩, Nat.zero_le _⟩
 ·simp only [if_true] at h5
  have hn := nat_of_cells h3 h4 (by omega) h8 (fun i hi => h7 i (by omega))
  refine ⟨_, ⟨_, h1, hn⟩, ?_⟩
  obtain ⟨_, _, ad, cap, e1, _⟩ := hn.slc
  have e2 : l = _ := (Value.slice.inj e1).2.1
  rw [← e2]
  have h9 := hw (((lits .u32 (zs.take l)).length + (lits (H := H) .u32 (zs.drop l)).length) * P.bytesOf e) (by rw [h6]; simp only [DataW.weights, ht]; exact List.mem_cons_self)
  have h10 : (lits (H := H) .u32 (zs.take l)).length = l := by simp [lits]; omega
  rw [h10] at h9
  exact Nat.le_trans (Nat.le_add_right l _) (Nat.le_trans (Nat.le_mul_of_pos_right _ hb) h9)
theorem opn_bool {t : TypeId} (ht : P.underlying t = some .bool) (hc : P.cellsOf t = 1) : Opn enc P W B t 1 (fun b => xc (.bool b)) (fun _ => True) := by
 refine ⟨hc, fun _ => rfl, fun {fuel cs x} hw h => ?_⟩
 cases fuel with
 | zero => simp [DataW.trod] at h
 | succ n =>
  unfold DataW.trod at h
  rw [ht] at h
  split at h <;> simp_all [xc, Value.oneCell']
theorem addr_add2 (a : Addr) (i j : Nat) : (a.add i).add j = a.add (i + j) := by
 unfold Addr.add
 split <;> split <;> simp_all <;> omega
theorem slc_argk {w : World} {a : Addr} {n cap k : Nat} {f : Nat → Value} (hk : 0 < k) (hn : n ≤ cap) (hc : cap ≤ 9223372036854775807) (h : ∀ i, i < n * k → w.cell? (a.add i) = some (f i)) :
  Slc (fun _ => False) w k (.slice (some a) n cap) n ((List.range (n * k)).map f) := by
 refine ⟨by simp, by omega, _, _, rfl, hn, ?_⟩
 rcases Nat.eq_zero_or_pos n with h0 | h0
 ·exact .inl h0
 right
 have ha := h 0 (Nat.mul_pos h0 hk)
 obtain ⟨b, off, spot⟩ := a
 have e0 : (⟨b, off, spot⟩ : Addr).add 0 = ⟨b, off, spot⟩ := rfl
 rw [e0] at ha
 unfold World.cell? at ha
 split at ha
 case h_2 => cases ha
 case h_1 cur t fz hb =>
  dsimp only at hb
  cases spot with
  | some s => simp at ha
  | none =>
   refine ⟨b, off, rfl, fun h => h, cur, t, fz, hb, fun j u hj => ?_⟩
   obtain ⟨hlt, rfl⟩ := List.getElem?_eq_some_iff.1 hj
   have hlt' : j < n * k := by simpa using hlt
   have := h j hlt'
   rw [gU] at this
   simp only [World.cell?, hb] at this
   simpa using this
theorem opn_slice {α : Type} {t te : TypeId} {k : Nat} {f : α → CT} {Bf : α → Prop} (ht : P.underlying t = some (.slice te)) (c : P.cellsOf t = 1) (he : Opn enc P W B te k f Bf) (hk : 0 < k) : Opn enc P W B t 1 (fun l : List α => sl k (l.map f)) (fun l => ∀ a ∈ l, Bf a) := by
 refine ⟨c, fun _ => rfl, fun {fuel cs x} hw h => ?_⟩
 rcases open_slice ht h with ⟨h1, _⟩ | ⟨a, len, cap, m, n, D, Pl, h1, hb, hl, hm, hmm, hxe, hx⟩
 ·exact ⟨[], ⟨_, [], h1, slc_nil, rfl, by simp [dC]⟩, by simp⟩
 ·simp only [if_true] at hmm
  have hde : x.1 = .slice ((List.range len).map D) ((List.range (m - len)).map fun j => D (len + j)) := congrArg Prod.fst hxe
  have hwd : ∀ i, i < len → ∀ q ∈ (D i).weights P te, q ≤ B := fun i hi q hq => hw q (by
   rw [hde]
   simp only [DataW.weights, ht, List.mem_cons, List.mem_append]
   exact .inr (.inl (weights_all hq (List.mem_map_of_mem (List.mem_range.2 hi)))))
  have hx' : ∀ i, i < len → ∃ y : α × List Value, (∀ q, q < k → W.cell? (a.add (i * k + q)) = some (y.2.getD q default)) ∧ y.2.length = k ∧ (f y.1).p F0 W y.2 ∧ Bf y.1 := fun i hi => by
   obtain ⟨cs', e1, e2⟩ := hx i (by omega)
   rw [he.c] at e1
   obtain ⟨b, g1, g2⟩ := he.o (hwd i hi) e2
   have hl := (f b).len g1
   rw [he.s] at hl
   obtain ⟨_, _, e3⟩ := World.cells?_some e1
   refine ⟨(b, cs'), fun q hq => ?_, hl, g1, g2⟩
   have := e3 q hq
   rw [addr_add2] at this
   rw [this, List.getD_eq_getElem?_getD, List.getElem?_eq_getElem (show q < cs'.length by omega)]; rfl
  rcases Nat.eq_zero_or_pos len with h0 | h0
  ·subst h0
   exact ⟨[], ⟨_, [], h1, slc_zero, rfl, by simp [dC]⟩, by simp⟩
  haveI : Inhabited (α × List Value) := ⟨Classical.choose (hx' 0 h0)⟩
  obtain ⟨Y, hY⟩ := choose_lt hx'
  rw [maxLen_is] at hm
  refine ⟨(List.range len).map fun i => (Y i).1, ?_, fun b hb => by obtain ⟨i, hi, rfl⟩ := List.mem_map.1 hb; exact (hY i (List.mem_range.1 hi)).2.2.2⟩
  rw [h1]
  refine row_from (R := fun M w (b : α) us => (f b).p M w us) he.s (fun _ _ _ h => h) ⟨(List.range (len * k)).map fun j => (Y (j / k)).2.getD (j % k) default, ?_, fun i b hi => ?_⟩
  ·have := slc_argk (k := k) (f := fun j => (Y (j / k)).2.getD (j % k) default) hk hl hm (fun j hj => by
    have h2 := (hY (j / k) (Nat.div_lt_of_lt_mul (by rw [Nat.mul_comm]; exact hj))).1 (j % k) (Nat.mod_lt _ hk)
    rw [Nat.mul_comm, Nat.div_add_mod] at h2
    exact h2)
   simpa using this
  ·obtain ⟨hlt, rfl⟩ := List.getElem?_eq_some_iff.1 hi
   have hlt' : i < len := by simpa using hlt
   obtain ⟨y1, y2, y3, _⟩ := hY i hlt'
   refine ⟨(Y i).2, y2, fun q u hq => ?_, by simpa using y3⟩
   have hq3 : q < k := y2 ▸ (List.getElem?_eq_some_iff.1 hq).1
   have hlt2 : i * k + q < len * k := by have := Nat.mul_le_mul_right k (show i + 1 ≤ len from hlt'); rw [Nat.add_mul, Nat.one_mul] at this; omega
   rw [List.getElem?_map, List.getElem?_range hlt2]
   simp only [Option.map_some]
   rw [show (i * k + q) / k = i by rw [Nat.mul_comm, Nat.mul_add_div hk, Nat.div_eq_of_lt hq3, Nat.add_zero], show (i * k + q) % k = q by rw [Nat.mul_comm, Nat.mul_add_mod, Nat.mod_eq_of_lt hq3], List.getD_eq_getElem?_getD, hq]; rfl
theorem top_struct {α : Type} {t : TypeId} {k : Nat} {f : α → CT} {Bf : α → Prop} {r : Reach} {b0 : Nat} {v : Value} {d : DataW H} {ps : List MemPlace} {fs : Array Field} (ho : Opn enc P W B t k f Bf) (ht : P.underlying t = some (.struct fs)) (hval : Value.okWide P W r b0 t v) (hw : ∀ m ∈ d.weights P t, m ≤ B) (h : DataW.Trod enc P W 0 (fun _ => true) true t v d ps) :
  ∃ a, (ag (f a)).p F0 W v ∧ Bf a := by
 obtain ⟨cs, rfl, _⟩ := okWide_struct ht hval
 obtain ⟨fuel, hf⟩ := h
 obtain ⟨a, h1, h2⟩ := ho.o (x := (d, ps)) hw hf
 exact ⟨a, ⟨_, by simp [Value.cells], h1⟩, h2⟩
theorem top_slice {α : Type} {t te : TypeId} {f : α → CT} {Bf : α → Prop} {r : Reach} {b0 : Nat} {v : Value} {d : DataW H} {ps : List MemPlace} (ho : Opn enc P W B t 1 f Bf) (ht : P.underlying t = some (.slice te)) (hval : Value.okWide P W r b0 t v) (hw : ∀ m ∈ d.weights P t, m ≤ B) (h : DataW.Trod enc P W 0 (fun _ => true) true t v d ps) :
  ∃ a, (sv (f a)).p F0 W v ∧ Bf a := by
 obtain ⟨a0, len, cap, rfl⟩ := okWide_slice ht hval
 obtain ⟨fuel, hf⟩ := h
 obtain ⟨a, h1, h2⟩ := ho.o (x := (d, ps)) hw hf
 exact ⟨a, by have h3 : (f a).p F0 W (Value.cells (.slice a0 len cap)).toList := h1; show (f a).p F0 W [_]; simpa [Value.cells] using h3, h2⟩
theorem top_int {t : TypeId} {k : IntKind} {r : Reach} {b0 : Nat} {v : Value} (ht : P.underlying t = some (.int k)) (hval : Value.okWide P W r b0 t v) : ∃ a, (exP (.int k a)).p F0 W v ∧ k.has a := by
 simp only [Value.okWide, ht, Cell.okWide, Cell.ok] at hval
 cases v <;> simp at hval
 exact ⟨_, by rw [hval.1]; rfl, hval.2⟩
structure NumTypes (P : Program) (tp tr ti tn tb tw : TypeId) : Prop where
 p : Two P tp tr tr 3 3
 r : Two P tr ti tn 2 1
 i : Two P ti tb tn 1 1
 n : P.underlying tn = some (.slice tw)
 w : P.underlying tw = some (.int .u32)
 b : P.underlying tb = some .bool
 cn : P.cellsOf tn = 1
 cw : P.cellsOf tw = 1
 cb : P.cellsOf tb = 1
 hb : 0 < P.bytesOf tw
variable {tp tr ti tn tb tw : TypeId}
theorem opn_rat (T : NumTypes P tp tr ti tn tb tw) : Opn enc P W B tr 3 (fun a : N2 × Rat => rtl a.1 a.2) (fun a => a.1.1 ≤ B ∧ a.1.2 ≤ B) := by
 have hn : Opn enc P W B tn 1 ntx (fun xs => xs.length ≤ B) := opn_nat T.n T.w T.cw T.cn T.hb
 refine opn_map (opn_two T.r (opn_two T.i (opn_bool T.b T.cb) hn) hn) (fun _ => rfl) fun ⟨⟨s, xs⟩, ds⟩ => ⟨((xs.length, ds.length), mkRat (zv s xs) (val ds)), ?_, fun h => ⟨h.1.2, h.2⟩⟩
 rintro cs ⟨x, y, rfl, ⟨x1, y1, rfl, ⟨rfl, _⟩, x2, y2, rfl, ⟨a, rfl, h1⟩, h2⟩, y3, y4, rfl, ⟨d, rfl, h3⟩, h4⟩
 obtain rfl : y2 = [] := h2
 obtain rfl : y4 = [] := h4
 refine ⟨s, a, d, rfl, ⟨xs, ds, h1, h3, Nat.le_max_left _ _, Nat.le_max_right _ _, rfl⟩, ?_, ?_⟩
 ·obtain ⟨_, _, ad, cap, e, _⟩ := h1.slc; exact ⟨ad, cap, by simpa using e⟩
 ·obtain ⟨_, _, ad, cap, e, _⟩ := h3.slc; exact ⟨ad, cap, by simpa using e⟩
abbrev BdP (B : Nat) (a : N4 × P2) : Prop := a.1.1 ≤ B ∧ a.1.2.1 ≤ B ∧ a.1.2.2.1 ≤ B ∧ a.1.2.2.2 ≤ B
theorem opn_pts {tl : TypeId} (hr : Opn enc P W B tr 3 (fun a : N2 × Rat => rtl a.1 a.2) (fun a => a.1.1 ≤ B ∧ a.1.2 ≤ B)) (h : Two P tl tr tr 3 3) : Opn enc P W B tl 6 ptl (BdP B) :=
 opn_map (opn_two h hr hr) (fun _ => rfl) fun ⟨⟨L, q⟩, ⟨K, p⟩⟩ => ⟨((L.1, L.2, K.1, K.2), (q, p)), fun _ h => h, fun h => ⟨h.1.1, h.1.2, h.2.1, h.2.2⟩⟩
theorem opn_pt (T : NumTypes P tp tr ti tn tb tw) : Opn enc P W B tp 6 ptl (BdP B) :=
 opn_pts (opn_rat T) T.p
theorem opn_edge {te : TypeId} (T : NumTypes P tp tr ti tn tb tw) (h : Two P te tp tp 6 6) : Opn enc P W B te 12 edl (fun y => BdP B (y.1.1, y.2.1) ∧ BdP B (y.1.2, y.2.2)) :=
 opn_map (opn_two h (opn_pt T) (opn_pt T)) (fun _ => rfl) fun ⟨⟨L, p⟩, ⟨K, q⟩⟩ => ⟨((L, K), (p, q)), fun _ h => h, fun h => h⟩
theorem reach_le : reachBytes ≤ 200000000000000 := by decide
end
end Go.Proofs.YtfkejnlohkgbgaaGreatDoor
