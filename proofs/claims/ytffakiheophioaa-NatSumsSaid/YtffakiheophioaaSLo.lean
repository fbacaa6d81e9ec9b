import Derived.Test.YtffakiheophioaaSLa
import Derived.Test.YtffakiheophioaaSLn
set_option linter.unusedVariables false
namespace Go.SL
open Go.RowKit
theorem own_nats {M : Nat → Prop} {w : World} {v : Value} {e : TypeId} {n : Nat} {us : List Value} {xss : List (List Nat)} (h : w.ownsRow 0 e 1 v n us) (hm : ∀ k, v.ownBlock = some k → ¬ M k) (hn : n = xss.length) (hle : n ≤ 9223372036854775807)
    (he : ∀ (i : Nat) (xs : List Nat), xss[i]? = some xs → ∃ u : Value, us[i]? = some u ∧ IsNat M w u xs) : IsNats M w v xss := by
  subst hn
  exact ⟨us, own_slc h hm hle, he⟩
theorem nats_cons {M : Nat → Prop} {w : World} {a : Value} {xs : List Nat} {vs : List Value} {xss : List (List Nat)} (h1 : IsNat M w a xs) (h : ∀ (i : Nat) (ys : List Nat), xss[i]? = some ys → ∃ u : Value, vs[i]? = some u ∧ IsNat M w u ys) :
    ∀ (i : Nat) (ys : List Nat), (xs :: xss)[i]? = some ys → ∃ u : Value, ([a] ++ vs)[i]? = some u ∧ IsNat M w u ys := by
  intro i ys hi
  match i with
  | 0 => simp at hi; subst hi; exact ⟨a, rfl, h1⟩
  | i + 1 => obtain ⟨u, hu, hn⟩ := h i ys (by simpa using hi); exact ⟨u, by simpa using hu, hn⟩
theorem els_one {M : Nat → Prop} {w : World} {v : Value} {vs : List Value} {xss : List (List Nat)} (hs : Slc M w 1 v xss.length vs) (h : ∀ (i : Nat) (ys : List Nat), xss[i]? = some ys → ∃ u : Value, vs[i]? = some u ∧ IsNat M w u ys) : ∀ u ∈ vs, u.oneCell' = true := by
  intro u hu
  obtain ⟨i, hi, rfl⟩ := List.getElem_of_mem hu
  have hl : vs.length = xss.length := by simpa using hs.1
  obtain ⟨u', hu', hn⟩ := h i xss[i] (by simp)
  rw [List.getElem?_eq_getElem hi] at hu'
  injection hu' with hu'
  subst hu'
  exact nat_one hn
theorem els_mono {Fz M M' : Nat → Prop} {w w' : World} {vs : List Value} {xss : List (List Nat)} (h : ∀ (i : Nat) (ys : List Nat), xss[i]? = some ys → ∃ u : Value, vs[i]? = some u ∧ IsNat M w u ys) (l : Le Fz M w M' w') :
    ∀ (i : Nat) (ys : List Nat), xss[i]? = some ys → ∃ u : Value, vs[i]? = some u ∧ IsNat M' w' u ys := fun i ys hi => let ⟨u, h1, h2⟩ := h i ys hi; ⟨u, h1, h2.mono l⟩
theorem drop_sum {xss : List (List Nat)} {k : Nat} (hk : k < xss.length) : ((xss.map val).drop k).sum = val (xss.getD k []) + ((xss.map val).drop (k + 1)).sum := by
  rw [List.drop_eq_getElem_cons (by simpa using hk)]
  simp [hk]
theorem take_sum {xss : List (List Nat)} {k : Nat} (hk : k < xss.length) : ((xss.map val).take (k + 1)).sum = ((xss.map val).take k).sum + val (xss.getD k []) :=
  (take_succ_sum hk rfl).symm
end Go.SL
