set_option linter.unusedVariables false
namespace Go.SL

/-- the base of the limbs -/
def LB : Nat := 4294967296

def val : List Nat → Nat
  | [] => 0
  | x :: r => x + 4294967296 * val r

def limbs (n : Nat) : List Nat := if h : n = 0 then [] else (n % 4294967296) :: limbs (n / 4294967296)
termination_by n
decreasing_by omega

theorem limbs_zero : limbs 0 = [] := by rw [limbs]; simp
theorem limbs_pos {n : Nat} (h : n ≠ 0) : limbs n = (n % 4294967296) :: limbs (n / 4294967296) := by rw [limbs]; simp [h]

theorem val_limbs (n : Nat) : val (limbs n) = n := by
  induction n using Nat.strongRecOn with
  | _ n ih =>
    by_cases h : n = 0
    · subst h; rw [limbs_zero]; rfl
    · rw [limbs_pos h]
      simp only [val]
      rw [ih _ (by omega)]
      omega
theorem limbs_lt (n : Nat) : ∀ x ∈ limbs n, x < 4294967296 := by
  induction n using Nat.strongRecOn with
  | _ n ih =>
    by_cases h : n = 0
    · subst h; rw [limbs_zero]; simp
    · rw [limbs_pos h]
      intro x hx
      rcases List.mem_cons.1 hx with rfl | hx
      · omega
      · exact ih _ (by omega) x hx
theorem limbs_eq_nil {n : Nat} : limbs n = [] ↔ n = 0 := by
  constructor
  · intro h
    by_cases hn : n = 0
    · exact hn
    · rw [limbs_pos hn] at h; simp at h
  · rintro rfl; exact limbs_zero
theorem limbs_inj {a b : Nat} (h : limbs a = limbs b) : a = b := by rw [← val_limbs a, h, val_limbs]
theorem limbs_length_eq_zero {n : Nat} : (limbs n).length = 0 ↔ n = 0 := by rw [List.length_eq_zero_iff, limbs_eq_nil]

theorem val_lt : ∀ (xs : List Nat), (∀ x ∈ xs, x < 4294967296) → val xs < 4294967296 ^ xs.length
  | [], _ => by simp [val]
  | x :: r, h => by
    have h1 := val_lt r (fun y hy => h y (by simp [hy]))
    have h2 := h x (by simp)
    simp only [val, List.length_cons, Nat.pow_succ]
    have : 4294967296 * (val r + 1) ≤ 4294967296 * 4294967296 ^ r.length := Nat.mul_le_mul_left _ h1
    rw [Nat.mul_comm (4294967296 ^ r.length)]
    omega
theorem val_append : ∀ (xs ys : List Nat), val (xs ++ ys) = val xs + 4294967296 ^ xs.length * val ys
  | [], ys => by simp [val]
  | x :: r, ys => by
    simp only [List.cons_append, val, val_append r ys, List.length_cons, Nat.pow_succ, Nat.mul_add]
    rw [← Nat.mul_assoc, Nat.mul_comm (4294967296 ^ r.length) 4294967296]
    omega
theorem val_zeros (n : Nat) : val (List.replicate n 0) = 0 := by
  induction n with
  | zero => rfl
  | succ n ih => simp [List.replicate_succ, val, ih]
theorem val_all_zero : ∀ (xs : List Nat), (∀ j, xs.getD j 0 = 0) → val xs = 0
  | [], _ => rfl
  | x :: r, h => by
    have h0 := h 0
    have h1 := val_all_zero r (fun j => by have := h (j + 1); simpa using this)
    simp at h0
    simp [val, h0, h1]
theorem val_take {xs : List Nat} {n : Nat} (h : ∀ j, n ≤ j → xs.getD j 0 = 0) : val (xs.take n) = val xs := by
  have e : xs = xs.take n ++ xs.drop n := (List.take_append_drop n xs).symm
  have h1 : val (xs.drop n) = 0 := val_all_zero _ (fun j => by have := h (n + j) (by omega); simpa using this)
  have h2 : val xs = val (xs.take n ++ xs.drop n) := congrArg val e
  rw [h2, val_append, h1]; simp
theorem val_pos_of_last : ∀ (xs : List Nat), xs ≠ [] → xs.getD (xs.length - 1) 0 ≠ 0 → 0 < val xs
  | [], h, _ => absurd rfl h
  | [x], _, h => by simp at h; simp [val]; omega
  | x :: y :: r, _, h => by
    have := val_pos_of_last (y :: r) (by simp) (by simpa using h)
    simp only [val] at this ⊢
    omega
theorem limbs_val : ∀ (xs : List Nat), (∀ x ∈ xs, x < 4294967296) → (xs = [] ∨ xs.getD (xs.length - 1) 0 ≠ 0) → limbs (val xs) = xs
  | [], _, _ => limbs_zero
  | x :: r, h, hl => by
    have hx := h x (by simp)
    have hr : r = [] ∨ r.getD (r.length - 1) 0 ≠ 0 := by
      cases r with
      | nil => exact .inl rfl
      | cons y r => right; rcases hl with hl | hl
                    · simp at hl
                    · simpa using hl
    have ih := limbs_val r (fun y hy => h y (by simp [hy])) hr
    have hpos : val (x :: r) ≠ 0 := by
      have := val_pos_of_last (x :: r) (by simp) (by rcases hl with hl | hl
                                                     · simp at hl
                                                     · exact hl)
      omega
    rw [limbs_pos hpos]
    have e1 : val (x :: r) % 4294967296 = x := by simp only [val]; omega
    have e2 : val (x :: r) / 4294967296 = val r := by simp only [val]; omega
    rw [e1, e2, ih]
/-- what Trim finds -/
theorem take_limbs {xs : List Nat} {n : Nat} (h : ∀ x ∈ xs, x < 4294967296) (hn : n ≤ xs.length) (hz : ∀ j, n ≤ j → xs.getD j 0 = 0) (hl : n = 0 ∨ xs.getD (n - 1) 0 ≠ 0) : xs.take n = limbs (val xs) := by
  rw [← val_take hz]
  refine (limbs_val _ (fun x hx => h x (List.mem_of_mem_take hx)) ?_).symm
  rcases hl with hl | hl
  · left; subst hl; simp
  · right
    have : (xs.take n).length = n := by simp [hn]
    rw [this]
    have hn0 : 0 < n := by rcases Nat.eq_zero_or_pos n with h0 | h0
                           · subst h0; simp at hl; exfalso; have := hz 0 (Nat.le_refl _); simp at this; exact hl this
                           · exact h0
    have e : (xs.take n).getD (n - 1) 0 = xs.getD (n - 1) 0 := by
      simp only [List.getD_eq_getElem?_getD, List.getElem?_take]
      rw [if_pos (by omega)]
    rw [e]; exact hl
theorem limbs_length_le {n k : Nat} (h : n < 4294967296 ^ k) : (limbs n).length ≤ k := by
  induction k generalizing n with
  | zero => simp at h; subst h; simp [limbs_zero]
  | succ k ih =>
    by_cases hn : n = 0
    · subst hn; simp [limbs_zero]
    · rw [limbs_pos hn]
      have := ih (n := n / 4294967296) (by rw [Nat.pow_succ] at h; exact Nat.div_lt_of_lt_mul (by rw [Nat.mul_comm]; exact h))
      simp only [List.length_cons]; omega
theorem limbs_val_length_le (xs : List Nat) (h : ∀ x ∈ xs, x < 4294967296) : (limbs (val xs)).length ≤ xs.length := limbs_length_le (val_lt xs h)
/-- no limb of nought stands last -/
theorem limbs_last {n : Nat} (h : limbs n ≠ []) : (limbs n).getD ((limbs n).length - 1) 0 ≠ 0 := by
  induction n using Nat.strongRecOn with
  | _ n ih =>
    have hn : n ≠ 0 := fun e => h (limbs_eq_nil.2 e)
    by_cases h2 : n / 4294967296 = 0
    · rw [limbs_pos hn, h2, limbs_zero]; simp; omega
    · have := ih (n / 4294967296) (by omega) (fun e => h2 (limbs_eq_nil.1 e))
      rw [limbs_pos hn]
      have hl : 0 < (limbs (n / 4294967296)).length := by
        rcases Nat.eq_zero_or_pos (limbs (n / 4294967296)).length with h0 | h0
        · exact absurd (limbs_length_eq_zero.1 h0) h2
        · exact h0
      have e : ((n % 4294967296) :: limbs (n / 4294967296)).length - 1 = ((limbs (n / 4294967296)).length - 1) + 1 := by simp; omega
      rw [e]; simpa using this
theorem getD_out {xs : List Nat} {j : Nat} (h : xs.length ≤ j) : xs.getD j 0 = 0 := by simp [h]
/-- what a small number is told as -/
def smallN (n : Nat) : Nat := if n < 18446744073709551616 then n else 0
theorem val_ge : ∀ (xs : List Nat) (j : Nat), xs.getD j 0 ≠ 0 → 4294967296 ^ j ≤ val xs
  | [], j, h => by simp at h
  | x :: r, 0, h => by simp at h; simp [val]; omega
  | x :: r, j + 1, h => by
    have := val_ge r j (by simpa using h)
    simp only [val, Nat.pow_succ]; omega
theorem small_big {xs : List Nat} {j : Nat} (h : ∀ x ∈ xs, x < 4294967296) (hj : 2 ≤ j) (h0 : xs.getD j 0 ≠ 0) : ¬ val xs < 18446744073709551616 := by
  have h1 := val_ge xs j h0
  have h2 : 4294967296 ^ 2 ≤ 4294967296 ^ j := Nat.pow_le_pow_right (by omega) hj
  have : (4294967296 : Nat) ^ 2 = 18446744073709551616 := by decide
  omega
theorem getD_lt {xs : List Nat} (h : ∀ x ∈ xs, x < 4294967296) (j : Nat) : xs.getD j 0 < 4294967296 := by
  rcases Nat.lt_or_ge j xs.length with hj | hj
  · have : xs.getD j 0 = xs[j] := by simp [hj]
    rw [this]; exact h _ (List.getElem_mem hj)
  · rw [getD_out hj]; omega
theorem small_val {xs : List Nat} (h : ∀ x ∈ xs, x < 4294967296) (hz : ∀ j, 2 ≤ j → xs.getD j 0 = 0) : val xs < 18446744073709551616 ∧ val xs = xs.getD 0 0 + 4294967296 * xs.getD 1 0 := by
  have e : val xs = xs.getD 0 0 + 4294967296 * xs.getD 1 0 := by
    cases xs with
    | nil => simp [val]
    | cons x r => cases r with
      | nil => simp [val]
      | cons y r =>
        have : val r = 0 := val_all_zero r (fun j => by have := hz (j + 2) (by omega); simpa using this)
        simp [val, this]
  have h0 := getD_lt h 0
  have h1 := getD_lt h 1
  omega
theorem or_hi (a b : Nat) (hb : b < 4294967296) : a * 4294967296 ||| b = a * 4294967296 + b := by
  have := Nat.shiftLeft_add_eq_or_of_lt (a := a) (b := b) (i := 32) (by simpa using hb)
  simpa [Nat.shiftLeft_eq] using this.symm
def cmpN (a b : Nat) : Int := if a < b then -1 else if b < a then 1 else 0
theorem cmpN_lt {a b : Nat} (h : a < b) : cmpN a b = -1 := by simp [cmpN, h]
theorem cmpN_gt {a b : Nat} (h : b < a) : cmpN a b = 1 := by simp [cmpN, h, Nat.not_lt.2 (Nat.le_of_lt h)]
theorem cmpN_eq {a b : Nat} (h : a = b) : cmpN a b = 0 := by simp [cmpN, h]
theorem val_eq_at : ∀ {xs ys : List Nat}, (∀ j, xs.getD j 0 = ys.getD j 0) → val xs = val ys
  | [], ys, h => by rw [val_all_zero ys (fun j => by rw [← h j]; simp)]; rfl
  | x :: r, [], h => by rw [val_all_zero (x :: r) (fun j => by rw [h j]; simp)]; rfl
  | x :: r, y :: q, h => by
    have h0 := h 0
    have h1 := val_eq_at (xs := r) (ys := q) (fun j => by have := h (j + 1); simpa using this)
    simp at h0
    simp [val, h0, h1]
theorem val_lt_at : ∀ {xs ys : List Nat} {j : Nat}, (∀ x ∈ xs, x < 4294967296) → (∀ x ∈ ys, x < 4294967296) → xs.getD j 0 < ys.getD j 0 → (∀ i, j < i → xs.getD i 0 = ys.getD i 0) → val xs < val ys
  | [], ys, j, _, _, h, _ => by
    have h0 : ([] : List Nat).getD j 0 = 0 := by simp
    have := val_ge ys j (by omega)
    have : 0 < 4294967296 ^ j := Nat.pow_pos (by omega)
    simp [val]; omega
  | x :: r, [], j, _, _, h, _ => by simp at h
  | x :: r, y :: q, 0, _, _, h, hz => by
    have : val r = val q := val_eq_at (fun i => by have := hz (i + 1) (by omega); simpa using this)
    simp at h; simp [val, this]; omega
  | x :: r, y :: q, j + 1, hx, hy, h, hz => by
    have := val_lt_at (xs := r) (ys := q) (j := j) (fun z hz => hx z (by simp [hz])) (fun z hz => hy z (by simp [hz])) (by simpa using h) (fun i hi => by have := hz (i + 1) (by omega); simpa using this)
    have h1 := hx x (by simp)
    simp only [val]; omega
/-- two numbers' limbs, side by side -/
def pairsOf (xs ys : List Nat) : List (Nat × Nat) := (List.range (max xs.length ys.length)).map fun i => (xs.getD i 0, ys.getD i 0)
theorem map_take_range {α : Type} (f : Nat → α) {n s : Nat} (h : s < n) : (((List.range n).map f).take (s + 1)) = ((List.range n).map f).take s ++ [f s] ∧ (List.range n).map f = ((List.range n).map f).take s ++ f s :: ((List.range n).map f).drop (s + 1) := by
  have hl : s < ((List.range n).map f).length := by simpa using h
  have e : ((List.range n).map f)[s] = f s := by simp
  constructor
  · rw [List.take_succ_eq_append_getElem hl, e]
  · have := List.take_append_drop s ((List.range n).map f)
    rw [List.drop_eq_getElem_cons hl, e] at this
    exact this.symm
theorem pairs_take {xs ys : List Nat} {s : Nat} (h : s < max xs.length ys.length) : (pairsOf xs ys).take (s + 1) = (pairsOf xs ys).take s ++ [(xs.getD s 0, ys.getD s 0)] ∧ pairsOf xs ys = (pairsOf xs ys).take s ++ (xs.getD s 0, ys.getD s 0) :: (pairsOf xs ys).drop (s + 1) := map_take_range _ h
theorem pairs_all {xs ys : List Nat} {s : Nat} (h : max xs.length ys.length ≤ s) : (pairsOf xs ys).take s = pairsOf xs ys := List.take_of_length_le (by simpa [pairsOf] using h)
theorem val_map_range (f : Nat → Nat) : ∀ (n : Nat) (xs : List Nat), (∀ j, j < n → f j = xs.getD j 0) → (∀ j, n ≤ j → xs.getD j 0 = 0) → val ((List.range n).map f) = val xs := by
  intro n xs h hz
  refine val_eq_at fun j => ?_
  rcases Nat.lt_or_ge j n with hj | hj
  · have : ((List.range n).map f).getD j 0 = f j := by simp [hj]
    rw [this, h j hj]
  · rw [getD_out (by simpa using hj), hz j hj]
theorem val_pairs_fst (xs ys : List Nat) : val ((pairsOf xs ys).map (·.1)) = val xs := by
  unfold pairsOf; rw [List.map_map]
  exact val_map_range _ _ xs (fun j _ => rfl) (fun j hj => getD_out (by omega))
theorem val_pairs_snd (xs ys : List Nat) : val ((pairsOf xs ys).map (·.2)) = val ys := by
  unfold pairsOf; rw [List.map_map]
  exact val_map_range _ _ ys (fun j _ => rfl) (fun j hj => getD_out (by omega))
theorem pairs_lt {xs ys : List Nat} (hx : ∀ x ∈ xs, x < 4294967296) (hy : ∀ x ∈ ys, x < 4294967296) : ∀ p ∈ pairsOf xs ys, p.1 < 4294967296 ∧ p.2 < 4294967296 := by
  intro p hp
  obtain ⟨i, _, rfl⟩ := List.mem_map.1 hp
  exact ⟨getD_lt hx i, getD_lt hy i⟩
theorem pairs_length (xs ys : List Nat) : (pairsOf xs ys).length = max xs.length ys.length := by simp [pairsOf]
theorem val_snoc (xs : List Nat) (x : Nat) : val (xs ++ [x]) = val xs + 4294967296 ^ xs.length * x := by rw [val_append]; simp [val]
/-- one limb of a sum -/
theorem add_step {zs : List Nat} {pre : List (Nat × Nat)} {c x y : Nat} (hz : zs.length = pre.length) (h : val zs + 4294967296 ^ zs.length * c = val (pre.map (·.1)) + val (pre.map (·.2))) :
    val (zs ++ [(c + (x + y)) % 4294967296]) + 4294967296 ^ (zs ++ [(c + (x + y)) % 4294967296]).length * ((c + (x + y)) / 4294967296) = val ((pre ++ [(x, y)]).map (·.1)) + val ((pre ++ [(x, y)]).map (·.2)) := by
  simp only [List.map_append, List.map_cons, List.map_nil, val_snoc, List.length_append, List.length_cons, List.length_nil, List.length_map, Nat.pow_succ, hz]
  rw [hz] at h
  generalize 4294967296 ^ pre.length = B at *
  have e := Nat.div_add_mod (c + (x + y)) 4294967296
  generalize (c + (x + y)) / 4294967296 = q at *
  generalize (c + (x + y)) % 4294967296 = r at *
  have e2 : B * (4294967296 * q + r) = B * (c + (x + y)) := by rw [e]
  simp only [Nat.mul_add] at e2 h ⊢
  rw [Nat.mul_assoc B 4294967296 q]
  omega
theorem take_succ_sum {xss : List (List Nat)} {k : Nat} {xs : List Nat} (hk : k < xss.length) (hx : xss.getD k [] = xs) : ((xss.map val).take k).sum + val xs = ((xss.map val).take (k + 1)).sum := by
  have hk' : k < (xss.map val).length := by simpa using hk
  rw [List.take_succ_eq_append_getElem hk', List.sum_append]
  have : (xss.map val)[k] = val xs := by rw [← hx]; simp [hk]
  simp [this]
/-- one limb of a difference -/
def subD (x y c : Nat) : Nat := ((x + (18446744073709551616 - y)) % 18446744073709551616 + (18446744073709551616 - c)) % 18446744073709551616
theorem subD_eq {x y c : Nat} (hx : x < 4294967296) (hy : y < 4294967296) (hc : c ≤ 1) : subD x y c % 4294967296 + y + c = x + 4294967296 * (subD x y c / 9223372036854775808) ∧ subD x y c / 9223372036854775808 ≤ 1 ∧ subD x y c < 18446744073709551616 := by
  unfold subD; omega
theorem sub_step {zs : List Nat} {pre : List (Nat × Nat)} {c c' x y z : Nat} (hz : zs.length = pre.length) (h : val zs + val (pre.map (·.2)) + 4294967296 ^ zs.length * c = val (pre.map (·.1)) + 4294967296 ^ zs.length * (2 * c)) (hs : z + y + c = x + 4294967296 * c') :
    val (zs ++ [z]) + val ((pre ++ [(x, y)]).map (·.2)) + 4294967296 ^ (zs ++ [z]).length * c' = val ((pre ++ [(x, y)]).map (·.1)) + 4294967296 ^ (zs ++ [z]).length * (2 * c') := by
  simp only [List.map_append, List.map_cons, List.map_nil, val_snoc, List.length_append, List.length_cons, List.length_nil, List.length_map, Nat.pow_succ, hz] at h ⊢
  generalize 4294967296 ^ pre.length = B at *
  have e2 : B * (z + y + c) = B * (x + 4294967296 * c') := by rw [hs]
  simp only [Nat.mul_add] at e2
  have e3 : B * (2 * c) = B * c + B * c := by rw [Nat.two_mul, Nat.mul_add]
  have e4 : B * 4294967296 * (2 * c') = B * (4294967296 * c') + B * (4294967296 * c') := by rw [Nat.two_mul, Nat.mul_add, Nat.mul_assoc]
  rw [Nat.mul_assoc B 4294967296 c', e4]
  omega
theorem sub_end {zs : List Nat} {a b c : Nat} (hl : ∀ z ∈ zs, z < 4294967296) (h : val zs + b + 4294967296 ^ zs.length * c = a + 4294967296 ^ zs.length * (2 * c)) (hc : c ≤ 1) (hab : b ≤ a) : val zs = a - b := by
  have h1 := val_lt zs hl
  rcases Nat.lt_or_ge c 1 with h2 | h2
  · obtain rfl : c = 0 := by omega
    simp at h; omega
  · obtain rfl : c = 1 := by omega
    simp only [Nat.mul_one] at h; omega
theorem cmpN_neg {a b : Nat} : cmpN a b < 0 ↔ a < b := by
  unfold cmpN; split
  · simp [*]
  · split <;> simp <;> omega
def lst (vs : List Nat) : Nat → Int
  | 0 => -1
  | k + 1 => if lst vs k < 0 ∨ vs.getD k 0 < vs.getD (lst vs k).toNat 0 then (k : Int) else lst vs k
theorem lst_bound (vs : List Nat) : ∀ k, -1 ≤ lst vs k ∧ lst vs k < k
  | 0 => by simp [lst]
  | k + 1 => by
    have := lst_bound vs k
    unfold lst; split <;> omega
theorem lst_new {vs : List Nat} {k : Nat} (h : lst vs k < 0 ∨ vs.getD k 0 < vs.getD (lst vs k).toNat 0) : lst vs (k + 1) = k := by rw [lst, if_pos h]
theorem lst_old {vs : List Nat} {k : Nat} (h1 : ¬ lst vs k < 0) (h2 : ¬ vs.getD k 0 < vs.getD (lst vs k).toNat 0) : lst vs (k + 1) = lst vs k := by
  rw [lst, if_neg (fun h => h.elim h1 h2)]
theorem map_val_getD (xss : List (List Nat)) (k : Nat) : (xss.map val).getD k 0 = val (xss.getD k []) := by
  rcases Nat.lt_or_ge k xss.length with h | h
  · simp [h]
  · simp [h, val]
/-- too great to be asked -/
def gsum (xss : List (List Nat)) : Nat → Nat
  | 0 => 0
  | k + 1 => gsum xss k + min (xss.getD k []).length 10000
def greatB (xss : List (List Nat)) : Bool := decide (100 < xss.length ∨ 600 < gsum xss (min xss.length 101))
theorem gsum_le (xss : List (List Nat)) : ∀ k, gsum xss k ≤ 10000 * k
  | 0 => by simp [gsum]
  | k + 1 => by have := gsum_le xss k; simp only [gsum]; omega
theorem gsum_mono (xss : List (List Nat)) {j k : Nat} (h : j ≤ k) : gsum xss j ≤ gsum xss k := by
  induction k with
  | zero => obtain rfl : j = 0 := by omega
            exact Nat.le_refl _
  | succ k ih =>
    rcases Nat.eq_or_lt_of_le h with rfl | h
    · exact Nat.le_refl _
    · have := ih (by omega); simp only [gsum]; omega
theorem not_great {xss : List (List Nat)} (h : greatB xss = false) : xss.length ≤ 100 ∧ ∀ xs ∈ xss, xs.length ≤ 600 := by
  unfold greatB at h
  simp only [decide_eq_false_iff_not, not_or, Nat.not_lt] at h
  refine ⟨h.1, fun xs hx => ?_⟩
  obtain ⟨k, hk, rfl⟩ := List.getElem_of_mem hx
  have h1 : gsum xss (k + 1) ≤ gsum xss (min xss.length 101) := gsum_mono xss (by omega)
  have h2 : xss.getD k [] = xss[k] := by simp [hk]
  simp only [gsum, h2] at h1
  omega
theorem not_great2 {xs ys : List Nat} (h : greatB [xs, ys] = false) : xs.length ≤ 600 ∧ ys.length ≤ 600 := by
  have := (not_great h).2; exact ⟨this xs (by simp), this ys (by simp)⟩
theorem not_great3 {xs ys zs : List Nat} (h : greatB [xs, ys, zs] = false) : xs.length ≤ 600 ∧ ys.length ≤ 600 ∧ zs.length ≤ 600 := by
  have := (not_great h).2; exact ⟨this xs (by simp), this ys (by simp), this zs (by simp)⟩
theorem drop_val {xs : List Nat} {s : Nat} (h : s < xs.length) : val (xs.drop s) = xs.getD s 0 + 4294967296 * val (xs.drop (s + 1)) := by
  rw [List.drop_eq_getElem_cons h]; simp [val, h]
theorem eq_of_getD {xs ys : List Nat} (hl : xs.length = ys.length) (h : ∀ j, j < xs.length → xs.getD j 0 = ys.getD j 0) : xs = ys := by
  apply List.ext_getElem hl
  intro i h1 h2
  have := h i h1
  simpa [h1, h2] using this
theorem small_len {xs : List Nat} (h : (limbs (val xs)).length ≤ 2) : val xs < 18446744073709551616 := by
  have := val_lt (limbs (val xs)) (limbs_lt _)
  rw [val_limbs] at this
  have h2 : 4294967296 ^ (limbs (val xs)).length ≤ 4294967296 ^ 2 := Nat.pow_le_pow_right (by omega) h
  have h3 : (4294967296 : Nat) ^ 2 = 18446744073709551616 := by decide
  omega
theorem big_len {xs : List Nat} (h : 2 < (limbs (val xs)).length) : ¬ val xs < 18446744073709551616 := by
  intro hc
  have := limbs_length_le (n := val xs) (k := 2) (by have h3 : (4294967296 : Nat) ^ 2 = 18446744073709551616 := by decide
                                                     omega)
  omega
theorem take_snoc_val {xs : List Nat} {k : Nat} : val (xs.take (k + 1)) = val (xs.take k) + 4294967296 ^ k * xs.getD k 0 := by
  rcases Nat.lt_or_ge k xs.length with h | h
  · rw [List.take_succ_eq_append_getElem h, val_snoc]
    simp [h, Nat.min_eq_left (Nat.le_of_lt h)]
  · rw [List.take_of_length_le (by omega), List.take_of_length_le h, getD_out h]; simp
theorem rsub_step {zs xs ys : List Nat} {k c c' z : Nat} (hz : zs.length = k) (h : val zs + val (ys.take k) + 4294967296 ^ zs.length * c = val (xs.take k) + 4294967296 ^ zs.length * (2 * c)) (hs : z + ys.getD k 0 + c = xs.getD k 0 + 4294967296 * c') (hc : c' ≤ 1) :
    val (zs ++ [z]) + val (ys.take (k + 1)) + 4294967296 ^ (zs ++ [z]).length * c' = val (xs.take (k + 1)) + 4294967296 ^ (zs ++ [z]).length * (2 * c') := by
  simp only [take_snoc_val, val_snoc, List.length_append, List.length_cons, List.length_nil, Nat.pow_succ, hz] at h ⊢
  generalize 4294967296 ^ k = B at *
  have e2 : B * (z + ys.getD k 0 + c) = B * (xs.getD k 0 + 4294967296 * c') := by rw [hs]
  simp only [Nat.mul_add] at e2
  have e3 : B * (2 * c) = B * c + B * c := by rw [Nat.two_mul, Nat.mul_add]
  have e4 : B * 4294967296 * (2 * c') = B * (4294967296 * c') + B * (4294967296 * c') := by rw [Nat.two_mul, Nat.mul_add, Nat.mul_assoc]
  rw [Nat.mul_assoc B 4294967296 c', e4]
  omega
theorem val_take_le {xs ys : List Nat} (h : ∀ x ∈ xs, x < 4294967296) (hle : val ys ≤ val xs) : val (ys.take xs.length) = val ys := by
  refine val_take fun j hj => ?_
  apply Classical.byContradiction
  intro hc
  have h1 := val_ge ys j hc
  have h2 := val_lt xs h
  have h3 : 4294967296 ^ xs.length ≤ 4294967296 ^ j := Nat.pow_le_pow_right (by omega) hj
  omega
theorem cmpN_le (a b : Nat) : -1 ≤ cmpN a b ∧ cmpN a b ≤ 1 := by unfold cmpN; split <;> (try split) <;> omega
theorem cmpN_swap (a b : Nat) : cmpN b a = -cmpN a b := by unfold cmpN; split <;> split <;> (try split) <;> omega
theorem cmpN_self (a : Nat) : cmpN a a = 0 := cmpN_eq rfl
theorem cmpN_add (a b c : Nat) : cmpN (a + c) (b + c) = cmpN a b := by unfold cmpN; split <;> split <;> (try split) <;> (try split) <;> omega
theorem cmpN_trans {a b c : Nat} (h1 : cmpN a b ≤ 0) (h2 : cmpN b c ≤ 0) : ¬ 0 < cmpN a c := by
  unfold cmpN at *; split <;> split at h1 <;> split at h2 <;> (try split) <;> (try split at h1) <;> (try split at h2) <;> omega
theorem order_e (a b : Nat) : (decide ((if a < b then (10 : Int) else 0) = 10) == decide (cmpN a b < 0)) = true := by
  unfold cmpN; split <;> (try split) <;> simp
theorem order_f (a b : Nat) : (decide ((if a < b then (10 : Int) else 0) = 0) == decide (cmpN a b ≥ 0)) = true := by
  unfold cmpN; split <;> (try split) <;> simp
theorem order_l (a b : Nat) : (decide ((((limbs (a - b)).length : Nat) : Int) = 0) == decide (cmpN a b ≤ 0)) = true := by
  have h : ((((limbs (a - b)).length : Nat) : Int) = 0) ↔ a - b = 0 := by rw [← limbs_length_eq_zero]; omega
  rw [beq_iff_eq, decide_eq_decide, h]
  unfold cmpN; split <;> (try split) <;> omega
theorem order_s (a b : Nat) : (decide (limbs a = limbs b) == decide (cmpN a b = 0)) = true := by
  have h : (limbs a = limbs b) ↔ a = b := ⟨limbs_inj, fun h => by rw [h]⟩
  rw [beq_iff_eq, decide_eq_decide, h]
  unfold cmpN; split <;> (try split) <;> omega
theorem val_lt_pow {xs : List Nat} {k : Nat} (h : ∀ x ∈ xs, x < 4294967296) (hk : xs.length ≤ k) : val xs < 4294967296 ^ k :=
  Nat.lt_of_lt_of_le (val_lt xs h) (Nat.pow_le_pow_right (by omega) hk)
theorem add_len {a b k : Nat} (ha : a < 4294967296 ^ k) (hb : b < 4294967296 ^ k) : (limbs (a + b)).length ≤ k + 1 := by
  refine limbs_length_le ?_
  rw [Nat.pow_succ]; omega
end Go.SL
