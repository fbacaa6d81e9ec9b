import Derived.Test.YtffakiheophioaaSLo
set_option linter.unusedVariables false
set_option linter.unusedSimpArgs false
namespace Go.SL
open Go.RowKit
theorem val_set : ∀ {zs : List Nat} {j : Nat} (v : Nat), j < zs.length → val (zs.set j v) + 4294967296 ^ j * zs.getD j 0 = val zs + 4294967296 ^ j * v
  | [], j, v, h => by simp at h
  | z :: zs, 0, v, h => by simp [val]; omega
  | z :: zs, j + 1, v, h => by
    have ih := val_set (zs := zs) (j := j) v (by simpa using h)
    simp only [List.set_cons_succ, val, List.getD_cons_succ, Nat.pow_succ]
    have e1 : 4294967296 ^ j * 4294967296 * zs.getD j 0 = 4294967296 * (4294967296 ^ j * zs.getD j 0) := by rw [Nat.mul_comm (4294967296 ^ j) 4294967296, Nat.mul_assoc]
    have e2 : 4294967296 ^ j * 4294967296 * v = 4294967296 * (4294967296 ^ j * v) := by rw [Nat.mul_comm (4294967296 ^ j) 4294967296, Nat.mul_assoc]
    omega
theorem set_lt {zs : List Nat} {j v : Nat} (h : ∀ z ∈ zs, z < 4294967296) (hv : v < 4294967296) : ∀ z ∈ zs.set j v, z < 4294967296 := by
  intro z hz
  rcases List.mem_or_eq_of_mem_set hz with h1 | h1
  · exact h z h1
  · omega
theorem val_set_ne {zs : List Nat} {i j v : Nat} (h : i ≠ j) : (zs.set i v).getD j 0 = zs.getD j 0 := by
  simp [List.getD_eq_getElem?_getD, List.getElem?_set_ne h]
theorem mul_step {zs : List Nat} {T q o c j : Nat} (hj : j < zs.length) (ho : zs.getD j 0 = o) (h : val zs + 4294967296 ^ j * c = T) :
    val (zs.set j ((q + o + c) % 4294967296)) + 4294967296 ^ (j + 1) * ((q + o + c) / 4294967296) = T + 4294967296 ^ j * q := by
  have h1 := val_set ((q + o + c) % 4294967296) hj
  rw [ho] at h1
  have h2 := Nat.div_add_mod (q + o + c) 4294967296
  have h3 : 4294967296 ^ j * (4294967296 * ((q + o + c) / 4294967296) + (q + o + c) % 4294967296) = 4294967296 ^ j * (q + o + c) := by rw [h2]
  rw [Nat.mul_add, Nat.mul_add, Nat.mul_add, ← Nat.mul_assoc] at h3
  rw [Nat.pow_succ]
  omega
theorem mul_row {xs ys : List Nat} {i k : Nat} : val (xs.take i) * val ys + 4294967296 ^ i * (xs.getD i 0 * val (ys.take k)) + 4294967296 ^ (i + k) * (xs.getD i 0 * ys.getD k 0) = val (xs.take i) * val ys + 4294967296 ^ i * (xs.getD i 0 * val (ys.take (k + 1))) := by
  rw [take_snoc_val, Nat.pow_add, Nat.mul_add, Nat.mul_add, Nat.add_assoc, Nat.mul_assoc]
  congr 2
  rw [Nat.mul_left_comm (4294967296 ^ k)]
theorem mul_rows {xs ys : List Nat} {i : Nat} : val (xs.take i) * val ys + 4294967296 ^ i * (xs.getD i 0 * val ys) = val (xs.take (i + 1)) * val ys := by
  rw [take_snoc_val, Nat.add_mul, Nat.mul_assoc]
/-- a count within its bounds -/
def cntN (k m : Int) : Nat := (min (max k 0) m).toNat
theorem cntN_is {k m : Int} (h : 0 ≤ m) : min (max k 0) m = (cntN k m : Int) ∧ max (min k m) 0 = (cntN k m : Int) ∧ (cntN k m : Int) ≤ m := by unfold cntN; omega
/-- how many bits -/
def bitsN (n : Nat) : Nat := if n = 0 then 0 else Nat.log2 n + 1
theorem bitsN_zero : bitsN 0 = 0 := rfl
theorem bitsN_half {n : Nat} (h : 0 < n) : bitsN n = bitsN (n / 2) + 1 := by
  unfold bitsN
  rw [if_neg (by omega)]
  by_cases h2 : n / 2 = 0
  · rw [if_pos h2]
    have : n = 1 := by omega
    subst this; decide
  · rw [if_neg h2]
    have : Nat.log2 n = Nat.log2 (n / 2) + 1 := by
      rw [Nat.log2_def, if_pos (by omega)]
    omega
theorem bitsN_shift (n : Nat) (h : 0 < n) : ∀ k, bitsN (n * 2 ^ k) = bitsN n + k
  | 0 => by simp
  | k + 1 => by
    have hp : 0 < n * 2 ^ k := Nat.mul_pos h (Nat.pow_pos (by omega))
    rw [Nat.pow_succ, ← Nat.mul_assoc, bitsN_half (by omega), show n * 2 ^ k * 2 / 2 = n * 2 ^ k by omega, bitsN_shift n h k]; rfl
theorem bitsN_lt (n : Nat) : n < 2 ^ bitsN n := by
  unfold bitsN
  by_cases h : n = 0
  · subst h; decide
  · rw [if_neg h]; exact Nat.lt_log2_self
theorem bitsN_le {n : Nat} (h : 0 < n) : 2 ^ (bitsN n - 1) ≤ n := by
  unfold bitsN
  rw [if_neg (by omega)]; exact Nat.log2_self_le (by omega)
theorem bitsN_unique {n k : Nat} (h0 : 0 < n) (h1 : n < 2 ^ k) (h2 : 2 ^ (k - 1) ≤ n) : bitsN n = k := by
  have a1 := bitsN_lt n
  have a2 := bitsN_le h0
  have b1 : k - 1 < bitsN n := (Nat.pow_lt_pow_iff_right (by omega)).1 (Nat.lt_of_le_of_lt h2 a1)
  have b2 : bitsN n - 1 < k := (Nat.pow_lt_pow_iff_right (by omega)).1 (Nat.lt_of_le_of_lt a2 h1)
  rcases Nat.eq_zero_or_pos k with hk | hk
  · subst hk; omega
  · omega
/-- the highest limb tells the bits -/
theorem bitsN_top {h l k : Nat} (hh : 0 < h) (hl : l < 2 ^ k) : bitsN (l + 2 ^ k * h) = k + bitsN h := by
  have hk : 0 < 2 ^ k := Nat.pow_pos (by omega)
  have a1 := bitsN_lt h
  have a2 := bitsN_le hh
  have hb : 0 < bitsN h := by
    rw [bitsN_half hh]; omega
  refine bitsN_unique ?_ ?_ ?_
  · have := Nat.mul_pos hk hh; omega
  · rw [Nat.pow_add]
    have : 2 ^ k * (h + 1) ≤ 2 ^ k * 2 ^ bitsN h := Nat.mul_le_mul_left _ a1
    rw [Nat.mul_add] at this; omega
  · rw [show k + bitsN h - 1 = k + (bitsN h - 1) by omega, Nat.pow_add]
    have : 2 ^ k * 2 ^ (bitsN h - 1) ≤ 2 ^ k * h := Nat.mul_le_mul_left _ a2
    omega
/-- the product of a row -/
def prodN : List Nat → Nat
  | [] => 1
  | x :: r => x * prodN r
theorem prodN_snoc : ∀ (l : List Nat) (x : Nat), prodN (l ++ [x]) = prodN l * x
  | [], x => by simp [prodN]
  | y :: l, x => by simp only [List.cons_append, prodN, prodN_snoc l x, Nat.mul_assoc]
theorem prodN_take {xss : List (List Nat)} {k : Nat} (hk : k < xss.length) : prodN ((xss.map val).take (k + 1)) = prodN ((xss.map val).take k) * val (xss.getD k []) := by
  rw [List.take_succ_eq_append_getElem (by simpa using hk), prodN_snoc]
  simp [hk]
theorem mul_lt_pow {a b j k : Nat} (ha : a < 4294967296 ^ j) (hb : b < 4294967296 ^ k) : a * b < 4294967296 ^ (j + k) := by
  rw [Nat.pow_add]; exact Nat.mul_lt_mul'' ha hb
theorem mul_len {a b j k : Nat} (ha : a < 4294967296 ^ j) (hb : b < 4294967296 ^ k) : (limbs (a * b)).length ≤ j + k := limbs_length_le (mul_lt_pow ha hb)
theorem one_limbs : limbs 1 = [1] := by rw [limbs_pos (by decide), show (1 / 4294967296 : Nat) = 0 by decide, limbs_zero]
theorem pow_lt_pow {a n : Nat} (h : a < 4294967296 ^ n) : ∀ k, a ^ k < 4294967296 ^ (n * k + 1)
  | 0 => by simp
  | k + 1 => by
    have := mul_lt_pow (pow_lt_pow h k) h
    rw [Nat.pow_succ]
    exact Nat.lt_of_lt_of_eq this (by congr 1; rw [Nat.mul_add]; omega)
theorem limbs_top {n : Nat} (h : limbs n ≠ []) : n = val ((limbs n).take ((limbs n).length - 1)) + 4294967296 ^ ((limbs n).length - 1) * (limbs n).getD ((limbs n).length - 1) 0 := by
  have h1 : (limbs n).length ≠ 0 := fun e => h (List.length_eq_zero_iff.1 e)
  rw [← take_snoc_val, show (limbs n).length - 1 + 1 = (limbs n).length by omega, List.take_length, val_limbs]
theorem base_pow (k : Nat) : (4294967296 : Nat) ^ k = 2 ^ (32 * k) := by rw [Nat.pow_mul]
theorem bits_limbs {n : Nat} (h : limbs n ≠ []) : bitsN n = 32 * ((limbs n).length - 1) + bitsN ((limbs n).getD ((limbs n).length - 1) 0) := by
  have h0 := limbs_top h
  have h1 := limbs_last h
  have h2 := val_lt ((limbs n).take ((limbs n).length - 1)) (fun x hx => limbs_lt n x (List.mem_of_mem_take hx))
  have h3 : ((limbs n).take ((limbs n).length - 1)).length = (limbs n).length - 1 := by simp
  rw [h3] at h2
  generalize val ((limbs n).take ((limbs n).length - 1)) = l at *
  generalize (limbs n).getD ((limbs n).length - 1) 0 = t at *
  generalize (limbs n).length - 1 = k at *
  rw [base_pow] at h0 h2
  rw [h0]; exact bitsN_top (by omega) h2
theorem pow_split {r : Nat} (h : r ≤ 32) : (4294967296 : Nat) = 2 ^ (32 - r) * 2 ^ r := by
  rw [← Nat.pow_add, show 32 - r + r = 32 by omega]
theorem two_pow_pos (r : Nat) : 0 < 2 ^ r := Nat.pow_pos (by omega)
theorem two_pow_le {r : Nat} (h : r ≤ 32) : 2 ^ r ≤ 4294967296 := by
  have := Nat.pow_le_pow_right (n := 2) (by omega) h; exact this
theorem shl_lt {x r : Nat} (hx : x < 4294967296) (hr : r < 32) : x * 2 ^ r < 18446744073709551616 := by
  have h1 := two_pow_le (r := r) (by omega)
  have h2 : x * 2 ^ r ≤ 4294967295 * 4294967296 := Nat.mul_le_mul (by omega) h1
  omega
/-- what is shifted up, and what came from below -/
theorem up_or {x l r : Nat} (hr : r ≤ 32) (hl : l < 2 ^ r) : (x * 2 ^ r % 4294967296 ||| l) = x * 2 ^ r % 4294967296 + l ∧ x * 2 ^ r % 4294967296 + l < 4294967296 := by
  have e1 : x * 2 ^ r % 4294967296 = 2 ^ r * (x % 2 ^ (32 - r)) := by
    conv => lhs; rw [pow_split hr]
    rw [Nat.mul_mod_mul_right, Nat.mul_comm]
  rw [e1]
  refine ⟨(Nat.two_pow_add_eq_or_of_lt hl _).symm, ?_⟩
  have h1 : x % 2 ^ (32 - r) < 2 ^ (32 - r) := Nat.mod_lt _ (two_pow_pos _)
  have h2 : 2 ^ r * (x % 2 ^ (32 - r) + 1) ≤ 2 ^ r * 2 ^ (32 - r) := Nat.mul_le_mul_left _ h1
  rw [Nat.mul_comm (2 ^ r) (2 ^ (32 - r)), ← pow_split hr, Nat.mul_add] at h2
  omega
theorem up_carry {x r : Nat} (hx : x < 4294967296) : x * 2 ^ r / 4294967296 < 2 ^ r := by
  rw [Nat.div_lt_iff_lt_mul (by omega), Nat.mul_comm]
  exact Nat.mul_lt_mul_of_pos_left hx (two_pow_pos r)
theorem up_step {zs : List Nat} {T x l r p : Nat} (hp : zs.length = p) (hr : r ≤ 32) (hl : l < 2 ^ r) (h : val zs + 4294967296 ^ p * l = T) :
    val (zs ++ [x * 2 ^ r % 4294967296 ||| l]) + 4294967296 ^ (p + 1) * (x * 2 ^ r / 4294967296) = T + 4294967296 ^ p * (x * 2 ^ r) := by
  rw [(up_or hr hl).1, val_snoc, hp, Nat.pow_succ, Nat.mul_add]
  have h2 := Nat.div_add_mod (x * 2 ^ r) 4294967296
  have h3 : 4294967296 ^ p * (4294967296 * (x * 2 ^ r / 4294967296) + x * 2 ^ r % 4294967296) = 4294967296 ^ p * (x * 2 ^ r) := by rw [h2]
  rw [Nat.mul_add, ← Nat.mul_assoc] at h3
  omega
theorem up_row {xs : List Nat} {i p r : Nat} : 4294967296 ^ p * (val (xs.take i) * 2 ^ r) + 4294967296 ^ (p + i) * (xs.getD i 0 * 2 ^ r) = 4294967296 ^ p * (val (xs.take (i + 1)) * 2 ^ r) := by
  rw [take_snoc_val, Nat.pow_add, Nat.add_mul, Nat.mul_add]
  congr 1
  rw [Nat.mul_assoc, Nat.mul_assoc]
theorem up_end (n q : Nat) : 4294967296 ^ (q / 32) * (n * 2 ^ (q % 32)) = n * 2 ^ q := by
  rw [base_pow, Nat.mul_left_comm, ← Nat.pow_add, show 32 * (q / 32) + q % 32 = q by omega]
theorem val_drop {xs : List Nat} (h : ∀ x ∈ xs, x < 4294967296) (n : Nat) : val (xs.drop n) = val xs / 4294967296 ^ n := by
  rcases Nat.lt_or_ge n xs.length with hn | hn
  · have e : val xs = val (xs.take n) + 4294967296 ^ n * val (xs.drop n) := by
      conv => lhs; rw [← List.take_append_drop n xs]
      rw [val_append, List.length_take, Nat.min_eq_left (by omega)]
    have h1 := val_lt (xs.take n) (fun x hx => h x (List.mem_of_mem_take hx))
    rw [List.length_take, Nat.min_eq_left (by omega)] at h1
    rw [e, Nat.mul_comm, Nat.add_mul_div_right _ _ (Nat.pow_pos (by omega)), Nat.div_eq_of_lt h1]; omega
  · rw [List.drop_of_length_le hn]
    have h1 := val_lt xs h
    have h2 : 4294967296 ^ xs.length ≤ 4294967296 ^ n := Nat.pow_le_pow_right (by omega) hn
    rw [Nat.div_eq_of_lt (by omega)]; rfl
theorem down_end {xs : List Nat} (h : ∀ x ∈ xs, x < 4294967296) (q : Nat) : val (xs.drop (q / 32)) / 2 ^ (q % 32) = val xs / 2 ^ q := by
  rw [val_drop h, Nat.div_div_eq_div_mul, base_pow, ← Nat.pow_add, show 32 * (q / 32) + q % 32 = q by omega]
theorem down_next {x Y r : Nat} (hx : x < 4294967296) : (x + 4294967296 * Y) / 2 ^ r / 4294967296 = Y / 2 ^ r := by
  rw [Nat.div_div_eq_div_mul, Nat.mul_comm (2 ^ r), ← Nat.div_div_eq_div_mul, Nat.mul_comm 4294967296 Y, Nat.add_mul_div_right _ _ (by omega), Nat.div_eq_of_lt hx]; simp
/-- the limb that is left of x, y above it -/
theorem down_limb {x y Z r : Nat} (hr : r < 32) : (x + 4294967296 * (y + 4294967296 * Z)) / 2 ^ r % 4294967296 = (x + 4294967296 * y) / 2 ^ r % 4294967296 := by
  have e : x + 4294967296 * (y + 4294967296 * Z) = (x + 4294967296 * y) + (4294967296 * (2 ^ (32 - r) * Z)) * 2 ^ r := by
    have := pow_split (r := r) (by omega)
    have e2 : 4294967296 * (2 ^ (32 - r) * Z) * 2 ^ r = 4294967296 * ((2 ^ (32 - r) * 2 ^ r) * Z) := by
      rw [Nat.mul_assoc 4294967296, Nat.mul_right_comm (2 ^ (32 - r))]
    rw [e2, ← this]; omega
  rw [e, Nat.add_mul_div_right _ _ (two_pow_pos r), Nat.add_mul_mod_self_left]
theorem or_up {x y : Nat} (hx : x < 4294967296) (hy : y < 4294967296) : (x ||| y * 4294967296 % 18446744073709551616) = x + 4294967296 * y := by
  have e : y * 4294967296 % 18446744073709551616 = 2 ^ 32 * y := by rw [Nat.mod_eq_of_lt (by omega), Nat.mul_comm]
  rw [e, Nat.or_comm, ← Nat.two_pow_add_eq_or_of_lt (i := 32) (by omega)]; omega
theorem down_or {x Y r : Nat} (hx : x < 4294967296) (hr : r < 32) (h0 : r ≠ 0) : (x / 2 ^ r ||| Y * 2 ^ (32 - r) % 4294967296) = (x + 4294967296 * Y) / 2 ^ r % 4294967296 := by
  have hp := pow_split (r := r) (by omega)
  have e1 : (x + 4294967296 * Y) / 2 ^ r = x / 2 ^ r + 2 ^ (32 - r) * Y := by
    conv => lhs; rw [hp, Nat.mul_right_comm]
    rw [Nat.add_mul_div_right _ _ (two_pow_pos r)]
  have hl : x / 2 ^ r < 2 ^ (32 - r) := by
    rw [Nat.div_lt_iff_lt_mul (two_pow_pos r), ← hp]; exact hx
  have h1 := up_or (x := Y) (l := x / 2 ^ r) (r := 32 - r) (by omega) hl
  rw [e1, Nat.or_comm, h1.1, Nat.mul_comm (2 ^ (32 - r)) Y, Nat.add_mod, Nat.add_comm (x / 2 ^ r % 4294967296)]
  have h2 : x / 2 ^ r ≤ x := Nat.div_le_self _ _
  rw [Nat.mod_eq_of_lt (show x / 2 ^ r < 4294967296 by omega), Nat.mod_eq_of_lt h1.2]
theorem down_step {zs : List Nat} {D e n s : Nat} (hs : zs.length = s) (he : e = n % 4294967296) (h : val zs + 4294967296 ^ s * n = D) : val (zs ++ [e]) + 4294967296 ^ (s + 1) * (n / 4294967296) = D := by
  subst he
  rw [val_snoc, hs, Nat.pow_succ]
  have h2 := Nat.div_add_mod n 4294967296
  have h3 : 4294967296 ^ s * (4294967296 * (n / 4294967296) + n % 4294967296) = 4294967296 ^ s * n := by rw [h2]
  rw [Nat.mul_add, ← Nat.mul_assoc] at h3
  omega
theorem drop_getD {zs xs : List Nat} {i p : Nat} (h : zs.drop i = xs.drop p) (j : Nat) : zs.getD (i + j) 0 = xs.getD (p + j) 0 := by
  have := congrArg (fun l => l[j]?) h
  simp only [List.getElem?_drop] at this
  simp only [List.getD_eq_getElem?_getD, this]
theorem down_in {zs xs : List Nat} {p i r e T : Nat} (hi : i < zs.length) (hl : xs.length = p + zs.length) (hx : ∀ x ∈ xs, x < 4294967296) (hd : zs.drop i = xs.drop (p + i)) (hv : val (zs.take i) + 4294967296 ^ i * (val (xs.drop (p + i)) / 2 ^ r) = T)
    (he : e = val (xs.drop (p + i)) / 2 ^ r % 4294967296) : (zs.set i e).drop (i + 1) = xs.drop (p + (i + 1)) ∧ val ((zs.set i e).take (i + 1)) + 4294967296 ^ (i + 1) * (val (xs.drop (p + (i + 1))) / 2 ^ r) = T := by
  have e1 : zs.set i e = zs.take i ++ e :: zs.drop (i + 1) := by rw [List.set_eq_take_append_cons_drop, if_pos hi]
  have e2 : zs.drop (i + 1) = xs.drop (p + (i + 1)) := by
    have := congrArg (List.drop 1) hd
    rw [List.drop_drop, List.drop_drop] at this
    rw [this, Nat.add_assoc]
  have e3 : (zs.take i).length = i := by rw [List.length_take]; omega
  have e4 : (zs.set i e).take (i + 1) = zs.take i ++ [e] := by
    rw [e1, show zs.take i ++ e :: zs.drop (i + 1) = (zs.take i ++ [e]) ++ zs.drop (i + 1) by simp, List.take_left' (by simp; omega)]
  refine ⟨?_, ?_⟩
  · rw [List.drop_set_of_lt (by omega), e2]
  · have hdv := drop_val (xs := xs) (s := p + i) (by omega)
    have hlim : xs.getD (p + i) 0 < 4294967296 := getD_lt hx _
    rw [e4, ← down_step e3 he hv]
    congr 2
    rw [hdv, down_next hlim, Nat.add_assoc]
theorem mod_self_of (r : Nat) {x : Nat} (hx : x < 4294967296) : x / 2 ^ r % 4294967296 = x / 2 ^ r := Nat.mod_eq_of_lt (Nat.lt_of_le_of_lt (Nat.div_le_self _ _) hx)
/-- the limbs that are not nought, below a place, each with its place -/
def lsOf (xs : List Nat) : Nat → List (Nat × Nat)
  | 0 => []
  | s + 1 => lsOf xs s ++ (if xs.getD s 0 = 0 then [] else [(s, xs.getD s 0)])
def psum : List (Nat × Nat) → Nat
  | [] => 0
  | p :: r => 4294967296 ^ p.1 * p.2 + psum r
theorem psum_append : ∀ (l m : List (Nat × Nat)), psum (l ++ m) = psum l + psum m
  | [], m => by simp [psum]
  | p :: l, m => by simp only [List.cons_append, psum, psum_append l m, Nat.add_assoc]
theorem psum_ls (xs : List Nat) : ∀ n, psum (lsOf xs n) = val (xs.take n)
  | 0 => by simp [lsOf, psum, val]
  | n + 1 => by
    rw [lsOf, psum_append, psum_ls xs n, take_snoc_val]
    split
    · rename_i h; rw [h]; simp [psum]
    · simp [psum]
theorem ls_lt {xs : List Nat} : ∀ {n : Nat}, ∀ p ∈ lsOf xs n, p.1 < n ∧ p.2 = xs.getD p.1 0
  | 0, p, hp => by simp [lsOf] at hp
  | n + 1, p, hp => by
    rw [lsOf, List.mem_append] at hp
    rcases hp with hp | hp
    · have := ls_lt p hp; exact ⟨by omega, this.2⟩
    · split at hp
      · simp at hp
      · simp at hp; subst hp; exact ⟨by simp, rfl⟩
theorem ls_skip {xs : List Nat} {s : Nat} (h : xs.getD s 0 = 0) : lsOf xs (s + 1) = lsOf xs s := by rw [lsOf, if_pos h, List.append_nil]
theorem ls_take {xs : List Nat} {s : Nat} (h : ¬ xs.getD s 0 = 0) : lsOf xs (s + 1) = lsOf xs s ++ [(s, xs.getD s 0)] := by rw [lsOf, if_neg h]
theorem ls_pre (xs : List Nat) (s : Nat) : ∀ k, ∃ post, lsOf xs (s + k) = lsOf xs s ++ post
  | 0 => ⟨[], by simp⟩
  | k + 1 => by
    obtain ⟨post, h⟩ := ls_pre xs s k
    exact ⟨_, by rw [← Nat.add_assoc, lsOf, h, List.append_assoc]⟩
theorem ls_at {xs : List Nat} {s : Nat} (hs : s < xs.length) (h : ¬ xs.getD s 0 = 0) : ∃ post, lsOf xs xs.length = lsOf xs s ++ (s, xs.getD s 0) :: post := by
  obtain ⟨post, hp⟩ := ls_pre xs (s + 1) (xs.length - (s + 1))
  rw [show s + 1 + (xs.length - (s + 1)) = xs.length by omega, ls_take h] at hp
  exact ⟨post, by rw [hp]; simp⟩
theorem ls_split {xs : List Nat} : ∀ {n : Nat} {pre post : List (Nat × Nat)} {x : Nat × Nat}, lsOf xs n = pre ++ x :: post → x.1 < n ∧ x.2 = xs.getD x.1 0 ∧ ∀ p ∈ pre, p.1 < x.1
  | 0, pre, post, x, h => by simp [lsOf] at h
  | n + 1, pre, post, x, h => by
    rw [lsOf] at h
    split at h
    · rw [List.append_nil] at h
      have := ls_split h; exact ⟨by omega, this.2⟩
    · rcases List.eq_nil_or_concat post with rfl | ⟨q, y, rfl⟩
      · have h2 := List.append_inj' h rfl
        have h3 : (n, xs.getD n 0) = x := by simpa using h2.2
        subst h3
        exact ⟨by simp, rfl, fun p hp => by rw [← h2.1] at hp; exact (ls_lt p hp).1⟩
      · rw [show pre ++ x :: (q.concat y) = (pre ++ x :: q) ++ [y] by simp] at h
        have h2 := List.append_inj' h rfl
        have := ls_split h2.1; exact ⟨by omega, this.2⟩
theorem mul_step2 {zs : List Nat} {T q o c j : Nat} (hj : j < zs.length) (ho : zs.getD j 0 = o) (h : val zs + 4294967296 ^ j * c = T) :
    val (zs.set j ((c + (q + o)) % 4294967296)) + 4294967296 ^ (j + 1) * ((c + (q + o)) / 4294967296) = T + 4294967296 ^ j * q := by
  rw [show c + (q + o) = q + o + c by omega]; exact mul_step hj ho h
theorem mul_row2 {ys : List Nat} {T x i k : Nat} : T + 4294967296 ^ i * (x * val (ys.take k)) + 4294967296 ^ (i + k) * (x * ys.getD k 0) = T + 4294967296 ^ i * (x * val (ys.take (k + 1))) := by
  rw [take_snoc_val, Nat.pow_add, Nat.mul_add, Nat.mul_add, Nat.add_assoc, Nat.mul_assoc]
  congr 2
  rw [Nat.mul_left_comm (4294967296 ^ k)]
theorem psum_snoc {pre : List (Nat × Nat)} {x : Nat × Nat} {V : Nat} : psum pre * V + 4294967296 ^ x.1 * (x.2 * V) = psum (pre ++ [x]) * V := by
  rw [psum_append, Nat.add_mul]; simp [psum, Nat.mul_assoc]
theorem bitsN_div {x k : Nat} (h : 2 ^ k ≤ x) : bitsN x = k + bitsN (x / 2 ^ k) := by
  have h0 := Nat.div_pos h (two_pow_pos k)
  have h1 := bitsN_top (h := x / 2 ^ k) (l := x % 2 ^ k) (k := k) h0 (Nat.mod_lt _ (two_pow_pos k))
  rw [Nat.mod_add_div] at h1; exact h1
theorem bitsN_word {n : Nat} (h : n < 4294967296) : bitsN n < 33 := by
  unfold bitsN
  split
  · omega
  · rename_i h0
    have := (Nat.log2_lt (k := 32) h0).2 (by omega)
    omega
section ops
variable {P : Program} {r : Option Nat} {N : Nat} {all : Array Oper} {K : Pd} {D : List Deferred} {E : Env} {w : World} {rest : List Oper}
theorem ops_to8 {d : Nat} {x : Operand} {s t t' : TypeId} {pos : String} {af : Array Edge} {k' : IntKind} {sd : TypeDesc} {a : Nat} (hd : Nat.blt d N = true)
    (hs : P.underlying s = some sd) (ht : P.underlying t = some (.int .u8)) (hx : ev E x = some (.int k' (a : Int))) (ha : a < 256)
    (h : Ops P r N all K rest D ((d, .int .u8 (a : Int)) :: E) w) : Ops P r N all K (⟨some d, .convert s t x, t', pos, af, none⟩ :: rest) D E w :=
  ops_convert hd hs ht hx (IntWalk.u8_in _ (by omega)) h
theorem ops_toi {d : Nat} {x : Operand} {s t t' : TypeId} {pos : String} {af : Array Edge} {k' : IntKind} {sd : TypeDesc} {a : Nat} (hd : Nat.blt d N = true)
    (hs : P.underlying s = some sd) (ht : P.underlying t = some (.int .i64)) (hx : ev E x = some (.int k' (a : Int))) (ha : a < 9223372036854775808)
    (h : Ops P r N all K rest D ((d, .int .i64 (a : Int)) :: E) w) : Ops P r N all K (⟨some d, .convert s t x, t', pos, af, none⟩ :: rest) D E w :=
  ops_convert hd hs ht hx (IntWalk.i64_in _ (by omega)) h
/-- a table of bits -/
theorem ops_len8 {d : Nat} {x ix : Operand} {t t' : TypeId} {pos : String} {af : Array Edge} {s : ByteArray} {j : Nat} (hd : Nat.blt d N = true) (ht : P.underlying t = some .string) (hx : ev E x = some (.string s))
    (hs : ((List.range 256).all fun j => (s[j]?.map (·.toNat)) == some (bitsN j)) = true) (hi : ev E ix = some (.int .u8 (j : Int))) (hj : j < 256)
    (h : bitsN j < 33 → Ops P r N all K rest D ((d, .int .u8 ((bitsN j : Nat) : Int)) :: E) w) : Ops P r N all K (⟨some d, .index t x ix, t', pos, af, none⟩ :: rest) D E w :=
  ops_val hd (by intro c hc; cases hc) (fun a ha => by
    have h1 := List.all_eq_true.1 hs j (List.mem_range.2 hj)
    rw [beq_iff_eq] at h1
    cases hb : s[j]? with
    | none => rw [hb] at h1; cases h1
    | some b =>
      rw [hb] at h1
      injection h1 with h1
      have e1 : (Instr.index t (.string s) (.int .u8 (j : Int))).run P w = .ok (.int .u8 (b.toNat : Int)) w := by
        simp [Instr.index, asIntOf, run_underlying ht, Result.andThen, hb]
      simp only [execOp, ha.ev hx, ha.ev hi, Sem.run_bind, e1, Result.andThen, h1]; rfl) (h (bitsN_word (by omega)))
end ops
theorem val_split {xs : List Nat} {n : Nat} (hn : n ≤ xs.length) : val xs = val (xs.take n) + 4294967296 ^ n * val (xs.drop n) := by
  conv => lhs; rw [← List.take_append_drop n xs]
  rw [val_append, List.length_take, Nat.min_eq_left hn]
theorem kara_mid (a b c d : Nat) : (a + b) * (c + d) - (a * c + b * d) = a * d + b * c := by
  rw [Nat.add_mul, Nat.mul_add, Nat.mul_add]; omega
theorem kara (a b c d B : Nat) : a * c + (B * (a * d + b * c) + B * B * (b * d)) = (a + B * b) * (c + B * d) := by
  simp only [Nat.add_mul, Nat.mul_add, Nat.mul_assoc, Nat.mul_left_comm, Nat.mul_comm]
  omega
theorem val_pad_up (n : Nat) (xs : List Nat) : val (List.replicate n 0 ++ xs) = 4294967296 ^ n * val xs := by
  rw [val_append, val_zeros, List.length_replicate]; omega
theorem add_lt_pow {a b k : Nat} (ha : a < 4294967296 ^ k) (hb : b < 4294967296 ^ k) : a + b < 4294967296 ^ (k + 1) := by
  rw [Nat.pow_succ]; omega
theorem bitsN_eq_zero {n : Nat} : bitsN n = 0 ↔ n = 0 := by
  unfold bitsN
  split
  · simp [*]
  · simp [*]
theorem bits_mul {a b : Nat} (ha : 0 < a) (hb : 0 < b) : bitsN (a * b) = bitsN a + bitsN b ∨ bitsN (a * b) = bitsN a + bitsN b - 1 := by
  have a1 := bitsN_lt a; have a2 := bitsN_le ha
  have b1 := bitsN_lt b; have b2 := bitsN_le hb
  have a3 : 0 < bitsN a := Nat.pos_of_ne_zero fun h => by rw [bitsN_eq_zero] at h; omega
  have b3 : 0 < bitsN b := Nat.pos_of_ne_zero fun h => by rw [bitsN_eq_zero] at h; omega
  have c0 : 0 < a * b := Nat.mul_pos ha hb
  have c1 : a * b < 2 ^ (bitsN a + bitsN b) := by rw [Nat.pow_add]; exact Nat.mul_lt_mul'' a1 b1
  have c2 : 2 ^ (bitsN a + bitsN b - 1 - 1) ≤ a * b := by
    rw [show bitsN a + bitsN b - 1 - 1 = (bitsN a - 1) + (bitsN b - 1) by omega, Nat.pow_add]; exact Nat.mul_le_mul a2 b2
  by_cases h : a * b < 2 ^ (bitsN a + bitsN b - 1)
  · exact .inr (bitsN_unique c0 h c2)
  · exact .inl (bitsN_unique c0 c1 (by omega))
theorem bitsN_le_of_lt {n k : Nat} (h : n < 2 ^ k) : bitsN n ≤ k := by
  rcases Nat.eq_zero_or_pos n with h0 | h0
  · subst h0; rw [bitsN_zero]; omega
  · have := bitsN_le h0
    have b : bitsN n - 1 < k := (Nat.pow_lt_pow_iff_right (by omega)).1 (Nat.lt_of_le_of_lt this h)
    omega
theorem bitsN_pow (k : Nat) : bitsN (2 ^ k) = k + 1 := by
  have := bitsN_shift 1 (by omega) k
  rw [Nat.one_mul] at this; rw [this, show bitsN 1 = 1 by decide]; omega
theorem cntN_nat {k m : Nat} (h : k ≤ m) : cntN (k : Int) (m : Int) = k := by unfold cntN; omega
theorem cmpN_nonneg {a b : Nat} : cmpN a b ≥ 0 ↔ b ≤ a := by
  unfold cmpN; split <;> (try split) <;> omega
theorem up_one_len (j : Int) : (limbs (val [1] * 2 ^ cntN j 65536)).length ≤ 1000000000 := by
  obtain ⟨K, hK⟩ : ∃ K : Nat, K = 2049 := ⟨_, rfl⟩
  have h1 : 2 ^ cntN j 65536 < 4294967296 ^ K := by
    rw [base_pow]; exact Nat.pow_lt_pow_right (by omega) (by have := (cntN_is (k := j) (m := 65536) (by omega)).2.2; omega)
  have h2 := mul_len (val_lt [1] (by simp)) h1
  simp only [List.length_cons, List.length_nil] at h2
  omega
theorem two_pow_lt_base {q n : Nat} (h : q < 32 * n) : 2 ^ q < 4294967296 ^ n := by
  rw [base_pow]; exact Nat.pow_lt_pow_right (by omega) h
end Go.SL
