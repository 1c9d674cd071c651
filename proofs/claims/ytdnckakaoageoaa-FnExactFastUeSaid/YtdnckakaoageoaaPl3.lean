/- Plain lists of numbers: code lengths, steps, headers. -/
import Derived.Test.YtdnckakaoageoaaPl2
namespace Go.Pl

def fillk (xs : List Int) (k : Nat) : List Int := xs.take k ++ List.replicate (xs.length - k) 0
theorem fill0 (xs : List Int) : List.replicate xs.length 0 = fillk xs 0 := by simp [fillk]
theorem fill_length (xs : List Int) (k : Nat) (h : (k : Int) ≤ xs.length) : (fillk xs k).length = xs.length := by simp [fillk]; omega
theorem fill_all (xs : List Int) : fillk xs xs.length = xs := by simp [fillk]
theorem fill_set (xs : List Int) (k : Nat) (h : (k : Int) < xs.length) : (fillk xs k).set k (xs.getD k 0) = fillk xs (k + 1) := by
  have hk : k < xs.length := by omega
  unfold fillk
  apply List.ext_getElem
  · simp; omega
  · intro i h1 h2
    rw [List.getElem_set]
    by_cases hi : k = i
    · subst hi
      rw [if_pos rfl, List.getElem_append_left (by simp; omega), List.getElem_take]
      simp [List.getD, hk]
    · rw [if_neg hi]
      by_cases hlt : i < k
      · rw [List.getElem_append_left (by simp; omega), List.getElem_append_left (by simp; omega), List.getElem_take, List.getElem_take]
      · rw [List.getElem_append_right (by simp; omega), List.getElem_append_right (by simp; omega)]
        simp
theorem getD_ext {xs ys : List Int} (hl : xs.length = ys.length) (h : ∀ j : Nat, j < xs.length → xs.getD j 0 = ys.getD j 0) : xs = ys := by
  apply List.ext_getElem hl
  intro i h1 h2
  have := h i h1
  simpa [List.getD, h1, h2] using this
theorem upto_succ {P : Nat → Prop} {k : Nat} (h : ∀ j : Nat, j < k → P j) (hk : P k) : ∀ j : Nat, j < k + 1 → P j := fun j hj => by
  rcases Nat.lt_or_ge j k with h1 | h1
  · exact h j h1
  · obtain rfl : j = k := by omega
    exact hk

/-- how full a code of these lengths is, in parts of 128 -/
def kraft : List Int → Int
  | [] => 0
  | x :: r => (if 0 < x then 2 ^ (7 - x).toNat else 0) + kraft r
theorem kraft_append (xs ys : List Int) : kraft (xs ++ ys) = kraft xs + kraft ys := by
  induction xs with
  | nil => simp [kraft]
  | cons x xs ih => simp only [List.cons_append, kraft, ih]; omega
theorem kraft_take (xs : List Int) (k : Nat) (h : (k : Int) < xs.length) : kraft (xs.take (k + 1)) = kraft (xs.take k) + if 0 < xs.getD k 0 then 2 ^ (7 - xs.getD k 0).toNat else 0 := by
  have hk : k < xs.length := by omega
  have e : xs.take (k + 1) = xs.take k ++ [xs.getD k 0] := by
    rw [List.take_add_one]; simp [List.getD, hk]
  rw [e, kraft_append]; simp only [kraft]; omega
theorem pow7 (x : Int) (h : 0 < x) : (1 : Int) ≤ 2 ^ (7 - x).toNat ∧ (2 : Int) ^ (7 - x).toNat ≤ 64 := by
  have h1 := two_pow_le (n := (7 - x).toNat) (m := 6) (by omega)
  have h2 := two_pow_pos (7 - x).toNat
  omega
theorem kraft_range (xs : List Int) : 0 ≤ kraft xs ∧ kraft xs ≤ 64 * xs.length := by
  induction xs with
  | nil => simp [kraft]
  | cons x xs ih =>
    simp only [kraft, List.length_cons]
    split
    · have := pow7 x (by omega); omega
    · omega
theorem kraft_take_range (xs : List Int) (k : Nat) : 0 ≤ kraft (xs.take k) ∧ kraft (xs.take k) ≤ 64 * k := by
  have h := kraft_range (xs.take k)
  have h2 : (xs.take k).length ≤ k := by simp; omega
  omega
def codeOk (xs : List Int) : Prop := (∀ j : Nat, j < xs.length → 0 ≤ xs.getD j 0 ∧ xs.getD j 0 ≤ 7) ∧ xs.length = 6 ∧ kraft xs = 128
instance (xs : List Int) : Decidable (codeOk xs) := by unfold codeOk; infer_instance

def stepOf (q : Int) : Int := if 0 ≤ q ∧ q ≤ 51 then [8, 9, 10, 11, 13, 14].getD (q % 6).toNat 0 * 2 ^ (q / 6).toNat / 8 else 0
theorem step_row (q : Int) : 8 ≤ ([8, 9, 10, 11, 13, 14] : List Int).getD (q % 6).toNat 0 ∧ ([8, 9, 10, 11, 13, 14] : List Int).getD (q % 6).toNat 0 ≤ 14 := by
  obtain ⟨k, hk⟩ : ∃ k, k = (q % 6).toNat := ⟨_, rfl⟩
  have : k < 6 := by omega
  rw [← hk]
  clear hk
  match k, this with
  | 0, _ => decide
  | 1, _ => decide
  | 2, _ => decide
  | 3, _ => decide
  | 4, _ => decide
  | 5, _ => decide
theorem step_range (q : Int) (h : 0 ≤ q ∧ q ≤ 51) : 8 ≤ ([8, 9, 10, 11, 13, 14] : List Int).getD (q % 6).toNat 0 * 2 ^ (q / 6).toNat ∧ ([8, 9, 10, 11, 13, 14] : List Int).getD (q % 6).toNat 0 * 2 ^ (q / 6).toNat ≤ 3584 := by
  have h1 := step_row q
  have h2 := two_pow_le (n := (q / 6).toNat) (m := 8) (by omega)
  have h3 := two_pow_pos (q / 6).toNat
  generalize ([8, 9, 10, 11, 13, 14] : List Int).getD (q % 6).toNat 0 = x at *
  generalize (2 : Int) ^ (q / 6).toNat = y at *
  constructor
  · have := Int.mul_le_mul h1.1 (show 1 ≤ y by omega) (by omega) (by omega); omega
  · have h2' : y ≤ 256 := by simpa using h2
    have := Int.mul_le_mul h1.2 h2' (by omega) (by omega); omega
theorem step_pos (q : Int) : 0 < stepOf q ↔ 0 ≤ q ∧ q ≤ 51 := by
  unfold stepOf
  split
  · rename_i h
    have := step_range q h
    omega
  · omega
def sidesOk (a b : Int) : Prop := (8 ≤ a ∧ a ≤ 32) ∧ (8 ≤ b ∧ b ≤ 32) ∧ a % 8 = 0 ∧ b % 8 = 0
instance (a b : Int) : Decidable (sidesOk a b) := by unfold sidesOk; infer_instance
def headOk (a b q : Int) (xs : List Int) : Prop := sidesOk a b ∧ (0 ≤ q ∧ q ≤ 51) ∧ codeOk xs
instance (a b q : Int) (xs : List Int) : Decidable (headOk a b q xs) := by unfold headOk; infer_instance
end Go.Pl
