/- Plain numbers: bits of a text. -/
namespace Go.Pl

def bitAt (s : ByteArray) (i : Int) : Int :=
  if 0 ≤ i ∧ i < 8 * s.size then (s.data.toList.getD (i / 8).toNat 0).toNat / 2 ^ (7 - i % 8).toNat % 2 else -1

/-- the number with n bits from a place on; missing bits are 0 -/
def bitsOf (s : ByteArray) (a : Int) : Nat → Int
  | 0 => 0
  | n + 1 => bitsOf s a n * 2 + max (bitAt s (a + n)) 0

theorem bitAt_range (s : ByteArray) (i : Int) : -1 ≤ bitAt s i ∧ bitAt s i ≤ 1 := by
  unfold bitAt; split <;> omega
theorem bitAt_in {s : ByteArray} {i : Int} (h : 0 ≤ i ∧ i < 8 * s.size) : bitAt s i = (s.data.toList.getD (i / 8).toNat 0).toNat / 2 ^ (7 - i % 8).toNat % 2 := by
  unfold bitAt; rw [if_pos h]
theorem bitAt_in0 {s : ByteArray} {i : Int} (h : 0 ≤ i ∧ i < 8 * s.size) : 0 ≤ bitAt s i ∧ bitAt s i ≤ 1 := by
  rw [bitAt_in h]; omega
theorem bitAt_out {s : ByteArray} {i : Int} (h : i < 0 ∨ 8 * s.size ≤ i) : bitAt s i = -1 := by
  unfold bitAt; rw [if_neg (by omega)]
theorem bitsOf_range (s : ByteArray) (a : Int) (n : Nat) : 0 ≤ bitsOf s a n ∧ bitsOf s a n < 2 ^ n := by
  induction n with
  | zero => simp [bitsOf]
  | succ n ih =>
    have := bitAt_range s (a + n)
    simp only [bitsOf]
    have h2 : (2 : Int) ^ (n + 1) = 2 * 2 ^ n := by rw [Int.pow_succ]; omega
    rw [h2]
    omega
theorem bitsOf_lt (s : ByteArray) (a : Int) (n m : Nat) (h : n ≤ m) : bitsOf s a n < 2 ^ m := by
  have h1 := (bitsOf_range s a n).2
  have h2 : (2 : Int) ^ n ≤ 2 ^ m := by
    have : (2 : Nat) ^ n ≤ 2 ^ m := Nat.pow_le_pow_right (by omega) h
    exact_mod_cast this
  omega
theorem bitsOf_62 (s : ByteArray) (a : Int) (n : Nat) (h : n ≤ 62) : 0 ≤ bitsOf s a n ∧ bitsOf s a n < 4611686018427387904 :=
  ⟨(bitsOf_range s a n).1, by have := bitsOf_lt s a n 62 h; simpa using this⟩

def cacheOk (s : ByteArray) (pos word have_ : Int) : Prop := 0 ≤ pos ∧ pos ≤ s.size ∧ 0 ≤ have_ ∧ have_ ≤ 56 ∧ have_ ≤ 8 * pos ∧ word = bitsOf s (8 * pos - have_) have_.toNat
instance (s : ByteArray) (pos word have_ : Int) : Decidable (cacheOk s pos word have_) := by unfold cacheOk; infer_instance

theorem byteshift_le (x : UInt8) (k : Nat) : (0 : Int) ≤ x.toNat / 2 ^ k ∧ (x.toNat : Int) / 2 ^ k ≤ 255 := by
  have h1 : (x.toNat : Int) / 2 ^ k = ((x.toNat / 2 ^ k : Nat) : Int) := by simp
  have h2 : x.toNat / 2 ^ k ≤ x.toNat := Nat.div_le_self _ _
  have h3 := x.toNat_lt
  rw [h1]
  generalize x.toNat / 2 ^ k = q at *
  omega
def szOf (left n : Int) : Int := if left - n < 0 then -1 else left - n
end Go.Pl
