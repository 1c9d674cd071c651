/- Plain numbers and lists, with no program in sight. -/
import Derived.Test.YtnehdmcilmlchaaVSxB
import Derived.Lib.Tables
/- Plain numbers: bits of a text. -/
namespace Go.Pl

def bitAt (s : ByteArray) (i : Int) : Int :=
  if 0 ≤ i ∧ i < 8 * s.size then (s.data.toList.getD (i / 8).toNat 0).toNat / 2 ^ (7 - i % 8).toNat % 2 else -1

/-- the number with n bits from a place on; missing bits are 0 -/
def bitsOf (s : ByteArray) (a : Int) : Nat → Int
  | 0 => 0
  | n + 1 => bitsOf s a n * 2 + max (bitAt s (a + n)) 0

theorem bitAt_range (s : ByteArray) (i : Int) : -1 ≤ bitAt s i ∧ bitAt s i ≤ 1 := by
  unfold bitAt; split <;> omega
theorem bitAt_in {s : ByteArray} {i : Int} (h : 0 ≤ i ∧ i < 8 * s.size) : bitAt s i = (s.data.toList.getD (i / 8).toNat 0).toNat / 2 ^ (7 - i % 8).toNat % 2 := by
  unfold bitAt; rw [if_pos h]
theorem bitAt_in0 {s : ByteArray} {i : Int} (h : 0 ≤ i ∧ i < 8 * s.size) : 0 ≤ bitAt s i ∧ bitAt s i ≤ 1 := by
  rw [bitAt_in h]; omega
theorem bitAt_out {s : ByteArray} {i : Int} (h : i < 0 ∨ 8 * s.size ≤ i) : bitAt s i = -1 := by
  unfold bitAt; rw [if_neg (by omega)]
theorem bitsOf_range (s : ByteArray) (a : Int) (n : Nat) : 0 ≤ bitsOf s a n ∧ bitsOf s a n < 2 ^ n := by
  induction n with
  | zero => simp [bitsOf]
  | succ n ih =>
    have := bitAt_range s (a + n)
    simp only [bitsOf]
    have h2 : (2 : Int) ^ (n + 1) = 2 * 2 ^ n := by rw [Int.pow_succ]; omega
    rw [h2]
    omega
theorem bitsOf_lt (s : ByteArray) (a : Int) (n m : Nat) (h : n ≤ m) : bitsOf s a n < 2 ^ m := by
  have h1 := (bitsOf_range s a n).2
  have h2 : (2 : Int) ^ n ≤ 2 ^ m := by
    have : (2 : Nat) ^ n ≤ 2 ^ m := Nat.pow_le_pow_right (by omega) h
    exact_mod_cast this
  omega
theorem bitsOf_62 (s : ByteArray) (a : Int) (n : Nat) (h : n ≤ 62) : 0 ≤ bitsOf s a n ∧ bitsOf s a n < 4611686018427387904 :=
  ⟨(bitsOf_range s a n).1, by have := bitsOf_lt s a n 62 h; simpa using this⟩

def cacheOk (s : ByteArray) (pos word have_ : Int) : Prop := 0 ≤ pos ∧ pos ≤ s.size ∧ 0 ≤ have_ ∧ have_ ≤ 56 ∧ have_ ≤ 8 * pos ∧ word = bitsOf s (8 * pos - have_) have_.toNat
instance (s : ByteArray) (pos word have_ : Int) : Decidable (cacheOk s pos word have_) := by unfold cacheOk; infer_instance

theorem byteshift_le (x : UInt8) (k : Nat) : (0 : Int) ≤ x.toNat / 2 ^ k ∧ (x.toNat : Int) / 2 ^ k ≤ 255 := by
  have h1 : (x.toNat : Int) / 2 ^ k = ((x.toNat / 2 ^ k : Nat) : Int) := by simp
  have h2 : x.toNat / 2 ^ k ≤ x.toNat := Nat.div_le_self _ _
  have h3 := x.toNat_lt
  rw [h1]
  generalize x.toNat / 2 ^ k = q at *
  omega
end Go.Pl

/- Plain numbers: readers and caches over a text. -/
namespace Go.Pl

theorem two_pow_pos (n : Nat) : (0 : Int) < 2 ^ n := Int.pow_pos (by omega)
theorem two_pow_succ (n : Nat) : (2 : Int) ^ (n + 1) = 2 * 2 ^ n := by rw [Int.pow_succ]; omega
theorem two_pow_le {n m : Nat} (h : n ≤ m) : (2 : Int) ^ n ≤ 2 ^ m := by
  have : (2 : Nat) ^ n ≤ 2 ^ m := Nat.pow_le_pow_right (by omega) h
  exact_mod_cast this

/-- bits in two parts -/
theorem bitsOf_add (s : ByteArray) (a : Int) (n m : Nat) : bitsOf s a (n + m) = bitsOf s a n * 2 ^ m + bitsOf s (a + n) m := by
  induction m with
  | zero => simp [bitsOf]
  | succ m ih =>
    rw [← Nat.add_assoc]
    simp only [bitsOf]
    rw [ih, two_pow_succ]
    have h1 : a + ((n + m : Nat) : Int) = a + n + m := by omega
    rw [h1]
    generalize max (bitAt s (a + n + m)) 0 = x
    rw [Int.add_mul, Int.mul_assoc, Int.mul_comm (2 ^ m) 2]; omega
theorem bitsOf_first (s : ByteArray) (a : Int) (n : Nat) : bitsOf s a (n + 1) = max (bitAt s a) 0 * 2 ^ n + bitsOf s (a + 1) n := by
  rw [Nat.add_comm, bitsOf_add]; simp [bitsOf]
def remOf (s : ByteArray) (a : Int) : Int := if 0 ≤ a ∧ a ≤ 8 * s.size then 8 * s.size - a else 0
def rbOk (s : ByteArray) (a n : Int) : Prop := (0 ≤ a ∧ a ≤ 8 * s.size) ∧ (0 ≤ n ∧ n ≤ 32) ∧ n ≤ remOf s a
instance (s : ByteArray) (a n : Int) : Decidable (rbOk s a n) := by unfold rbOk; infer_instance
def rbAt (s : ByteArray) (a n : Int) : Int := if rbOk s a n then a + n else a
def rbV (s : ByteArray) (a n : Int) : Int := if rbOk s a n then bitsOf s a n.toNat else 0
theorem remOf_range (s : ByteArray) (a : Int) : 0 ≤ remOf s a ∧ remOf s a ≤ 8 * s.size := by unfold remOf; split <;> omega
theorem remOf_in {s : ByteArray} {a : Int} (h : 0 ≤ a ∧ a ≤ 8 * s.size) : remOf s a = 8 * s.size - a := by unfold remOf; rw [if_pos h]

theorem remOf_pos (s : ByteArray) (a : Int) (h : 0 < remOf s a) : 0 ≤ a ∧ a < 8 * s.size ∧ remOf s a = 8 * s.size - a := by
  unfold remOf at h ⊢; split at h
  · rename_i hx; rw [if_pos hx]; omega
  · omega
/-- how many bits from a place on are 0 -/
def zc (s : ByteArray) (a : Int) : Nat → Nat
  | 0 => 0
  | f + 1 => if bitAt s a = 0 then zc s (a + 1) f + 1 else 0
def zerosOf (s : ByteArray) (a : Int) : Int := zc s a (remOf s a).toNat
theorem zc_le (s : ByteArray) (a : Int) (f : Nat) : zc s a f ≤ f := by
  induction f generalizing a with
  | zero => simp [zc]
  | succ f ih => simp only [zc]; split; have := ih (a + 1); omega; omega
theorem zc_step {s : ByteArray} {a : Int} {f : Nat} (h : bitAt s a = 0) (hf : 0 < f) : zc s a f = zc s (a + 1) (f - 1) + 1 := by
  obtain ⟨g, rfl⟩ : ∃ g, f = g + 1 := ⟨f - 1, by omega⟩
  simp [zc, h]
theorem zc_stop {s : ByteArray} {a : Int} {f : Nat} (h : bitAt s a ≠ 0 ∨ f = 0) : zc s a f = 0 := by
  cases f with
  | zero => rfl
  | succ f => simp only [zc]; rw [if_neg (by omega)]
theorem zerosOf_range (s : ByteArray) (a : Int) : 0 ≤ zerosOf s a ∧ zerosOf s a ≤ remOf s a := by
  have h1 := zc_le s a (remOf s a).toNat
  have h2 := remOf_range s a
  unfold zerosOf; omega
def ueOk (s : ByteArray) (a : Int) : Prop := zerosOf s a ≤ 15 ∧ rbOk s a (2 * zerosOf s a + 1)
instance (s : ByteArray) (a : Int) : Decidable (ueOk s a) := by unfold ueOk; infer_instance
def ueAt (s : ByteArray) (a : Int) : Int := if ueOk s a then a + (2 * zerosOf s a + 1) else a
def ueV (s : ByteArray) (a : Int) : Int := if ueOk s a then bitsOf s a (2 * zerosOf s a + 1).toNat - 1 else 0
def ueE (s : ByteArray) (a : Int) : Int := if 15 < zerosOf s a then 4 else if rbOk s a (2 * zerosOf s a + 1) then 0 else 1

/-- a cache over a text -/
structure Ca where
  pos : Int
  word : Int
  hv : Int
abbrev caOk (s : ByteArray) (c : Ca) : Prop := cacheOk s c.pos c.word c.hv
def byteAt (s : ByteArray) (p : Int) : Int := (s.data.toList.getD p.toNat 0).toNat
def rfStep (s : ByteArray) (c : Ca) : Ca := ⟨c.pos + 1, c.word * 256 + byteAt s c.pos, c.hv + 8⟩
def rf (s : ByteArray) : Nat → Ca → Ca
  | 0, c => c
  | f + 1, c => if c.hv ≤ 48 ∧ c.pos < s.size then rf s f (rfStep s c) else c
def placeOf (s : ByteArray) (c : Ca) : Int := if caOk s c then 8 * c.pos - c.hv else -1
def settledAt (s : ByteArray) (a : Int) : Ca := ⟨(a + 7) / 8, bitsOf s a (8 * ((a + 7) / 8) - a).toNat, 8 * ((a + 7) / 8) - a⟩
def readyOf (s : ByteArray) (c : Ca) (n : Int) : Ca := if c.hv < n then rf s 7 c else c
def okN (s : ByteArray) (c : Ca) (n : Int) : Prop := caOk s c ∧ 0 ≤ n ∧ n ≤ 16
instance (s : ByteArray) (c : Ca) (n : Int) : Decidable (okN s c n) := by unfold okN; infer_instance
def peekC (s : ByteArray) (c : Ca) (n : Int) : Ca := if okN s c n then readyOf s c n else c
def skOk (s : ByteArray) (c : Ca) (n : Int) : Prop := okN s c n ∧ n ≤ (readyOf s c n).hv
instance (s : ByteArray) (c : Ca) (n : Int) : Decidable (skOk s c n) := by unfold skOk; infer_instance
end Go.Pl

/- Plain lists of numbers: code lengths, steps, headers. -/
namespace Go.Pl

theorem getD_ext {xs ys : List Int} (hl : xs.length = ys.length) (h : ∀ j : Nat, j < xs.length → xs.getD j 0 = ys.getD j 0) : xs = ys := by
  apply List.ext_getElem hl
  intro i h1 h2
  have := h i h1
  simpa [List.getD, h1, h2] using this
theorem upto_succ {P : Nat → Prop} {k : Nat} (h : ∀ j : Nat, j < k → P j) (hk : P k) : ∀ j : Nat, j < k + 1 → P j := fun j hj => by
  rcases Nat.lt_or_ge j k with h1 | h1
  · exact h j h1
  · obtain rfl : j = k := by omega
    exact hk

/-- how full a code of these lengths is, in parts of 128 -/
def kraft : List Int → Int
  | [] => 0
  | x :: r => (if 0 < x then 2 ^ (7 - x).toNat else 0) + kraft r
theorem kraft_append (xs ys : List Int) : kraft (xs ++ ys) = kraft xs + kraft ys := by
  induction xs with
  | nil => simp [kraft]
  | cons x xs ih => simp only [List.cons_append, kraft, ih]; omega
theorem kraft_take (xs : List Int) (k : Nat) (h : (k : Int) < xs.length) : kraft (xs.take (k + 1)) = kraft (xs.take k) + if 0 < xs.getD k 0 then 2 ^ (7 - xs.getD k 0).toNat else 0 := by
  have hk : k < xs.length := by omega
  have e : xs.take (k + 1) = xs.take k ++ [xs.getD k 0] := by
    rw [List.take_add_one]; simp [List.getD, hk]
  rw [e, kraft_append]; simp only [kraft]; omega
theorem pow7 (x : Int) (h : 0 < x) : (1 : Int) ≤ 2 ^ (7 - x).toNat ∧ (2 : Int) ^ (7 - x).toNat ≤ 64 := by
  have h1 := two_pow_le (n := (7 - x).toNat) (m := 6) (by omega)
  have h2 := two_pow_pos (7 - x).toNat
  omega
theorem kraft_range (xs : List Int) : 0 ≤ kraft xs ∧ kraft xs ≤ 64 * xs.length := by
  induction xs with
  | nil => simp [kraft]
  | cons x xs ih =>
    simp only [kraft, List.length_cons]
    split
    · have := pow7 x (by omega); omega
    · omega
theorem kraft_take_range (xs : List Int) (k : Nat) : 0 ≤ kraft (xs.take k) ∧ kraft (xs.take k) ≤ 64 * k := by
  have h := kraft_range (xs.take k)
  have h2 : (xs.take k).length ≤ k := by simp; omega
  omega
def codeOk (xs : List Int) : Prop := (∀ j : Nat, j < xs.length → 0 ≤ xs.getD j 0 ∧ xs.getD j 0 ≤ 7) ∧ xs.length = 6 ∧ kraft xs = 128
instance (xs : List Int) : Decidable (codeOk xs) := by unfold codeOk; infer_instance

def stepOf (q : Int) : Int := if 0 ≤ q ∧ q ≤ 51 then [8, 9, 10, 11, 13, 14].getD (q % 6).toNat 0 * 2 ^ (q / 6).toNat / 8 else 0
theorem step_row (q : Int) : 8 ≤ ([8, 9, 10, 11, 13, 14] : List Int).getD (q % 6).toNat 0 ∧ ([8, 9, 10, 11, 13, 14] : List Int).getD (q % 6).toNat 0 ≤ 14 := by
  obtain ⟨k, hk⟩ : ∃ k, k = (q % 6).toNat := ⟨_, rfl⟩
  have : k < 6 := by omega
  rw [← hk]
  clear hk
  match k, this with
  | 0, _ => decide
  | 1, _ => decide
  | 2, _ => decide
  | 3, _ => decide
  | 4, _ => decide
  | 5, _ => decide
theorem step_range (q : Int) (h : 0 ≤ q ∧ q ≤ 51) : 8 ≤ ([8, 9, 10, 11, 13, 14] : List Int).getD (q % 6).toNat 0 * 2 ^ (q / 6).toNat ∧ ([8, 9, 10, 11, 13, 14] : List Int).getD (q % 6).toNat 0 * 2 ^ (q / 6).toNat ≤ 3584 := by
  have h1 := step_row q
  have h2 := two_pow_le (n := (q / 6).toNat) (m := 8) (by omega)
  have h3 := two_pow_pos (q / 6).toNat
  generalize ([8, 9, 10, 11, 13, 14] : List Int).getD (q % 6).toNat 0 = x at *
  generalize (2 : Int) ^ (q / 6).toNat = y at *
  constructor
  · have := Int.mul_le_mul h1.1 (show 1 ≤ y by omega) (by omega) (by omega); omega
  · have h2' : y ≤ 256 := by simpa using h2
    have := Int.mul_le_mul h1.2 h2' (by omega) (by omega); omega
theorem step_pos (q : Int) : 0 < stepOf q ↔ 0 ≤ q ∧ q ≤ 51 := by
  unfold stepOf
  split
  · rename_i h
    have := step_range q h
    omega
  · omega
def sidesOk (a b : Int) : Prop := (8 ≤ a ∧ a ≤ 32) ∧ (8 ≤ b ∧ b ≤ 32) ∧ a % 8 = 0 ∧ b % 8 = 0
instance (a b : Int) : Decidable (sidesOk a b) := by unfold sidesOk; infer_instance
def headOk (a b q : Int) (xs : List Int) : Prop := sidesOk a b ∧ (0 ≤ q ∧ q ≤ 51) ∧ codeOk xs
instance (a b q : Int) (xs : List Int) : Decidable (headOk a b q xs) := by unfold headOk; infer_instance
end Go.Pl

/- Plain: bits read in parts. -/
namespace Go.Pl
end Go.Pl

/- Plain: what caches yield. -/
namespace Go.Pl
theorem settled_ok {s : ByteArray} {a : Int} (h : 0 ≤ a ∧ a ≤ 8 * s.size) : caOk s (settledAt s a) ∧ 8 * (settledAt s a).pos - (settledAt s a).hv = a ∧ (settledAt s a).hv < 8 := by
  unfold settledAt
  refine ⟨⟨?_, ?_, ?_, ?_, ?_, ?_⟩, ?_, ?_⟩
  · show 0 ≤ (a + 7) / 8; omega
  · show (a + 7) / 8 ≤ _; omega
  · show 0 ≤ 8 * ((a + 7) / 8) - a; omega
  · show 8 * ((a + 7) / 8) - a ≤ 56; omega
  · show 8 * ((a + 7) / 8) - a ≤ 8 * ((a + 7) / 8); omega
  · show bitsOf s a _ = bitsOf s (8 * ((a + 7) / 8) - (8 * ((a + 7) / 8) - a)) _
    congr 1; omega
  · show 8 * ((a + 7) / 8) - (8 * ((a + 7) / 8) - a) = a; omega
  · show 8 * ((a + 7) / 8) - a < 8; omega
theorem place_of {s : ByteArray} {c : Ca} (h : caOk s c) : placeOf s c = 8 * c.pos - c.hv := by unfold placeOf; rw [if_pos h]
theorem place_in {s : ByteArray} {c : Ca} (h : caOk s c) : 0 ≤ 8 * c.pos - c.hv ∧ 8 * c.pos - c.hv ≤ 8 * s.size := by obtain ⟨_, _, _, _, _, _⟩ := h; omega
theorem new_ok (s : ByteArray) : caOk s ⟨0, 0, 0⟩ := by
  refine ⟨?_, ?_, ?_, ?_, ?_, ?_⟩ <;> simp [bitsOf]
/-- taking bits -/
def tkOk (s : ByteArray) (c : Ca) (n : Int) : Prop := skOk s (peekC s c n) n
instance (s : ByteArray) (c : Ca) (n : Int) : Decidable (tkOk s c n) := by unfold tkOk; infer_instance
end Go.Pl

/- Plain numbers: lists of bits, the bytes that they make, codes of numbers. -/
namespace Go.Pl
open Go.Sx
/-- the w low bits of n, the highest first -/
def bitsl (n : Int) : Nat → List Int
  | 0 => []
  | w + 1 => n / 2 ^ w % 2 :: bitsl n w
theorem bitsl_length (n : Int) (w : Nat) : (bitsl n w).length = w := by induction w with
  | zero => rfl
  | succ w ih => simp [bitsl, ih]
def bitOk (w n : Int) : Prop := (0 ≤ w ∧ w ≤ 48) ∧ 0 ≤ n ∧ n / 2 ^ w.toNat = 0
instance (w n : Int) : Decidable (bitOk w n) := by unfold bitOk; infer_instance
def bitsIn (n w : Int) : List Int := if bitOk w n then bitsl n w.toNat else []
theorem bitsIn_len (n w : Int) : (bitsIn n w).length ≤ 48 ∧ (bitOk w n → ((bitsIn n w).length : Int) = w) := by
  unfold bitsIn; split
  · rename_i h; rw [bitsl_length]; obtain ⟨⟨h1, h2⟩, _⟩ := h; omega
  · simp; intro h; contradiction
/-- are all of them bits? -/
def isBits (b : List Int) : Prop := ∀ x ∈ b, x = 0 ∨ x = 1
instance (b : List Int) : Decidable (isBits b) := by unfold isBits; infer_instance
theorem bitsl_bits (n : Int) (w : Nat) : isBits (bitsl n w) := by
  induction w with
  | zero => intro x hx; cases hx
  | succ w ih =>
    intro x hx
    simp only [bitsl, List.mem_cons] at hx
    rcases hx with rfl | hx
    · omega
    · exact ih x hx
theorem bitsIn_bits (n w : Int) : isBits (bitsIn n w) := by
  unfold bitsIn; split
  · exact bitsl_bits _ _
  · intro x hx; cases hx
theorem isBits_app {a b : List Int} : isBits (a ++ b) ↔ isBits a ∧ isBits b := by
  unfold isBits; simp only [List.mem_append]
  exact ⟨fun h => ⟨fun x hx => h x (.inl hx), fun x hx => h x (.inr hx)⟩, fun h x hx => hx.elim (h.1 x) (h.2 x)⟩
theorem isBits_get {b : List Int} (h : isBits b) (i : Nat) : b.getD i 0 = 0 ∨ b.getD i 0 = 1 := by
  rw [List.getD_eq_getElem?_getD]
  cases hh : b[i]? with
  | none => left; rfl
  | some v => exact h v (List.mem_of_getElem? hh)
theorem isBits_take {b : List Int} (h : isBits b) (n : Nat) : isBits (b.take n) := fun x hx => h x (List.mem_of_mem_take hx)
theorem isBits_drop {b : List Int} (h : isBits b) (n : Nat) : isBits (b.drop n) := fun x hx => h x (List.mem_of_mem_drop hx)
theorem isBits_upto {b : List Int} (h : ∀ j : Nat, j < b.length → b.getD j 0 = 0 ∨ b.getD j 0 = 1) : isBits b := fun x hx => by
  obtain ⟨j, hj, rfl⟩ := List.mem_iff_getElem.1 hx
  have := h j hj
  simpa [List.getD, hj] using this
/-- bits as a number -/
def numl : List Int → Int
  | [] => 0
  | x :: r => x * 2 ^ r.length + numl r
theorem numl_app (a b : List Int) : numl (a ++ b) = numl a * 2 ^ b.length + numl b := by
  induction a with
  | nil => simp [numl]
  | cons x r ih =>
    simp only [List.cons_append, numl, ih, List.length_append]
    rw [Int.pow_add, Int.add_mul, Int.mul_assoc]; omega
theorem numl_snoc (a : List Int) (x : Int) : numl (a ++ [x]) = numl a * 2 + x := by rw [numl_app]; simp [numl]
theorem numl_range {b : List Int} (h : isBits b) : 0 ≤ numl b ∧ numl b < 2 ^ b.length := by
  induction b with
  | nil => simp [numl]
  | cons x r ih =>
    have h1 := ih fun y hy => h y (List.mem_cons_of_mem _ hy)
    have h2 := h x (by simp)
    have hp := two_pow_pos r.length
    simp only [numl, List.length_cons, two_pow_succ]
    rcases h2 with rfl | rfl <;> omega
/-- the bytes of bits -/
def bytesl (b : List Int) : List Int := (List.range (b.length / 8)).map fun j => numl ((b.drop (8 * j)).take 8)
def packs (b : List Int) : ByteArray := strOf (bytesl b)
theorem bytesl_length (b : List Int) : (bytesl b).length = b.length / 8 := by simp [bytesl]
theorem packs_size (b : List Int) : (packs b).size = b.length / 8 := by unfold packs; rw [strOf_size, bytesl_length]
theorem bytesl_range {b : List Int} (h : isBits b) : ∀ x ∈ bytesl b, 0 ≤ x ∧ x ≤ 255 := by
  intro x hx
  obtain ⟨j, _, rfl⟩ := List.mem_map.1 hx
  have h1 := numl_range (isBits_take (isBits_drop h (8 * j)) 8)
  have h2 := two_pow_le (n := ((b.drop (8 * j)).take 8).length) (m := 8) (by rw [List.length_take]; omega)
  have e : (2 : Int) ^ 8 = 256 := rfl
  rw [e] at h2
  omega
/-- the bytes of the first k bits -/
def byP (b : List Int) (k : Nat) : List Int := (List.range (b.length / 8)).map fun j => numl ((b.drop (8 * j)).take (min 8 (k - 8 * j))) * 2 ^ (8 - min 8 (k - 8 * j))
theorem byP_length (b : List Int) (k : Nat) : (byP b k).length = b.length / 8 := by simp [byP]
theorem byP_zero (b : List Int) : byP b 0 = List.replicate (b.length / 8) 0 := by
  apply List.ext_getElem
  · simp [byP]
  · intro i h1 h2; simp [byP, numl]
theorem byP_get {b : List Int} {k j : Nat} (hj : j < b.length / 8) : (byP b k).getD j 0 = numl ((b.drop (8 * j)).take (min 8 (k - 8 * j))) * 2 ^ (8 - min 8 (k - 8 * j)) := by
  simp only [byP, List.getD_eq_getElem?_getD, List.getElem?_map, List.getElem?_range hj, Option.map_some, Option.getD_some]
theorem byP_range {b : List Int} (h : isBits b) (k j : Nat) : 0 ≤ (byP b k).getD j 0 ∧ (byP b k).getD j 0 ≤ 255 := by
  by_cases hj : j < b.length / 8
  · rw [byP_get hj]
    have h1 := numl_range (isBits_take (isBits_drop h (8 * j)) (min 8 (k - 8 * j)))
    generalize hs : min 8 (k - 8 * j) = s at *
    have hs8 : s ≤ 8 := by omega
    have hl : ((b.drop (8 * j)).take s).length = s := by rw [List.length_take, List.length_drop]; omega
    rw [hl] at h1
    have hp := two_pow_pos (8 - s)
    have e : (2 : Int) ^ s * 2 ^ (8 - s) = 256 := by rw [← Int.pow_add, show s + (8 - s) = 8 by omega]; rfl
    have h2 : (numl ((b.drop (8 * j)).take s) + 1) * 2 ^ (8 - s) ≤ 2 ^ s * 2 ^ (8 - s) := Int.mul_le_mul_of_nonneg_right (by omega) (by omega)
    have h3 := Int.mul_nonneg h1.1 (Int.le_of_lt hp)
    rw [e, Int.add_mul] at h2
    omega
  · have : (byP b k).getD j 0 = 0 := by
      simp only [List.getD_eq_getElem?_getD]; rw [List.getElem?_eq_none (by rw [byP_length]; omega)]; rfl
    rw [this]; omega
theorem byP_mult (b : List Int) (k : Nat) (hk : k / 8 < b.length / 8) : (byP b k).getD (k / 8) 0 = numl ((b.drop (8 * (k / 8))).take (k % 8)) * 2 ^ (8 - k % 8) := by
  rw [byP_get hk, show min 8 (k - 8 * (k / 8)) = k % 8 by omega]
theorem byP_succ (b : List Int) (k : Nat) (hk : k / 8 < b.length / 8) : byP b (k + 1) = (byP b k).set (k / 8) ((byP b k).getD (k / 8) 0 + b.getD k 0 * 2 ^ (7 - k % 8)) := by
  apply List.ext_getElem?
  intro i
  rw [List.getElem?_set, byP_length]
  by_cases hi : i < b.length / 8
  · have e : ∀ m, (byP b m)[i]? = some (numl ((b.drop (8 * i)).take (min 8 (m - 8 * i))) * 2 ^ (8 - min 8 (m - 8 * i))) := fun m => by
      simp only [byP, List.getElem?_map, List.getElem?_range hi, Option.map_some]
    by_cases hik : k / 8 = i
    · subst hik
      rw [if_pos rfl, if_pos hk, e, byP_mult b k hk]
      have e1 : min 8 (k + 1 - 8 * (k / 8)) = k % 8 + 1 := by omega
      rw [e1, List.take_add_one]
      have e2 : (b.drop (8 * (k / 8)))[k % 8]? = some (b.getD k 0) := by
        rw [List.getElem?_drop, List.getD_eq_getElem?_getD, show 8 * (k / 8) + k % 8 = k by omega, List.getElem?_eq_getElem (by omega)]; rfl
      rw [e2, Option.toList_some, numl_snoc]
      have e3 : 8 - k % 8 = (7 - k % 8) + 1 := by omega
      have e4 : 8 - (k % 8 + 1) = 7 - k % 8 := by omega
      rw [e3, e4, two_pow_succ]
      generalize (2 : Int) ^ (7 - k % 8) = q
      rw [Int.add_mul, Int.mul_assoc]
    · rw [if_neg hik, e, e]
      have e1 : min 8 (k + 1 - 8 * i) = min 8 (k - 8 * i) := by omega
      rw [e1]
  · have e : ∀ m, (byP b m)[i]? = none := fun m => List.getElem?_eq_none (by rw [byP_length]; omega)
    by_cases hik : k / 8 = i
    · omega
    · rw [if_neg hik, e, e]
theorem byP_end {b : List Int} {k : Nat} (h : 8 * (b.length / 8) ≤ k) : byP b k = bytesl b := by
  unfold byP bytesl
  apply List.map_congr_left
  intro j hj
  rw [List.mem_range] at hj
  have e : min 8 (k - 8 * j) = 8 := by omega
  rw [e]; simp
def byOk (b : List Int) : Prop := isBits b ∧ b.length % 8 = 0
instance (b : List Int) : Decidable (byOk b) := by unfold byOk; infer_instance
def bytesStr (b : List Int) : ByteArray := if byOk b then packs b else ⟨#[]⟩
/-- how many zeros lead the code of n -/
def lz (n : Int) : Int := ((n + 1).toNat.log2 : Nat)
theorem lz_spec {n : Int} (h : 0 ≤ n) : 2 ^ (lz n).toNat ≤ n + 1 ∧ n + 1 < 2 ^ ((lz n).toNat + 1) := by
  have h1 := Nat.log2_self_le (n := (n + 1).toNat) (by omega)
  have h2 := Nat.lt_log2_self (n := (n + 1).toNat)
  unfold lz
  simp only [Int.toNat_natCast]
  have e1 : ((2 ^ (n + 1).toNat.log2 : Nat) : Int) = 2 ^ (n + 1).toNat.log2 := by simp
  have e2 : ((2 ^ ((n + 1).toNat.log2 + 1) : Nat) : Int) = 2 ^ ((n + 1).toNat.log2 + 1) := by simp
  rw [← e1, ← e2]
  omega
theorem lz_uniq {n : Int} {z : Nat} (h : 0 ≤ n) (h1 : 2 ^ z ≤ n + 1) (h2 : n + 1 < 2 ^ (z + 1)) : lz n = z := by
  obtain ⟨h3, h4⟩ := lz_spec h
  have h0 : 0 ≤ lz n := by unfold lz; omega
  rcases Nat.lt_trichotomy (lz n).toNat z with h5 | h5 | h5
  · have := two_pow_le (n := (lz n).toNat + 1) (m := z) (by omega); omega
  · omega
  · have := two_pow_le (n := z + 1) (m := (lz n).toNat) (by omega); omega
theorem lz_range {n : Int} (h : 0 ≤ n ∧ n ≤ 65534) : 0 ≤ lz n ∧ lz n ≤ 15 := by
  obtain ⟨h3, h4⟩ := lz_spec h.1
  have h0 : 0 ≤ lz n := by unfold lz; omega
  refine ⟨h0, ?_⟩
  rcases Int.lt_or_le 15 (lz n) with h5 | h5
  · have := two_pow_le (n := 16) (m := (lz n).toNat) (by omega)
    have e : (2 : Int) ^ 16 = 65536 := rfl
    omega
  · exact h5
/-- the length of a number's code -/
def ueSize (n : Int) : Int := if 0 ≤ n ∧ n ≤ 65534 then 2 * lz n + 1 else 0
end Go.Pl

/- Plain numbers: the table of numbers' codes. -/
namespace Go.Pl
theorem bitsIn_no {n w : Int} (h : ¬ bitOk w n) : bitsIn n w = [] := by unfold bitsIn; rw [if_neg h]
theorem bitsIn_yes {n w : Int} {k : Nat} (h : bitOk w n) (hk : (k : Int) = w) : bitsIn n w = (bitsl n w.toNat).take k := by
  unfold bitsIn; rw [if_pos h, List.take_of_length_le (by rw [bitsl_length]; omega)]
theorem bitsl_take {n w : Int} {k : Nat} (h : (k : Int) < w) : (bitsl n w.toNat).take (k + 1) = (bitsl n w.toNat).take k ++ [n / 2 ^ (w - 1 - k).toNat % 2] := by
  have key : ∀ (m k : Nat), k < m → (bitsl n m).take (k + 1) = (bitsl n m).take k ++ [n / 2 ^ (m - 1 - k) % 2] := by
    intro m
    induction m with
    | zero => intro k hk; omega
    | succ m ih =>
      intro k hk
      cases k with
      | zero => simp [bitsl]
      | succ k =>
        simp only [bitsl, List.take_succ_cons, List.cons_append]
        rw [ih k (by omega), show m + 1 - 1 - (k + 1) = m - 1 - k by omega]
  rw [key w.toNat k (by omega)]
  congr 5; omega
def ueEnt (i : Nat) : Int × Int :=
  if ueE (packs (bitsl i 9 ++ List.replicate 7 0)) 0 = 0 ∧ ueAt (packs (bitsl i 9 ++ List.replicate 7 0)) 0 ≤ 9 then (ueAt (packs (bitsl i 9 ++ List.replicate 7 0)) 0, ueV (packs (bitsl i 9 ++ List.replicate 7 0)) 0) else (0, 0)
def ueU (k : Nat) : List (Int × Int) := (List.range k).map ueEnt ++ List.replicate (512 - k) (0, 0)
def ueTab : List (Int × Int) := (List.range 512).map ueEnt
theorem ueU_length {k : Nat} (h : k ≤ 512) : (ueU k).length = 512 := by simp [ueU]; omega
theorem ueU_zero : ueU 0 = List.replicate 512 (0, 0) := by simp only [ueU, List.range_zero, List.map_nil, List.nil_append, Nat.sub_zero]
theorem ueU_end : ueU 512 = ueTab := by simp [ueU, ueTab]
theorem ueU_succ {k : Nat} (h : k < 512) : ueU (k + 1) = (ueU k).set k (ueEnt k) := by
  apply List.ext_getElem?
  intro i
  have hr : (List.map ueEnt (List.range k)).length = k := by simp
  have hr1 : (List.map ueEnt (List.range (k + 1))).length = k + 1 := by simp
  rw [List.getElem?_set]
  by_cases hik : k = i
  · subst hik
    rw [if_pos rfl, if_pos (by rw [ueU_length (by omega)]; exact h)]
    unfold ueU
    rw [List.getElem?_append_left (by omega)]
    simp
  · rw [if_neg hik]
    unfold ueU
    rcases Nat.lt_or_ge i k with h1 | h1
    · rw [List.getElem?_append_left (by omega), List.getElem?_append_left (by omega)]
      simp [h1, show i < k + 1 by omega]
    · rw [List.getElem?_append_right (by omega), List.getElem?_append_right (by omega), hr, hr1, List.getElem?_replicate, List.getElem?_replicate]
      by_cases h2 : i < 512
      · rw [if_pos (by omega), if_pos (by omega)]
      · rw [if_neg (by omega), if_neg (by omega)]
theorem ueU_skip {k : Nat} (h : k < 512) (he : ueEnt k = (0, 0)) : ueU (k + 1) = ueU k := by
  rw [ueU_succ h, he]
  apply List.ext_getElem?
  intro i
  rw [List.getElem?_set]
  by_cases hik : k = i
  · subst hik
    rw [if_pos rfl, if_pos (by rw [ueU_length (by omega)]; exact h)]
    unfold ueU
    rw [List.getElem?_append_right (by simp), List.length_map, List.length_range, Nat.sub_self, List.getElem?_replicate, if_pos (by omega)]
  · rw [if_neg hik]
end Go.Pl

/- Plain numbers: prefix codes. -/
namespace Go.Pl
/-- codes given out: one round over the six lengths -/
def cIn (l : List Int) (n : Int) (st : List Int × Int) : Nat → List Int × Int
  | 0 => st
  | j + 1 => if l.getD j 0 = n then ((cIn l n st j).1.set j (cIn l n st j).2, (cIn l n st j).2 + 1) else cIn l n st j
def cOut (l : List Int) : Nat → List Int × Int
  | 0 => (List.replicate 6 (-1), 0)
  | n + 1 => cIn l ((n : Int) + 1) ((cOut l n).1, (cOut l n).2 * 2) 6
def codesOf (l : List Int) : List Int := if codeOk l then (cOut l 7).1 else []
def inP (l : List Int) (n : Int) (j m : Nat) : Prop := m < 6 ∧ 1 ≤ l.getD m 0 ∧ (l.getD m 0 < n ∨ (l.getD m 0 = n ∧ m < j))
def cHit (l out : List Int) (m : Nat) (v : Int) : Prop := v / 2 ^ (7 - l.getD m 0).toNat = out.getD m 0
instance (l out : List Int) (m : Nat) (v : Int) : Decidable (cHit l out m v) := by unfold cHit; infer_instance
theorem div_iff {v d q : Int} (hd : 0 < d) : v / d = q ↔ q * d ≤ v ∧ v < q * d + d := by
  have h1 := Int.le_ediv_iff_mul_le (a := q) (b := v) hd
  have h2 := Int.ediv_lt_iff_lt_mul (a := v) (b := q + 1) hd
  rw [Int.add_mul, Int.one_mul] at h2
  omega
structure CInv (l out : List Int) (next n S : Int) (j : Nat) : Prop where
  len : out.length = 6
  nx : next * 2 ^ (7 - n).toNat = S
  n0 : 0 ≤ next
  un : ∀ m, m < 6 → ¬ inP l n j m → out.getD m 0 = -1
  cov : ∀ v, 0 ≤ v → v < S → ∃ m, inP l n j m ∧ cHit l out m v
  abv : ∀ v, S ≤ v → ∀ m, inP l n j m → ¬ cHit l out m v
  unq : ∀ v m m', inP l n j m → inP l n j m' → cHit l out m v → cHit l out m' v → m = m'
  nneg : ∀ m, inP l n j m → 0 ≤ out.getD m 0 ∧ (out.getD m 0 + 1) * 2 ^ (7 - l.getD m 0).toNat ≤ S
theorem getD_set_eq {xs : List Int} {i : Nat} {a : Int} (h : i < xs.length) : (xs.set i a).getD i 0 = a := by simp [List.getD, h]
theorem getD_set_ne {xs : List Int} {i j : Nat} {a : Int} (h : i ≠ j) : (xs.set i a).getD j 0 = xs.getD j 0 := by
  simp only [List.getD_eq_getElem?_getD, List.getElem?_set, if_neg h]
theorem CInv.give {l out : List Int} {next n S : Int} {j : Nat} (h : CInv l out next n S j) (hn : 1 ≤ n ∧ n ≤ 7) (hj : j < 6) (hl : l.getD j 0 = n) : CInv l (out.set j next) (next + 1) n (S + 2 ^ (7 - n).toNat) (j + 1) := by
  have hp := two_pow_pos (7 - n).toNat
  have hP : ∀ m, inP l n (j + 1) m ↔ inP l n j m ∨ m = j := by
    intro m; unfold inP
    constructor
    · rintro ⟨h1, h2, h3⟩
      by_cases hm : m = j
      · exact .inr hm
      · left; exact ⟨h1, h2, by omega⟩
    · rintro (⟨h1, h2, h3⟩ | rfl)
      · exact ⟨h1, h2, by omega⟩
      · exact ⟨hj, by omega, .inr ⟨hl, by omega⟩⟩
  have hnj : ∀ m, inP l n j m → m ≠ j := by rintro m ⟨h1, h2, h3⟩ rfl; omega
  have hold : ∀ m v, m ≠ j → (cHit l (out.set j next) m v ↔ cHit l out m v) := by
    intro m v hm; unfold cHit; rw [getD_set_ne (Ne.symm hm)]
  have hnew : ∀ v, cHit l (out.set j next) j v ↔ S ≤ v ∧ v < S + 2 ^ (7 - n).toNat := by
    intro v; unfold cHit; rw [getD_set_eq (by rw [h.len]; exact hj), hl, div_iff hp, h.nx]
  refine ⟨by simp [h.len], by rw [Int.add_mul, h.nx]; omega, by have := h.n0; omega, ?_, ?_, ?_, ?_, ?_⟩
  · intro m hm hn'
    rw [hP] at hn'
    rw [getD_set_ne (fun e => hn' (.inr e.symm))]
    exact h.un m hm fun h' => hn' (.inl h')
  · intro v h0 h1
    rcases Int.lt_or_le v S with h2 | h2
    · obtain ⟨m, hm, hh⟩ := h.cov v h0 h2
      exact ⟨m, (hP m).2 (.inl hm), (hold m v (hnj m hm)).2 hh⟩
    · exact ⟨j, (hP j).2 (.inr rfl), (hnew v).2 ⟨h2, h1⟩⟩
  · intro v hv m hm
    rcases (hP m).1 hm with h1 | rfl
    · rw [hold m v (hnj m h1)]; exact h.abv v (by omega) m h1
    · rw [hnew]; omega
  · intro v m m' hm hm' h1 h2
    rcases (hP m).1 hm with a | rfl <;> rcases (hP m').1 hm' with b | rfl
    · exact h.unq v m m' a b ((hold m v (hnj m a)).1 h1) ((hold m' v (hnj m' b)).1 h2)
    · exact absurd ((hold m v (hnj m a)).1 h1) (h.abv v ((hnew v).1 h2).1 m a)
    · exact absurd ((hold m' v (hnj m' b)).1 h2) (h.abv v ((hnew v).1 h1).1 m' b)
    · rfl
  · intro m hm
    rcases (hP m).1 hm with h1 | rfl
    · rw [getD_set_ne (Ne.symm (hnj m h1))]
      have := h.nneg m h1; omega
    · rw [getD_set_eq (by rw [h.len]; exact hj), hl, Int.add_mul, h.nx]
      exact ⟨h.n0, by omega⟩
theorem CInv.pass {l out : List Int} {next n S : Int} {j : Nat} (h : CInv l out next n S j) (hl : l.getD j 0 ≠ n) : CInv l out next n S (j + 1) := by
  have hP : ∀ m, inP l n (j + 1) m ↔ inP l n j m := by
    intro m; unfold inP
    by_cases hm : m = j
    · subst hm; omega
    · omega
  exact ⟨h.len, h.nx, h.n0, fun m hm hn => h.un m hm fun h' => hn ((hP m).2 h'), fun v h0 h1 => by obtain ⟨m, a, b⟩ := h.cov v h0 h1; exact ⟨m, (hP m).2 a, b⟩,
    fun v hv m hm => h.abv v hv m ((hP m).1 hm), fun v m m' a b => h.unq v m m' ((hP m).1 a) ((hP m').1 b), fun m hm => h.nneg m ((hP m).1 hm)⟩
theorem CInv.next {l out : List Int} {next n S : Int} (h : CInv l out next n S 6) (hn : 0 ≤ n ∧ n ≤ 6) : CInv l out (next * 2) (n + 1) S 0 := by
  have hP : ∀ m, inP l (n + 1) 0 m ↔ inP l n 6 m := by intro m; unfold inP; omega
  refine ⟨h.len, ?_, by have := h.n0; omega, fun m hm hn => h.un m hm fun h' => hn ((hP m).2 h'), fun v h0 h1 => by obtain ⟨m, a, b⟩ := h.cov v h0 h1; exact ⟨m, (hP m).2 a, b⟩,
    fun v hv m hm => h.abv v hv m ((hP m).1 hm), fun v m m' a b => h.unq v m m' ((hP m).1 a) ((hP m').1 b), fun m hm => h.nneg m ((hP m).1 hm)⟩
  have e : (7 - n).toNat = (7 - (n + 1)).toNat + 1 := by omega
  rw [← h.nx, e, two_pow_succ, Int.mul_assoc]
theorem codeOk_at {l : List Int} (h : codeOk l) (m : Nat) : 0 ≤ l.getD m 0 ∧ l.getD m 0 ≤ 7 := by
  rcases Nat.lt_or_ge m l.length with h1 | h1
  · exact h.1 m h1
  · rw [List.getD_eq_getElem?_getD, List.getElem?_eq_none h1]; simp
/-- the symbol whose code seven bits begin with -/
def symOf (l : List Int) (v : Int) : Nat := ((List.range 6).find? fun m => decide (1 ≤ l.getD m 0 ∧ cHit l (codesOf l) m v)).getD 0
/-- reading a symbol -/
def symAt (s : ByteArray) (a : Int) (l : List Int) : Nat := symOf l (bitsOf s a 7)
def rsOk (s : ByteArray) (a : Int) (l : List Int) : Prop := codeOk l ∧ rbOk s a (l.getD (symAt s a l) 0)
instance (s : ByteArray) (a : Int) (l : List Int) : Decidable (rsOk s a l) := by unfold rsOk; infer_instance
def sideOf (n : Int) : Int := if n = 16 then 4 else if n = 64 then 8 else 0
def levelsOk (xs : List Int) : Prop := (∀ j : Nat, j < xs.length → -16383 ≤ xs.getD j 0 ∧ xs.getD j 0 ≤ 16383) ∧ 0 < sideOf xs.length
instance (xs : List Int) : Decidable (levelsOk xs) := by unfold levelsOk; infer_instance
def symOk (l : List Int) (m : Int) : Prop := codeOk l ∧ (0 ≤ m ∧ m ≤ 5) ∧ l.getD m.toNat 0 ≠ 0
instance (l : List Int) (m : Int) : Decidable (symOk l m) := by unfold symOk; infer_instance
def blockOk (m : Int) (ys xs : List Int) (n : Int) : Prop := (n = 4 ∨ n = 8) ∧ symOk xs m ∧ (ys.length : Int) = n * n ∧ levelsOk ys
instance (m : Int) (ys xs : List Int) (n : Int) : Decidable (blockOk m ys xs n) := by unfold blockOk; infer_instance
end Go.Pl

/- Plain numbers: what is written is read. -/
namespace Go.Pl
open Go.Sx
/-- the code of a number -/
def ueBits (n : Int) : List Int := if 0 ≤ n ∧ n ≤ 65534 then bitsIn (n + 1) (ueSize n) else []
theorem ueBits_eq {n : Int} (h : 0 ≤ n ∧ n ≤ 65534) : ueBits n = bitsl (n + 1) (2 * (lz n).toNat + 1) := by
  have h1 := lz_range h
  obtain ⟨h2, h3⟩ := lz_spec h.1
  have e : ueSize n = 2 * lz n + 1 := by unfold ueSize; rw [if_pos h]
  have h4 := two_pow_le (n := (lz n).toNat + 1) (m := (2 * lz n + 1).toNat) (by omega)
  unfold ueBits bitsIn
  rw [if_pos h, e, if_pos ⟨by omega, by omega, Int.ediv_eq_zero_of_lt (by omega) (by omega)⟩, show (2 * lz n + 1).toNat = 2 * (lz n).toNat + 1 by omega]
theorem ueBits_len {n : Int} (h : 0 ≤ n ∧ n ≤ 65534) : ((ueBits n).length : Int) = ueSize n := by
  have h1 := lz_range h
  rw [ueBits_eq h, bitsl_length]; unfold ueSize; rw [if_pos h]; omega
theorem ueBits_bits (n : Int) : isBits (ueBits n) := by
  unfold ueBits; split
  · exact bitsIn_bits _ _
  · intro x hx; cases hx
theorem ueBits_no {n : Int} (h : ¬ (0 ≤ n ∧ n ≤ 65534)) : ueBits n = [] := by unfold ueBits; rw [if_neg h]
/-- filled up to whole bytes -/
def pad8 (b : List Int) : List Int := b ++ List.replicate ((8 - b.length % 8) % 8) 0
theorem pad8_len (b : List Int) : (pad8 b).length % 8 = 0 ∧ b.length ≤ (pad8 b).length ∧ (pad8 b).length ≤ b.length + 7 := by
  unfold pad8; rw [List.length_append, List.length_replicate]; omega
def stopped (b : List Int) : ByteArray := bytesStr (pad8 (b ++ [1]))
theorem stopped_size (b : List Int) : (stopped b).size ≤ (b.length + 8) / 8 := by
  unfold stopped bytesStr
  split
  · rw [packs_size]
    have := (pad8_len (b ++ [1])).2.2
    rw [List.length_append] at this
    simp only [List.length_cons, List.length_nil] at this
    omega
  · show 0 ≤ _; omega
theorem ueSize_range (n : Int) : 0 ≤ ueSize n ∧ ueSize n ≤ 31 := by
  unfold ueSize; split
  · rename_i h; have := lz_range h; omega
  · omega
end Go.Pl
