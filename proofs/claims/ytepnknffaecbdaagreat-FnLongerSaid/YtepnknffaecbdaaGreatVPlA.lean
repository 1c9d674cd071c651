/- Plain numbers and lists, with no program in sight. -/
import Derived.Test.YtepnknffaecbdaaGreatVSxA
import Derived.Lib.Tables
/- Plain numbers: bits of a text. -/
namespace Go.Pl

def bitAt (s : ByteArray) (i : Int) : Int :=
  if 0 ≤ i ∧ i < 8 * s.size then (s.data.toList.getD (i / 8).toNat 0).toNat / 2 ^ (7 - i % 8).toNat % 2 else -1

def bitsOf (s : ByteArray) (a : Int) : Nat → Int
  | 0 => 0
  | n + 1 => bitsOf s a n * 2 + max (bitAt s (a + n)) 0

theorem bitAt_range (s : ByteArray) (i : Int) : -1 ≤ bitAt s i ∧ bitAt s i ≤ 1 := by
  unfold bitAt; split <;> omega
theorem bitAt_in {s : ByteArray} {i : Int} (h : 0 ≤ i ∧ i < 8 * s.size) : bitAt s i = (s.data.toList.getD (i / 8).toNat 0).toNat / 2 ^ (7 - i % 8).toNat % 2 := by
  unfold bitAt; rw [if_pos h]
theorem bitAt_in0 {s : ByteArray} {i : Int} (h : 0 ≤ i ∧ i < 8 * s.size) : 0 ≤ bitAt s i ∧ bitAt s i ≤ 1 := by
  rw [bitAt_in h]; omega
theorem bitAt_out {s : ByteArray} {i : Int} (h : i < 0 ∨ 8 * s.size ≤ i) : bitAt s i = -1 := by
  unfold bitAt; rw [if_neg (by omega)]
theorem bitsOf_range (s : ByteArray) (a : Int) (n : Nat) : 0 ≤ bitsOf s a n ∧ bitsOf s a n < 2 ^ n := by
  induction n with
  | zero => simp [bitsOf]
  | succ n ih =>
    have := bitAt_range s (a + n)
    simp only [bitsOf]
    have h2 : (2 : Int) ^ (n + 1) = 2 * 2 ^ n := by rw [Int.pow_succ]; omega
    rw [h2]
    omega
theorem bitsOf_lt (s : ByteArray) (a : Int) (n m : Nat) (h : n ≤ m) : bitsOf s a n < 2 ^ m := by
  have h1 := (bitsOf_range s a n).2
  have h2 : (2 : Int) ^ n ≤ 2 ^ m := by
    have : (2 : Nat) ^ n ≤ 2 ^ m := Nat.pow_le_pow_right (by omega) h
    exact_mod_cast this
  omega
theorem bitsOf_62 (s : ByteArray) (a : Int) (n : Nat) (h : n ≤ 62) : 0 ≤ bitsOf s a n ∧ bitsOf s a n < 4611686018427387904 :=
  ⟨(bitsOf_range s a n).1, by have := bitsOf_lt s a n 62 h; simpa using this⟩

def cacheOk (s : ByteArray) (pos word have_ : Int) : Prop := 0 ≤ pos ∧ pos ≤ s.size ∧ 0 ≤ have_ ∧ have_ ≤ 56 ∧ have_ ≤ 8 * pos ∧ word = bitsOf s (8 * pos - have_) have_.toNat
instance (s : ByteArray) (pos word have_ : Int) : Decidable (cacheOk s pos word have_) := by unfold cacheOk; infer_instance

theorem byteshift_le (x : UInt8) (k : Nat) : (0 : Int) ≤ x.toNat / 2 ^ k ∧ (x.toNat : Int) / 2 ^ k ≤ 255 := by
  have h1 : (x.toNat : Int) / 2 ^ k = ((x.toNat / 2 ^ k : Nat) : Int) := by simp
  have h2 : x.toNat / 2 ^ k ≤ x.toNat := Nat.div_le_self _ _
  have h3 := x.toNat_lt
  rw [h1]
  generalize x.toNat / 2 ^ k = q at *
  omega
end Go.Pl

/- Plain numbers: readers and caches over a text. -/
namespace Go.Pl

theorem two_pow_pos (n : Nat) : (0 : Int) < 2 ^ n := Int.pow_pos (by omega)
theorem two_pow_succ (n : Nat) : (2 : Int) ^ (n + 1) = 2 * 2 ^ n := by rw [Int.pow_succ]; omega
theorem two_pow_le {n m : Nat} (h : n ≤ m) : (2 : Int) ^ n ≤ 2 ^ m := by
  have : (2 : Nat) ^ n ≤ 2 ^ m := Nat.pow_le_pow_right (by omega) h
  exact_mod_cast this

theorem bitsOf_add (s : ByteArray) (a : Int) (n m : Nat) : bitsOf s a (n + m) = bitsOf s a n * 2 ^ m + bitsOf s (a + n) m := by
  induction m with
  | zero => simp [bitsOf]
  | succ m ih =>
    rw [← Nat.add_assoc]
    simp only [bitsOf]
    rw [ih, two_pow_succ]
    have h1 : a + ((n + m : Nat) : Int) = a + n + m := by omega
    rw [h1]
    generalize max (bitAt s (a + n + m)) 0 = x
    rw [Int.add_mul, Int.mul_assoc, Int.mul_comm (2 ^ m) 2]; omega
theorem bitsOf_first (s : ByteArray) (a : Int) (n : Nat) : bitsOf s a (n + 1) = max (bitAt s a) 0 * 2 ^ n + bitsOf s (a + 1) n := by
  rw [Nat.add_comm, bitsOf_add]; simp [bitsOf]
theorem bitsOf_div (s : ByteArray) (a : Int) (n m : Nat) : bitsOf s a (n + m) / 2 ^ m = bitsOf s a n := by
  have h := bitsOf_range s (a + n) m
  have hp := two_pow_pos m
  rw [bitsOf_add, Int.add_comm, Int.add_mul_ediv_right _ _ (by omega), Int.ediv_eq_zero_of_lt h.1 h.2]; omega
def remOf (s : ByteArray) (a : Int) : Int := if 0 ≤ a ∧ a ≤ 8 * s.size then 8 * s.size - a else 0
def rbOk (s : ByteArray) (a n : Int) : Prop := (0 ≤ a ∧ a ≤ 8 * s.size) ∧ (0 ≤ n ∧ n ≤ 32) ∧ n ≤ remOf s a
instance (s : ByteArray) (a n : Int) : Decidable (rbOk s a n) := by unfold rbOk; infer_instance
def rbAt (s : ByteArray) (a n : Int) : Int := if rbOk s a n then a + n else a
def rbV (s : ByteArray) (a n : Int) : Int := if rbOk s a n then bitsOf s a n.toNat else 0
theorem remOf_range (s : ByteArray) (a : Int) : 0 ≤ remOf s a ∧ remOf s a ≤ 8 * s.size := by unfold remOf; split <;> omega
theorem remOf_in {s : ByteArray} {a : Int} (h : 0 ≤ a ∧ a ≤ 8 * s.size) : remOf s a = 8 * s.size - a := by unfold remOf; rw [if_pos h]

theorem remOf_pos (s : ByteArray) (a : Int) (h : 0 < remOf s a) : 0 ≤ a ∧ a < 8 * s.size ∧ remOf s a = 8 * s.size - a := by
  unfold remOf at h ⊢; split at h
  · rename_i hx; rw [if_pos hx]; omega
  · omega
def zc (s : ByteArray) (a : Int) : Nat → Nat
  | 0 => 0
  | f + 1 => if bitAt s a = 0 then zc s (a + 1) f + 1 else 0
def zerosOf (s : ByteArray) (a : Int) : Int := zc s a (remOf s a).toNat
theorem zc_le (s : ByteArray) (a : Int) (f : Nat) : zc s a f ≤ f := by
  induction f generalizing a with
  | zero => simp [zc]
  | succ f ih => simp only [zc]; split; have := ih (a + 1); omega; omega
theorem zc_step {s : ByteArray} {a : Int} {f : Nat} (h : bitAt s a = 0) (hf : 0 < f) : zc s a f = zc s (a + 1) (f - 1) + 1 := by
  obtain ⟨g, rfl⟩ : ∃ g, f = g + 1 := ⟨f - 1, by omega⟩
  simp [zc, h]
theorem zc_stop {s : ByteArray} {a : Int} {f : Nat} (h : bitAt s a ≠ 0 ∨ f = 0) : zc s a f = 0 := by
  cases f with
  | zero => rfl
  | succ f => simp only [zc]; rw [if_neg (by omega)]
theorem zerosOf_range (s : ByteArray) (a : Int) : 0 ≤ zerosOf s a ∧ zerosOf s a ≤ remOf s a := by
  have h1 := zc_le s a (remOf s a).toNat
  have h2 := remOf_range s a
  unfold zerosOf; omega
def ueOk (s : ByteArray) (a : Int) : Prop := zerosOf s a ≤ 15 ∧ rbOk s a (2 * zerosOf s a + 1)
instance (s : ByteArray) (a : Int) : Decidable (ueOk s a) := by unfold ueOk; infer_instance
def ueAt (s : ByteArray) (a : Int) : Int := if ueOk s a then a + (2 * zerosOf s a + 1) else a
def ueV (s : ByteArray) (a : Int) : Int := if ueOk s a then bitsOf s a (2 * zerosOf s a + 1).toNat - 1 else 0
def ueE (s : ByteArray) (a : Int) : Int := if 15 < zerosOf s a then 4 else if rbOk s a (2 * zerosOf s a + 1) then 0 else 1

def stopOf (s : ByteArray) (a : Int) : Int :=
  if remOf s a = 0 then 1 else if remOf s a ≤ 8 ∧ bitsOf s a (remOf s a).toNat = 2 ^ (remOf s a - 1).toNat then 0 else 6
structure Ca where
  pos : Int
  word : Int
  hv : Int
abbrev caOk (s : ByteArray) (c : Ca) : Prop := cacheOk s c.pos c.word c.hv
def byteAt (s : ByteArray) (p : Int) : Int := (s.data.toList.getD p.toNat 0).toNat
def rfStep (s : ByteArray) (c : Ca) : Ca := ⟨c.pos + 1, c.word * 256 + byteAt s c.pos, c.hv + 8⟩
def rf (s : ByteArray) : Nat → Ca → Ca
  | 0, c => c
  | f + 1, c => if c.hv ≤ 48 ∧ c.pos < s.size then rf s f (rfStep s c) else c
def readyOf (s : ByteArray) (c : Ca) (n : Int) : Ca := if c.hv < n then rf s 7 c else c
def okN (s : ByteArray) (c : Ca) (n : Int) : Prop := caOk s c ∧ 0 ≤ n ∧ n ≤ 16
instance (s : ByteArray) (c : Ca) (n : Int) : Decidable (okN s c n) := by unfold okN; infer_instance
def peekC (s : ByteArray) (c : Ca) (n : Int) : Ca := if okN s c n then readyOf s c n else c
def skOk (s : ByteArray) (c : Ca) (n : Int) : Prop := okN s c n ∧ n ≤ (readyOf s c n).hv
instance (s : ByteArray) (c : Ca) (n : Int) : Decidable (skOk s c n) := by unfold skOk; infer_instance
end Go.Pl

/- Plain lists of numbers: code lengths, steps, headers. -/
namespace Go.Pl

theorem upto_succ {P : Nat → Prop} {k : Nat} (h : ∀ j : Nat, j < k → P j) (hk : P k) : ∀ j : Nat, j < k + 1 → P j := fun j hj => by
  rcases Nat.lt_or_ge j k with h1 | h1
  · exact h j h1
  · obtain rfl : j = k := by omega
    exact hk

def kraft : List Int → Int
  | [] => 0
  | x :: r => (if 0 < x then 2 ^ (7 - x).toNat else 0) + kraft r
theorem kraft_append (xs ys : List Int) : kraft (xs ++ ys) = kraft xs + kraft ys := by
  induction xs with
  | nil => simp [kraft]
  | cons x xs ih => simp only [List.cons_append, kraft, ih]; omega
theorem kraft_take (xs : List Int) (k : Nat) (h : (k : Int) < xs.length) : kraft (xs.take (k + 1)) = kraft (xs.take k) + if 0 < xs.getD k 0 then 2 ^ (7 - xs.getD k 0).toNat else 0 := by
  have hk : k < xs.length := by omega
  have e : xs.take (k + 1) = xs.take k ++ [xs.getD k 0] := by
    rw [List.take_add_one]; simp [List.getD, hk]
  rw [e, kraft_append]; simp only [kraft]; omega
theorem pow7 (x : Int) (h : 0 < x) : (1 : Int) ≤ 2 ^ (7 - x).toNat ∧ (2 : Int) ^ (7 - x).toNat ≤ 64 := by
  have h1 := two_pow_le (n := (7 - x).toNat) (m := 6) (by omega)
  have h2 := two_pow_pos (7 - x).toNat
  omega
theorem kraft_range (xs : List Int) : 0 ≤ kraft xs ∧ kraft xs ≤ 64 * xs.length := by
  induction xs with
  | nil => simp [kraft]
  | cons x xs ih =>
    simp only [kraft, List.length_cons]
    split
    · have := pow7 x (by omega); omega
    · omega
theorem kraft_take_range (xs : List Int) (k : Nat) : 0 ≤ kraft (xs.take k) ∧ kraft (xs.take k) ≤ 64 * k := by
  have h := kraft_range (xs.take k)
  have h2 : (xs.take k).length ≤ k := by simp; omega
  omega
def codeOk (xs : List Int) : Prop := (∀ j : Nat, j < xs.length → 0 ≤ xs.getD j 0 ∧ xs.getD j 0 ≤ 7) ∧ xs.length = 6 ∧ kraft xs = 128
instance (xs : List Int) : Decidable (codeOk xs) := by unfold codeOk; infer_instance

def stepOf (q : Int) : Int := if 0 ≤ q ∧ q ≤ 51 then [8, 9, 10, 11, 13, 14].getD (q % 6).toNat 0 * 2 ^ (q / 6).toNat / 8 else 0
theorem step_row (q : Int) : 8 ≤ ([8, 9, 10, 11, 13, 14] : List Int).getD (q % 6).toNat 0 ∧ ([8, 9, 10, 11, 13, 14] : List Int).getD (q % 6).toNat 0 ≤ 14 := by
  obtain ⟨k, hk⟩ : ∃ k, k = (q % 6).toNat := ⟨_, rfl⟩
  have : k < 6 := by omega
  rw [← hk]
  clear hk
  match k, this with
  | 0, _ => decide
  | 1, _ => decide
  | 2, _ => decide
  | 3, _ => decide
  | 4, _ => decide
  | 5, _ => decide
theorem step_range (q : Int) (h : 0 ≤ q ∧ q ≤ 51) : 8 ≤ ([8, 9, 10, 11, 13, 14] : List Int).getD (q % 6).toNat 0 * 2 ^ (q / 6).toNat ∧ ([8, 9, 10, 11, 13, 14] : List Int).getD (q % 6).toNat 0 * 2 ^ (q / 6).toNat ≤ 3584 := by
  have h1 := step_row q
  have h2 := two_pow_le (n := (q / 6).toNat) (m := 8) (by omega)
  have h3 := two_pow_pos (q / 6).toNat
  generalize ([8, 9, 10, 11, 13, 14] : List Int).getD (q % 6).toNat 0 = x at *
  generalize (2 : Int) ^ (q / 6).toNat = y at *
  constructor
  · have := Int.mul_le_mul h1.1 (show 1 ≤ y by omega) (by omega) (by omega); omega
  · have h2' : y ≤ 256 := by simpa using h2
    have := Int.mul_le_mul h1.2 h2' (by omega) (by omega); omega
theorem step_pos (q : Int) : 0 < stepOf q ↔ 0 ≤ q ∧ q ≤ 51 := by
  unfold stepOf
  split
  · rename_i h
    have := step_range q h
    omega
  · omega
def sidesOk (a b : Int) : Prop := (8 ≤ a ∧ a ≤ 32) ∧ (8 ≤ b ∧ b ≤ 32) ∧ a % 8 = 0 ∧ b % 8 = 0
instance (a b : Int) : Decidable (sidesOk a b) := by unfold sidesOk; infer_instance
def headOk (a b q : Int) (xs : List Int) : Prop := sidesOk a b ∧ (0 ≤ q ∧ q ≤ 51) ∧ codeOk xs
instance (a b q : Int) (xs : List Int) : Decidable (headOk a b q xs) := by unfold headOk; infer_instance
end Go.Pl

/- Plain: bits read in parts. -/
namespace Go.Pl
end Go.Pl

/- Plain: what caches yield. -/
namespace Go.Pl
def tkOk (s : ByteArray) (c : Ca) (n : Int) : Prop := skOk s (peekC s c n) n
instance (s : ByteArray) (c : Ca) (n : Int) : Decidable (tkOk s c n) := by unfold tkOk; infer_instance
end Go.Pl

/- Plain numbers: lists of bits, the bytes that they make, codes of numbers. -/
namespace Go.Pl
open Go.Sx
def bitsl (n : Int) : Nat → List Int
  | 0 => []
  | w + 1 => n / 2 ^ w % 2 :: bitsl n w
theorem bitsl_length (n : Int) (w : Nat) : (bitsl n w).length = w := by induction w with
  | zero => rfl
  | succ w ih => simp [bitsl, ih]
def bitOk (w n : Int) : Prop := (0 ≤ w ∧ w ≤ 48) ∧ 0 ≤ n ∧ n / 2 ^ w.toNat = 0
instance (w n : Int) : Decidable (bitOk w n) := by unfold bitOk; infer_instance
def bitsIn (n w : Int) : List Int := if bitOk w n then bitsl n w.toNat else []
theorem bitsIn_len (n w : Int) : (bitsIn n w).length ≤ 48 ∧ (bitOk w n → ((bitsIn n w).length : Int) = w) := by
  unfold bitsIn; split
  · rename_i h; rw [bitsl_length]; obtain ⟨⟨h1, h2⟩, _⟩ := h; omega
  · simp; intro h; contradiction
def isBits (b : List Int) : Prop := ∀ x ∈ b, x = 0 ∨ x = 1
instance (b : List Int) : Decidable (isBits b) := by unfold isBits; infer_instance
theorem bitsl_bits (n : Int) (w : Nat) : isBits (bitsl n w) := by
  induction w with
  | zero => intro x hx; cases hx
  | succ w ih =>
    intro x hx
    simp only [bitsl, List.mem_cons] at hx
    rcases hx with rfl | hx
    · omega
    · exact ih x hx
theorem isBits_app {a b : List Int} : isBits (a ++ b) ↔ isBits a ∧ isBits b := by
  unfold isBits; simp only [List.mem_append]
  exact ⟨fun h => ⟨fun x hx => h x (.inl hx), fun x hx => h x (.inr hx)⟩, fun h x hx => hx.elim (h.1 x) (h.2 x)⟩
theorem isBits_get {b : List Int} (h : isBits b) (i : Nat) : b.getD i 0 = 0 ∨ b.getD i 0 = 1 := by
  rw [List.getD_eq_getElem?_getD]
  cases hh : b[i]? with
  | none => left; rfl
  | some v => exact h v (List.mem_of_getElem? hh)
theorem isBits_take {b : List Int} (h : isBits b) (n : Nat) : isBits (b.take n) := fun x hx => h x (List.mem_of_mem_take hx)
theorem isBits_drop {b : List Int} (h : isBits b) (n : Nat) : isBits (b.drop n) := fun x hx => h x (List.mem_of_mem_drop hx)
theorem isBits_upto {b : List Int} (h : ∀ j : Nat, j < b.length → b.getD j 0 = 0 ∨ b.getD j 0 = 1) : isBits b := fun x hx => by
  obtain ⟨j, hj, rfl⟩ := List.mem_iff_getElem.1 hx
  have := h j hj
  simpa [List.getD, hj] using this
def numl : List Int → Int
  | [] => 0
  | x :: r => x * 2 ^ r.length + numl r
theorem numl_app (a b : List Int) : numl (a ++ b) = numl a * 2 ^ b.length + numl b := by
  induction a with
  | nil => simp [numl]
  | cons x r ih =>
    simp only [List.cons_append, numl, ih, List.length_append]
    rw [Int.pow_add, Int.add_mul, Int.mul_assoc]; omega
theorem numl_snoc (a : List Int) (x : Int) : numl (a ++ [x]) = numl a * 2 + x := by rw [numl_app]; simp [numl]
theorem numl_range {b : List Int} (h : isBits b) : 0 ≤ numl b ∧ numl b < 2 ^ b.length := by
  induction b with
  | nil => simp [numl]
  | cons x r ih =>
    have h1 := ih fun y hy => h y (List.mem_cons_of_mem _ hy)
    have h2 := h x (by simp)
    have hp := two_pow_pos r.length
    simp only [numl, List.length_cons, two_pow_succ]
    rcases h2 with rfl | rfl <;> omega
theorem numl_get {b : List Int} (h : isBits b) (i : Nat) (hi : i < b.length) : numl b / 2 ^ (b.length - 1 - i) % 2 = b.getD i 0 := by
  induction b generalizing i with
  | nil => simp at hi
  | cons x r ih =>
    have hr : isBits r := fun y hy => h y (List.mem_cons_of_mem _ hy)
    have h1 := numl_range hr
    have h2 := h x (by simp)
    cases i with
    | zero =>
      simp only [numl, List.length_cons, Nat.add_sub_cancel, Nat.sub_zero, List.getD_cons_zero]
      have hp := two_pow_pos r.length
      rw [Int.add_comm, Int.add_mul_ediv_right _ _ (by omega), Int.ediv_eq_zero_of_lt h1.1 h1.2]
      rcases h2 with rfl | rfl <;> rfl
    | succ i =>
      simp only [List.length_cons] at hi
      have h3 := ih hr i (by omega)
      simp only [numl, List.length_cons, List.getD_cons_succ]
      rw [← h3]
      have e1 : r.length + 1 - 1 - (i + 1) = r.length - 1 - i := by omega
      rw [e1]
      obtain ⟨m, hm⟩ : ∃ m, r.length = (r.length - 1 - i) + (m + 1) := ⟨i, by omega⟩
      have e2 : x * 2 ^ r.length = (x * 2 ^ m * 2) * 2 ^ (r.length - 1 - i) := by
        conv => lhs; rw [hm, Int.pow_add, Int.pow_succ]
        rw [Int.mul_comm (2 ^ (r.length - 1 - i)), ← Int.mul_assoc, ← Int.mul_assoc]
      have hp := two_pow_pos (r.length - 1 - i)
      rw [e2, Int.add_comm, Int.add_mul_ediv_right _ _ (by omega)]
      generalize x * 2 ^ m = y
      omega
def bytesl (b : List Int) : List Int := (List.range (b.length / 8)).map fun j => numl ((b.drop (8 * j)).take 8)
def packs (b : List Int) : ByteArray := strOf (bytesl b)
theorem bytesl_length (b : List Int) : (bytesl b).length = b.length / 8 := by simp [bytesl]
theorem packs_size (b : List Int) : (packs b).size = b.length / 8 := by unfold packs; rw [strOf_size, bytesl_length]
theorem strOf_byte {xs : List Int} (h : ∀ x ∈ xs, 0 ≤ x ∧ x ≤ 255) (i : Nat) : (((strOf xs).data.toList.getD i 0).toNat : Int) = xs.getD i 0 := by
  simp only [strOf, List.getD_eq_getElem?_getD, List.getElem?_map]
  cases hh : xs[i]? with
  | none => simp
  | some v =>
    have := h v (List.mem_of_getElem? hh)
    simp only [Option.map_some, Option.getD_some]
    rw [UInt8.toNat_ofNat']
    omega
theorem bytesl_range {b : List Int} (h : isBits b) : ∀ x ∈ bytesl b, 0 ≤ x ∧ x ≤ 255 := by
  intro x hx
  obtain ⟨j, _, rfl⟩ := List.mem_map.1 hx
  have h1 := numl_range (isBits_take (isBits_drop h (8 * j)) 8)
  have h2 := two_pow_le (n := ((b.drop (8 * j)).take 8).length) (m := 8) (by rw [List.length_take]; omega)
  have e : (2 : Int) ^ 8 = 256 := rfl
  rw [e] at h2
  omega
theorem bitAt_packs {b : List Int} (h : isBits b) (i : Nat) (hi : i < 8 * (b.length / 8)) : bitAt (packs b) i = b.getD i 0 := by
  have hs : (packs b).size = b.length / 8 := packs_size b
  rw [bitAt_in (by rw [hs]; omega)]
  unfold packs
  have e1 : ((i : Int) / 8).toNat = i / 8 := by omega
  rw [e1, strOf_byte (bytesl_range h)]
  have hj : i / 8 < b.length / 8 := by omega
  have e2 : (bytesl b).getD (i / 8) 0 = numl ((b.drop (8 * (i / 8))).take 8) := by
    simp only [bytesl, List.getD_eq_getElem?_getD, List.getElem?_map, List.getElem?_range hj, Option.map_some, Option.getD_some]
  have hl : ((b.drop (8 * (i / 8))).take 8).length = 8 := by rw [List.length_take, List.length_drop]; omega
  rw [e2]
  have h3 := numl_get (isBits_take (isBits_drop h (8 * (i / 8))) 8) (i % 8) (by rw [hl]; omega)
  rw [hl] at h3
  have e3 : (7 - (i : Int) % 8).toNat = 8 - 1 - i % 8 := by omega
  rw [e3, h3]
  simp only [List.getD_eq_getElem?_getD, List.getElem?_take, List.getElem?_drop]
  rw [if_pos (by omega)]
  congr 2; omega
def byOk (b : List Int) : Prop := isBits b ∧ b.length % 8 = 0
instance (b : List Int) : Decidable (byOk b) := by unfold byOk; infer_instance
def bytesStr (b : List Int) : ByteArray := if byOk b then packs b else ⟨#[]⟩
def lz (n : Int) : Int := ((n + 1).toNat.log2 : Nat)
theorem lz_spec {n : Int} (h : 0 ≤ n) : 2 ^ (lz n).toNat ≤ n + 1 ∧ n + 1 < 2 ^ ((lz n).toNat + 1) := by
  have h1 := Nat.log2_self_le (n := (n + 1).toNat) (by omega)
  have h2 := Nat.lt_log2_self (n := (n + 1).toNat)
  unfold lz
  simp only [Int.toNat_natCast]
  have e1 : ((2 ^ (n + 1).toNat.log2 : Nat) : Int) = 2 ^ (n + 1).toNat.log2 := by simp
  have e2 : ((2 ^ ((n + 1).toNat.log2 + 1) : Nat) : Int) = 2 ^ ((n + 1).toNat.log2 + 1) := by simp
  rw [← e1, ← e2]
  omega
theorem lz_uniq {n : Int} {z : Nat} (h : 0 ≤ n) (h1 : 2 ^ z ≤ n + 1) (h2 : n + 1 < 2 ^ (z + 1)) : lz n = z := by
  obtain ⟨h3, h4⟩ := lz_spec h
  have h0 : 0 ≤ lz n := by unfold lz; omega
  rcases Nat.lt_trichotomy (lz n).toNat z with h5 | h5 | h5
  · have := two_pow_le (n := (lz n).toNat + 1) (m := z) (by omega); omega
  · omega
  · have := two_pow_le (n := z + 1) (m := (lz n).toNat) (by omega); omega
theorem lz_range {n : Int} (h : 0 ≤ n ∧ n ≤ 65534) : 0 ≤ lz n ∧ lz n ≤ 15 := by
  obtain ⟨h3, h4⟩ := lz_spec h.1
  have h0 : 0 ≤ lz n := by unfold lz; omega
  refine ⟨h0, ?_⟩
  rcases Int.lt_or_le 15 (lz n) with h5 | h5
  · have := two_pow_le (n := 16) (m := (lz n).toNat) (by omega)
    have e : (2 : Int) ^ 16 = 65536 := rfl
    omega
  · exact h5
def ueSize (n : Int) : Int := if 0 ≤ n ∧ n ≤ 65534 then 2 * lz n + 1 else 0
end Go.Pl

/- Plain numbers: the table of numbers' codes. -/
namespace Go.Pl
theorem bitsIn_no {n w : Int} (h : ¬ bitOk w n) : bitsIn n w = [] := by unfold bitsIn; rw [if_neg h]
theorem bitsIn_yes {n w : Int} {k : Nat} (h : bitOk w n) (hk : (k : Int) = w) : bitsIn n w = (bitsl n w.toNat).take k := by
  unfold bitsIn; rw [if_pos h, List.take_of_length_le (by rw [bitsl_length]; omega)]
theorem bitsl_take {n w : Int} {k : Nat} (h : (k : Int) < w) : (bitsl n w.toNat).take (k + 1) = (bitsl n w.toNat).take k ++ [n / 2 ^ (w - 1 - k).toNat % 2] := by
  have key : ∀ (m k : Nat), k < m → (bitsl n m).take (k + 1) = (bitsl n m).take k ++ [n / 2 ^ (m - 1 - k) % 2] := by
    intro m
    induction m with
    | zero => intro k hk; omega
    | succ m ih =>
      intro k hk
      cases k with
      | zero => simp [bitsl]
      | succ k =>
        simp only [bitsl, List.take_succ_cons, List.cons_append]
        rw [ih k (by omega), show m + 1 - 1 - (k + 1) = m - 1 - k by omega]
  rw [key w.toNat k (by omega)]
  congr 5; omega
def ueEnt (i : Nat) : Int × Int :=
  if ueE (packs (bitsl i 9 ++ List.replicate 7 0)) 0 = 0 ∧ ueAt (packs (bitsl i 9 ++ List.replicate 7 0)) 0 ≤ 9 then (ueAt (packs (bitsl i 9 ++ List.replicate 7 0)) 0, ueV (packs (bitsl i 9 ++ List.replicate 7 0)) 0) else (0, 0)
def ueTab : List (Int × Int) := (List.range 512).map ueEnt
end Go.Pl

/- Plain numbers: prefix codes. -/
namespace Go.Pl
def cIn (l : List Int) (n : Int) (st : List Int × Int) : Nat → List Int × Int
  | 0 => st
  | j + 1 => if l.getD j 0 = n then ((cIn l n st j).1.set j (cIn l n st j).2, (cIn l n st j).2 + 1) else cIn l n st j
def cOut (l : List Int) : Nat → List Int × Int
  | 0 => (List.replicate 6 (-1), 0)
  | n + 1 => cIn l ((n : Int) + 1) ((cOut l n).1, (cOut l n).2 * 2) 6
def codesOf (l : List Int) : List Int := if codeOk l then (cOut l 7).1 else []
theorem cIn_length (l : List Int) (n : Int) (st : List Int × Int) (j : Nat) : (cIn l n st j).1.length = st.1.length := by
  induction j with
  | zero => rfl
  | succ j ih => simp only [cIn]; split <;> simp [ih]
theorem cOut_length (l : List Int) (n : Nat) : (cOut l n).1.length = 6 := by
  induction n with
  | zero => rfl
  | succ n ih => simp only [cOut, cIn_length, ih]
theorem codes_length {l : List Int} (h : codeOk l) : (codesOf l).length = 6 := by unfold codesOf; rw [if_pos h, cOut_length]
theorem cIn_range (l : List Int) (n : Int) (st : List Int × Int) (j : Nat) : st.2 ≤ (cIn l n st j).2 ∧ (cIn l n st j).2 ≤ st.2 + j := by
  induction j with
  | zero => simp [cIn]
  | succ j ih =>
    simp only [cIn]; split
    · show st.2 ≤ _ + 1 ∧ _ + 1 ≤ _; omega
    · omega
theorem cOut_range (l : List Int) (n : Nat) : 0 ≤ (cOut l n).2 ∧ (cOut l n).2 + 6 ≤ 6 * 2 ^ n := by
  induction n with
  | zero => simp [cOut]
  | succ n ih =>
    have h := cIn_range l ((n : Int) + 1) ((cOut l n).1, (cOut l n).2 * 2) 6
    simp only [cOut, two_pow_succ] at *
    omega
def inP (l : List Int) (n : Int) (j m : Nat) : Prop := m < 6 ∧ 1 ≤ l.getD m 0 ∧ (l.getD m 0 < n ∨ (l.getD m 0 = n ∧ m < j))
def cHit (l out : List Int) (m : Nat) (v : Int) : Prop := v / 2 ^ (7 - l.getD m 0).toNat = out.getD m 0
instance (l out : List Int) (m : Nat) (v : Int) : Decidable (cHit l out m v) := by unfold cHit; infer_instance
theorem div_iff {v d q : Int} (hd : 0 < d) : v / d = q ↔ q * d ≤ v ∧ v < q * d + d := by
  have h1 := Int.le_ediv_iff_mul_le (a := q) (b := v) hd
  have h2 := Int.ediv_lt_iff_lt_mul (a := v) (b := q + 1) hd
  rw [Int.add_mul, Int.one_mul] at h2
  omega
structure CInv (l out : List Int) (next n S : Int) (j : Nat) : Prop where
  len : out.length = 6
  nx : next * 2 ^ (7 - n).toNat = S
  n0 : 0 ≤ next
  un : ∀ m, m < 6 → ¬ inP l n j m → out.getD m 0 = -1
  cov : ∀ v, 0 ≤ v → v < S → ∃ m, inP l n j m ∧ cHit l out m v
  abv : ∀ v, S ≤ v → ∀ m, inP l n j m → ¬ cHit l out m v
  unq : ∀ v m m', inP l n j m → inP l n j m' → cHit l out m v → cHit l out m' v → m = m'
  nneg : ∀ m, inP l n j m → 0 ≤ out.getD m 0 ∧ (out.getD m 0 + 1) * 2 ^ (7 - l.getD m 0).toNat ≤ S
def gone (n : Int) (j : Nat) : List Int → Nat → Int
  | [], _ => 0
  | x :: r, i => (if 1 ≤ x ∧ (x < n ∨ (x = n ∧ i < j)) then 2 ^ (7 - x).toNat else 0) + gone n j r (i + 1)
theorem gone_succ {n : Int} (hn : 1 ≤ n) (j : Nat) : ∀ (l : List Int) (i : Nat), gone n (j + 1) l i = gone n j l i + (if i ≤ j ∧ j - i < l.length ∧ l.getD (j - i) 0 = n then 2 ^ (7 - n).toNat else 0)
  | [], i => by simp [gone]
  | x :: r, i => by
    have ih := gone_succ hn j r (i + 1)
    simp only [gone, ih]
    by_cases h : i ≤ j
    · by_cases hij : i = j
      · subst hij
        simp only [Nat.sub_self, List.getD_cons_zero, List.length_cons]
        rw [if_neg (show ¬ (i + 1 ≤ i ∧ i - (i + 1) < r.length ∧ r.getD (i - (i + 1)) 0 = n) by omega)]
        by_cases hx : x = n
        · subst hx
          rw [if_pos ⟨hn, .inr ⟨rfl, by omega⟩⟩, if_neg (by omega), if_pos ⟨by omega, by omega, rfl⟩]; omega
        · rw [if_neg (show ¬ (i ≤ i ∧ 0 < r.length + 1 ∧ x = n) by omega)]
          by_cases h2 : 1 ≤ x ∧ x < n
          · rw [if_pos (by omega), if_pos (by omega)]; omega
          · rw [if_neg (by omega), if_neg (by omega)]; omega
      · have e : j - i = (j - (i + 1)) + 1 := by omega
        rw [e]
        simp only [List.getD_cons_succ, List.length_cons]
        have e1 : (1 ≤ x ∧ (x < n ∨ x = n ∧ i < j + 1)) ↔ (1 ≤ x ∧ (x < n ∨ x = n ∧ i < j)) := by omega
        have e2 : (i + 1 ≤ j ∧ j - (i + 1) < r.length ∧ r.getD (j - (i + 1)) 0 = n) ↔ (i ≤ j ∧ j - (i + 1) + 1 < r.length + 1 ∧ r.getD (j - (i + 1)) 0 = n) := by omega
        simp only [e1, e2]; omega
    · have e1 : (1 ≤ x ∧ (x < n ∨ x = n ∧ i < j + 1)) ↔ (1 ≤ x ∧ (x < n ∨ x = n ∧ i < j)) := by omega
      rw [if_neg (show ¬ (i + 1 ≤ j ∧ _) by omega), if_neg (show ¬ (i ≤ j ∧ _) by omega)]
      simp only [e1]; omega
theorem gone_next (n : Int) : ∀ (l : List Int) (i : Nat), (i + l.length ≤ 6) → gone (n + 1) 0 l i = gone n 6 l i
  | [], _, _ => rfl
  | x :: r, i, h => by
    simp only [List.length_cons] at h
    simp only [gone, gone_next n r (i + 1) (by omega)]
    have e1 : (1 ≤ x ∧ (x < n + 1 ∨ x = n + 1 ∧ i < 0)) ↔ (1 ≤ x ∧ (x < n ∨ x = n ∧ i < 6)) := by omega
    simp only [e1]
theorem gone_zero : ∀ (l : List Int) (i : Nat), gone 1 0 l i = 0
  | [], _ => rfl
  | x :: r, i => by
    simp only [gone, gone_zero r (i + 1)]
    rw [if_neg (by omega)]; rfl
theorem gone_all : ∀ (l : List Int) (i : Nat), (i + l.length ≤ 6) → (∀ x ∈ l, x ≤ 7) → gone 7 6 l i = kraft l
  | [], _, _, _ => rfl
  | x :: r, i, h, hx => by
    simp only [List.length_cons] at h
    have h1 := hx x (by simp)
    simp only [gone, kraft, gone_all r (i + 1) (by omega) fun y hy => hx y (by simp [hy])]
    have e1 : (1 ≤ x ∧ (x < 7 ∨ x = 7 ∧ i < 6)) ↔ 0 < x := by omega
    simp only [e1]
theorem getD_set_eq {xs : List Int} {i : Nat} {a : Int} (h : i < xs.length) : (xs.set i a).getD i 0 = a := by simp [List.getD, h]
theorem getD_set_ne {xs : List Int} {i j : Nat} {a : Int} (h : i ≠ j) : (xs.set i a).getD j 0 = xs.getD j 0 := by
  simp only [List.getD_eq_getElem?_getD, List.getElem?_set, if_neg h]
theorem CInv.give {l out : List Int} {next n S : Int} {j : Nat} (h : CInv l out next n S j) (hn : 1 ≤ n ∧ n ≤ 7) (hj : j < 6) (hl : l.getD j 0 = n) : CInv l (out.set j next) (next + 1) n (S + 2 ^ (7 - n).toNat) (j + 1) := by
  have hp := two_pow_pos (7 - n).toNat
  have hP : ∀ m, inP l n (j + 1) m ↔ inP l n j m ∨ m = j := by
    intro m; unfold inP
    constructor
    · rintro ⟨h1, h2, h3⟩
      by_cases hm : m = j
      · exact .inr hm
      · left; exact ⟨h1, h2, by omega⟩
    · rintro (⟨h1, h2, h3⟩ | rfl)
      · exact ⟨h1, h2, by omega⟩
      · exact ⟨hj, by omega, .inr ⟨hl, by omega⟩⟩
  have hnj : ∀ m, inP l n j m → m ≠ j := by rintro m ⟨h1, h2, h3⟩ rfl; omega
  have hold : ∀ m v, m ≠ j → (cHit l (out.set j next) m v ↔ cHit l out m v) := by
    intro m v hm; unfold cHit; rw [getD_set_ne (Ne.symm hm)]
  have hnew : ∀ v, cHit l (out.set j next) j v ↔ S ≤ v ∧ v < S + 2 ^ (7 - n).toNat := by
    intro v; unfold cHit; rw [getD_set_eq (by rw [h.len]; exact hj), hl, div_iff hp, h.nx]
  refine ⟨by simp [h.len], by rw [Int.add_mul, h.nx]; omega, by have := h.n0; omega, ?_, ?_, ?_, ?_, ?_⟩
  · intro m hm hn'
    rw [hP] at hn'
    rw [getD_set_ne (fun e => hn' (.inr e.symm))]
    exact h.un m hm fun h' => hn' (.inl h')
  · intro v h0 h1
    rcases Int.lt_or_le v S with h2 | h2
    · obtain ⟨m, hm, hh⟩ := h.cov v h0 h2
      exact ⟨m, (hP m).2 (.inl hm), (hold m v (hnj m hm)).2 hh⟩
    · exact ⟨j, (hP j).2 (.inr rfl), (hnew v).2 ⟨h2, h1⟩⟩
  · intro v hv m hm
    rcases (hP m).1 hm with h1 | rfl
    · rw [hold m v (hnj m h1)]; exact h.abv v (by omega) m h1
    · rw [hnew]; omega
  · intro v m m' hm hm' h1 h2
    rcases (hP m).1 hm with a | rfl <;> rcases (hP m').1 hm' with b | rfl
    · exact h.unq v m m' a b ((hold m v (hnj m a)).1 h1) ((hold m' v (hnj m' b)).1 h2)
    · exact absurd ((hold m v (hnj m a)).1 h1) (h.abv v ((hnew v).1 h2).1 m a)
    · exact absurd ((hold m' v (hnj m' b)).1 h2) (h.abv v ((hnew v).1 h1).1 m' b)
    · rfl
  · intro m hm
    rcases (hP m).1 hm with h1 | rfl
    · rw [getD_set_ne (Ne.symm (hnj m h1))]
      have := h.nneg m h1; omega
    · rw [getD_set_eq (by rw [h.len]; exact hj), hl, Int.add_mul, h.nx]
      exact ⟨h.n0, by omega⟩
theorem CInv.pass {l out : List Int} {next n S : Int} {j : Nat} (h : CInv l out next n S j) (hl : l.getD j 0 ≠ n) : CInv l out next n S (j + 1) := by
  have hP : ∀ m, inP l n (j + 1) m ↔ inP l n j m := by
    intro m; unfold inP
    by_cases hm : m = j
    · subst hm; omega
    · omega
  exact ⟨h.len, h.nx, h.n0, fun m hm hn => h.un m hm fun h' => hn ((hP m).2 h'), fun v h0 h1 => by obtain ⟨m, a, b⟩ := h.cov v h0 h1; exact ⟨m, (hP m).2 a, b⟩,
    fun v hv m hm => h.abv v hv m ((hP m).1 hm), fun v m m' a b => h.unq v m m' ((hP m).1 a) ((hP m').1 b), fun m hm => h.nneg m ((hP m).1 hm)⟩
theorem CInv.next {l out : List Int} {next n S : Int} (h : CInv l out next n S 6) (hn : 0 ≤ n ∧ n ≤ 6) : CInv l out (next * 2) (n + 1) S 0 := by
  have hP : ∀ m, inP l (n + 1) 0 m ↔ inP l n 6 m := by intro m; unfold inP; omega
  refine ⟨h.len, ?_, by have := h.n0; omega, fun m hm hn => h.un m hm fun h' => hn ((hP m).2 h'), fun v h0 h1 => by obtain ⟨m, a, b⟩ := h.cov v h0 h1; exact ⟨m, (hP m).2 a, b⟩,
    fun v hv m hm => h.abv v hv m ((hP m).1 hm), fun v m m' a b => h.unq v m m' ((hP m).1 a) ((hP m').1 b), fun m hm => h.nneg m ((hP m).1 hm)⟩
  have e : (7 - n).toNat = (7 - (n + 1)).toNat + 1 := by omega
  rw [← h.nx, e, two_pow_succ, Int.mul_assoc]
theorem cIn_inv {l out : List Int} {next n S : Int} (hl : l.length = 6) (hn : 1 ≤ n ∧ n ≤ 7) (h : CInv l out next n S 0) (hS : S = gone n 0 l 0) : ∀ j, j ≤ 6 → CInv l (cIn l n (out, next) j).1 (cIn l n (out, next) j).2 n (gone n j l 0) j
  | 0, _ => by rw [← hS]; exact h
  | j + 1, hj => by
    have ih := cIn_inv hl hn h hS j (by omega)
    have hg := gone_succ hn.1 j l 0
    simp only [Nat.zero_le, Nat.sub_zero, true_and, hl] at hg
    simp only [cIn]
    by_cases hx : l.getD j 0 = n
    · rw [if_pos hx]
      rw [if_pos ⟨by omega, hx⟩] at hg
      rw [hg]
      exact ih.give hn (by omega) hx
    · rw [if_neg hx]
      rw [if_neg (fun h => hx h.2)] at hg
      rw [hg, Int.add_zero]
      exact ih.pass hx
theorem cOut_inv {l : List Int} (hl : l.length = 6) : ∀ n : Nat, n ≤ 7 → CInv l (cOut l n).1 (cOut l n).2 n (gone n 6 l 0) 6
  | 0, _ => by
    have hP : ∀ m, ¬ inP l (0 : Nat) 6 m := by intro m; unfold inP; omega
    have e : gone ((0 : Nat) : Int) 6 l 0 = 0 := by rw [← gone_next _ l 0 (by omega)]; exact gone_zero l 0
    rw [e]
    refine ⟨rfl, by simp [cOut], by simp [cOut], fun m hm _ => ?_, fun v h0 h1 => by omega, fun v _ m hm => absurd hm (hP m), fun v m _ hm => absurd hm (hP m), fun m hm => absurd hm (hP m)⟩
    show (List.replicate 6 (-1 : Int)).getD m 0 = -1
    rw [List.getD_eq_getElem?_getD, List.getElem?_replicate, if_pos hm]; rfl
  | n + 1, hn => by
    have ih := (cOut_inv hl n (by omega)).next (by omega)
    rw [← gone_next _ l 0 (by omega)] at ih
    exact cIn_inv hl (by omega) ih rfl 6 (by omega)
theorem codes_all {l : List Int} (h : codeOk l) : CInv l (codesOf l) (cOut l 7).2 7 128 6 := by
  have h1 := cOut_inv h.2.1 7 (by omega)
  have e : gone 7 6 l 0 = 128 := by
    rw [gone_all l 0 (by have := h.2.1; omega) fun x hx => ?_, h.2.2]
    obtain ⟨j, hj, rfl⟩ := List.mem_iff_getElem.1 hx
    have := h.1 j hj
    simp only [List.getD_eq_getElem?_getD, List.getElem?_eq_getElem hj, Option.getD_some] at this
    exact this.2
  have e2 : codesOf l = (cOut l 7).1 := by unfold codesOf; rw [if_pos h]
  rw [e2, ← e]; exact h1
theorem codeOk_at {l : List Int} (h : codeOk l) (m : Nat) : 0 ≤ l.getD m 0 ∧ l.getD m 0 ≤ 7 := by
  rcases Nat.lt_or_ge m l.length with h1 | h1
  · exact h.1 m h1
  · rw [List.getD_eq_getElem?_getD, List.getElem?_eq_none h1]; simp
theorem inP_all {l : List Int} (h : codeOk l) (m : Nat) : inP l 7 6 m ↔ m < 6 ∧ 1 ≤ l.getD m 0 := by
  have := codeOk_at h m
  unfold inP; omega
theorem code_cov {l : List Int} (h : codeOk l) {v : Int} (h0 : 0 ≤ v) (h1 : v < 128) : ∃ m, (m < 6 ∧ 1 ≤ l.getD m 0) ∧ cHit l (codesOf l) m v := by
  obtain ⟨m, a, b⟩ := (codes_all h).cov v h0 h1
  exact ⟨m, (inP_all h m).1 a, b⟩
theorem code_unq {l : List Int} (h : codeOk l) {v : Int} {m m' : Nat} (a : m < 6 ∧ 1 ≤ l.getD m 0) (b : m' < 6 ∧ 1 ≤ l.getD m' 0) (h1 : cHit l (codesOf l) m v) (h2 : cHit l (codesOf l) m' v) : m = m' :=
  (codes_all h).unq v m m' ((inP_all h m).2 a) ((inP_all h m').2 b) h1 h2
theorem code_range {l : List Int} (h : codeOk l) {m : Nat} (a : m < 6 ∧ 1 ≤ l.getD m 0) : 0 ≤ (codesOf l).getD m 0 ∧ ((codesOf l).getD m 0 + 1) * 2 ^ (7 - l.getD m 0).toNat ≤ 128 :=
  (codes_all h).nneg m ((inP_all h m).2 a)
def symOf (l : List Int) (v : Int) : Nat := ((List.range 6).find? fun m => decide (1 ≤ l.getD m 0 ∧ cHit l (codesOf l) m v)).getD 0
theorem symOf_hit {l : List Int} (h : codeOk l) {v : Int} (h0 : 0 ≤ v) (h1 : v < 128) : (symOf l v < 6 ∧ 1 ≤ l.getD (symOf l v) 0) ∧ cHit l (codesOf l) (symOf l v) v := by
  obtain ⟨m, a, b⟩ := code_cov h h0 h1
  unfold symOf
  cases hf : (List.range 6).find? fun m => decide (1 ≤ l.getD m 0 ∧ cHit l (codesOf l) m v) with
  | none =>
    have := List.find?_eq_none.1 hf m (List.mem_range.2 a.1)
    simp only [decide_eq_true_eq] at this
    exact absurd ⟨a.2, b⟩ this
  | some x =>
    have h2 := List.find?_some hf
    have h3 := List.mem_range.1 (List.mem_of_find?_eq_some hf)
    simp only [decide_eq_true_eq] at h2
    exact ⟨⟨h3, h2.1⟩, h2.2⟩
theorem symOf_eq {l : List Int} (h : codeOk l) {v : Int} (h0 : 0 ≤ v) (h1 : v < 128) {m : Nat} (a : m < 6 ∧ 1 ≤ l.getD m 0) (b : cHit l (codesOf l) m v) : symOf l v = m := by
  obtain ⟨c, d⟩ := symOf_hit h h0 h1
  exact code_unq h c a d b
def symAt (s : ByteArray) (a : Int) (l : List Int) : Nat := symOf l (bitsOf s a 7)
def rsOk (s : ByteArray) (a : Int) (l : List Int) : Prop := codeOk l ∧ rbOk s a (l.getD (symAt s a l) 0)
instance (s : ByteArray) (a : Int) (l : List Int) : Decidable (rsOk s a l) := by unfold rsOk; infer_instance
def rsAt (s : ByteArray) (a : Int) (l : List Int) : Int := if rsOk s a l then a + l.getD (symAt s a l) 0 else a
def rsV (s : ByteArray) (a : Int) (l : List Int) : Int := if rsOk s a l then (symAt s a l : Int) else 0
def rsE (s : ByteArray) (a : Int) (l : List Int) : Int := if codeOk l then if rsOk s a l then 0 else 1 else 4
theorem bits7 (s : ByteArray) (a : Int) : 0 ≤ bitsOf s a 7 ∧ bitsOf s a 7 < 128 := bitsOf_range s a 7
theorem rs_hit {s : ByteArray} {a : Int} {l : List Int} (h : codeOk l) {m : Nat} (hm : m < 6 ∧ 1 ≤ l.getD m 0) : cHit l (codesOf l) m (bitsOf s a 7) ↔ bitsOf s a (l.getD m 0).toNat = (codesOf l).getD m 0 := by
  have h1 := codeOk_at h m
  have e : 7 = (l.getD m 0).toNat + (7 - l.getD m 0).toNat := by omega
  unfold cHit
  conv => lhs; rw [e, bitsOf_div]
theorem rs_at {s : ByteArray} {a : Int} {l : List Int} (h : codeOk l) {m : Nat} (hm : m < 6 ∧ 1 ≤ l.getD m 0) (hb : bitsOf s a (l.getD m 0).toNat = (codesOf l).getD m 0) : symAt s a l = m :=
  symOf_eq h (bits7 s a).1 (bits7 s a).2 hm ((rs_hit h hm).2 hb)
theorem rs_sym {s : ByteArray} {a : Int} {l : List Int} (h : codeOk l) : (symAt s a l < 6 ∧ 1 ≤ l.getD (symAt s a l) 0) ∧ bitsOf s a (l.getD (symAt s a l) 0).toNat = (codesOf l).getD (symAt s a l) 0 := by
  have h1 := symOf_hit h (bits7 s a).1 (bits7 s a).2
  exact ⟨h1.1, (rs_hit h h1.1).1 h1.2⟩
def sideOf (n : Int) : Int := if n = 16 then 4 else if n = 64 then 8 else 0
def levelsOk (xs : List Int) : Prop := (∀ j : Nat, j < xs.length → -16383 ≤ xs.getD j 0 ∧ xs.getD j 0 ≤ 16383) ∧ 0 < sideOf xs.length
instance (xs : List Int) : Decidable (levelsOk xs) := by unfold levelsOk; infer_instance
def symOk (l : List Int) (m : Int) : Prop := codeOk l ∧ (0 ≤ m ∧ m ≤ 5) ∧ l.getD m.toNat 0 ≠ 0
instance (l : List Int) (m : Int) : Decidable (symOk l m) := by unfold symOk; infer_instance
def symBits (l : List Int) (m : Int) : List Int := if symOk l m then bitsIn ((codesOf l).getD m.toNat 0) (l.getD m.toNat 0) else []
theorem symBits_no {l : List Int} {m : Int} (h : ¬ symOk l m) : symBits l m = [] := by unfold symBits; rw [if_neg h]
theorem symBits_yes {l : List Int} {m : Int} (h : symOk l m) : symBits l m = bitsIn ((codesOf l).getD m.toNat 0) (l.getD m.toNat 0) := by unfold symBits; rw [if_pos h]
theorem code_range2 {l : List Int} (h : codeOk l) {m : Nat} (a : m < 6 ∧ 1 ≤ l.getD m 0) : 0 ≤ (codesOf l).getD m 0 ∧ (codesOf l).getD m 0 < 2 ^ (l.getD m 0).toNat := by
  have h1 := code_range h a
  have h2 := codeOk_at h m
  have hp := two_pow_pos (7 - l.getD m 0).toNat
  have e : (2 : Int) ^ (l.getD m 0).toNat * 2 ^ (7 - l.getD m 0).toNat = 128 := by rw [← Int.pow_add, show (l.getD m 0).toNat + (7 - l.getD m 0).toNat = 7 by omega]; rfl
  refine ⟨h1.1, ?_⟩
  rcases Int.lt_or_le ((codesOf l).getD m 0) (2 ^ (l.getD m 0).toNat) with h3 | h3
  · exact h3
  · have h4 := Int.mul_le_mul_of_nonneg_right (c := 2 ^ (7 - l.getD m 0).toNat) (show 2 ^ (l.getD m 0).toNat + 1 ≤ (codesOf l).getD m 0 + 1 by omega) (by omega)
    rw [Int.add_mul, e] at h4
    omega
theorem symBits_len {l : List Int} {m : Int} (h : symOk l m) : ((symBits l m).length : Int) = l.getD m.toNat 0 := by
  have h1 := codeOk_at h.1 m.toNat
  have h2 := code_range2 h.1 (m := m.toNat) ⟨by have := h.2.1; omega, by have := h.2.2; omega⟩
  rw [symBits_yes h]
  exact (bitsIn_len _ _).2 ⟨by omega, h2.1, Int.ediv_eq_zero_of_lt h2.1 h2.2⟩
theorem symBits_pos (l : List Int) (m : Int) : (0 < (symBits l m).length → symOk l m) ∧ (symOk l m → 0 < (symBits l m).length) := by
  constructor
  · intro h
    refine Classical.byContradiction fun h1 => ?_
    rw [symBits_no h1] at h; simp at h
  · intro h
    have h1 := symBits_len h
    have h2 := codeOk_at h.1 m.toNat
    have h3 := h.2.2
    omega
def blockOk (m : Int) (ys xs : List Int) (n : Int) : Prop := (n = 4 ∨ n = 8) ∧ symOk xs m ∧ (ys.length : Int) = n * n ∧ levelsOk ys
instance (m : Int) (ys xs : List Int) (n : Int) : Decidable (blockOk m ys xs n) := by unfold blockOk; infer_instance
end Go.Pl

/- Plain numbers: what is written is read. -/
namespace Go.Pl
open Go.Sx
theorem mod_two {q r P : Int} (h0 : 0 ≤ r) (h1 : r < P) : (q * P + r) % (2 * P) = q % 2 * P + r := by
  have hb : 0 ≤ q % 2 * P ∧ q % 2 * P ≤ P := by
    rcases (show q % 2 = 0 ∨ q % 2 = 1 by omega) with hh | hh <;> rw [hh] <;> omega
  have e : q * P + r = (q % 2 * P + r) + q / 2 * (2 * P) := by
    have h2 : q = q / 2 * 2 + q % 2 := by omega
    conv => lhs; rw [h2]
    rw [Int.add_mul, Int.mul_assoc]; omega
  rw [e, Int.add_mul_emod_self_right, Int.emod_eq_of_lt (by omega) (by omega)]
theorem numl_bitsl {n : Int} (w : Nat) : numl (bitsl n w) = n % 2 ^ w := by
  induction w with
  | zero => simp [bitsl, numl, Int.emod_one]
  | succ w ih =>
    simp only [bitsl, numl, ih, bitsl_length, two_pow_succ]
    have hp := two_pow_pos w
    rw [← mod_two (Int.emod_nonneg n (by omega)) (Int.emod_lt_of_pos n hp)]
    congr 1
    rw [Int.mul_comm]; exact Int.mul_ediv_add_emod n (2 ^ w)
theorem bitsOf_packs {B : List Int} (h : isBits B) (a : Nat) : ∀ n : Nat, a + n ≤ 8 * (B.length / 8) → bitsOf (packs B) a n = numl ((B.drop a).take n)
  | 0, _ => by simp [bitsOf, numl]
  | n + 1, hn => by
    have ih := bitsOf_packs h a n (by omega)
    simp only [bitsOf]
    rw [ih, show ((a : Int) + (n : Int)) = ((a + n : Nat) : Int) by omega, bitAt_packs h (a + n) (by omega)]
    have hx : 0 ≤ B.getD (a + n) 0 := by have := isBits_get h (a + n); omega
    rw [Int.max_eq_left hx, List.take_add_one]
    have e : (B.drop a)[n]? = some (B.getD (a + n) 0) := by
      rw [List.getElem?_drop, List.getD_eq_getElem?_getD, List.getElem?_eq_getElem (by omega)]; rfl
    rw [e, Option.toList_some, numl_snoc]
theorem zc_eq {s : ByteArray} : ∀ (z f : Nat) (a : Int), (∀ i : Nat, i < z → bitAt s (a + i) = 0) → bitAt s (a + z) ≠ 0 → z < f → zc s a f = z
  | 0, f, a, _, h1, _ => by
    rw [zc_stop (Or.inl (by simpa using h1))]
  | z + 1, f, a, h0, h1, hz => by
    have h2 := h0 0 (by omega)
    rw [zc_step (by simpa using h2) (by omega), zc_eq z (f - 1) (a + 1) (fun i hi => by have := h0 (i + 1) (by omega); rw [← this]; congr 1; omega) (by rw [show a + 1 + (z : Int) = a + ((z + 1 : Nat) : Int) by omega]; exact h1) (by omega)]
def ueBits (n : Int) : List Int := if 0 ≤ n ∧ n ≤ 65534 then bitsIn (n + 1) (ueSize n) else []
theorem ueBits_eq {n : Int} (h : 0 ≤ n ∧ n ≤ 65534) : ueBits n = bitsl (n + 1) (2 * (lz n).toNat + 1) := by
  have h1 := lz_range h
  obtain ⟨h2, h3⟩ := lz_spec h.1
  have e : ueSize n = 2 * lz n + 1 := by unfold ueSize; rw [if_pos h]
  have h4 := two_pow_le (n := (lz n).toNat + 1) (m := (2 * lz n + 1).toNat) (by omega)
  unfold ueBits bitsIn
  rw [if_pos h, e, if_pos ⟨by omega, by omega, Int.ediv_eq_zero_of_lt (by omega) (by omega)⟩, show (2 * lz n + 1).toNat = 2 * (lz n).toNat + 1 by omega]
theorem ueBits_len {n : Int} (h : 0 ≤ n ∧ n ≤ 65534) : ((ueBits n).length : Int) = ueSize n := by
  have h1 := lz_range h
  rw [ueBits_eq h, bitsl_length]; unfold ueSize; rw [if_pos h]; omega
theorem ueBits_no {n : Int} (h : ¬ (0 ≤ n ∧ n ≤ 65534)) : ueBits n = [] := by unfold ueBits; rw [if_neg h]
theorem bitsl_get {n : Int} : ∀ {w i : Nat}, i < w → (bitsl n w).getD i 0 = n / 2 ^ (w - 1 - i) % 2
  | 0, _, h => by omega
  | w + 1, 0, _ => by simp [bitsl]
  | w + 1, i + 1, h => by
    simp only [bitsl, List.getD_cons_succ]
    rw [bitsl_get (by omega), show w + 1 - 1 - (i + 1) = w - 1 - i by omega]
theorem ue_read {B R : List Int} {a : Nat} {n : Int} (h : isBits B) (h8 : B.length % 8 = 0) (hn : 0 ≤ n ∧ n ≤ 65534) (hB : B.drop a = ueBits n ++ R) (ha : a ≤ B.length) :
    ueOk (packs B) a ∧ zerosOf (packs B) a = lz n ∧ ueAt (packs B) a = a + ueSize n ∧ ueV (packs B) a = n ∧ ueE (packs B) a = 0 := by
  have hz := lz_range hn
  obtain ⟨h2, h3⟩ := lz_spec hn.1
  have hl := ueBits_len hn
  have hse : ueSize n = 2 * lz n + 1 := by unfold ueSize; rw [if_pos hn]
  have hlen : (B.drop a).length = (ueBits n).length + R.length := by rw [hB, List.length_append]
  rw [List.length_drop] at hlen
  have hsz : (packs B).size = B.length / 8 := packs_size B
  have hget : ∀ i : Nat, i < (ueBits n).length → bitAt (packs B) ((a : Int) + i) = (n + 1) / 2 ^ (2 * (lz n).toNat - i) % 2 := by
    intro i hi
    rw [show (a : Int) + (i : Int) = ((a + i : Nat) : Int) by omega, bitAt_packs h (a + i) (by omega)]
    have e1 : B.getD (a + i) 0 = (B.drop a).getD i 0 := by simp only [List.getD_eq_getElem?_getD, List.getElem?_drop]
    rw [e1, hB]
    have e2 : (ueBits n ++ R).getD i 0 = (ueBits n).getD i 0 := by simp only [List.getD_eq_getElem?_getD]; rw [List.getElem?_append_left hi]
    rw [e2, ueBits_eq hn, bitsl_get (by rw [ueBits_eq hn, bitsl_length] at hi; exact hi)]
    rw [show 2 * (lz n).toNat + 1 - 1 - i = 2 * (lz n).toNat - i by omega]
  have hrem : remOf (packs B) a = B.length - a := by rw [remOf_in (by rw [hsz]; omega), hsz]; omega
  have hzz : zerosOf (packs B) a = lz n := by
    unfold zerosOf
    rw [hrem, zc_eq (lz n).toNat _ _ (fun i hi => ?_) ?_ (by omega)]
    · omega
    · rw [hget (lz n).toNat (by omega), show 2 * (lz n).toNat - (lz n).toNat = (lz n).toNat by omega]
      have h5 : (n + 1) / 2 ^ (lz n).toNat = 1 := by
        rw [div_iff (two_pow_pos _)]
        rw [two_pow_succ] at h3; omega
      rw [h5]; decide
    · rw [hget i (by omega)]
      have h4 := two_pow_le (n := (lz n).toNat + 1) (m := 2 * (lz n).toNat - i) (by omega)
      rw [Int.ediv_eq_zero_of_lt (by omega) (by omega)]; rfl
  have hrb : rbOk (packs B) a (2 * zerosOf (packs B) a + 1) := ⟨by rw [hsz]; omega, by omega, by rw [hrem]; omega⟩
  have hok : ueOk (packs B) a := ⟨by omega, hrb⟩
  refine ⟨hok, hzz, ?_, ?_, ?_⟩
  · unfold ueAt; rw [if_pos hok]; omega
  · unfold ueV; rw [if_pos hok, hzz]
    rw [bitsOf_packs h a _ (by omega), hB, show (2 * lz n + 1).toNat = (ueBits n).length by omega, List.take_left, ueBits_eq hn, numl_bitsl, Int.emod_eq_of_lt (by omega) ?_]
    · omega
    · have h4 := two_pow_le (n := (lz n).toNat + 1) (m := 2 * (lz n).toNat + 1) (by omega); omega
  · unfold ueE; rw [if_neg (by omega), if_pos hrb]
def pad8 (b : List Int) : List Int := b ++ List.replicate ((8 - b.length % 8) % 8) 0
theorem pad8_len (b : List Int) : (pad8 b).length % 8 = 0 ∧ b.length ≤ (pad8 b).length ∧ (pad8 b).length ≤ b.length + 7 := by
  unfold pad8; rw [List.length_append, List.length_replicate]; omega
theorem pad8_bits {b : List Int} : isBits (pad8 b) ↔ isBits b := by
  unfold pad8; rw [isBits_app]
  exact ⟨fun h => h.1, fun h => ⟨h, fun x hx => .inl (List.eq_of_mem_replicate hx)⟩⟩
def stopped (b : List Int) : ByteArray := bytesStr (pad8 (b ++ [1]))
theorem stopped_yes {b : List Int} (h : isBits b) : stopped b = packs (pad8 (b ++ [1])) := by
  unfold stopped bytesStr
  rw [if_pos ⟨pad8_bits.2 (isBits_app.2 ⟨h, fun x hx => by simp at hx; omega⟩), (pad8_len _).1⟩]
theorem stopped_no {b : List Int} (h : ¬ isBits b) : stopped b = ⟨#[]⟩ := by
  unfold stopped bytesStr
  rw [if_neg fun h1 => h (isBits_app.1 (pad8_bits.1 h1.1)).1]
theorem stopped_size (b : List Int) : (stopped b).size ≤ (b.length + 8) / 8 := by
  unfold stopped bytesStr
  split
  · rw [packs_size]
    have := (pad8_len (b ++ [1])).2.2
    rw [List.length_append] at this
    simp only [List.length_cons, List.length_nil] at this
    omega
  · show 0 ≤ _; omega
def levelOf (n : Int) : Int := if n < 0 then 0 else if n % 2 = 0 then n / 2 + 1 else -(n / 2 + 1)
def numOf (v : Int) : Int := if 0 < v then 2 * v - 2 else if v < 0 then -2 * v - 1 else -1
theorem ueSize_range (n : Int) : 0 ≤ ueSize n ∧ ueSize n ≤ 31 := by
  unfold ueSize; split
  · rename_i h; have := lz_range h; omega
  · omega
theorem pad8_app (a b : List Int) : ∃ R, pad8 (a ++ b) = a ++ R := ⟨b ++ List.replicate ((8 - (a ++ b).length % 8) % 8) 0, by unfold pad8; rw [List.append_assoc]⟩
end Go.Pl

/- Plain numbers: tables of symbols. -/
namespace Go.Pl
open Go.Sx
theorem sym_read {B R l : List Int} {a : Nat} {m : Int} (h : isBits B) (h8 : B.length % 8 = 0) (hm : symOk l m) (hB : B.drop a = symBits l m ++ R) (ha : a ≤ B.length) :
    rsOk (packs B) a l ∧ rsAt (packs B) a l = a + l.getD m.toNat 0 ∧ rsV (packs B) a l = m ∧ rsE (packs B) a l = 0 := by
  have hl := symBits_len hm
  have hc := codeOk_at hm.1 m.toNat
  have h1 : m.toNat < 6 ∧ 1 ≤ l.getD m.toNat 0 := ⟨by have := hm.2.1; omega, by have := hm.2.2; omega⟩
  have hr := code_range2 hm.1 h1
  have hlen : (B.drop a).length = (symBits l m).length + R.length := by rw [hB, List.length_append]
  rw [List.length_drop] at hlen
  have hsz : (packs B).size = B.length / 8 := packs_size B
  have hb : bitsOf (packs B) a (l.getD m.toNat 0).toNat = (codesOf l).getD m.toNat 0 := by
    rw [bitsOf_packs h a _ (by omega), hB, show (l.getD m.toNat 0).toNat = (symBits l m).length by omega, List.take_left, symBits_yes hm]
    unfold bitsIn
    rw [if_pos ⟨by omega, hr.1, Int.ediv_eq_zero_of_lt hr.1 hr.2⟩, numl_bitsl, Int.emod_eq_of_lt hr.1 hr.2]
  have hs : symAt (packs B) a l = m.toNat := rs_at hm.1 h1 hb
  have hok : rsOk (packs B) a l := ⟨hm.1, by rw [hs]; exact ⟨by rw [hsz]; omega, by omega, by rw [remOf_in (by rw [hsz]; omega), hsz]; omega⟩⟩
  refine ⟨hok, ?_, ?_, ?_⟩
  · unfold rsAt; rw [if_pos hok, hs]
  · unfold rsV; rw [if_pos hok, hs]; have := hm.2.1; omega
  · unfold rsE; rw [if_pos hm.1, if_pos hok]
end Go.Pl

/- Plain numbers: symbols out of caches; edges drawn together. -/
namespace Go.Pl
def alphaOf (q : Int) : Int := if 0 ≤ q ∧ q ≤ 51 then q + 4 else 0
def betaOf (q : Int) : Int := if 0 ≤ q ∧ q ≤ 51 then q / 3 + 2 else 0
def pixOk (xs : List Int) : Prop := ∀ j : Nat, j < xs.length → 0 ≤ xs.getD j 0 ∧ xs.getD j 0 ≤ 255
def edgeC (a b c d q : Int) : Prop := ((0 ≤ a ∧ a ≤ 255) ∧ (0 ≤ b ∧ b ≤ 255) ∧ (0 ≤ c ∧ c ≤ 255) ∧ (0 ≤ d ∧ d ≤ 255)) ∧ (b - c < alphaOf q ∧ c - b < alphaOf q) ∧ (a - b < betaOf q ∧ b - a < betaOf q) ∧ (d - c < betaOf q ∧ c - d < betaOf q)
instance (a b c d q : Int) : Decidable (edgeC a b c d q) := by unfold edgeC; infer_instance
def clip (x : Int) : Int := max 0 (min x 255)
def edgeD (a b c d q : Int) : Int := max (-(q / 4 + 1)) (min ((4 * (c - b) + (a - d) + 4) / 8) (q / 4 + 1))
def edgeL (a b c d q : Int) : Int := if edgeC a b c d q then clip (b + edgeD a b c d q) else b
def edgeR (a b c d q : Int) : Int := if edgeC a b c d q then clip (c - edgeD a b c d q) else c
def eg (q : Int) (xs : List Int) (e : Int × Int) : List Int :=
  (xs.set (e.1 - e.2).toNat (edgeL (xs.getD (e.1 - 2 * e.2).toNat 0) (xs.getD (e.1 - e.2).toNat 0) (xs.getD e.1.toNat 0) (xs.getD (e.1 + e.2).toNat 0) q)).set e.1.toNat
    (edgeR (xs.getD (e.1 - 2 * e.2).toNat 0) (xs.getD (e.1 - e.2).toNat 0) (xs.getD e.1.toNat 0) (xs.getD (e.1 + e.2).toNat 0) q)
def egs (q : Int) (xs : List Int) (l : List (Int × Int)) : List Int := l.foldl (eg q) xs
theorem eg_length (q : Int) (xs : List Int) (e : Int × Int) : (eg q xs e).length = xs.length := by simp [eg]
theorem egs_length (q : Int) (l : List (Int × Int)) : ∀ xs : List Int, (egs q xs l).length = xs.length := by
  induction l with
  | nil => intro xs; rfl
  | cons e l ih => intro xs; show (egs q (eg q xs e) l).length = _; rw [ih, eg_length]
theorem egs_snoc (q : Int) (xs : List Int) (l : List (Int × Int)) (e : Int × Int) : egs q xs (l ++ [e]) = eg q (egs q xs l) e := by simp [egs]
theorem egs_app (q : Int) (xs : List Int) (l m : List (Int × Int)) : egs q xs (l ++ m) = egs q (egs q xs l) m := by simp [egs]
theorem pix_get {xs : List Int} (h : pixOk xs) (j : Nat) : 0 ≤ xs.getD j 0 ∧ xs.getD j 0 ≤ 255 := by
  rcases Nat.lt_or_ge j xs.length with h1 | h1
  · exact h j h1
  · rw [List.getD_eq_getElem?_getD, List.getElem?_eq_none h1]; simp
def vRow (W y : Int) (k : Nat) : List (Int × Int) := (List.range k).map fun i : Nat => (y * W + (8 + 8 * (i : Int)), 1)
def vRows (W a : Int) (n : Nat) : List (Int × Int) := (List.range n).flatMap fun j : Nat => vRow W (a + (j : Int)) (W / 8 - 1).toNat
def hRow (W y : Int) (k : Nat) : List (Int × Int) := (List.range k).map fun i : Nat => (y * W + (i : Int), W)
theorem vRow_zero (W y : Int) : vRow W y 0 = [] := rfl
theorem vRow_succ (W y : Int) (k : Nat) : vRow W y (k + 1) = vRow W y k ++ [(y * W + (8 + 8 * (k : Int)), 1)] := by simp [vRow, List.range_succ]
theorem vRows_succ (W a : Int) (n : Nat) : vRows W a (n + 1) = vRows W a n ++ vRow W (a + (n : Int)) (W / 8 - 1).toNat := by simp [vRows, List.range_succ]
theorem hRow_succ (W y : Int) (k : Nat) : hRow W y (k + 1) = hRow W y k ++ [(y * W + (k : Int), W)] := by simp [hRow, List.range_succ]
def hRows (W : Int) (n : Nat) : List (Int × Int) := (List.range n).flatMap fun j : Nat => hRow W (8 * ((j : Int) + 1)) W.toNat
theorem hRows_succ (W : Int) (n : Nat) : hRows W (n + 1) = hRows W n ++ hRow W (8 * ((n : Int) + 1)) W.toNat := by simp [hRows, List.range_succ]
def dbAll (q W : Int) (xs : List Int) (r : Nat) : List Int := egs q (egs q xs (vRows W 0 (8 * r))) (hRows W (r - 1))
def frOk (W H : Int) (xs : List Int) : Prop := sidesOk W H ∧ (xs.length : Int) = W * H ∧ pixOk xs
end Go.Pl

/- Plain numbers: headers, pairs and blocks as bits. -/
namespace Go.Pl
instance (xs : List Int) : Decidable (pixOk xs) := by unfold pixOk; infer_instance
instance (W H : Int) (xs : List Int) : Decidable (frOk W H xs) := by unfold frOk; infer_instance
def flag (b : Bool) : Int := if b then 1 else 0
def headBits (a b q : Int) (y d : Bool) (xs : List Int) : List Int :=
  if headOk a b q xs then bitsIn 183 8 ++ ueBits (a / 8 - 1) ++ ueBits (b / 8 - 1) ++ bitsIn q 6 ++ [flag y, flag d] ++ xs.flatMap (fun n => bitsIn n 3) else []
theorem headBits_no {a b q : Int} {y d : Bool} {xs : List Int} (h : ¬ headOk a b q xs) : headBits a b q y d xs = [] := by unfold headBits; rw [if_neg h]
theorem ueBits_le (n : Int) : (ueBits n).length ≤ 31 := by
  by_cases h : 0 ≤ n ∧ n ≤ 65534
  · have h1 := ueBits_len h; have h2 := ueSize_range n; omega
  · rw [ueBits_no h]; simp
def fieldsOf (xs : List Int) (k : Nat) : List Int := (xs.take k).flatMap (fun n => bitsIn n 3)
theorem flat_take_succ {α β : Type} [Inhabited α] (f : α → List β) (xs : List α) {k : Nat} (h : k < xs.length) : (xs.take (k + 1)).flatMap f = (xs.take k).flatMap f ++ f (xs.getD k default) := by
  rw [List.take_add_one, List.flatMap_append]; simp [List.getD, h]
theorem flat_take_le {α β : Type} (f : α → List β) {N : Nat} (hN : ∀ x, (f x).length ≤ N) (xs : List α) (k : Nat) : ((xs.take k).flatMap f).length ≤ N * k := by
  induction k generalizing xs with
  | zero => simp
  | succ k ih => cases xs with
    | nil => simp
    | cons x r =>
      have h1 := hN x; have h2 := ih r
      have h3 : N * (k + 1) = N * k + N := Nat.mul_succ N k
      simp only [List.take_succ_cons, List.flatMap_cons, List.length_append]; omega
def prS (ys : List Int) : Nat → List (Int × Int) × Int
  | 0 => ([], 0)
  | k + 1 => if ys.getD k 0 = 0 then ((prS ys k).1, (prS ys k).2 + 1) else ((prS ys k).1 ++ [((prS ys k).2, ys.getD k 0)], 0)
def pairsOf (ys : List Int) : List (Int × Int) := if levelsOk ys then (prS ys ys.length).1 else []
theorem prS_range (ys : List Int) (k : Nat) : 0 ≤ (prS ys k).2 ∧ (prS ys k).2 ≤ k ∧ (prS ys k).1.length ≤ k := by
  induction k with
  | zero => simp [prS]
  | succ k ih => simp only [prS]; split <;> simp <;> omega
theorem prS_zero {ys : List Int} {k : Nat} (h : ys.getD k 0 = 0) : (prS ys k).1 = (prS ys (k + 1)).1 ∧ (prS ys k).2 + 1 = (prS ys (k + 1)).2 := by simp only [prS, if_pos h, and_self]
theorem prS_more {ys : List Int} {k : Nat} (h : ys.getD k 0 ≠ 0) : (prS ys k).1 ++ [((prS ys k).2, ys.getD k 0)] = (prS ys (k + 1)).1 ∧ 0 = (prS ys (k + 1)).2 := by
  simp only [prS, if_neg h, and_self]
theorem pairs_no {ys : List Int} (h : ¬ levelsOk ys) : pairsOf ys = [] := by unfold pairsOf; rw [if_neg h]
theorem pairs_yes {ys : List Int} (h : levelsOk ys) {k : Nat} (hk : k = ys.length) : pairsOf ys = (prS ys k).1 := by unfold pairsOf; rw [if_pos h, hk]
theorem side_len {n : Int} (h : 0 < sideOf n) : n = 16 ∨ n = 64 := by
  unfold sideOf at h; split at h
  · omega
  · split at h
    · omega
    · omega
theorem pairs_len (ys : List Int) : (pairsOf ys).length ≤ 64 := by
  unfold pairsOf; split
  · next h => have h1 := prS_range ys ys.length; have h2 := side_len h.2; omega
  · simp
def pairOk (p : Int × Int) : Prop := (0 ≤ p.1 ∧ p.1 ≤ 63) ∧ (-16383 ≤ p.2 ∧ p.2 ≤ 16383) ∧ p.2 ≠ 0
theorem prS_ok {ys : List Int} (h : ∀ j : Nat, j < ys.length → -16383 ≤ ys.getD j 0 ∧ ys.getD j 0 ≤ 16383) : ∀ k : Nat, k ≤ ys.length → k ≤ 64 → ∀ p ∈ (prS ys k).1, pairOk p := by
  intro k
  induction k with
  | zero => intro _ _ p hp; simp [prS] at hp
  | succ k ih =>
    intro hk h64 p hp
    simp only [prS] at hp
    split at hp
    · exact ih (by omega) (by omega) p hp
    · next h0 =>
      rcases List.mem_append.1 hp with h1 | h1
      · exact ih (by omega) (by omega) p h1
      · obtain rfl := List.mem_singleton.1 h1
        have h2 := prS_range ys k
        have h3 := h k (by omega)
        exact ⟨⟨h2.1, by show (prS ys k).2 ≤ 63; omega⟩, h3, h0⟩
theorem pairs_ok (ys : List Int) : ∀ p ∈ pairsOf ys, pairOk p := by
  unfold pairsOf; split
  · next h => have h2 := side_len h.2; exact prS_ok h.1 _ (Nat.le_refl _) (by omega)
  · simp
theorem pairs_get {ys : List Int} (k : Nat) (h : k < (pairsOf ys).length) : pairOk ((pairsOf ys).getD k default) := by
  have := pairs_ok ys ((pairsOf ys)[k]) (List.getElem_mem h)
  simpa [List.getD, h] using this
def pairBits (p : Int × Int) : List Int := ueBits p.1 ++ ueBits (numOf p.2)
theorem pairBits_le (p : Int × Int) : (pairBits p).length ≤ 62 := by
  have h1 := ueBits_le p.1; have h2 := ueBits_le (numOf p.2)
  unfold pairBits; rw [List.length_append]; omega
def levelBits (ys : List Int) : List Int := if (pairsOf ys).length = 0 then [0] else [1] ++ ueBits ((pairsOf ys).length - 1) ++ (pairsOf ys).flatMap pairBits
def blockBits (m : Int) (ys xs : List Int) (n : Int) : List Int := if blockOk m ys xs n then symBits xs m ++ levelBits ys else []
theorem blockBits_no {m n : Int} {ys xs : List Int} (h : ¬ blockOk m ys xs n) : blockBits m ys xs n = [] := by unfold blockBits; rw [if_neg h]
theorem symBits_le (l : List Int) (m : Int) : (symBits l m).length ≤ 48 := by
  unfold symBits; split
  · exact (bitsIn_len _ _).1
  · simp
theorem levelBits_le (ys : List Int) : (levelBits ys).length ≤ 4000 := by
  unfold levelBits
  have h1 := pairs_len ys
  have h2 := flat_take_le pairBits pairBits_le (pairsOf ys) (pairsOf ys).length
  rw [List.take_length] at h2
  have h3 := ueBits_le ((pairsOf ys).length - 1)
  split
  · simp
  · simp only [List.length_append, List.length_singleton]; omega
theorem blockBits_le (m : Int) (ys xs : List Int) (n : Int) : (blockBits m ys xs n).length ≤ 4048 := by
  unfold blockBits
  have h1 := symBits_le xs m; have h2 := levelBits_le ys
  split
  · rw [List.length_append]; omega
  · simp
def side (e : Bool) : Int := if e then 8 else 4
def mbOk (e : Bool) (bs : List (Int × List Int)) (xs : List Int) : Prop := (bs.length : Int) = 64 / (side e * side e) ∧ ∀ j : Nat, j < bs.length → blockOk (bs.getD j default).1 (bs.getD j default).2 xs (side e)
instance (e : Bool) (bs : List (Int × List Int)) (xs : List Int) : Decidable (mbOk e bs xs) := by unfold mbOk; infer_instance
def mbBits (e : Bool) (bs : List (Int × List Int)) (xs : List Int) : List Int := if mbOk e bs xs then [flag e] ++ bs.flatMap (fun b => blockBits b.1 b.2 xs (side e)) else []
def fuIx (s : ByteArray) (c : Ca) : Nat := (bitsOf s (8 * c.pos - c.hv) 9).toNat
def fuHit (s : ByteArray) (c : Ca) (t : List (Int × Int)) : Prop := t.length = 512 ∧ 1 ≤ (t.getD (fuIx s c) default).1 ∧ (t.getD (fuIx s c) default).1 ≤ 9
instance (s : ByteArray) (c : Ca) (t : List (Int × Int)) : Decidable (fuHit s c t) := by unfold fuHit; infer_instance
end Go.Pl

/- Plain numbers: frames filtered. -/
namespace Go.Pl
def allIn (lo hi : Int) (xs : List Int) : Prop := ∀ j : Nat, j < xs.length → lo ≤ xs.getD j 0 ∧ xs.getD j 0 ≤ hi
instance (lo hi : Int) (xs : List Int) : Decidable (allIn lo hi xs) := by unfold allIn; infer_instance
theorem four_in {lo hi a b c d : Int} : allIn lo hi [a, b, c, d] ↔ (lo ≤ a ∧ a ≤ hi) ∧ (lo ≤ b ∧ b ≤ hi) ∧ (lo ≤ c ∧ c ≤ hi) ∧ (lo ≤ d ∧ d ≤ hi) := by
  constructor
  · intro h; exact ⟨h 0 (by simp), h 1 (by simp), h 2 (by simp), h 3 (by simp)⟩
  · rintro ⟨h0, h1, h2, h3⟩ j hj
    match j, hj with
    | 0, _ => exact h0
    | 1, _ => exact h1
    | 2, _ => exact h2
    | 3, _ => exact h3
    | n + 4, h => simp at h; omega
theorem floor_eq {a b : Int} (hb : 0 < b) : (if a.tmod b < 0 then a.tdiv b - 1 else a.tdiv b) = a / b := by
  rcases Int.lt_or_le a 0 with h | h
  · obtain ⟨c, rfl⟩ : ∃ c, a = -c := ⟨-a, by omega⟩
    have hc : 0 ≤ c := by omega
    rw [Int.neg_tdiv, Int.neg_tmod, Int.tdiv_eq_ediv_of_nonneg hc, Int.tmod_eq_emod_of_nonneg hc]
    have h1 := Int.mul_ediv_add_emod c b
    have h2 := Int.emod_nonneg c (show b ≠ 0 by omega)
    have h3 := Int.emod_lt_of_pos c hb
    have h4 : c / b * b = b * (c / b) := Int.mul_comm _ _
    split
    · refine ((div_iff hb).2 ?_).symm
      rw [Int.sub_mul, Int.neg_mul, h4, Int.one_mul]
      generalize b * (c / b) = z at *
      omega
    · refine ((div_iff hb).2 ?_).symm
      rw [Int.neg_mul, h4]
      generalize b * (c / b) = z at *
      omega
  · rw [Int.tdiv_eq_ediv_of_nonneg h, Int.tmod_eq_emod_of_nonneg h, if_neg]
    have := Int.emod_nonneg a (show b ≠ 0 by omega)
    omega
theorem tdiv_range {a b : Int} (hb : 0 < b) (h : -9223372036854775807 ≤ a ∧ a ≤ 9223372036854775807) : -9223372036854775807 ≤ a.tdiv b ∧ a.tdiv b ≤ 9223372036854775807 := by
  rcases Int.lt_or_le a 0 with h1 | h1
  · obtain ⟨c, rfl⟩ : ∃ c, a = -c := ⟨-a, by omega⟩
    have hc : 0 ≤ c := by omega
    rw [Int.neg_tdiv, Int.tdiv_eq_ediv_of_nonneg hc]
    have h3 : 0 ≤ c / b := Int.ediv_nonneg hc (by omega)
    have h4 : c / b ≤ c := Int.ediv_le_self _ hc
    omega
  · rw [Int.tdiv_eq_ediv_of_nonneg h1]
    have h3 : 0 ≤ a / b := Int.ediv_nonneg h1 (by omega)
    have h4 : a / b ≤ a := Int.ediv_le_self _ h1
    omega
theorem tdiv_small {a b : Int} (hb : 0 < b) (h : -4611686018427387904 ≤ a ∧ a ≤ 4611686018427387904) : -4611686018427387904 ≤ a.tdiv b := by
  rcases Int.lt_or_le a 0 with h1 | h1
  · obtain ⟨c, rfl⟩ : ∃ c, a = -c := ⟨-a, by omega⟩
    have hc : 0 ≤ c := by omega
    rw [Int.neg_tdiv, Int.tdiv_eq_ediv_of_nonneg hc]
    have h4 : c / b ≤ c := Int.ediv_le_self _ hc
    omega
  · rw [Int.tdiv_eq_ediv_of_nonneg h1]
    have h3 : 0 ≤ a / b := Int.ediv_nonneg h1 (by omega)
    omega
theorem alpha_pos (q : Int) : 0 < alphaOf q ↔ 0 ≤ q ∧ q ≤ 51 := by unfold alphaOf; split <;> omega
def fqOk (W H q : Int) (xs : List Int) : Prop := frOk W H xs ∧ 0 ≤ q ∧ q ≤ 51
instance (W H q : Int) (xs : List Int) : Decidable (fqOk W H q xs) := by unfold fqOk; infer_instance
def dbOf (W H q : Int) (xs : List Int) : List Int := if fqOk W H q xs then dbAll q W xs (H / 8).toNat else xs
theorem dbOf_length (W H q : Int) (xs : List Int) : (dbOf W H q xs).length = xs.length := by unfold dbOf dbAll; split <;> simp [egs_length]
theorem db_impl {W H q : Int} {xs : List Int} (h : fqOk W H q xs) {j : Nat} (hj : 8 * ((j : Int) + 1) = H) : egs q (egs q xs (vRows W 0 (H - 0).toNat)) (hRows W j) = dbOf W H q xs := by
  unfold dbOf dbAll; rw [if_pos h, show (H - 0).toNat = 8 * (H / 8).toNat by omega, show (H / 8).toNat - 1 = j by omega]
theorem db_no {W H q : Int} {xs : List Int} (h : ¬ fqOk W H q xs) : dbOf W H q xs = xs := by unfold dbOf; rw [if_neg h]
theorem sides_mul {W H : Int} (h : sidesOk W H) : 64 ≤ W * H ∧ W * H ≤ 1024 := by
  obtain ⟨h1, h2, _⟩ := h
  have e1 := Int.mul_le_mul h1.2 h2.2 (by omega) (by omega)
  have e2 := Int.mul_le_mul h1.1 h2.1 (by omega) (by omega)
  omega
theorem fr_geo {W H : Int} {xs : List Int} (h : frOk W H xs) : (8 ≤ W ∧ W ≤ 32) ∧ (8 ≤ H ∧ H ≤ 32) ∧ W % 8 = 0 ∧ H % 8 = 0 ∧ (xs.length : Int) = W * H := ⟨h.1.1, h.1.2.1, h.1.2.2.1, h.1.2.2.2, h.2.1⟩
theorem row_in {W H y n : Int} (hW : 8 ≤ W ∧ W ≤ 32) (hn : n = W * H) (h0 : 0 ≤ y) (h1 : y ≤ H - 1) : 0 ≤ y * W ∧ y * W + W ≤ n ∧ y * W + W ≤ n := by
  have e1 := Int.mul_le_mul_of_nonneg_right (show y + 1 ≤ H by omega) (show 0 ≤ W by omega)
  have e2 := Int.mul_nonneg h0 (show 0 ≤ W by omega)
  rw [Int.add_mul, Int.one_mul, Int.mul_comm H W] at e1
  omega
theorem rows_in {W H y n : Int} (hW : 8 ≤ W ∧ W ≤ 32) (hn : n = W * H) (h0 : 2 ≤ y) (h1 : y ≤ H - 2) : 2 * W ≤ y * W ∧ y * W + 2 * W ≤ n := by
  have e1 := Int.mul_le_mul_of_nonneg_right (show y + 2 ≤ H by omega) (show 0 ≤ W by omega)
  have e2 := Int.mul_le_mul_of_nonneg_right h0 (show 0 ≤ W by omega)
  rw [Int.add_mul, Int.mul_comm H W] at e1
  omega
end Go.Pl

/- Plain numbers: fields read one by one, up to the first error. -/
namespace Go.Pl
structure Fs where
  a : Int
  code : Int
def fbS (s : ByteArray) (f : Fs) (n : Int) (chk : Int → Int) : Fs :=
  if f.code ≠ 0 then f else if ¬ rbOk s f.a n then ⟨f.a, 1⟩ else if chk (rbV s f.a n) ≠ 0 then ⟨f.a, chk (rbV s f.a n)⟩ else ⟨f.a + n, 0⟩
def fbV (s : ByteArray) (f : Fs) (n : Int) (chk : Int → Int) : Int :=
  if f.code ≠ 0 then 0 else if ¬ rbOk s f.a n then 0 else if chk (rbV s f.a n) ≠ 0 then 0 else rbV s f.a n
def fnS (s : ByteArray) (f : Fs) (chk : Int → Int) : Fs :=
  if f.code ≠ 0 then f else if ueE s f.a ≠ 0 then ⟨f.a, ueE s f.a⟩ else if chk (ueV s f.a) ≠ 0 then ⟨f.a, chk (ueV s f.a)⟩ else ⟨ueAt s f.a, 0⟩
def fnV (s : ByteArray) (f : Fs) (chk : Int → Int) : Int :=
  if f.code ≠ 0 then 0 else if ueE s f.a ≠ 0 then 0 else if chk (ueV s f.a) ≠ 0 then 0 else ueV s f.a
section
variable {s : ByteArray} {f : Fs} {n : Int} {chk : Int → Int}
theorem fb_err (h : f.code ≠ 0) : fbS s f n chk = f ∧ fbV s f n chk = 0 := by simp [fbS, fbV, h]
theorem fb_short (h : f.code = 0) (h1 : ¬ rbOk s f.a n) : fbS s f n chk = ⟨f.a, 1⟩ ∧ fbV s f n chk = 0 := by simp [fbS, fbV, h, h1]
theorem fb_bad (h : f.code = 0) (h1 : rbOk s f.a n) (h2 : chk (rbV s f.a n) ≠ 0) : fbS s f n chk = ⟨f.a, chk (rbV s f.a n)⟩ ∧ fbV s f n chk = 0 := by simp [fbS, fbV, h, h1, h2]
theorem fb_ok (h : f.code = 0) (h1 : rbOk s f.a n) (h2 : chk (rbV s f.a n) = 0) : fbS s f n chk = ⟨f.a + n, 0⟩ ∧ fbV s f n chk = rbV s f.a n := by simp [fbS, fbV, h, h1, h2]
theorem fn_err (h : f.code ≠ 0) : fnS s f chk = f ∧ fnV s f chk = 0 := by simp [fnS, fnV, h]
theorem fn_short (h : f.code = 0) (h1 : ueE s f.a ≠ 0) : fnS s f chk = ⟨f.a, ueE s f.a⟩ ∧ fnV s f chk = 0 := by simp [fnS, fnV, h, h1]
theorem fn_bad (h : f.code = 0) (h1 : ueE s f.a = 0) (h2 : chk (ueV s f.a) ≠ 0) : fnS s f chk = ⟨f.a, chk (ueV s f.a)⟩ ∧ fnV s f chk = 0 := by simp [fnS, fnV, h, h1, h2]
theorem fn_ok (h : f.code = 0) (h1 : ueE s f.a = 0) (h2 : chk (ueV s f.a) = 0) : fnS s f chk = ⟨ueAt s f.a, 0⟩ ∧ fnV s f chk = ueV s f.a := by simp [fnS, fnV, h, h1, h2]
end
def unl (p : Prop) [Decidable p] (c : Int) : Int := if p then 0 else c
def k183 (x : Int) : Int := unl (x = 183) 2
def k3 (x : Int) : Int := unl (x ≤ 3) 3
def k51 (x : Int) : Int := unl (x ≤ 51) 3
def k0 (_ : Int) : Int := 0
def lens6 (x : Int) (k : Nat) : List Int := (List.range k).map fun i : Nat => x / 2 ^ (3 * (5 - i)) % 8
def kLens (x : Int) : Int := unl (codeOk (lens6 x 6)) 4
def rh1 (s : ByteArray) (a : Int) : Fs := fbS s ⟨a, 0⟩ 8 k183
def rh2 (s : ByteArray) (a : Int) : Fs := fnS s (rh1 s a) k3
def rh3 (s : ByteArray) (a : Int) : Fs := fnS s (rh2 s a) k3
def rh4 (s : ByteArray) (a : Int) : Fs := fbS s (rh3 s a) 6 k51
def rh5 (s : ByteArray) (a : Int) : Fs := fbS s (rh4 s a) 2 k0
def rh6 (s : ByteArray) (a : Int) : Fs := fbS s (rh5 s a) 18 kLens
def rhW (s : ByteArray) (a : Int) : Int := fnV s (rh1 s a) k3
def rhH (s : ByteArray) (a : Int) : Int := fnV s (rh2 s a) k3
def rhQ (s : ByteArray) (a : Int) : Int := fbV s (rh3 s a) 6 k51
def rhF (s : ByteArray) (a : Int) : Int := fbV s (rh4 s a) 2 k0
def rhL (s : ByteArray) (a : Int) : Int := fbV s (rh5 s a) 18 kLens
theorem lens6_length (x : Int) (k : Nat) : (lens6 x k).length = k := by simp [lens6]
theorem lens6_succ (x : Int) (k : Nat) : lens6 x (k + 1) = lens6 x k ++ [x / 2 ^ (3 * (5 - k)) % 8] := by simp [lens6, List.range_succ]
end Go.Pl
namespace Go.Pl
def kLt (m : Int) (x : Int) : Int := unl (x < m) 5
def kLv (x : Int) : Int := unl (-16383 ≤ levelOf x ∧ levelOf x ≤ 16383) 5
structure Lv where
  f : Fs
  p : Int
  l : List Int
def lvF1 (s : ByteArray) (N : Int) (v : Lv) : Fs := fnS s v.f (kLt (N - v.p))
def lvP (s : ByteArray) (N : Int) (v : Lv) : Int := v.p + fnV s v.f (kLt (N - v.p))
def lvF2 (s : ByteArray) (N : Int) (v : Lv) : Fs := fnS s (lvF1 s N v) kLv
def lvL (s : ByteArray) (N : Int) (v : Lv) : Int := levelOf (fnV s (lvF1 s N v) kLv)
def lvStep (s : ByteArray) (N : Int) (v : Lv) : Lv :=
  if (lvF2 s N v).code = 0 then ⟨lvF2 s N v, lvP s N v + 1, v.l.set (lvP s N v).toNat (lvL s N v)⟩ else ⟨lvF2 s N v, lvP s N v, v.l⟩
def lvIt (s : ByteArray) (N : Int) (v : Lv) : Nat → Lv
  | 0 => v
  | k + 1 => if (lvIt s N v k).f.code ≠ 0 then lvIt s N v k else lvStep s N (lvIt s N v k)
end Go.Pl

/- Plain numbers: numbers read are none below 0; pairs read one by one. -/
namespace Go.Pl
theorem zc_bit {s : ByteArray} : ∀ (f : Nat) (a : Int), zc s a f < f → bitAt s (a + zc s a f) ≠ 0
  | 0, _, h => by omega
  | f + 1, a, h => by
    by_cases hb : bitAt s a = 0
    · have h1 := zc_step (f := f + 1) hb (by omega)
      rw [show f + 1 - 1 = f by omega] at h1
      rw [h1] at h ⊢
      have := zc_bit (s := s) f (a + 1) (by omega)
      rwa [show a + ((zc s (a + 1) f + 1 : Nat) : Int) = a + 1 + (zc s (a + 1) f : Nat) by omega]
    · rw [zc_stop (.inl hb)]; simpa using hb
theorem ueE_ok {s : ByteArray} {a : Int} (h : ueE s a = 0) : ueOk s a := by
  unfold ueE at h
  split at h
  · omega
  · next h1 =>
    split at h
    · next h2 => exact ⟨by omega, h2⟩
    · omega
theorem ueV_range {s : ByteArray} {a : Int} (h : ueE s a = 0) : 0 ≤ ueV s a ∧ ueV s a ≤ 2147483647 := by
  have hk := ueE_ok h
  obtain ⟨h1, h2, h3, h4⟩ := id hk
  have hz := zerosOf_range s a
  have hr := remOf_in h2
  unfold ueV; rw [if_pos hk]
  obtain ⟨z, hzz⟩ : ∃ z : Nat, zerosOf s a = z := ⟨(zerosOf s a).toNat, by omega⟩
  have hzc : zc s a (remOf s a).toNat = z := by unfold zerosOf at hzz; omega
  have hb := zc_bit (s := s) (remOf s a).toNat a (by omega)
  rw [hzc] at hb
  have hb0 := bitAt_in0 (s := s) (i := a + z) (by omega)
  rw [hzz] at h1 h4 ⊢
  rw [show (2 * (z : Int) + 1).toNat = z + (z + 1) by omega, bitsOf_add, bitsOf_first]
  have e1 := bitsOf_range s a z
  have e2 := bitsOf_range s (a + z + 1) z
  have e3 := two_pow_pos (z + 1)
  have e4 := two_pow_pos z
  have e5 := Int.mul_nonneg e1.1 (Int.le_of_lt e3)
  rw [show max (bitAt s (a + z)) 0 = 1 by omega, Int.one_mul]
  have e6 := bitsOf_range s a (z + (z + 1))
  rw [bitsOf_add, bitsOf_first, show max (bitAt s (a + z)) 0 = 1 by omega, Int.one_mul] at e6
  have e7 := two_pow_le (n := z + (z + 1)) (m := 31) (by omega)
  have e8 : (2 : Int) ^ 31 = 2147483648 := rfl
  omega
theorem fnV_range (s : ByteArray) (f : Fs) (chk : Int → Int) : 0 ≤ fnV s f chk ∧ fnV s f chk ≤ 2147483647 := by
  unfold fnV
  split
  · omega
  · split
    · omega
    · next h =>
      split
      · omega
      · exact ueV_range (Classical.not_not.1 h)
theorem kLt_le {m x : Int} (h : kLt m x = 0) : x < m := by unfold kLt unl at h; split at h <;> omega
theorem fnV_lt {s : ByteArray} {f : Fs} {m : Int} : fnV s f (kLt m) = 0 ∨ fnV s f (kLt m) < m := by
  unfold fnV
  split
  · exact .inl rfl
  · split
    · exact .inl rfl
    · split
      · exact .inl rfl
      · next h => exact .inr (kLt_le (Classical.not_not.1 h))
theorem lvIt_stop {s : ByteArray} {N : Int} {v : Lv} {k : Nat} (h : (lvIt s N v k).f.code ≠ 0) : ∀ m : Nat, lvIt s N v (k + m) = lvIt s N v k
  | 0 => rfl
  | m + 1 => by
    have ih := lvIt_stop h m
    show lvIt s N v (k + m + 1) = _
    rw [lvIt, ih, if_pos h]
theorem lvIt_next {s : ByteArray} {N : Int} {v : Lv} {k : Nat} (h : (lvIt s N v k).f.code = 0) : lvIt s N v (k + 1) = lvStep s N (lvIt s N v k) := by
  rw [lvIt, if_neg (fun h2 => h2 h)]
def lvOk (N : Int) (v : Lv) : Prop := 0 ≤ v.p ∧ v.p ≤ N ∧ (v.l.length : Int) = N
theorem lvP_range {s : ByteArray} {N : Int} {v : Lv} (h : lvOk N v) : v.p ≤ lvP s N v ∧ lvP s N v ≤ N := by
  obtain ⟨h1, h2, h3⟩ := h
  have a := fnV_range s v.f (kLt (N - v.p))
  have b := fnV_lt (s := s) (f := v.f) (m := N - v.p)
  unfold lvP; omega
end Go.Pl

/- Plain numbers: headers and blocks as bits, joined. -/
namespace Go.Pl
open Go.Sx
def headA (a b q : Int) (y z : Bool) : List Int := bitsIn 183 8 ++ ueBits (a / 8 - 1) ++ ueBits (b / 8 - 1) ++ bitsIn q 6 ++ [flag y, flag z]
theorem headA_len (a b q : Int) (y z : Bool) : (headA a b q y z).length ≤ 200 := by
  have h1 := (bitsIn_len 183 8).1; have h2 := ueBits_le (a / 8 - 1); have h3 := ueBits_le (b / 8 - 1); have h4 := (bitsIn_len q 6).1
  unfold headA; simp only [List.length_append, List.length_cons, List.length_nil]; omega
theorem headBits_yes {a b q : Int} {y z : Bool} {xs : List Int} (h : headOk a b q xs) {k : Nat} (hk : k = xs.length) : headBits a b q y z xs = headA a b q y z ++ fieldsOf xs k := by
  unfold headBits headA fieldsOf; rw [if_pos h, hk, List.take_length]
theorem fieldsOf_succ {xs : List Int} {k : Nat} (h : k < xs.length) : fieldsOf xs (k + 1) = fieldsOf xs k ++ bitsIn (xs.getD k 0) 3 := flat_take_succ _ xs h
theorem fieldsOf_len (xs : List Int) (k : Nat) : (fieldsOf xs k).length ≤ 48 * k := flat_take_le _ (fun x => (bitsIn_len x 3).1) xs k
theorem fieldsOf_zero (xs : List Int) : fieldsOf xs 0 = [] := by simp [fieldsOf]
theorem headBits_len (a b q : Int) (y z : Bool) (xs : List Int) : (headBits a b q y z xs).length ≤ 600 := by
  by_cases h : headOk a b q xs
  · rw [headBits_yes h rfl, List.length_append]
    have h1 := headA_len a b q y z; have h2 := fieldsOf_len xs xs.length; have h3 := h.2.2.2.1
    omega
  · rw [headBits_no h]; simp
theorem bitsl_pad {m : Int} {w : Nat} (h : 0 ≤ m ∧ m < 2 ^ w) : ∀ k : Nat, bitsl m (w + k) = List.replicate k 0 ++ bitsl m w
  | 0 => by simp
  | k + 1 => by
    have ih := bitsl_pad h k
    have h2 := two_pow_le (n := w) (m := w + k) (by omega)
    show bitsl m (w + k + 1) = _
    rw [bitsl, ih, Int.ediv_eq_zero_of_lt h.1 (by omega)]; rfl
theorem ueBits_zeros {n : Int} (h : 0 ≤ n ∧ n ≤ 65534) : ueBits n = List.replicate (lz n).toNat 0 ++ bitsIn (n + 1) (lz n + 1) := by
  have h1 := lz_spec h.1
  have h2 := lz_range h
  have e1 : (lz n + 1).toNat = (lz n).toNat + 1 := by omega
  have hb : bitOk (lz n + 1) (n + 1) := ⟨by omega, by omega, by rw [e1]; exact Int.ediv_eq_zero_of_lt (by omega) h1.2⟩
  rw [ueBits_eq h, show 2 * (lz n).toNat + 1 = ((lz n).toNat + 1) + (lz n).toNat by omega, bitsl_pad ⟨by omega, h1.2⟩]
  unfold bitsIn; rw [if_pos hb, e1]
theorem own_eq {w : World} {p : Option Addr} {c : Nat} {e : TypeId} {F : List Nat} {xs ys : List Int} (h : xs = ys) (o : Own w p xs.length c e 1 (ic xs) F) : Own w p ys.length c e 1 (ic ys) F := h ▸ o
theorem pairs_end {ys : List Int} {k : Nat} (h : 0 < k → levelsOk ys) (hk : k = ys.length ∨ ¬ levelsOk ys) : pairsOf ys = (prS ys k).1 := by
  rcases Nat.eq_zero_or_pos k with h0 | h0
  · subst h0
    by_cases hl : levelsOk ys
    · rcases hk with h1 | h1
      · exact pairs_yes hl h1
      · exact absurd hl h1
    · rw [pairs_no hl]; rfl
  · rcases hk with h1 | h1
    · exact pairs_yes (h h0) h1
    · exact absurd (h h0) h1
def blockA (m : Int) (ys xs : List Int) : List Int := symBits xs m ++ ([1] ++ ueBits ((pairsOf ys).length - 1))
theorem blockA_len (m : Int) (ys xs : List Int) : (blockA m ys xs).length ≤ 100 := by
  have h1 := symBits_le xs m; have h2 := ueBits_le ((pairsOf ys).length - 1)
  unfold blockA; simp only [List.length_append, List.length_cons, List.length_nil]; omega
theorem block_none {m n : Int} {ys xs : List Int} (h : blockOk m ys xs n) (h0 : (pairsOf ys).length = 0) : blockBits m ys xs n = symBits xs m ++ [0] := by
  unfold blockBits levelBits; rw [if_pos h, if_pos h0]
theorem block_some {m n : Int} {ys xs : List Int} (h : blockOk m ys xs n) (h0 : (pairsOf ys).length ≠ 0) {k : Nat} (hk : k = (pairsOf ys).length) : blockBits m ys xs n = blockA m ys xs ++ ((pairsOf ys).take k).flatMap pairBits := by
  unfold blockBits levelBits blockA; rw [if_pos h, if_neg h0, hk, List.take_length]; simp
theorem pairsBits_len (ys : List Int) (k : Nat) : (((pairsOf ys).take k).flatMap pairBits).length ≤ 62 * k := flat_take_le _ pairBits_le _ k
theorem map_getD {α β : Type} [Inhabited α] [Inhabited β] (f : α → β) {xs : List α} {j : Nat} (h : j < xs.length) : (xs.map f).getD j default = f (xs.getD j default) := by
  simp [List.getD, h]
def manyOf (e : Bool) : Int := if e then 1 else 4
theorem many_eq (e : Bool) : 64 / (side e * side e) = manyOf e := by cases e <;> decide
theorem side_in (e : Bool) : side e = 4 ∨ side e = 8 := by cases e <;> decide
theorem mb_iff {e : Bool} {bs : List Bk} {xs : List Int} : mbOk e (bs.map Bk.pl) xs ↔ (bs.length : Int) = manyOf e ∧ ∀ j : Nat, j < bs.length → blockOk (bs.getD j default).mode (bs.getD j default).lv xs (side e) := by
  unfold mbOk
  rw [List.length_map, many_eq]
  constructor
  · rintro ⟨h1, h2⟩
    refine ⟨h1, fun j hj => ?_⟩
    have h3 := h2 j hj
    rw [map_getD _ hj] at h3; exact h3
  · rintro ⟨h1, h2⟩
    refine ⟨h1, fun j hj => ?_⟩
    rw [map_getD _ hj]; exact h2 j hj
end Go.Pl

/- Plain numbers: headers read. -/
namespace Go.Pl
section
variable {s : ByteArray} {a : Int}
end
def hdW (s : ByteArray) (a : Int) : Int := if (rh6 s a).code = 0 then 8 * (rhW s a + 1) else 0
def hdH (s : ByteArray) (a : Int) : Int := if (rh6 s a).code = 0 then 8 * (rhH s a + 1) else 0
def hdQ (s : ByteArray) (a : Int) : Int := if (rh6 s a).code = 0 then rhQ s a else 0
def hdB (s : ByteArray) (a : Int) : Bool := decide ((rh6 s a).code = 0 ∧ 2 ≤ rhF s a)
def hdD (s : ByteArray) (a : Int) : Bool := decide ((rh6 s a).code = 0 ∧ rhF s a % 2 = 1)
def hdL (s : ByteArray) (a : Int) : List Int := if (rh6 s a).code = 0 then lens6 (rhL s a) 6 else []
theorem hd_no {s : ByteArray} {a : Int} (h : (rh6 s a).code ≠ 0) : hdW s a = 0 ∧ hdH s a = 0 ∧ hdQ s a = 0 ∧ hdB s a = false ∧ hdD s a = false ∧ hdL s a = [] := by
  simp [hdW, hdH, hdQ, hdB, hdD, hdL, h]
theorem hd_yes {s : ByteArray} {a : Int} (h : (rh6 s a).code = 0) : hdW s a = 8 * (rhW s a + 1) ∧ hdH s a = 8 * (rhH s a + 1) ∧ hdQ s a = rhQ s a ∧ hdB s a = decide (2 ≤ rhF s a) ∧ hdD s a = decide (rhF s a % 2 = 1) ∧ hdL s a = lens6 (rhL s a) 6 := by
  simp [hdW, hdH, hdQ, hdB, hdD, hdL, h]
theorem rbV_range (s : ByteArray) (a n : Int) : 0 ≤ rbV s a n ∧ rbV s a n < 4294967296 := by
  unfold rbV; split
  · next h =>
    have h1 := bitsOf_range s a n.toNat
    have h2 := two_pow_le (n := n.toNat) (m := 32) (by have := h.2.1; omega)
    have e : (2 : Int) ^ 32 = 4294967296 := rfl
    omega
  · omega
theorem fbV_range (s : ByteArray) (f : Fs) (n : Int) (chk : Int → Int) : 0 ≤ fbV s f n chk ∧ fbV s f n chk < 4294967296 := by
  unfold fbV
  split
  · omega
  · split
    · omega
    · split
      · omega
      · exact rbV_range s f.a n
theorem rbAt_ok {s : ByteArray} {a n : Int} (h : rbOk s a n) : rbAt s a n = a + n := by unfold rbAt; rw [if_pos h]
theorem rbAt_no {s : ByteArray} {a n : Int} (h : ¬ rbOk s a n) : rbAt s a n = a := by unfold rbAt; rw [if_neg h]
theorem bx_eq {w : World} {b T : Nat} {cs cs' : List Value} (h : cs = cs') (hB : Go.Sx.Bx w b cs T) : Go.Sx.Bx w b cs' T := h ▸ hB
end Go.Pl

/- Plain numbers: streams as bits. -/
namespace Go.Pl
open Go.Sx
abbrev PB : Type := Int × List Int
abbrev PM : Type := Bool × List PB
def streamOk (a b q : Int) (xs : List Int) (ms : List PM) : Prop := headOk a b q xs ∧ (ms.length : Int) = a / 8 * (b / 8) ∧ ∀ j : Nat, j < ms.length → mbOk (ms.getD j default).1 (ms.getD j default).2 xs
instance (a b q : Int) (xs : List Int) (ms : List PM) : Decidable (streamOk a b q xs ms) := by unfold streamOk; infer_instance
theorem many_range {a b : Int} (h : sidesOk a b) : 0 ≤ a / 8 * (b / 8) ∧ a / 8 * (b / 8) ≤ 16 := by
  obtain ⟨h1, h2, _⟩ := h
  have e1 := Int.mul_le_mul (show a / 8 ≤ 4 by omega) (show b / 8 ≤ 4 by omega) (by omega) (by omega)
  have e2 := Int.mul_nonneg (show 0 ≤ a / 8 by omega) (show 0 ≤ b / 8 by omega)
  omega
theorem stream_iff {a b q : Int} {xs : List Int} {ms : List Mk} : streamOk a b q xs (ms.map Mk.pl) ↔ headOk a b q xs ∧ (ms.length : Int) = a / 8 * (b / 8) ∧ ∀ j : Nat, j < ms.length → mbOk (ms.getD j default).eight ((ms.getD j default).bs.map Bk.pl) xs := by
  unfold streamOk
  rw [List.length_map]
  refine and_congr_right fun _ => and_congr_right fun _ => ⟨fun h j hj => ?_, fun h j hj => ?_⟩
  · have h3 := h j hj; rw [map_getD _ hj] at h3; exact h3
  · rw [map_getD _ hj]; exact h j hj
def mbA (e : Bool) (bs : List PB) (xs : List Int) (k : Nat) : List Int := [flag e] ++ (bs.take k).flatMap fun b => blockBits b.1 b.2 xs (side e)
theorem mbA_zero (e : Bool) (bs : List PB) (xs : List Int) : mbA e bs xs 0 = [flag e] := by simp [mbA]
theorem mbA_succ {e : Bool} {bs : List Bk} {xs : List Int} {k : Nat} (h : k < bs.length) : mbA e (bs.map Bk.pl) xs (k + 1) = mbA e (bs.map Bk.pl) xs k ++ blockBits (bs.getD k default).mode (bs.getD k default).lv xs (side e) := by
  unfold mbA
  rw [flat_take_succ _ _ (by rw [List.length_map]; exact h), map_getD _ h, List.append_assoc]; rfl
theorem mbA_len (e : Bool) (bs : List PB) (xs : List Int) (k : Nat) : (mbA e bs xs k).length ≤ 1 + 4048 * k := by
  have h := flat_take_le (fun b : PB => blockBits b.1 b.2 xs (side e)) (fun b => blockBits_le b.1 b.2 xs (side e)) bs k
  unfold mbA; rw [List.length_append, List.length_singleton]; omega
theorem mb_no {e : Bool} {bs : List PB} {xs : List Int} (h : ¬ mbOk e bs xs) : mbBits e bs xs = [] := by unfold mbBits; rw [if_neg h]
theorem mb_yes {e : Bool} {bs : List PB} {xs : List Int} (h : mbOk e bs xs) {k : Nat} (hk : k = bs.length) : mbBits e bs xs = mbA e bs xs k := by unfold mbBits mbA; rw [if_pos h, hk, List.take_length]
theorem mb_many {e : Bool} {bs : List PB} {xs : List Int} (h : mbOk e bs xs) : bs.length ≤ 4 := by
  have h1 := h.1
  rw [many_eq] at h1
  unfold manyOf at h1; split at h1 <;> omega
theorem mbBits_le (m : PM) (xs : List Int) : (mbBits m.1 m.2 xs).length ≤ 20000 := by
  by_cases h : mbOk m.1 m.2 xs
  · rw [mb_yes h rfl]; have h1 := mbA_len m.1 m.2 xs m.2.length; have h2 := mb_many h; omega
  · rw [mb_no h]; simp
def stA (a b q : Int) (y z : Bool) (xs : List Int) (ms : List PM) (k : Nat) : List Int := headBits a b q y z xs ++ (ms.take k).flatMap fun m => mbBits m.1 m.2 xs
theorem stA_zero (a b q : Int) (y z : Bool) (xs : List Int) (ms : List PM) : stA a b q y z xs ms 0 = headBits a b q y z xs := by simp [stA]
theorem stA_succ {a b q : Int} {y z : Bool} {xs : List Int} {ms : List Mk} {k : Nat} (h : k < ms.length) : stA a b q y z xs (ms.map Mk.pl) (k + 1) = stA a b q y z xs (ms.map Mk.pl) k ++ mbBits (ms.getD k default).eight ((ms.getD k default).bs.map Bk.pl) xs := by
  unfold stA
  rw [flat_take_succ _ _ (by rw [List.length_map]; exact h), map_getD _ h, List.append_assoc]; rfl
theorem stA_len (a b q : Int) (y z : Bool) (xs : List Int) (ms : List PM) (k : Nat) : (stA a b q y z xs ms k).length ≤ 600 + 20000 * k := by
  have h := flat_take_le (fun m : PM => mbBits m.1 m.2 xs) (fun m => mbBits_le m xs) ms k
  have h2 := headBits_len a b q y z xs
  unfold stA; rw [List.length_append]; omega
def unp (a b q : Int) (y z : Bool) (xs : List Int) (ms : List PM) : ByteArray := if streamOk a b q xs ms then stopped (stA a b q y z xs ms ms.length) else ⟨#[]⟩
theorem unp_no {a b q : Int} {y z : Bool} {xs : List Int} {ms : List PM} (h : ¬ streamOk a b q xs ms) : unp a b q y z xs ms = ⟨#[]⟩ := by unfold unp; rw [if_neg h]
theorem unp_yes {a b q : Int} {y z : Bool} {xs : List Int} {ms : List PM} (h : streamOk a b q xs ms) {k : Nat} (hk : k = ms.length) : unp a b q y z xs ms = stopped (stA a b q y z xs ms k) := by unfold unp; rw [if_pos h, hk]
def numOk (b : List Int) : Prop := isBits b ∧ b.length ≤ 48
instance (b : List Int) : Decidable (isBits b) := by unfold isBits; infer_instance
instance (b : List Int) : Decidable (numOk b) := by unfold numOk; infer_instance
theorem numl_take {b : List Int} {k : Nat} (h : k < b.length) : numl (b.take (k + 1)) = numl (b.take k) * 2 + b.getD k 0 := by
  rw [List.take_add_one]; simp only [List.getElem?_eq_getElem h, Option.toList_some]; rw [numl_snoc]; simp [List.getD, h]
theorem numl_take_range {b : List Int} {k : Nat} (hk : k ≤ 48) (h : ∀ j : Nat, j < k → b.getD j 0 = 0 ∨ b.getD j 0 = 1) (hl : k ≤ b.length) : 0 ≤ numl (b.take k) ∧ numl (b.take k) < 281474976710656 := by
  have hb : isBits (b.take k) := isBits_upto fun j hj => by
    rw [List.length_take] at hj
    have := h j (by omega)
    rw [List.getD_eq_getElem?_getD, List.getElem?_take, if_pos (by omega), ← List.getD_eq_getElem?_getD]; exact this
  have h1 := numl_range hb
  have h2 := two_pow_le (n := (b.take k).length) (m := 48) (by rw [List.length_take]; omega)
  have e : (2 : Int) ^ 48 = 281474976710656 := rfl
  omega
theorem bytesl_get {b : List Int} {k : Nat} (h : k < b.length / 8) : (bytesl b)[k]? = some (numl ((b.drop (8 * k)).take 8)) := by simp [bytesl, h]
theorem bytesl_take {b : List Int} {k : Nat} (h : k < b.length / 8) : (bytesl b).take (k + 1) = (bytesl b).take k ++ [numl ((b.drop (8 * k)).take 8)] := by
  rw [List.take_add_one, bytesl_get h]; rfl
theorem isBits_parts {b : List Int} {k : Nat} (h : isBits (b.take (8 * k))) (h2 : isBits ((b.drop (8 * k)).take 8)) : isBits (b.take (8 * (k + 1))) := by
  rw [show 8 * (k + 1) = 8 * k + 8 by omega, List.take_add]; exact isBits_app.2 ⟨h, h2⟩
end Go.Pl

/- Plain numbers: blocks read. -/
namespace Go.Pl
theorem fn_code0 {s : ByteArray} {f : Fs} {chk : Int → Int} (h : (fnS s f chk).code = 0) : f.code = 0 ∧ chk (fnV s f chk) = 0 ∧ ueE s f.a = 0 ∧ fnV s f chk = ueV s f.a := by
  by_cases h0 : f.code = 0
  · by_cases h1 : ueE s f.a = 0
    · by_cases h2 : chk (ueV s f.a) = 0
      · have e := fn_ok h0 h1 h2
        exact ⟨h0, by rw [e.2]; exact h2, h1, e.2⟩
      · rw [(fn_bad h0 h1 h2).1] at h; exact absurd h h2
    · rw [(fn_short (chk := chk) h0 h1).1] at h; exact absurd h h1
  · rw [(fn_err h0).1] at h; exact absurd h h0
theorem lv_room {s : ByteArray} {N : Int} {v : Lv} (hv : lvOk N v) (h : (lvF2 s N v).code = 0) : 0 ≤ lvP s N v ∧ lvP s N v < N := by
  have h1 := (fn_code0 h).1
  have h2 := fn_code0 (show (fnS s v.f (kLt (N - v.p))).code = 0 from h1)
  have h3 := kLt_le h2.2.1
  have h4 := fnV_range s v.f (kLt (N - v.p))
  obtain ⟨h5, h6, h7⟩ := hv
  unfold lvP; omega
theorem lvOk_step {s : ByteArray} {N : Int} {v : Lv} (hv : lvOk N v) : lvOk N (lvStep s N v) := by
  unfold lvStep
  split
  · next h =>
    have h1 := lv_room hv h
    exact ⟨by show 0 ≤ lvP s N v + 1; omega, by show lvP s N v + 1 ≤ N; omega, by rw [List.length_set]; exact hv.2.2⟩
  · have h1 := lvP_range (s := s) hv
    exact ⟨by show 0 ≤ lvP s N v; have := hv.1; omega, h1.2, hv.2.2⟩
def lv0 (f : Fs) (N : Int) : Lv := ⟨f, 0, List.replicate N.toNat 0⟩
theorem lv0_ok {f : Fs} {N : Int} (h : 0 ≤ N) : lvOk N (lv0 f N) := ⟨Int.le_refl _, h, by unfold lv0; rw [List.length_replicate]; omega⟩
def lvRes (s : ByteArray) (f : Fs) (N : Int) : Lv :=
  if fbV s f 1 k0 = 0 then lv0 (fbS s f 1 k0) N else lvIt s N (lv0 (fnS s (fbS s f 1 k0) (kLt N)) N) (1 + fnV s (fbS s f 1 k0) (kLt N)).toNat
theorem lv_done {s : ByteArray} {N : Int} {v : Lv} {k m : Nat} (hk : k ≤ m) (h : k = m ∨ (lvIt s N v k).f.code ≠ 0) : lvIt s N v m = lvIt s N v k := by
  rcases h with rfl | h
  · rfl
  · obtain ⟨d, rfl⟩ : ∃ d, m = k + d := ⟨m - k, by omega⟩
    exact lvIt_stop h d
theorem lvIt_ok {s : ByteArray} {N : Int} {v : Lv} (hv : lvOk N v) : ∀ k : Nat, lvOk N (lvIt s N v k)
  | 0 => hv
  | k + 1 => by
    rw [lvIt]; split
    · exact lvIt_ok hv k
    · exact lvOk_step (lvIt_ok hv k)
def sizeOk (n : Int) : Prop := n = 4 ∨ n = 8
instance (n : Int) : Decidable (sizeOk n) := by unfold sizeOk; infer_instance
theorem size_sq {n : Int} (h : sizeOk n) : n * n = 16 ∨ n * n = 64 := by rcases h with rfl | rfl <;> simp
def rbkR (s : ByteArray) (a : Int) (xs : List Int) (n : Int) : Lv := lvRes s ⟨rsAt s a xs, 0⟩ (n * n)
def rbkE (s : ByteArray) (a : Int) (xs : List Int) (n : Int) : Int := if ¬ sizeOk n then 5 else if rsE s a xs ≠ 0 then rsE s a xs else (rbkR s a xs n).f.code
def rbkA (s : ByteArray) (a : Int) (xs : List Int) (n : Int) : Int := if ¬ sizeOk n then a else if rsE s a xs ≠ 0 then a else (rbkR s a xs n).f.a
def rbkM (s : ByteArray) (a : Int) (xs : List Int) (n : Int) : Int := if rbkE s a xs n = 0 then rsV s a xs else 0
def rbkL (s : ByteArray) (a : Int) (xs : List Int) (n : Int) : List Int := if rbkE s a xs n = 0 then (rbkR s a xs n).l else []
section
variable {s : ByteArray} {a : Int} {xs : List Int} {n : Int}
theorem rbk_size (h : ¬ sizeOk n) : rbkE s a xs n = 5 ∧ rbkA s a xs n = a ∧ rbkM s a xs n = 0 ∧ rbkL s a xs n = [] := by
  have e : rbkE s a xs n = 5 := if_pos h
  exact ⟨e, if_pos h, by unfold rbkM; rw [e]; rfl, by unfold rbkL; rw [e]; rfl⟩
theorem rbk_sym (h : sizeOk n) (h1 : rsE s a xs ≠ 0) : rbkE s a xs n = rsE s a xs ∧ rbkA s a xs n = a ∧ rbkM s a xs n = 0 ∧ rbkL s a xs n = [] := by
  have e : rbkE s a xs n = rsE s a xs := by unfold rbkE; rw [if_neg (fun h2 => h2 h), if_pos h1]
  exact ⟨e, by unfold rbkA; rw [if_neg (fun h2 => h2 h), if_pos h1], by unfold rbkM; rw [e, if_neg h1], by unfold rbkL; rw [e, if_neg h1]⟩
theorem rbk_lv (h : sizeOk n) (h1 : rsE s a xs = 0) : rbkE s a xs n = (rbkR s a xs n).f.code ∧ rbkA s a xs n = (rbkR s a xs n).f.a := by
  exact ⟨by unfold rbkE; rw [if_neg (fun h2 => h2 h), if_neg (fun h2 => h2 h1)], by unfold rbkA; rw [if_neg (fun h2 => h2 h), if_neg (fun h2 => h2 h1)]⟩
theorem rbk_bad (h : rbkE s a xs n ≠ 0) : rbkM s a xs n = 0 ∧ rbkL s a xs n = [] := ⟨if_neg h, if_neg h⟩
theorem rbk_good (h : rbkE s a xs n = 0) : rbkM s a xs n = rsV s a xs ∧ rbkL s a xs n = (rbkR s a xs n).l := ⟨if_pos h, if_pos h⟩
theorem rsAt_bad (h : rsE s a xs ≠ 0) : rsAt s a xs = a := by
  unfold rsAt; rw [if_neg]
  intro h1; apply h; unfold rsE; rw [if_pos h1.1, if_pos h1]
theorem lvRes_len (f : Fs) {N : Int} (h : 0 ≤ N) : ((lvRes s f N).l.length : Int) = N := by
  unfold lvRes; split
  · exact (lv0_ok h).2.2
  · exact (lvIt_ok (lv0_ok h) _).2.2
theorem rbkL_len (h : sizeOk n ∨ True) : ((rbkL s a xs n).length : Int) ≤ 64 := by
  unfold rbkL; split
  · next h5 =>
    by_cases hz : sizeOk n
    · have e := size_sq hz
      have := lvRes_len (s := s) (N := n * n) ⟨rsAt s a xs, 0⟩ (by omega)
      unfold rbkR; omega
    · rw [(rbk_size hz).1] at h5; omega
  · simp
end
def fhOk (s : ByteArray) (c : Ca) (t : List (Int × Int)) : Prop := caOk s c ∧ t = ueTab
instance (s : ByteArray) (c : Ca) (t : List (Int × Int)) : Decidable (fhOk s c t) := by unfold fhOk; infer_instance
theorem hdL_len (s : ByteArray) (a : Int) : (hdL s a).length ≤ 6 := by unfold hdL; split <;> simp [lens6_length]
end Go.Pl
namespace Go.Pl
theorem lvRes_zero {s : ByteArray} {f : Fs} {N : Int} (h : fbV s f 1 k0 = 0) : lvRes s f N = lv0 (fbS s f 1 k0) N := if_pos h
theorem lvRes_more {s : ByteArray} {f : Fs} {N : Int} (h : fbV s f 1 k0 ≠ 0) : lvRes s f N = lvIt s N (lv0 (fnS s (fbS s f 1 k0) (kLt N)) N) (1 + fnV s (fbS s f 1 k0) (kLt N)).toNat := if_neg h
end Go.Pl

/- Plain numbers: headers read are right; headers' bits. -/
namespace Go.Pl
theorem unl_zero {p : Prop} [Decidable p] {c : Int} (hc : c ≠ 0) (h : unl p c = 0) : p := by
  unfold unl at h; split at h
  · assumption
  · exact absurd h hc
theorem fb_code0 {s : ByteArray} {f : Fs} {n : Int} {chk : Int → Int} (h : (fbS s f n chk).code = 0) : f.code = 0 ∧ chk (fbV s f n chk) = 0 ∧ rbOk s f.a n := by
  by_cases h0 : f.code = 0
  · by_cases h1 : rbOk s f.a n
    · by_cases h2 : chk (rbV s f.a n) = 0
      · have e := fb_ok h0 h1 h2
        exact ⟨h0, by rw [e.2]; exact h2, h1⟩
      · rw [(fb_bad h0 h1 h2).1] at h; exact absurd h h2
    · rw [(fb_short (chk := chk) h0 h1).1] at h; exact absurd (show (1 : Int) = 0 from h) (by decide)
  · rw [(fb_err h0).1] at h; exact absurd h h0
theorem rh_head {s : ByteArray} {a : Int} (h : (rh6 s a).code = 0) : headOk (hdW s a) (hdH s a) (hdQ s a) (hdL s a) := by
  obtain ⟨d1, d2, d3, _, _, d6⟩ := hd_yes h
  have h6 := fb_code0 h
  have h5 := fb_code0 (show (fbS s (rh4 s a) 2 k0).code = 0 from h6.1)
  have h4 := fb_code0 (show (fbS s (rh3 s a) 6 k51).code = 0 from h5.1)
  have h3 := fn_code0 (show (fnS s (rh2 s a) k3).code = 0 from h4.1)
  have h2 := fn_code0 (show (fnS s (rh1 s a) k3).code = 0 from h3.1)
  have b1 : rhW s a ≤ 3 := unl_zero (by decide) h2.2.1
  have b2 : rhH s a ≤ 3 := unl_zero (by decide) h3.2.1
  have b3 : rhQ s a ≤ 51 := unl_zero (by decide) h4.2.1
  have b4 : codeOk (lens6 (rhL s a) 6) := unl_zero (by decide) h6.2.1
  have c1 : 0 ≤ rhW s a := (fnV_range s (rh1 s a) k3).1
  have c2 : 0 ≤ rhH s a := (fnV_range s (rh2 s a) k3).1
  have c3 : 0 ≤ rhQ s a := (fbV_range s (rh3 s a) 6 k51).1
  rw [d1, d2, d3, d6]
  refine ⟨⟨?_, ?_, ?_, ?_⟩, ⟨c3, b3⟩, b4⟩ <;> omega
end Go.Pl

/- Plain numbers: bits put, texts ended. -/
namespace Go.Pl
theorem stopped_bits {x : List Int} (h : isBits x) : isBits (pad8 (x ++ [1])) := pad8_bits.2 (isBits_app.2 ⟨h, fun y hy => by simp at hy; omega⟩)
def putOk (b : List Int) (n w : Int) : Prop := (0 ≤ w ∧ w ≤ 32) ∧ 0 ≤ n ∧ n / 2 ^ w.toNat = 0 ∧ (b.length : Int) + w ≤ 200000
instance (b : List Int) (n w : Int) : Decidable (putOk b n w) := by unfold putOk; infer_instance
theorem stopped_ne {x : List Int} (h : stopped x ≠ ⟨#[]⟩) : isBits x := Classical.byContradiction fun h2 => h (stopped_no h2)
end Go.Pl

/- Plain numbers: numbers by the table are numbers bit by bit. -/
namespace Go.Pl
end Go.Pl

/- Plain numbers: macroblocks read. -/
namespace Go.Pl
structure Rm where
  a : Int
  code : Int
  bs : List (Int × List Int)
def rmStep (s : ByteArray) (xs : List Int) (n : Int) (v : Rm) : Rm :=
  if rbkE s v.a xs n ≠ 0 then ⟨rbkA s v.a xs n, rbkE s v.a xs n, []⟩ else ⟨rbkA s v.a xs n, 0, v.bs ++ [(rbkM s v.a xs n, rbkL s v.a xs n)]⟩
def rmIt (s : ByteArray) (xs : List Int) (n a : Int) : Nat → Rm
  | 0 => ⟨a, 0, []⟩
  | k + 1 => if (rmIt s xs n a k).code ≠ 0 then rmIt s xs n a k else rmStep s xs n (rmIt s xs n a k)
def manyB (e : Bool) : Nat := if e then 1 else 4
def rmF (s : ByteArray) (a : Int) : Bool := decide (rbV s a 1 = 1)
def rmR (s : ByteArray) (a : Int) (xs : List Int) : Rm :=
  if rbOk s a 1 then rmIt s xs (side (rmF s a)) (rbAt s a 1) (manyB (rmF s a)) else ⟨a, 1, []⟩
def rmG (s : ByteArray) (a : Int) (xs : List Int) : Bool := decide ((rmR s a xs).code = 0 ∧ rbV s a 1 = 1)
theorem rm_short {s : ByteArray} {a : Int} {xs : List Int} (h : ¬ rbOk s a 1) : rmR s a xs = ⟨a, 1, []⟩ ∧ rmG s a xs = false := by
  have e : rmR s a xs = ⟨a, 1, []⟩ := if_neg h
  refine ⟨e, decide_eq_false ?_⟩
  rw [e]; exact fun h2 => absurd (show (1 : Int) = 0 from h2.1) (by decide)
theorem rm_yes {s : ByteArray} {a : Int} {xs : List Int} (h : rbOk s a 1) : rmR s a xs = rmIt s xs (side (rmF s a)) (rbAt s a 1) (manyB (rmF s a)) := if_pos h
theorem rmIt_next {s : ByteArray} {xs : List Int} {n a : Int} {k : Nat} (h : (rmIt s xs n a k).code = 0) : rmIt s xs n a (k + 1) = rmStep s xs n (rmIt s xs n a k) := by
  simp only [rmIt]; rw [if_neg (fun h2 => h2 h)]
theorem rmIt_stop {s : ByteArray} {xs : List Int} {n a : Int} {k : Nat} (h : (rmIt s xs n a k).code ≠ 0) : ∀ m : Nat, rmIt s xs n a (k + m) = rmIt s xs n a k
  | 0 => rfl
  | m + 1 => by
    have ih := rmIt_stop h m
    show rmIt s xs n a ((k + m) + 1) = _
    simp only [rmIt]
    rw [ih, if_pos h]
theorem rm_fail {s : ByteArray} {xs : List Int} {n a : Int} {k N : Nat} (h : (rmIt s xs n a k).code = 0) (he : rbkE s (rmIt s xs n a k).a xs n ≠ 0) (hk : k < N) :
    rmIt s xs n a N = ⟨rbkA s (rmIt s xs n a k).a xs n, rbkE s (rmIt s xs n a k).a xs n, []⟩ := by
  have e1 : rmIt s xs n a (k + 1) = ⟨rbkA s (rmIt s xs n a k).a xs n, rbkE s (rmIt s xs n a k).a xs n, []⟩ := by
    rw [rmIt_next h]; unfold rmStep; rw [if_pos he]
  obtain ⟨m, rfl⟩ : ∃ m, N = (k + 1) + m := ⟨N - (k + 1), by omega⟩
  rw [rmIt_stop (by rw [e1]; exact he), e1]
theorem rm_go {s : ByteArray} {xs : List Int} {n a : Int} {k : Nat} (h : (rmIt s xs n a k).code = 0) (he : rbkE s (rmIt s xs n a k).a xs n = 0) :
    rmIt s xs n a (k + 1) = ⟨rbkA s (rmIt s xs n a k).a xs n, 0, (rmIt s xs n a k).bs ++ [(rbkM s (rmIt s xs n a k).a xs n, rbkL s (rmIt s xs n a k).a xs n)]⟩ := by
  rw [rmIt_next h]; unfold rmStep; rw [if_neg (fun h2 => h2 he)]
theorem rmIt_bs {s : ByteArray} {xs : List Int} {n a : Int} (k : Nat) : (rmIt s xs n a k).bs.length ≤ k ∧ ∀ b ∈ (rmIt s xs n a k).bs, b.2.length ≤ 64 := by
  induction k with
  | zero => simp [rmIt]
  | succ k ih =>
    simp only [rmIt]
    split
    · exact ⟨by omega, ih.2⟩
    · unfold rmStep
      split
      · simp
      · refine ⟨by simp only [List.length_append, List.length_cons, List.length_nil]; omega, fun b hb => ?_⟩
        rcases List.mem_append.1 hb with h | h
        · exact ih.2 b h
        · obtain rfl := List.mem_singleton.1 h
          have := rbkL_len (s := s) (a := (rmIt s xs n a k).a) (xs := xs) (n := n) (.inr trivial)
          show (rbkL _ _ _ _).length ≤ 64; omega
theorem manyB_le (e : Bool) : manyB e ≤ 4 := by cases e <;> decide
theorem rmR_bs (s : ByteArray) (a : Int) (xs : List Int) : (rmR s a xs).bs.length ≤ 4 ∧ ∀ b ∈ (rmR s a xs).bs, b.2.length ≤ 64 := by
  unfold rmR; split
  · have h := rmIt_bs (s := s) (xs := xs) (n := side (rmF s a)) (a := rbAt s a 1) (manyB (rmF s a))
    have := manyB_le (rmF s a)
    exact ⟨by omega, h.2⟩
  · simp
theorem rmF_no {s : ByteArray} {a : Int} {xs : List Int} (h : (rmR s a xs).code ≠ 0) : rmG s a xs = false := decide_eq_false fun h2 => h h2.1
theorem rmG_yes {s : ByteArray} {a : Int} {xs : List Int} (h : (rmR s a xs).code = 0) : rmG s a xs = rmF s a := by
  unfold rmG rmF; exact decide_eq_decide.2 ⟨fun h2 => h2.2, fun h2 => ⟨h, h2⟩⟩
end Go.Pl
namespace Go.Pl
theorem manyB_cast (e : Bool) : (manyB e : Int) = manyOf e := by cases e <;> rfl
end Go.Pl

/- Plain numbers: streams read. -/
namespace Go.Pl
structure Pm where
  a : Int
  code : Int
  ms : List PM
def pmStep (s : ByteArray) (xs : List Int) (v : Pm) : Pm :=
  if (rmR s v.a xs).code ≠ 0 then ⟨(rmR s v.a xs).a, (rmR s v.a xs).code, []⟩ else ⟨(rmR s v.a xs).a, 0, v.ms ++ [(rmG s v.a xs, (rmR s v.a xs).bs)]⟩
def pmIt (s : ByteArray) (xs : List Int) (a : Int) : Nat → Pm
  | 0 => ⟨a, 0, []⟩
  | k + 1 => if (pmIt s xs a k).code ≠ 0 then pmIt s xs a k else pmStep s xs (pmIt s xs a k)
def prN (s : ByteArray) : Nat := (hdW s 0 / 8 * (hdH s 0 / 8)).toNat
def prI (s : ByteArray) (k : Nat) : Pm := pmIt s (hdL s 0) (rh6 s 0).a k
def prR (s : ByteArray) : Pm :=
  if (rh6 s 0).code ≠ 0 then ⟨(rh6 s 0).a, (rh6 s 0).code, []⟩
  else if (prI s (prN s)).code ≠ 0 then prI s (prN s)
  else if stopOf s (prI s (prN s)).a ≠ 0 then ⟨(prI s (prN s)).a, stopOf s (prI s (prN s)).a, []⟩ else prI s (prN s)
def prW (s : ByteArray) : Int := if (prR s).code = 0 then hdW s 0 else 0
def prH (s : ByteArray) : Int := if (prR s).code = 0 then hdH s 0 else 0
def prQ (s : ByteArray) : Int := if (prR s).code = 0 then hdQ s 0 else 0
def prB (s : ByteArray) : Bool := if (prR s).code = 0 then hdB s 0 else false
def prD (s : ByteArray) : Bool := if (prR s).code = 0 then hdD s 0 else false
def prL (s : ByteArray) : List Int := if (prR s).code = 0 then hdL s 0 else []
def prM (s : ByteArray) : List PM := if (prR s).code = 0 then (prR s).ms else []
theorem pr_bad {s : ByteArray} (h : (prR s).code ≠ 0) : prW s = 0 ∧ prH s = 0 ∧ prQ s = 0 ∧ prB s = false ∧ prD s = false ∧ prL s = [] ∧ prM s = [] := by
  simp only [prW, prH, prQ, prB, prD, prL, prM, if_neg h, and_self]
theorem pr_good {s : ByteArray} (h : (prR s).code = 0) : prW s = hdW s 0 ∧ prH s = hdH s 0 ∧ prQ s = hdQ s 0 ∧ prB s = hdB s 0 ∧ prD s = hdD s 0 ∧ prL s = hdL s 0 ∧ prM s = (prR s).ms := by
  simp only [prW, prH, prQ, prB, prD, prL, prM, if_pos h, and_self]
theorem pr_head {s : ByteArray} (h : (rh6 s 0).code ≠ 0) : prR s = ⟨(rh6 s 0).a, (rh6 s 0).code, []⟩ := if_pos h
theorem pmIt_next {s : ByteArray} {xs : List Int} {a : Int} {k : Nat} (h : (pmIt s xs a k).code = 0) : pmIt s xs a (k + 1) = pmStep s xs (pmIt s xs a k) := by
  simp only [pmIt]; rw [if_neg (fun h2 => h2 h)]
theorem pmIt_stop {s : ByteArray} {xs : List Int} {a : Int} {k : Nat} (h : (pmIt s xs a k).code ≠ 0) : ∀ m : Nat, pmIt s xs a (k + m) = pmIt s xs a k
  | 0 => rfl
  | m + 1 => by
    have ih := pmIt_stop h m
    show pmIt s xs a ((k + m) + 1) = _
    simp only [pmIt]
    rw [ih, if_pos h]
theorem pm_fail {s : ByteArray} {xs : List Int} {a : Int} {k N : Nat} (h : (pmIt s xs a k).code = 0) (he : (rmR s (pmIt s xs a k).a xs).code ≠ 0) (hk : k < N) :
    pmIt s xs a N = ⟨(rmR s (pmIt s xs a k).a xs).a, (rmR s (pmIt s xs a k).a xs).code, []⟩ := by
  have e1 : pmIt s xs a (k + 1) = ⟨(rmR s (pmIt s xs a k).a xs).a, (rmR s (pmIt s xs a k).a xs).code, []⟩ := by
    rw [pmIt_next h]; unfold pmStep; rw [if_pos he]
  obtain ⟨m, rfl⟩ : ∃ m, N = (k + 1) + m := ⟨N - (k + 1), by omega⟩
  rw [pmIt_stop (by rw [e1]; exact he), e1]
theorem pm_go {s : ByteArray} {xs : List Int} {a : Int} {k : Nat} (h : (pmIt s xs a k).code = 0) (he : (rmR s (pmIt s xs a k).a xs).code = 0) :
    pmIt s xs a (k + 1) = ⟨(rmR s (pmIt s xs a k).a xs).a, 0, (pmIt s xs a k).ms ++ [(rmG s (pmIt s xs a k).a xs, (rmR s (pmIt s xs a k).a xs).bs)]⟩ := by
  rw [pmIt_next h]; unfold pmStep; rw [if_neg (fun h2 => h2 he)]
theorem pr_fail {s : ByteArray} {k : Nat} (h : (rh6 s 0).code = 0) (hc : (prI s k).code = 0) (he : (rmR s (prI s k).a (hdL s 0)).code ≠ 0) (hk : k < prN s) :
    prR s = ⟨(rmR s (prI s k).a (hdL s 0)).a, (rmR s (prI s k).a (hdL s 0)).code, []⟩ := by
  have e : prI s (prN s) = _ := pm_fail hc he hk
  unfold prR; rw [if_neg (fun h2 => h2 h), if_pos (by rw [e]; exact he), e]; rfl
theorem pr_stop {s : ByteArray} {k : Nat} (h : (rh6 s 0).code = 0) (hc : (prI s k).code = 0) (hk : k = prN s) (hs : stopOf s (prI s k).a ≠ 0) :
    prR s = ⟨(prI s k).a, stopOf s (prI s k).a, []⟩ := by
  subst hk
  unfold prR; rw [if_neg (fun h2 => h2 h), if_neg (fun h2 => h2 hc), if_pos hs]
theorem pr_end {s : ByteArray} {k : Nat} (h : (rh6 s 0).code = 0) (hc : (prI s k).code = 0) (hk : k = prN s) (hs : stopOf s (prI s k).a = 0) : prR s = prI s k := by
  subst hk
  unfold prR; rw [if_neg (fun h2 => h2 h), if_neg (fun h2 => h2 hc), if_neg (fun h2 => h2 hs)]
def smallP (m : PM) : Prop := m.2.length ≤ 4 ∧ ∀ b ∈ m.2, b.2.length ≤ 64
theorem pmIt_ms {s : ByteArray} {xs : List Int} {a : Int} (k : Nat) : (pmIt s xs a k).ms.length ≤ k ∧ ∀ m ∈ (pmIt s xs a k).ms, smallP m := by
  induction k with
  | zero => simp [pmIt]
  | succ k ih =>
    simp only [pmIt]
    split
    · exact ⟨by omega, ih.2⟩
    · unfold pmStep
      split
      · simp
      · refine ⟨by simp only [List.length_append, List.length_cons, List.length_nil]; omega, fun m hm => ?_⟩
        rcases List.mem_append.1 hm with h | h
        · exact ih.2 m h
        · obtain rfl := List.mem_singleton.1 h
          exact rmR_bs s _ xs
theorem prN_le (s : ByteArray) : prN s ≤ 16 := by
  unfold prN
  by_cases h : (rh6 s 0).code = 0
  · have := many_range (rh_head h).1; omega
  · obtain ⟨e1, _⟩ := hd_no h; rw [e1]; simp
theorem prM_ms (s : ByteArray) : (prM s).length ≤ 16 ∧ ∀ m ∈ prM s, smallP m := by
  unfold prM; split
  · unfold prR; split
    · simp
    · split
      · have h := pmIt_ms (s := s) (xs := hdL s 0) (a := (rh6 s 0).a) (prN s); have := prN_le s; exact ⟨by unfold prI; omega, h.2⟩
      · split
        · simp
        · have h := pmIt_ms (s := s) (xs := hdL s 0) (a := (rh6 s 0).a) (prN s); have := prN_le s; exact ⟨by unfold prI; omega, h.2⟩
  · simp
theorem prL_len (s : ByteArray) : (prL s).length ≤ 6 := by
  unfold prL; split
  · exact hdL_len s 0
  · simp
end Go.Pl

/- Plain numbers: scans, steps, transforms. -/
namespace Go.Pl
def accP (T : Nat → Nat → Int) (q : Nat) : Nat → Int
  | 0 => 0
  | i + 1 => accP T q i + T q i
def accS (T : Nat → Nat → Int) (N n q0 i : Nat) : List Int := (List.range N).map fun q => if q < q0 then accP T q n else if q = q0 then accP T q i else 0
def accL (T : Nat → Nat → Int) (N n : Nat) : List Int := (List.range N).map fun q => accP T q n
theorem accS_length (T : Nat → Nat → Int) (N n q0 i : Nat) : (accS T N n q0 i).length = N := by simp [accS]
theorem accL_length (T : Nat → Nat → Int) (N n : Nat) : (accL T N n).length = N := by simp [accL]
theorem accS_zero (T : Nat → Nat → Int) (N n : Nat) : accS T N n 0 0 = List.replicate N 0 := by
  have e : ∀ q ∈ List.range N, (if q < 0 then accP T q n else if q = 0 then accP T q 0 else 0) = 0 := by
    intro q _
    rw [if_neg (Nat.not_lt_zero q)]; split <;> rfl
  unfold accS
  rw [List.map_congr_left e, List.map_const', List.length_range]
theorem accS_next (T : Nat → Nat → Int) (N n q0 : Nat) : accS T N n q0 n = accS T N n (q0 + 1) 0 := by
  unfold accS
  refine List.map_congr_left fun q _ => ?_
  by_cases h : q < q0
  · rw [if_pos h, if_pos (by omega)]
  · rw [if_neg h]
    by_cases h2 : q = q0
    · rw [if_pos h2, if_pos (by omega)]
    · rw [if_neg h2, if_neg (by omega)]
      split <;> rfl
theorem accS_end (T : Nat → Nat → Int) {N n q0 i : Nat} (h : N ≤ q0) : accS T N n q0 i = accL T N n := by
  unfold accS accL
  refine List.map_congr_left fun q hq => ?_
  rw [if_pos (by have := List.mem_range.1 hq; omega)]
theorem accS_get (T : Nat → Nat → Int) {N n q0 i : Nat} (h : q0 < N) : (accS T N n q0 i).getD q0 0 = accP T q0 i := by
  simp [accS, List.getD, h]
theorem accL_get (T : Nat → Nat → Int) {N n q : Nat} (h : q < N) : (accL T N n).getD q 0 = accP T q n := by
  simp [accL, List.getD, h]
theorem accS_set (T : Nat → Nat → Int) {N n q0 i : Nat} {v : Int} (h : q0 < N) (hv : v = accP T q0 i + T q0 i) : (accS T N n q0 i).set q0 v = accS T N n q0 (i + 1) := by
  apply List.ext_getElem?
  intro j
  rw [List.getElem?_set, accS_length]
  unfold accS
  by_cases hj : j < N
  · rw [List.getElem?_map, List.getElem?_map, List.getElem?_range hj]
    by_cases e : q0 = j
    · subst e; rw [if_pos rfl, if_pos hj]; simp [accP, hv]
    · rw [if_neg e]
      simp only [Option.map_some]
      congr 1
      rw [if_neg (c := j = q0) (by omega), if_neg (c := j = q0) (by omega)]
  · rw [List.getElem?_eq_none (by simp; omega)]
    by_cases e : q0 = j
    · omega
    · rw [if_neg e, List.getElem?_eq_none (by simp; omega)]
theorem accP_range {T : Nat → Nat → Int} {q : Nat} {B : Int} {n : Nat} (h : ∀ j, j < n → -B ≤ T q j ∧ T q j ≤ B) : -((n : Int) * B) ≤ accP T q n ∧ accP T q n ≤ (n : Int) * B := by
  induction n with
  | zero => simp [accP]
  | succ n ih =>
    have h1 := ih fun j hj => h j (by omega)
    have h2 := h n (by omega)
    have e : ((n + 1 : Nat) : Int) * B = (n : Int) * B + B := by rw [show ((n + 1 : Nat) : Int) = (n : Int) + 1 by omega, Int.add_mul, Int.one_mul]
    simp only [accP]; omega
theorem qdiv {r n k : Nat} (hk : k < n) : (r * n + k) / n = r ∧ (r * n + k) % n = k := by
  have hn : 0 < n := by omega
  refine ⟨?_, ?_⟩
  · rw [Nat.mul_comm, Nat.mul_add_div hn, Nat.div_eq_of_lt hk, Nat.add_zero]
  · rw [Nat.mul_comm, Nat.mul_add_mod, Nat.mod_eq_of_lt hk]
theorem q_lt {r n k : Nat} (hr : r < n) (hk : k < n) : r * n + k < n * n := by
  have h : (r + 1) * n ≤ n * n := Nat.mul_le_mul_right n hr
  rw [Nat.add_mul, Nat.one_mul] at h; omega
def mt (m : List (List Int)) (r i : Nat) : Int := (m.getD r []).getD i 0
def T1 (M : Nat → Nat → Int) (l : List Int) (n q j : Nat) : Int := M (q / n) j * l.getD (j * n + q % n) 0
def T2 (M : Nat → Nat → Int) (h : List Int) (n q j : Nat) : Int := h.getD (q / n * n + j) 0 * M (q % n) j
def halfL (M : Nat → Nat → Int) (l : List Int) (n : Nat) : List Int := accL (T1 M l n) (n * n) n
def prodL (M : Nat → Nat → Int) (l : List Int) (n : Nat) : List Int := accL (T2 M (halfL M l n) n) (n * n) n
def smallMt (M : Nat → Nat → Int) (n : Nat) : Prop := ∀ r i, r < n → i < n → -2 ≤ M r i ∧ M r i ≤ 2
def inW (l : List Int) (B : Int) : Prop := ∀ i : Nat, -B ≤ l.getD i 0 ∧ l.getD i 0 ≤ B
theorem mul_small {a b B : Int} (ha : -2 ≤ a ∧ a ≤ 2) (hb : -B ≤ b ∧ b ≤ B) : -(2 * B) ≤ a * b ∧ a * b ≤ 2 * B := by
  obtain rfl | rfl | rfl | rfl | rfl : a = -2 ∨ a = -1 ∨ a = 0 ∨ a = 1 ∨ a = 2 := by omega
  all_goals omega
theorem T1_range {M : Nat → Nat → Int} {l : List Int} {n q j : Nat} (hm : smallMt M n) (hl : inW l 1000000000) (hq : q < n * n) (hj : j < n) : -2000000000 ≤ T1 M l n q j ∧ T1 M l n q j ≤ 2000000000 := by
  have h1 := hm (q / n) j (Nat.div_lt_of_lt_mul hq) hj
  have h2 := mul_small h1 (hl (j * n + q % n))
  unfold T1; omega
theorem half_range {M : Nat → Nat → Int} {l : List Int} {n : Nat} (hm : smallMt M n) (hl : inW l 1000000000) (hn : n ≤ 8) : inW (halfL M l n) 16000000000 := by
  intro i
  by_cases hi : i < n * n
  · unfold halfL; rw [accL_get _ hi]
    have h := accP_range (T := T1 M l n) (q := i) (B := 2000000000) (n := n) fun j hj => T1_range hm hl hi hj
    omega
  · rw [List.getD_eq_getElem?_getD, List.getElem?_eq_none (by unfold halfL; rw [accL_length]; omega)]; simp
theorem T2_range {M : Nat → Nat → Int} {h : List Int} {n q j : Nat} (hm : smallMt M n) (hl : inW h 16000000000) (hj : j < n) : -32000000000 ≤ T2 M h n q j ∧ T2 M h n q j ≤ 32000000000 := by
  have h1 := hm (q % n) j (Nat.mod_lt _ (by omega)) hj
  have h2 := mul_small h1 (hl (q / n * n + j))
  unfold T2; rw [Int.mul_comm]; omega
def matA : List (List Int) := [[1, 1, 1, 1], [2, 1, -1, -2], [1, -1, -1, 1], [1, -2, 2, -1]]
def pop3 (x : Nat) : Nat := x % 2 + x / 2 % 2 + x / 4 % 2
def hEnt (r k : Nat) : Int := 1 - 2 * (((pop3 (r &&& k) : Nat) : Int) % 2)
def mAt (r k : Nat) : Int := mt matA k r
theorem mAt_small : smallMt mAt 4 := by
  intro r i hr hi
  obtain rfl | rfl | rfl | rfl : r = 0 ∨ r = 1 ∨ r = 2 ∨ r = 3 := by omega
  all_goals (obtain rfl | rfl | rfl | rfl : i = 0 ∨ i = 1 ∨ i = 2 ∨ i = 3 := by omega) <;> decide
theorem hEnt_small : smallMt hEnt 8 := by
  intro r i hr hi
  unfold hEnt; omega
def tabU (M : Nat → Nat → Int) (n r k : Nat) : List (List Int) := (List.range n).map fun j => if j < r then (List.range n).map (M j) else if j = r then (List.range k).map (M j) else []
def tabM (M : Nat → Nat → Int) (n : Nat) : List (List Int) := (List.range n).map fun r => (List.range n).map (M r)
theorem tabU_length (M : Nat → Nat → Int) (n r k : Nat) : (tabU M n r k).length = n := by simp [tabU]
theorem tabU_zero (M : Nat → Nat → Int) (n : Nat) : tabU M n 0 0 = List.replicate n [] := by
  have e : ∀ j ∈ List.range n, (if j < 0 then (List.range n).map (M j) else if j = 0 then (List.range 0).map (M j) else []) = [] := by
    intro j _
    rw [if_neg (Nat.not_lt_zero j)]; split <;> rfl
  unfold tabU
  rw [List.map_congr_left e, List.map_const', List.length_range]
theorem tabU_next (M : Nat → Nat → Int) (n r : Nat) : tabU M n r n = tabU M n (r + 1) 0 := by
  unfold tabU
  refine List.map_congr_left fun j _ => ?_
  by_cases h : j < r
  · rw [if_pos h, if_pos (by omega)]
  · rw [if_neg h]
    by_cases h2 : j = r
    · rw [if_pos h2, if_pos (by omega)]
    · rw [if_neg h2, if_neg (by omega)]
      split <;> rfl
theorem tabU_end (M : Nat → Nat → Int) {n r k : Nat} (h : n ≤ r) : tabU M n r k = tabM M n := by
  unfold tabU tabM
  refine List.map_congr_left fun j hj => ?_
  rw [if_pos (by have := List.mem_range.1 hj; omega)]
theorem tabU_get (M : Nat → Nat → Int) {n r k : Nat} (h : r < n) : (tabU M n r k).getD r [] = (List.range k).map (M r) := by
  simp [tabU, List.getD, h]
theorem tabM_get (M : Nat → Nat → Int) {n r : Nat} (h : r < n) : (tabM M n).getD r [] = (List.range n).map (M r) := by
  simp [tabM, List.getD, h]
theorem tabU_set (M : Nat → Nat → Int) {n r k : Nat} {v : Int} (h : r < n) (hv : v = M r k) : (tabU M n r k).set r ((tabU M n r k).getD r [] ++ [v]) = tabU M n r (k + 1) := by
  rw [tabU_get M h]
  apply List.ext_getElem?
  intro j
  rw [List.getElem?_set, tabU_length]
  unfold tabU
  by_cases hj : j < n
  · rw [List.getElem?_map, List.getElem?_map, List.getElem?_range hj]
    by_cases e : r = j
    · subst e; rw [if_pos rfl, if_pos hj]; simp [hv, List.range_succ]
    · rw [if_neg e]
      simp only [Option.map_some]
      congr 1
      rw [if_neg (c := j = r) (by omega), if_neg (c := j = r) (by omega)]
  · rw [List.getElem?_eq_none (by simp; omega)]
    by_cases e : r = j
    · omega
    · rw [if_neg e, List.getElem?_eq_none (by simp; omega)]
theorem row_get (M : Nat → Nat → Int) {n r i : Nat} (hi : i < n) : ((List.range n).map (M r)).getD i 0 = M r i := by simp [List.getD, hi]
theorem T1_at {M : Nat → Nat → Int} {l : List Int} {n r k i : Nat} (hk : k < n) : T1 M l n (r * n + k) i = M r i * l.getD (i * n + k) 0 := by
  unfold T1; rw [(qdiv hk).1, (qdiv hk).2]
theorem T2_at {M : Nat → Nat → Int} {h : List Int} {n r k i : Nat} (hk : k < n) : T2 M h n (r * n + k) i = h.getD (r * n + i) 0 * M k i := by
  unfold T2; rw [(qdiv hk).1, (qdiv hk).2]
def flatM (M : Nat → Nat → Int) (n : Nat) : List Int := (List.range (n * n)).map fun q => M (q / n) (q % n)
theorem flatM_length (M : Nat → Nat → Int) (n : Nat) : (flatM M n).length = n * n := by simp [flatM]
def scCell (n : Int) (d k : Nat) : List Int :=
  if (if (d : Int) % 2 = 0 then (d : Int) - k else k) < n ∧ (d : Int) - (if (d : Int) % 2 = 0 then (d : Int) - k else k) < n then [((d : Int) - (if (d : Int) % 2 = 0 then (d : Int) - k else k)) * n + (if (d : Int) % 2 = 0 then (d : Int) - k else k)] else []
theorem scE {n : Int} {d k : Nat} (h : (d : Int) % 2 = 0) : scCell n d k = if (d : Int) - k < n ∧ (d : Int) - ((d : Int) - k) < n then [((d : Int) - ((d : Int) - k)) * n + ((d : Int) - k)] else [] := by
  unfold scCell; rw [if_pos h]
theorem scO {n : Int} {d k : Nat} (h : ¬ (d : Int) % 2 = 0) : scCell n d k = if (k : Int) < n ∧ (d : Int) - k < n then [((d : Int) - k) * n + k] else [] := by
  unfold scCell; rw [if_neg h]
def scRow (n : Int) (d k : Nat) : List Int := (List.range k).flatMap (scCell n d)
def scN (n : Int) (d : Nat) : List Int := (List.range d).flatMap fun d => scRow n d (d + 1)
def scanOf (n : Int) : List Int := if n = 4 ∨ n = 8 then scN n (2 * n - 1).toNat else []
theorem scRow_succ (n : Int) (d k : Nat) : scRow n d (k + 1) = scRow n d k ++ scCell n d k := by simp [scRow, List.range_succ, List.flatMap_append]
theorem scN_succ (n : Int) (d : Nat) : scN n (d + 1) = scN n d ++ scRow n d (d + 1) := by simp [scN, List.range_succ, List.flatMap_append]
theorem scCell_len (n : Int) (d k : Nat) : (scCell n d k).length ≤ 1 := by
  by_cases h : (d : Int) % 2 = 0
  · rw [scE h]; split <;> simp
  · rw [scO h]; split <;> simp
theorem scRow_len (n : Int) (d k : Nat) : (scRow n d k).length ≤ k := by
  induction k with
  | zero => simp [scRow]
  | succ k ih => have := scCell_len n d k; rw [scRow_succ, List.length_append]; omega
theorem scN_len (n : Int) {d : Nat} (h : d ≤ 15) : (scN n d).length ≤ 16 * d := by
  induction d with
  | zero => simp [scN]
  | succ d ih => have := scRow_len n d (d + 1); have := ih (by omega); rw [scN_succ, List.length_append]; omega
theorem scan_no {n : Int} (h : ¬ (n = 4 ∨ n = 8)) : scanOf n = [] := if_neg h
theorem scan_yes {n : Int} {d : Nat} (h : n = 4 ∨ n = 8) (hd : (d : Int) = 2 * n - 1) : scanOf n = scN n d := by
  unfold scanOf; rw [if_pos h, show (2 * n - 1).toNat = d by omega]
def permL (l : List Int) (N : Nat) : Prop := l.length = N ∧ ∀ i : Nat, i < N → 0 ≤ l.getD i 0 ∧ l.getD i 0 < N
instance (l : List Int) (N : Nat) : Decidable (permL l N) := by unfold permL; infer_instance
theorem scan_perm4 : permL (scanOf 4) 16 := by decide
theorem scan_perm8 : permL (scanOf 8) 64 := by decide
theorem scan_facts {N : Nat} {k : Nat} (h : k < (scanOf (sideOf N)).length) : (scanOf (sideOf N)).length = N ∧ (N = 16 ∨ N = 64) ∧ 0 ≤ (scanOf (sideOf N)).getD k 0 ∧ (scanOf (sideOf N)).getD k 0 < N := by
  unfold sideOf at *
  by_cases h1 : (N : Int) = 16
  · rw [if_pos h1] at h ⊢
    obtain rfl : N = 16 := by omega
    have := scan_perm4
    exact ⟨this.1, .inl rfl, this.2 k (by rw [this.1] at h; exact h)⟩
  · rw [if_neg h1] at h ⊢
    by_cases h2 : (N : Int) = 64
    · rw [if_pos h2] at h ⊢
      obtain rfl : N = 64 := by omega
      have := scan_perm8
      exact ⟨this.1, .inr rfl, this.2 k (by rw [this.1] at h; exact h)⟩
    · rw [if_neg h2] at h ⊢
      rw [scan_no (by omega)] at h; simp at h
theorem scan_len {N : Nat} (h : N = 16 ∨ N = 64) : (scanOf (sideOf N)).length = N := by
  rcases h with rfl | rfl
  · exact scan_perm4.1
  · exact scan_perm8.1
def plK (o l : List Int) (N : Nat) : Nat → List Int
  | 0 => List.replicate N 0
  | k + 1 => (plK o l N k).set (o.getD k 0).toNat (l.getD k 0)
def placed (l : List Int) : List Int := plK (scanOf (sideOf l.length)) l (scanOf (sideOf l.length)).length (scanOf (sideOf l.length)).length
theorem plK_length (o l : List Int) (N k : Nat) : (plK o l N k).length = N := by
  induction k with
  | zero => simp [plK]
  | succ k ih => simp only [plK]; rw [List.length_set]; exact ih
theorem stepOf_le {q : Int} (h : 0 ≤ q ∧ q ≤ 51) : 1 ≤ stepOf q ∧ stepOf q ≤ 448 := by
  have : ∀ k : Nat, k ≤ 51 → 1 ≤ stepOf k ∧ stepOf k ≤ 448 := by decide
  have h1 := this q.toNat (by omega)
  rw [show ((q.toNat : Nat) : Int) = q by omega] at h1
  exact h1
theorem stepOf_no {q : Int} (h : ¬ (0 ≤ q ∧ q ≤ 51)) : stepOf q = 0 := if_neg h
theorem stepOf_rng (q : Int) : 0 ≤ stepOf q ∧ stepOf q ≤ 448 := by
  by_cases h : 0 ≤ q ∧ q ≤ 51
  · have := stepOf_le h; omega
  · rw [stepOf_no h]; omega
def normAt (n i : Int) : Int := if (n = 4 ∨ n = 8) ∧ 0 ≤ i ∧ i ≤ n * n - 1 then (if n = 8 then 1 else if i / 4 % 2 + i % 4 % 2 = 0 then 100 else if i / 4 % 2 + i % 4 % 2 = 2 then 16 else 40) else 0
theorem normAt_range (n i : Int) : 0 ≤ normAt n i ∧ normAt n i ≤ 100 := by
  unfold normAt; split
  · split
    · omega
    · split
      · omega
      · split <;> omega
  · omega
def scaledK (l : List Int) (q : Int) (k : Nat) : List Int := (List.range k).map fun i : Nat => l.getD i 0 * stepOf q * normAt (sideOf l.length) i
def scaled (l : List Int) (q : Int) : List Int := if levelsOk l ∧ stepOf q ≠ 0 then scaledK l q l.length else []
theorem scaledK_succ (l : List Int) (q : Int) (k : Nat) : scaledK l q (k + 1) = scaledK l q k ++ [l.getD k 0 * stepOf q * normAt (sideOf l.length) k] := by simp [scaledK, List.range_succ]
theorem scaledK_length (l : List Int) (q : Int) (k : Nat) : (scaledK l q k).length = k := by simp [scaledK]
def clampW (v : Int) : Int := max (-1000000000000) (min 1000000000000 v)
def rndE (N : Int) (v : Int) : Int := if N = 16 then (clampW v + 800) / 1600 else (clampW v + 32) / 64
def rndK (l : List Int) (k : Nat) : List Int := (List.range k).map fun i : Nat => rndE l.length (l.getD i 0)
def rounded (l : List Int) : List Int := if sideOf l.length = 0 then [] else rndK l l.length
theorem rndK_succ (l : List Int) (k : Nat) : rndK l (k + 1) = rndK l k ++ [rndE l.length (l.getD k 0)] := by simp [rndK, List.range_succ]
theorem rnd_i {N b v : Int} (h : (N = 16 ∧ b = 1600) ∨ (¬ N = 16 ∧ b = 64)) : (max (-1000000000000) (min v 1000000000000) + b / 2) / b = rndE N v := by
  rw [Int.min_comm]
  rcases h with ⟨h, rfl⟩ | ⟨h, rfl⟩
  · unfold rndE clampW; rw [if_pos h]; rfl
  · unfold rndE clampW; rw [if_neg h]; rfl
theorem rndK_length (l : List Int) (k : Nat) : (rndK l k).length = k := by simp [rndK]
theorem plK_range {o l : List Int} {N : Nat} {B : Int} (hB : 0 ≤ B) (h : ∀ i : Nat, -B ≤ l.getD i 0 ∧ l.getD i 0 ≤ B) (k : Nat) : ∀ i : Nat, -B ≤ (plK o l N k).getD i 0 ∧ (plK o l N k).getD i 0 ≤ B := by
  induction k with
  | zero =>
    intro i
    have e : (plK o l N 0).getD i 0 = 0 := by show (List.replicate N (0 : Int)).getD i 0 = 0; rw [List.getD_eq_getElem?_getD, List.getElem?_replicate]; split <;> rfl
    rw [e]; omega
  | succ k ih =>
    intro i
    simp only [plK, List.getD_eq_getElem?_getD, List.getElem?_set]
    split
    · split
      · have := h k; rw [List.getD_eq_getElem?_getD] at this; simpa using this
      · simp; omega
    · have := ih i; rw [List.getD_eq_getElem?_getD] at this; exact this
theorem levels_any {l : List Int} (h : levelsOk l) (i : Nat) : -16383 ≤ l.getD i 0 ∧ l.getD i 0 ≤ 16383 := by
  by_cases hi : i < l.length
  · exact h.1 i hi
  · rw [List.getD_eq_getElem?_getD, List.getElem?_eq_none (by omega)]; simp
theorem levels_size {l : List Int} (h : levelsOk l) : l.length = 16 ∨ l.length = 64 := by have := side_len h.2; omega
theorem placed_len {l : List Int} (h : levelsOk l) : (placed l).length = l.length := by
  unfold placed; rw [plK_length, scan_len (levels_size h)]
theorem placed_ok {l : List Int} (h : levelsOk l) : levelsOk (placed l) := by
  refine ⟨fun j _ => plK_range (by decide) (levels_any h) _ j, ?_⟩
  rw [placed_len h]; exact h.2
def fitsW (l : List Int) (N : Nat) : Prop := l.length = N ∧ allIn (-1000000000) 1000000000 l
instance (l : List Int) (N : Nat) : Decidable (fitsW l N) := by unfold fitsW; infer_instance
theorem fits_inW {l : List Int} {N : Nat} (h : fitsW l N) : inW l 1000000000 := by
  intro i
  by_cases hi : i < l.length
  · exact h.2 i hi
  · rw [List.getD_eq_getElem?_getD, List.getElem?_eq_none (by omega)]; simp
def prodG (M : Nat → Nat → Int) (l : List Int) (n : Nat) : List Int := if fitsW l (n * n) then prodL M l n else []
theorem prodL_length (M : Nat → Nat → Int) (l : List Int) (n : Nat) : (prodL M l n).length = n * n := accL_length _ _ _
theorem prodG_le (M : Nat → Nat → Int) (l : List Int) (n : Nat) : (prodG M l n).length ≤ n * n := by
  unfold prodG; split
  · rw [prodL_length]; exact Nat.le_refl _
  · simp
def residual (q : Int) (byp : Bool) (l : List Int) : List Int :=
  if levelsOk l ∧ 0 ≤ q ∧ q ≤ 51 then (if byp = true then placed l else if l.length = 16 then rounded (prodG mAt (scaled (placed l) q) 4) else rounded (prodG hEnt (scaled (placed l) q) 8)) else []
theorem scaled_len {l : List Int} {q : Int} (h : levelsOk l) (hq : 0 ≤ q ∧ q ≤ 51) : (scaled l q).length = l.length := by
  unfold scaled; rw [if_pos ⟨h, by have := stepOf_le hq; omega⟩, scaledK_length]
theorem scaled_no {l : List Int} {q : Int} (h : ¬ (levelsOk l ∧ stepOf q ≠ 0)) : scaled l q = [] := if_neg h
theorem mul3 {a b c : Int} (ha : -16383 ≤ a ∧ a ≤ 16383) (hb : 0 ≤ b ∧ b ≤ 448) (hc : 0 ≤ c ∧ c ≤ 100) : (-7339584 ≤ a * b ∧ a * b ≤ 7339584) ∧ (-733958400 ≤ a * b * c ∧ a * b * c ≤ 733958400) := by
  have h1 : -(16383 * b) ≤ a * b ∧ a * b ≤ 16383 * b := by
    constructor
    · have := Int.mul_le_mul_of_nonneg_right (show -16383 ≤ a by omega) hb.1; omega
    · exact Int.mul_le_mul_of_nonneg_right ha.2 hb.1
  have h2 : -(7339584 * c) ≤ a * b * c ∧ a * b * c ≤ 7339584 * c := by
    constructor
    · have := Int.mul_le_mul_of_nonneg_right (show -7339584 ≤ a * b by omega) hc.1; omega
    · exact Int.mul_le_mul_of_nonneg_right (show a * b ≤ 7339584 by omega) hc.1
  omega
theorem residual_no {q : Int} {byp : Bool} {l : List Int} (h : ¬ (levelsOk l ∧ 0 ≤ q ∧ q ≤ 51)) : residual q byp l = [] := if_neg h
theorem residual_le (q : Int) (byp : Bool) (l : List Int) : (residual q byp l).length ≤ 64 := by
  unfold residual; split
  · next h =>
    have hs := levels_size h.1
    split
    · rw [placed_len h.1]; omega
    · have hr : ∀ x : List Int, x.length ≤ 64 → (rounded x).length ≤ 64 := by
        intro x hx; unfold rounded; split
        · simp
        · rw [rndK_length]; exact hx
      have hp : ∀ (M : Nat → Nat → Int) (x : List Int) (n : Nat), n * n ≤ 64 → (prodG M x n).length ≤ 64 := by
        intro M x n hn; unfold prodG; split
        · rw [prodL_length]; exact hn
        · simp
      split
      · exact hr _ (hp _ _ 4 (by decide))
      · exact hr _ (hp _ _ 8 (by decide))
  · simp
end Go.Pl

/- Plain numbers: products by sums and differences; sizes of blocks. -/
namespace Go.Pl
def sumN (f : Nat → Int) : Nat → Int
  | 0 => 0
  | k + 1 => sumN f k + f k
end Go.Pl

/- Plain numbers: what lies around a block, predictions, blocks set into frames. -/
namespace Go.Pl
def fitsF (W H : Int) (xs : List Int) (x y n : Int) : Prop := frOk W H xs ∧ (n = 4 ∨ n = 8) ∧ (0 ≤ x ∧ x ≤ W - n) ∧ (0 ≤ y ∧ y ≤ H - n) ∧ x % n = 0 ∧ y % n = 0
theorem pix_in {W H a b : Int} {xs : List Int} (h : frOk W H xs) (ha : 0 ≤ a ∧ a ≤ H - 1) (hb : 0 ≤ b ∧ b ≤ W - 1) : 0 ≤ a * W ∧ a * W ≤ 1024 ∧ 0 ≤ a * W + b ∧ a * W + b < xs.length := by
  obtain ⟨h1, h2, h3, h4, h5⟩ := fr_geo h
  have h6 := sides_mul h.1
  have h7 : 0 ≤ a * W := Int.mul_nonneg ha.1 (by omega)
  have h8 : a * W ≤ (H - 1) * W := Int.mul_le_mul_of_nonneg_right ha.2 (by omega)
  rw [Int.sub_mul, Int.one_mul, Int.mul_comm H W] at h8
  omega
def topV (W x y n : Int) (xs pr : List Int) (i : Nat) : Int := if y = 0 then 128 else if (i : Int) < n ∨ (y % 8 = 0 ∧ x + i < W) then xs.getD ((y - 1) * W + x + i).toNat 0 else pr.getD ((i : Int) - 1).toNat 0
def topK (W x y n : Int) (xs : List Int) : Nat → List Int
  | 0 => []
  | i + 1 => topK W x y n xs i ++ [topV W x y n xs (topK W x y n xs i) i]
theorem topK_length (W x y n : Int) (xs : List Int) (i : Nat) : (topK W x y n xs i).length = i := by
  induction i with
  | zero => rfl
  | succ i ih => simp only [topK, List.length_append, ih, List.length_cons, List.length_nil]
theorem pix_snoc {l : List Int} {v : Int} (h : pixOk l) (hv : 0 ≤ v ∧ v ≤ 255) : pixOk (l ++ [v]) := by
  intro j hj
  rw [List.length_append] at hj
  by_cases h2 : j < l.length
  · have := h j h2
    rw [List.getD_eq_getElem?_getD, List.getElem?_append_left h2, ← List.getD_eq_getElem?_getD]; exact this
  · have e : j = l.length := by simp at hj; omega
    subst e
    rw [List.getD_eq_getElem?_getD, List.getElem?_append_right (Nat.le_refl _)]; simpa using hv
theorem topV_range {W x y n : Int} {xs pr : List Int} {i : Nat} (h : pixOk xs) (hp : pixOk pr) : 0 ≤ topV W x y n xs pr i ∧ topV W x y n xs pr i ≤ 255 := by
  unfold topV
  split
  · omega
  · split
    · exact pix_get h _
    · exact pix_get hp _
theorem topK_pix {W x y n : Int} {xs : List Int} (h : pixOk xs) (i : Nat) : pixOk (topK W x y n xs i) := by
  induction i with
  | zero => intro j hj; simp [topK] at hj
  | succ i ih => exact pix_snoc ih (topV_range h ih)
def leftV (W x y : Int) (xs : List Int) (i : Nat) : Int := if 0 < x then xs.getD ((y + i) * W + x - 1).toNat 0 else 128
def leftK (W x y : Int) (xs : List Int) (k : Nat) : List Int := (List.range k).map (leftV W x y xs)
theorem leftK_length (W x y : Int) (xs : List Int) (k : Nat) : (leftK W x y xs k).length = k := by simp [leftK]
theorem leftK_succ (W x y : Int) (xs : List Int) (k : Nat) : leftK W x y xs (k + 1) = leftK W x y xs k ++ [leftV W x y xs k] := by simp [leftK, List.range_succ]
theorem leftV_range {W x y : Int} {xs : List Int} {i : Nat} (h : pixOk xs) : 0 ≤ leftV W x y xs i ∧ leftV W x y xs i ≤ 255 := by
  unfold leftV; split
  · exact pix_get h _
  · omega
theorem leftK_pix {W x y : Int} {xs : List Int} (h : pixOk xs) (i : Nat) : pixOk (leftK W x y xs i) := by
  induction i with
  | zero => intro j hj; simp [leftK] at hj
  | succ i ih => rw [leftK_succ]; exact pix_snoc ih (leftV_range h)
def cornV (W x y : Int) (xs : List Int) : Int := if 0 < x ∧ 0 < y then xs.getD ((y - 1) * W + x - 1).toNat 0 else 128
theorem cornV_range {W x y : Int} {xs : List Int} (h : pixOk xs) : 0 ≤ cornV W x y xs ∧ cornV W x y xs ≤ 255 := by
  unfold cornV; split
  · exact pix_get h _
  · omega
def nbOk (ts ls : List Int) (cr n : Int) : Prop := (n = 4 ∨ n = 8) ∧ (ts.length : Int) = 2 * n ∧ (ls.length : Int) = n ∧ pixOk ts ∧ pixOk ls ∧ (0 ≤ cr ∧ cr ≤ 255)
theorem nb_ok {W H x y n : Int} {xs : List Int} (h : fitsF W H xs x y n) : nbOk (topK W x y n xs (2 * n).toNat) (leftK W x y xs n.toNat) (cornV W x y xs) n := by
  have hp := h.1.2.2
  have hn := h.2.1
  exact ⟨hn, by rw [topK_length]; omega, by rw [leftK_length]; omega, topK_pix hp _, leftK_pix hp _, cornV_range hp⟩
def sumK (l : List Int) (k : Nat) : Int := sumN (fun i => l.getD i 0) k
theorem sumK_range {l : List Int} (h : pixOk l) (k : Nat) : 0 ≤ sumK l k ∧ sumK l k ≤ 255 * k := by
  induction k with
  | zero => simp [sumK, sumN]
  | succ k ih =>
    have := pix_get h k
    unfold sumK at *
    simp only [sumN]; omega
def mC (ht hl : Bool) (n : Int) : Int := (if ht then n else 0) + (if hl then n else 0)
def mS (ts ls : List Int) (ht hl : Bool) (n : Int) : Int := (if ht then sumK ts n.toNat else 0) + (if hl then sumK ls n.toNat else 0)
def meanV (ts ls : List Int) (ht hl : Bool) (n : Int) : Int := if mC ht hl n = 0 then 128 else (mS ts ls ht hl n + mC ht hl n / 2) / mC ht hl n
theorem mC_range {n : Int} (ht hl : Bool) (h : n = 4 ∨ n = 8) : mC ht hl n = 0 ∨ mC ht hl n = n ∨ mC ht hl n = 2 * n := by
  unfold mC; cases ht <;> cases hl <;> simp <;> omega
theorem mS_range {n : Int} {ts ls : List Int} (ht hl : Bool) (h : n = 4 ∨ n = 8) (h1 : pixOk ts) (h2 : pixOk ls) : 0 ≤ mS ts ls ht hl n ∧ mS ts ls ht hl n ≤ 255 * mC ht hl n := by
  have h3 := sumK_range h1 n.toNat
  have h4 := sumK_range h2 n.toNat
  unfold mC mS; cases ht <;> cases hl <;> simp <;> omega
theorem mean_range {n : Int} {ts ls : List Int} (ht hl : Bool) (h : n = 4 ∨ n = 8) (h1 : pixOk ts) (h2 : pixOk ls) : 0 ≤ meanV ts ls ht hl n ∧ meanV ts ls ht hl n ≤ 255 := by
  have h3 := mC_range ht hl h
  have h4 := mS_range (n := n) ht hl h h1 h2
  unfold meanV
  generalize mC ht hl n = c at *
  generalize mS ts ls ht hl n = s at *
  split
  · omega
  · have : c = 4 ∨ c = 8 ∨ c = 16 := by omega
    rcases this with rfl | rfl | rfl <;> omega
theorem mean_tt {n : Int} (ts ls : List Int) (h : n = 4 ∨ n = 8) : meanV ts ls true true n = (sumK ts n.toNat + sumK ls n.toNat + n) / (2 * n) := by
  have e : mC true true n = 2 * n := by simp [mC]; omega
  unfold meanV
  rw [if_neg (by omega), e]
  simp only [mS, if_true]
  congr 1; omega
theorem mean_tf {n : Int} (ts ls : List Int) (h : n = 4 ∨ n = 8) : meanV ts ls true false n = (sumK ts n.toNat + n / 2) / n := by
  have e : mC true false n = n := by simp [mC]
  unfold meanV
  rw [if_neg (by omega), e]
  simp [mS]
theorem mean_ft {n : Int} (ts ls : List Int) (h : n = 4 ∨ n = 8) : meanV ts ls false true n = (sumK ls n.toNat + n / 2) / n := by
  have e : mC false true n = n := by simp [mC]
  unfold meanV
  rw [if_neg (by omega), e]
  simp [mS]
theorem mean_ff {n : Int} (ts ls : List Int) : meanV ts ls false false n = 128 := by
  unfold meanV; rw [if_pos (by simp [mC])]
def borderL (ts ls : List Int) (cr n : Int) : List Int := ls.reverse ++ [cr] ++ ts.take n.toNat
theorem border_length {ts ls : List Int} {cr n : Int} (h : nbOk ts ls cr n) : ((borderL ts ls cr n).length : Int) = 2 * n + 1 := by
  obtain ⟨h1, h2, h3, _⟩ := h
  simp only [borderL, List.length_append, List.length_reverse, List.length_cons, List.length_nil, List.length_take]; omega
theorem pix_mem {a : List Int} : pixOk a ↔ ∀ v ∈ a, 0 ≤ v ∧ v ≤ 255 := by
  constructor
  · intro h v hv
    obtain ⟨j, hj, rfl⟩ := List.mem_iff_getElem.1 hv
    have := h j hj
    rwa [List.getD_eq_getElem?_getD, List.getElem?_eq_getElem hj, Option.getD_some] at this
  · intro h j hj
    rw [List.getD_eq_getElem?_getD, List.getElem?_eq_getElem hj, Option.getD_some]
    exact h _ (List.getElem_mem hj)
theorem border_pix {ts ls : List Int} {cr n : Int} (h : nbOk ts ls cr n) : pixOk (borderL ts ls cr n) := by
  obtain ⟨_, _, _, h4, h5, h6⟩ := h
  rw [pix_mem] at h4 h5 ⊢
  intro v hv
  simp only [borderL, List.mem_append, List.mem_reverse, List.mem_cons, List.not_mem_nil, or_false] at hv
  rcases hv with (hv | rfl) | hv
  · exact h5 v hv
  · exact h6
  · exact h4 v (List.mem_of_mem_take hv)
def soft (a b c : Int) : Int := (a + 2 * b + c + 2) / 4
def predV (m : Int) (ts ls : List Int) (cr : Int) (ht hl : Bool) (n x y : Int) : Int :=
  if m = 0 then meanV ts ls ht hl n
  else if m = 1 then ts.getD x.toNat 0
  else if m = 2 then ls.getD y.toNat 0
  else if m = 3 then clip (ls.getD y.toNat 0 + ts.getD x.toNat 0 - cr)
  else if m = 4 then soft (ts.getD (x + y).toNat 0) (ts.getD (min (x + y + 1) (2 * n - 1)).toNat 0) (ts.getD (min (x + y + 2) (2 * n - 1)).toNat 0)
  else soft ((borderL ts ls cr n).getD (x - y + n - 1).toNat 0) ((borderL ts ls cr n).getD (x - y + n).toNat 0) ((borderL ts ls cr n).getD (x - y + n + 1).toNat 0)
theorem predV_range {m : Int} {ts ls : List Int} {cr : Int} {ht hl : Bool} {n x y : Int} (h : nbOk ts ls cr n) : 0 ≤ predV m ts ls cr ht hl n x y ∧ predV m ts ls cr ht hl n x y ≤ 255 := by
  have hb := border_pix h
  have h4 := h.2.2.2.1
  have h5 := h.2.2.2.2.1
  unfold predV
  split
  · exact mean_range ht hl h.1 h4 h5
  · split
    · exact pix_get h4 _
    · split
      · exact pix_get h5 _
      · split
        · unfold clip; omega
        · split
          · have a1 := pix_get h4 (x + y).toNat
            have a2 := pix_get h4 (min (x + y + 1) (2 * n - 1)).toNat
            have a3 := pix_get h4 (min (x + y + 2) (2 * n - 1)).toNat
            unfold soft; omega
          · have a1 := pix_get hb (x - y + n - 1).toNat
            have a2 := pix_get hb (x - y + n).toNat
            have a3 := pix_get hb (x - y + n + 1).toNat
            unfold soft; omega
def predK (m : Int) (ts ls : List Int) (cr : Int) (ht hl : Bool) (n : Int) (k : Nat) : List Int := (List.range k).map fun i : Nat => predV m ts ls cr ht hl n ((i : Int) % n) ((i : Int) / n)
def predL (m : Int) (ts ls : List Int) (cr : Int) (ht hl : Bool) (n : Int) : List Int := predK m ts ls cr ht hl n (n * n).toNat
theorem predK_length (m : Int) (ts ls : List Int) (cr : Int) (ht hl : Bool) (n : Int) (k : Nat) : (predK m ts ls cr ht hl n k).length = k := by simp [predK]
theorem predK_succ (m : Int) (ts ls : List Int) (cr : Int) (ht hl : Bool) (n : Int) (k : Nat) : predK m ts ls cr ht hl n (k + 1) = predK m ts ls cr ht hl n k ++ [predV m ts ls cr ht hl n ((k : Int) % n) ((k : Int) / n)] := by simp [predK, List.range_succ]
theorem pix_map {k : Nat} {f : Nat → Int} (h : ∀ i, 0 ≤ f i ∧ f i ≤ 255) : pixOk ((List.range k).map f) := by
  rw [pix_mem]; intro v hv
  obtain ⟨i, _, rfl⟩ := List.mem_map.1 hv
  exact h i
theorem predL_pix {m : Int} {ts ls : List Int} {cr : Int} {ht hl : Bool} {n : Int} (h : nbOk ts ls cr n) : pixOk (predL m ts ls cr ht hl n) := pix_map fun _ => predV_range h
def recK (p r : List Int) (k : Nat) : List Int := (List.range k).map fun i : Nat => clip (p.getD i 0 + max (-1000000) (min 1000000 (r.getD i 0)))
def recL (p r : List Int) : List Int := recK p r p.length
theorem recK_length (p r : List Int) (k : Nat) : (recK p r k).length = k := by simp [recK]
theorem recK_succ (p r : List Int) (k : Nat) : recK p r (k + 1) = recK p r k ++ [clip (p.getD k 0 + max (-1000000) (min 1000000 (r.getD k 0)))] := by simp [recK, List.range_succ]
theorem recL_pix (p r : List Int) : pixOk (recL p r) := pix_map fun _ => by unfold clip; omega
def setAt (W x y n : Int) (k : Nat) : Nat := ((y + (k : Int) / n) * W + x + (k : Int) % n).toNat
def setK (W x y n : Int) (l xs : List Int) : Nat → List Int
  | 0 => xs
  | k + 1 => (setK W x y n l xs k).set (setAt W x y n k) (l.getD k 0)
theorem setK_length (W x y n : Int) (l xs : List Int) (k : Nat) : (setK W x y n l xs k).length = xs.length := by
  induction k with
  | zero => rfl
  | succ k ih => simp only [setK]; rw [List.length_set, ih]
def nbPred (W x y n m : Int) (xs : List Int) : List Int := predL m (topK W x y n xs (2 * n).toNat) (leftK W x y xs n.toNat) (cornV W x y xs) (decide (0 < y)) (decide (0 < x)) n
def setsOk (W H : Int) (xs : List Int) (x y q : Int) (byp : Bool) (m : Int) (ys : List Int) : Prop := 0 < (residual q byp ys).length ∧ (0 ≤ m ∧ m ≤ 5) ∧ fitsF W H xs x y (sideOf ys.length)
instance (W H : Int) (xs : List Int) (x y n : Int) : Decidable (fitsF W H xs x y n) := by unfold fitsF; infer_instance
instance (W H : Int) (xs : List Int) (x y q : Int) (byp : Bool) (m : Int) (ys : List Int) : Decidable (setsOk W H xs x y q byp m ys) := by unfold setsOk; infer_instance
def putV (W x y q : Int) (byp : Bool) (m : Int) (ys xs : List Int) : List Int := setK W x y (sideOf ys.length) (recL (nbPred W x y (sideOf ys.length) m xs) (residual q byp ys)) xs ys.length
def putL (W H : Int) (xs : List Int) (x y q : Int) (byp : Bool) (m : Int) (ys : List Int) : List Int := if setsOk W H xs x y q byp m ys then putV W x y q byp m ys xs else xs
theorem putL_length (W H : Int) (xs : List Int) (x y q : Int) (byp : Bool) (m : Int) (ys : List Int) : (putL W H xs x y q byp m ys).length = xs.length := by
  unfold putL; split
  · exact setK_length _ _ _ _ _ _ _
  · rfl
theorem scaled_fits {l : List Int} {q : Int} (h : levelsOk l) (hq : 0 ≤ q ∧ q ≤ 51) : fitsW (scaled l q) l.length := by
  refine ⟨scaled_len h hq, fun j hj => ?_⟩
  unfold scaled
  rw [if_pos ⟨h, by have := stepOf_le hq; omega⟩]
  have h1 := mul3 (levels_any h j) (stepOf_rng q) (normAt_range (sideOf l.length) j)
  rw [scaled_len h hq] at hj
  have e : (scaledK l q l.length).getD j 0 = l.getD j 0 * stepOf q * normAt (sideOf l.length) j := by
    simp [scaledK, List.getD, hj]
  rw [e]; omega
theorem residual_len {q : Int} {byp : Bool} {l : List Int} (h : levelsOk l ∧ 0 ≤ q ∧ q ≤ 51) : (residual q byp l).length = l.length := by
  have hs := levels_size h.1
  have hp := placed_len h.1
  have hf := scaled_fits (placed_ok h.1) h.2
  rw [hp] at hf
  have key : ∀ (M : Nat → Nat → Int) (n : Nat), (n = 4 ∨ n = 8) → l.length = n * n → (rounded (prodG M (scaled (placed l) q) n)).length = l.length := by
    intro M n hn hl
    have e : prodG M (scaled (placed l) q) n = prodL M (scaled (placed l) q) n := if_pos (by rw [← hl]; exact hf)
    have e2 : (prodL M (scaled (placed l) q) n).length = l.length := by rw [prodL_length, hl]
    rw [e]
    unfold rounded
    rw [e2, if_neg (by unfold sideOf; rcases hn with rfl | rfl <;> rw [hl] <;> decide), rndK_length]
  unfold residual
  rw [if_pos h]
  split
  · exact hp
  · split
    · next h16 => exact key mAt 4 (.inl rfl) h16
    · exact key hEnt 8 (.inr rfl) (by omega)
theorem residual_pos {q : Int} {byp : Bool} {l : List Int} (h : 0 < (residual q byp l).length) : (levelsOk l ∧ 0 ≤ q ∧ q ≤ 51) ∧ (residual q byp l).length = l.length := by
  by_cases h2 : levelsOk l ∧ 0 ≤ q ∧ q ≤ 51
  · exact ⟨h2, residual_len h2⟩
  · rw [residual_no h2] at h; simp at h
theorem cut0 (l : List Int) (k : Nat) : (l.drop 0).take (k - 0) = l.take k := by simp
theorem sumK_succ (l : List Int) (k : Nat) : sumK l (k + 1) = sumK l k + l.getD k 0 := rfl
theorem cells4 {n : Int} {k : Nat} (hn : n = 4 ∨ n = 8) (hk : (k : Int) < n * n) : (0 ≤ (k : Int) / n ∧ (k : Int) / n ≤ n - 1) ∧ (0 ≤ (k : Int) % n ∧ (k : Int) % n ≤ n - 1) := by
  rcases hn with rfl | rfl <;> omega
def rvK (l : List Int) : Nat → List Int
  | 0 => l
  | i + 1 => ((rvK l i).set i ((rvK l i).getD (l.length - 1 - i) 0)).set (l.length - 1 - i) ((rvK l i).getD i 0)
theorem rvK_length (l : List Int) (i : Nat) : (rvK l i).length = l.length := by
  induction i with
  | zero => rfl
  | succ i ih => simp only [rvK, List.length_set]; exact ih
theorem rvK_all {l : List Int} (h : l.length = 4 ∨ l.length = 8) {i : Nat} (hi : 2 * i = l.length) : rvK l i = l.reverse := by
  rcases h with h | h
  · obtain rfl : i = 2 := by omega
    match l, h with
    | [a, b, c, d], _ => rfl
  · obtain rfl : i = 4 := by omega
    match l, h with
    | [a, b, c, d, e, f, g, h], _ => rfl
end Go.Pl

/- Plain numbers: frames built from streams. -/
namespace Go.Pl
open Go.Sx
def plB (pl : List PM) (i k : Nat) : PB := (pl.getD i default).2.getD k default
theorem pl_blk {ms : List Mk} {i k : Nat} (hi : i < ms.length) (hk : k < (ms.getD i default).bs.length) : plB (ms.map Mk.pl) i k = Bk.pl ((ms.getD i default).bs.getD k default) := by
  unfold plB
  rw [map_getD _ hi]
  show ((ms.getD i default).bs.map Bk.pl).getD k default = _
  rw [map_getD _ hk]
theorem pl_len {ms : List Mk} {i : Nat} (hi : i < ms.length) : ((ms.map Mk.pl).getD i default).2.length = (ms.getD i default).bs.length := by
  rw [map_getD _ hi]; simp [Mk.pl]
def spX (W : Int) (i k : Nat) : Int := (i : Int) % (W / 8) * 8 + (k : Int) % 2 * 4
def spY (W : Int) (i k : Nat) : Int := (i : Int) / (W / 8) * 8 + (k : Int) / 2 * 4
def plist (W : Int) (i : Nat) (e : Bool) (k : Nat) : List (Int × Int × Int) := (List.range k).map fun j => (spX W i j, spY W i j, side e)
theorem plist_length (W : Int) (i : Nat) (e : Bool) (k : Nat) : (plist W i e k).length = k := by simp [plist]
theorem plist_succ (W : Int) (i : Nat) (e : Bool) (k : Nat) : plist W i e (k + 1) = plist W i e k ++ [(spX W i k, spY W i k, side e)] := by simp [plist, List.range_succ]
theorem plist_get {W : Int} {i : Nat} {e : Bool} {k j : Nat} (h : j < k) : (plist W i e k).getD j default = (spX W i j, spY W i j, side e) := by simp [plist, List.getD, h]
def bldB (W H q : Int) (y : Bool) (pl : List PM) (i : Nat) (px : List Int) : Nat → List Int
  | 0 => px
  | k + 1 => putL W H (bldB W H q y pl i px k) (spX W i k) (spY W i k) q y (plB pl i k).1 (plB pl i k).2
def bldM (W H q : Int) (y : Bool) (pl : List PM) : Nat → List Int
  | 0 => List.replicate (W * H).toNat 0
  | i + 1 => bldB W H q y pl i (bldM W H q y pl i) (pl.getD i default).2.length
theorem bldB_length (W H q : Int) (y : Bool) (pl : List PM) (i : Nat) (px : List Int) (k : Nat) : (bldB W H q y pl i px k).length = px.length := by
  induction k with
  | zero => rfl
  | succ k ih => simp only [bldB]; rw [putL_length, ih]
theorem bldM_length (W H q : Int) (y : Bool) (pl : List PM) (i : Nat) : (bldM W H q y pl i).length = (W * H).toNat := by
  induction i with
  | zero => simp [bldM]
  | succ i ih => simp only [bldM]; rw [bldB_length, ih]
def brX (W H q : Int) (y z : Bool) (zs : List Int) (pl : List PM) : List Int := if streamOk W H q zs pl then (if z then dbOf W H q (bldM W H q y pl pl.length) else bldM W H q y pl pl.length) else []
def brS (W H q : Int) (zs : List Int) (pl : List PM) (v : Int) : Int := if streamOk W H q zs pl then v else 0
theorem br_no {W H q : Int} {y z : Bool} {zs : List Int} {pl : List PM} (h : ¬ streamOk W H q zs pl) : brX W H q y z zs pl = [] ∧ brS W H q zs pl W = 0 ∧ brS W H q zs pl H = 0 := ⟨if_neg h, if_neg h, if_neg h⟩
theorem br_yes {W H q : Int} {y z : Bool} {zs : List Int} {pl : List PM} (h : streamOk W H q zs pl) : brX W H q y z zs pl = (if z then dbOf W H q (bldM W H q y pl pl.length) else bldM W H q y pl pl.length) ∧ brS W H q zs pl W = W ∧ brS W H q zs pl H = H := ⟨if_pos h, if_pos h, if_pos h⟩
def rdX (s : ByteArray) : List Int := if (prR s).code = 0 then brX (prW s) (prH s) (prQ s) (prB s) (prD s) (prL s) (prM s) else []
def rdS (s : ByteArray) (v : Int) : Int := if (prR s).code = 0 then brS (prW s) (prH s) (prQ s) (prL s) (prM s) v else 0
theorem rd_no {s : ByteArray} (h : ¬ (prR s).code = 0) : rdX s = [] ∧ rdS s (prW s) = 0 ∧ rdS s (prH s) = 0 := ⟨if_neg h, if_neg h, if_neg h⟩
theorem rd_yes {s : ByteArray} {ms : List Mk} (h : (prR s).code = 0) (hm : ms.map Mk.pl = prM s) : rdX s = brX (prW s) (prH s) (prQ s) (prB s) (prD s) (prL s) (ms.map Mk.pl) ∧ rdS s (prW s) = brS (prW s) (prH s) (prQ s) (prL s) (ms.map Mk.pl) (prW s) ∧ rdS s (prH s) = brS (prW s) (prH s) (prQ s) (prL s) (ms.map Mk.pl) (prH s) := by
  rw [hm]; exact ⟨if_pos h, if_pos h, if_pos h⟩
end Go.Pl

/- Plain numbers: frames of streams that differ in the last macroblock only. -/
namespace Go.Pl
open Go.Sx
end Go.Pl

/- Plain numbers: what was written is read back, whatever stands behind it. -/
namespace Go.Pl
open Go.Sx
def At (B : List Int) (a : Nat) (W : List Int) : Prop := a ≤ B.length ∧ ∃ R, B.drop a = W ++ R
theorem At.fst {B U V : List Int} {a : Nat} (h : At B a (U ++ V)) : At B a U := by
  obtain ⟨h1, R, h2⟩ := h
  exact ⟨h1, V ++ R, by rw [h2, List.append_assoc]⟩
theorem At.snd {B U V : List Int} {a : Nat} (h : At B a (U ++ V)) : At B (a + U.length) V := by
  obtain ⟨h1, R, h2⟩ := h
  have h3 := congrArg List.length h2
  rw [List.length_drop, List.length_append, List.length_append] at h3
  refine ⟨by omega, R, ?_⟩
  rw [← List.drop_drop, h2, List.append_assoc, List.drop_left]
theorem At.len {B W : List Int} {a : Nat} (h : At B a W) : a + W.length ≤ B.length := by
  obtain ⟨h1, R, h2⟩ := h
  have h3 := congrArg List.length h2
  rw [List.length_drop, List.length_append] at h3; omega
theorem at_rb {B W : List Int} {a : Nat} (hB : isBits B) (h8 : B.length % 8 = 0) (h : At B a W) (hw : W.length ≤ 32) : rbOk (packs B) a W.length ∧ rbV (packs B) a W.length = numl W := by
  have hl := h.len
  have hsz : (packs B).size = B.length / 8 := packs_size B
  have hok : rbOk (packs B) a W.length := ⟨by rw [hsz]; omega, by omega, by rw [remOf_in (by rw [hsz]; omega), hsz]; omega⟩
  refine ⟨hok, ?_⟩
  obtain ⟨h1, R, h2⟩ := h
  unfold rbV; rw [if_pos hok, Int.toNat_natCast, bitsOf_packs hB _ _ (by omega), h2, List.take_left]
theorem at_fb {B W : List Int} {a : Nat} {chk : Int → Int} (hB : isBits B) (h8 : B.length % 8 = 0) (h : At B a W) (hw : W.length ≤ 32) {n : Int} (hn : n = W.length) (hc : chk (numl W) = 0) :
    fbS (packs B) ⟨a, 0⟩ n chk = ⟨((a + W.length : Nat) : Int), 0⟩ ∧ fbV (packs B) ⟨a, 0⟩ n chk = numl W := by
  obtain ⟨h1, h2⟩ := at_rb hB h8 h hw
  subst hn
  have h3 := fb_ok (s := packs B) (f := ⟨(a : Int), 0⟩) (chk := chk) rfl h1 (by rw [h2]; exact hc)
  rw [h3.1, h3.2, h2]
  exact ⟨by rw [Int.natCast_add], rfl⟩
theorem at_fn {B : List Int} {a : Nat} {n : Int} {chk : Int → Int} (hB : isBits B) (h8 : B.length % 8 = 0) (hn : 0 ≤ n ∧ n ≤ 65534) (h : At B a (ueBits n)) (hc : chk n = 0) :
    fnS (packs B) ⟨a, 0⟩ chk = ⟨((a + (ueBits n).length : Nat) : Int), 0⟩ ∧ fnV (packs B) ⟨a, 0⟩ chk = n := by
  obtain ⟨h1, R, h2⟩ := h
  have h3 := ue_read hB h8 hn h2 h1
  have h4 := fn_ok (s := packs B) (f := ⟨(a : Int), 0⟩) (chk := chk) rfl h3.2.2.2.2 (by rw [h3.2.2.2.1]; exact hc)
  rw [h4.1, h4.2, h3.2.2.1, h3.2.2.2.1]
  exact ⟨by rw [Int.natCast_add, ueBits_len hn], rfl⟩
theorem unl_yes {p : Prop} [Decidable p] {c : Int} (h : p) : unl p c = 0 := if_pos h
def runs (l : List (Int × Int)) : Int := l.foldr (fun p n => p.1 + 1 + n) 0
theorem runs_app (a b : List (Int × Int)) : runs (a ++ b) = runs a + runs b := by
  induction a with
  | nil => simp [runs]
  | cons x r ih => simp only [List.cons_append, runs, List.foldr_cons] at ih ⊢; omega
theorem prS_runs (ys : List Int) (k : Nat) : runs (prS ys k).1 + (prS ys k).2 = k := by
  induction k with
  | zero => simp [prS, runs]
  | succ k ih =>
    simp only [prS]; split
    · simp only; omega
    · simp only [runs_app]; simp only [runs, List.foldr_cons, List.foldr_nil]; simp only [runs] at ih; omega
theorem pairs_runs (ys : List Int) : 0 ≤ runs (pairsOf ys) ∧ runs (pairsOf ys) ≤ ys.length := by
  have hp : ∀ l : List (Int × Int), (∀ p ∈ l, pairOk p) → 0 ≤ runs l := fun l => by
    induction l with
    | nil => intro _; simp [runs]
    | cons x r ih =>
      intro h
      have h1 := ih fun p hp => h p (List.mem_cons_of_mem _ hp)
      have h2 := (h x (List.mem_cons_self ..)).1
      simp only [runs, List.foldr_cons] at h1 ⊢; omega
  refine ⟨hp _ (pairs_ok ys), ?_⟩
  by_cases h : levelsOk ys
  · rw [pairs_yes h rfl]
    have h1 := prS_runs ys ys.length
    have h2 := prS_range ys ys.length
    omega
  · rw [pairs_no h]; simp [runs]
theorem runs_ge (l : List (Int × Int)) (h : ∀ p ∈ l, pairOk p) : (l.length : Int) ≤ runs l := by
  induction l with
  | nil => simp [runs]
  | cons x r ih =>
    have h1 := ih fun p hp => h p (List.mem_cons_of_mem _ hp)
    have h2 := (h x (List.mem_cons_self ..)).1
    simp only [runs, List.foldr_cons, List.length_cons] at h1 ⊢; omega
theorem level_num {v : Int} (h : v ≠ 0) : levelOf (numOf v) = v := by
  unfold levelOf numOf; repeat' split
  all_goals omega
theorem num_range {v : Int} (h : -16383 ≤ v ∧ v ≤ 16383) (h0 : v ≠ 0) : 0 ≤ numOf v ∧ numOf v ≤ 65534 := by
  unfold numOf; split
  · omega
  · split <;> omega
theorem at_pair {B : List Int} {a : Nat} {N : Int} {p : Int × Int} {v : Lv} (hB : isBits B) (h8 : B.length % 8 = 0) (hp : pairOk p) (h : At B a (pairBits p)) (hv : v.f = ⟨a, 0⟩) (hr : p.1 < N - v.p) :
    (lvStep (packs B) N v).f = ⟨((a + (pairBits p).length : Nat) : Int), 0⟩ ∧ (lvStep (packs B) N v).p = v.p + p.1 + 1 := by
  obtain ⟨hp1, hp2, hp3⟩ := hp
  have e1 := at_fn (chk := kLt (N - v.p)) hB h8 (by omega) (At.fst (V := ueBits (numOf p.2)) h) (unl_yes hr)
  have e2 := at_fn (chk := kLv) hB h8 (num_range hp2 hp3) (At.snd (U := ueBits p.1) h) (unl_yes (by rw [level_num hp3]; exact hp2))
  have f1 : lvF1 (packs B) N v = ⟨((a + (ueBits p.1).length : Nat) : Int), 0⟩ := by unfold lvF1; rw [hv]; exact e1.1
  have f2 : lvF2 (packs B) N v = ⟨((a + (pairBits p).length : Nat) : Int), 0⟩ := by
    unfold lvF2; rw [f1, e2.1]; unfold pairBits; rw [List.length_append, Nat.add_assoc]
  have f3 : lvP (packs B) N v = v.p + p.1 := by unfold lvP; rw [hv, e1.2]
  unfold lvStep; rw [if_pos (by rw [f2]), f2, f3]
  exact ⟨rfl, rfl⟩
theorem lvIt_comm {s : ByteArray} {N : Int} (v : Lv) (h : v.f.code = 0) : ∀ k : Nat, lvIt s N v (k + 1) = lvIt s N (lvStep s N v) k
  | 0 => by rw [lvIt_next (k := 0) h]; rfl
  | k + 1 => by
    have ih := lvIt_comm (s := s) (N := N) v h k
    conv => lhs; rw [lvIt]
    rw [ih]; rfl
theorem at_pairs {B : List Int} {N : Int} (hB : isBits B) (h8 : B.length % 8 = 0) : ∀ (l : List (Int × Int)) (a : Nat) (v : Lv), (∀ p ∈ l, pairOk p) → At B a (l.flatMap pairBits) → v.f = ⟨a, 0⟩ → v.p + runs l ≤ N →
    (lvIt (packs B) N v l.length).f = ⟨((a + (l.flatMap pairBits).length : Nat) : Int), 0⟩
  | [], a, v, _, _, hv, _ => by show v.f = _; rw [hv]; simp
  | x :: r, a, v, hp, h, hv, hr => by
    rw [List.flatMap_cons] at h ⊢
    have hx := hp x (List.mem_cons_self ..)
    have hpr : ∀ p ∈ r, pairOk p := fun p h => hp p (List.mem_cons_of_mem _ h)
    have hr2 : v.p + (x.1 + 1 + runs r) ≤ N := hr
    have h0 := runs_ge r hpr
    have h1 := at_pair (N := N) hB h8 hx h.fst hv (by omega)
    rw [List.length_cons, lvIt_comm v (by rw [hv])]
    have h2 := at_pairs (N := N) hB h8 r (a + (pairBits x).length) (lvStep (packs B) N v) hpr h.snd h1.1 (by omega)
    rw [h2, List.length_append, Nat.add_assoc]
theorem at_levels {B ys : List Int} {a : Nat} (hB : isBits B) (h8 : B.length % 8 = 0) (h : At B a (levelBits ys)) : (lvRes (packs B) ⟨a, 0⟩ ys.length).f = ⟨((a + (levelBits ys).length : Nat) : Int), 0⟩ := by
  by_cases h0 : (pairsOf ys).length = 0
  · have e : levelBits ys = [0] := if_pos h0
    rw [e] at h ⊢
    have h1 := at_fb (chk := k0) hB h8 h (by decide) (n := 1) rfl rfl
    rw [lvRes_zero (by rw [h1.2]; rfl)]; unfold lv0; rw [h1.1]
  · have e : levelBits ys = [1] ++ (ueBits ((pairsOf ys).length - 1) ++ (pairsOf ys).flatMap pairBits) := by unfold levelBits; rw [if_neg h0, List.append_assoc]
    rw [e] at h ⊢
    have h1 := at_fb (chk := k0) hB h8 h.fst (by decide) (n := 1) rfl rfl
    have hl := pairs_len ys
    have hr := pairs_runs ys
    have hg := runs_ge _ (pairs_ok ys)
    have h2 := at_fn (chk := kLt ys.length) hB h8 (by omega) h.snd.fst (unl_yes (by omega))
    have e1 : fbS (packs B) ⟨(a : Int), 0⟩ 1 k0 = ⟨((a + ([1] : List Int).length : Nat) : Int), 0⟩ := h1.1
    have e2 : fbV (packs B) ⟨(a : Int), 0⟩ 1 k0 = 1 := h1.2
    rw [lvRes_more (by rw [e2]; decide), e1, h2.1, h2.2, show (1 + (((pairsOf ys).length : Int) - 1)).toNat = (pairsOf ys).length by omega]
    rw [at_pairs hB h8 (pairsOf ys) _ (lv0 _ _) (pairs_ok ys) h.snd.snd rfl (by show 0 + runs (pairsOf ys) ≤ _; omega)]
    simp only [List.length_append, Nat.add_assoc]
theorem at_block {B ys xs : List Int} {a : Nat} {m n : Int} (hB : isBits B) (h8 : B.length % 8 = 0) (hb : blockOk m ys xs n) (h : At B a (blockBits m ys xs n)) : rbkE (packs B) a xs n = 0 ∧ rbkA (packs B) a xs n = ((a + (blockBits m ys xs n).length : Nat) : Int) := by
  have e : blockBits m ys xs n = symBits xs m ++ levelBits ys := if_pos hb
  rw [e] at h ⊢
  obtain ⟨hn, hm, hy, hl⟩ := hb
  obtain ⟨hs1, R, hs2⟩ := h.fst
  have hs := sym_read hB h8 hm hs2 hs1
  have hv := at_levels hB h8 h.snd
  have hr : (rbkR (packs B) a xs n).f = ⟨((a + (symBits xs m).length + (levelBits ys).length : Nat) : Int), 0⟩ := by
    unfold rbkR
    rw [hs.2.1, ← symBits_len hm, ← hy, ← hv, Int.natCast_add]
  have h3 := rbk_lv (s := packs B) (a := (a : Int)) (xs := xs) (n := n) hn hs.2.2.2
  rw [h3.1, h3.2, hr, List.length_append, Nat.add_assoc]
  exact ⟨rfl, rfl⟩
theorem at_blocks {B xs : List Int} {n : Int} {a : Nat} {bs : List PB} (hB : isBits B) (h8 : B.length % 8 = 0) (hb : ∀ j : Nat, j < bs.length → blockOk (bs.getD j default).1 (bs.getD j default).2 xs n) (h : At B a (bs.flatMap fun b => blockBits b.1 b.2 xs n)) :
    ∀ k : Nat, k ≤ bs.length → (rmIt (packs B) xs n a k).code = 0 ∧ (rmIt (packs B) xs n a k).a = ((a + ((bs.take k).flatMap fun b => blockBits b.1 b.2 xs n).length : Nat) : Int)
  | 0, _ => ⟨rfl, by show (a : Int) = _; simp⟩
  | k + 1, hk => by
    obtain ⟨h1, h2⟩ := at_blocks hB h8 hb h k (by omega)
    have hs : bs.flatMap (fun b => blockBits b.1 b.2 xs n) = ((bs.take k).flatMap fun b => blockBits b.1 b.2 xs n) ++ (blockBits (bs.getD k default).1 (bs.getD k default).2 xs n ++ (bs.drop (k + 1)).flatMap fun b => blockBits b.1 b.2 xs n) := by
      conv => lhs; rw [← List.take_append_drop (k + 1) bs]
      rw [List.flatMap_append, flat_take_succ _ _ (by omega), List.append_assoc]
    have h3 := at_block hB h8 (hb k (by omega)) (by rw [hs] at h; exact h.snd.fst)
    rw [rm_go h1 (by rw [h2]; exact h3.1)]
    refine ⟨rfl, ?_⟩
    show rbkA (packs B) (rmIt (packs B) xs n a k).a xs n = _
    rw [h2, h3.2, flat_take_succ _ _ (by omega), List.length_append, Nat.add_assoc]
theorem at_mb {B xs : List Int} {a : Nat} {e : Bool} {bs : List PB} (hB : isBits B) (h8 : B.length % 8 = 0) (hb : mbOk e bs xs) (h : At B a (mbBits e bs xs)) : (rmR (packs B) a xs).code = 0 ∧ (rmR (packs B) a xs).a = ((a + (mbBits e bs xs).length : Nat) : Int) := by
  have hl := hb.1
  rw [many_eq, ← manyB_cast] at hl
  have hm : mbBits e bs xs = [flag e] ++ bs.flatMap (fun b => blockBits b.1 b.2 xs (side e)) := if_pos hb
  rw [hm] at h ⊢
  have h1 := at_rb hB h8 h.fst (by simp)
  have hv : rbV (packs B) a 1 = flag e := by
    have := h1.2
    rw [show ((([flag e] : List Int).length : Nat) : Int) = 1 from rfl] at this
    rw [this]; simp [numl]
  have hf : rmF (packs B) a = e := by unfold rmF; rw [hv]; cases e <;> rfl
  have hok : rbOk (packs B) a 1 := h1.1
  have h2 := at_blocks hB h8 hb.2 h.snd bs.length (Nat.le_refl _)
  rw [rm_yes hok, hf, rbAt_ok hok, show manyB e = bs.length by omega]
  rw [show (a : Int) + 1 = ((a + ([flag e] : List Int).length : Nat) : Int) by simp]
  refine ⟨h2.1, ?_⟩
  rw [h2.2, List.take_length, List.length_append, Nat.add_assoc]
theorem at_mbs {B xs : List Int} {a : Nat} {ms : List PM} (hB : isBits B) (h8 : B.length % 8 = 0) (hb : ∀ j : Nat, j < ms.length → mbOk (ms.getD j default).1 (ms.getD j default).2 xs) (h : At B a (ms.flatMap fun m => mbBits m.1 m.2 xs)) :
    ∀ k : Nat, k ≤ ms.length → (pmIt (packs B) xs a k).code = 0 ∧ (pmIt (packs B) xs a k).a = ((a + ((ms.take k).flatMap fun m => mbBits m.1 m.2 xs).length : Nat) : Int)
  | 0, _ => ⟨rfl, by show (a : Int) = _; simp⟩
  | k + 1, hk => by
    obtain ⟨h1, h2⟩ := at_mbs hB h8 hb h k (by omega)
    have hs : ms.flatMap (fun m => mbBits m.1 m.2 xs) = ((ms.take k).flatMap fun m => mbBits m.1 m.2 xs) ++ (mbBits (ms.getD k default).1 (ms.getD k default).2 xs ++ (ms.drop (k + 1)).flatMap fun m => mbBits m.1 m.2 xs) := by
      conv => lhs; rw [← List.take_append_drop (k + 1) ms]
      rw [List.flatMap_append, flat_take_succ _ _ (by omega), List.append_assoc]
    have h3 := at_mb hB h8 (hb k (by omega)) (by rw [hs] at h; exact h.snd.fst)
    rw [pm_go h1 (by rw [h2]; exact h3.1)]
    refine ⟨rfl, ?_⟩
    show (rmR (packs B) (pmIt (packs B) xs a k).a xs).a = _
    rw [h2, h3.2, flat_take_succ _ _ (by omega), List.length_append, Nat.add_assoc]
theorem field3 {x : Int} (h : 0 ≤ x ∧ x ≤ 7) : numl (bitsIn x 3) = x ∧ (bitsIn x 3).length = 3 := by
  have e : bitsIn x 3 = bitsl x 3 := if_pos ⟨by decide, h.1, by show x / 2 ^ 3 = 0; omega⟩
  rw [e, numl_bitsl, bitsl_length]
  exact ⟨by omega, rfl⟩
theorem at_lens {xs : List Int} (h : codeOk xs) : lens6 (numl (xs.flatMap fun n => bitsIn n 3)) 6 = xs ∧ (xs.flatMap fun n => bitsIn n 3).length = 18 := by
  have h1 := codeOk_at h
  obtain ⟨_, h2, _⟩ := h
  match xs, h2 with
  | [a, b, c, d, e, f], _ =>
    have ha := field3 (h1 0); have hb := field3 (h1 1); have hc := field3 (h1 2); have hd := field3 (h1 3); have he := field3 (h1 4); have hf := field3 (h1 5)
    have ga := h1 0; have gb := h1 1; have gc := h1 2; have gd := h1 3; have ge := h1 4; have gf := h1 5
    simp only [List.getD_cons_zero, List.getD_cons_succ] at ha hb hc hd he hf ga gb gc gd ge gf
    have hn : numl ([a, b, c, d, e, f].flatMap fun n => bitsIn n 3) = a * 32768 + (b * 4096 + (c * 512 + (d * 64 + (e * 8 + f)))) := by
      simp only [List.flatMap_cons, List.flatMap_nil, List.append_nil, numl_app, List.length_append, ha, hb, hc, hd, he, hf]; rfl
    refine ⟨?_, by simp only [List.flatMap_cons, List.flatMap_nil, List.append_nil, List.length_append, ha, hb, hc, hd, he, hf]⟩
    rw [hn]
    have hr : ∀ x : Int, lens6 x 6 = [x / 32768 % 8, x / 4096 % 8, x / 512 % 8, x / 64 % 8, x / 8 % 8, x / 1 % 8] := fun x => by unfold lens6; rfl
    rw [hr]
    congr 1
    · omega
    · congr 1
      · omega
      · congr 1
        · omega
        · congr 1
          · omega
          · congr 1
            · omega
            · congr 1
              omega
theorem at_head {B xs : List Int} {a b q : Int} {y z : Bool} (hB : isBits B) (h8 : B.length % 8 = 0) (hh : headOk a b q xs) (h : At B 0 (headBits a b q y z xs)) :
    rh6 (packs B) 0 = ⟨((0 + (headBits a b q y z xs).length : Nat) : Int), 0⟩ ∧ hdW (packs B) 0 = a ∧ hdH (packs B) 0 = b ∧ hdL (packs B) 0 = xs := by
  have e : headBits a b q y z xs = bitsIn 183 8 ++ (ueBits (a / 8 - 1) ++ (ueBits (b / 8 - 1) ++ (bitsIn q 6 ++ ([flag y, flag z] ++ xs.flatMap (fun n => bitsIn n 3))))) := by
    unfold headBits; rw [if_pos hh]; simp only [List.append_assoc]
  rw [e] at h ⊢
  obtain ⟨⟨ha, hb, hc, hd⟩, hq, hx⟩ := hh
  have e1 := at_fb (chk := k183) hB h8 h.fst (by decide +kernel) (n := 8) (by decide +kernel) (by decide +kernel)
  have e2 := at_fn (chk := k3) hB h8 (by omega) h.snd.fst (unl_yes (by omega))
  have e3 := at_fn (chk := k3) hB h8 (by omega) h.snd.snd.fst (unl_yes (by omega))
  have q1 : bitsIn q 6 = bitsl q 6 := if_pos ⟨by decide, hq.1, by show q / 2 ^ 6 = 0; omega⟩
  have q2 : (bitsIn q 6).length = 6 := by rw [q1, bitsl_length]
  have q3 : numl (bitsIn q 6) = q := by rw [q1, numl_bitsl]; omega
  have e4 := at_fb (chk := k51) hB h8 h.snd.snd.snd.fst (by omega) (n := 6) (by omega) (unl_yes (by omega))
  have e5 := at_fb (chk := k0) hB h8 h.snd.snd.snd.snd.fst (by simp) (n := 2) (by simp) rfl
  obtain ⟨x1, x2⟩ := at_lens hx
  have e6 := at_fb (chk := kLens) hB h8 h.snd.snd.snd.snd.snd (by omega) (n := 18) (by omega) (unl_yes (by rw [x1]; exact hx))
  have r1 : rh1 (packs B) 0 = _ := e1.1
  have r2 : rh2 (packs B) 0 = _ := (congrArg (fun f => fnS (packs B) f k3) r1).trans e2.1
  have r3 : rh3 (packs B) 0 = _ := (congrArg (fun f => fnS (packs B) f k3) r2).trans e3.1
  have r4 : rh4 (packs B) 0 = _ := (congrArg (fun f => fbS (packs B) f 6 k51) r3).trans e4.1
  have r5 : rh5 (packs B) 0 = _ := (congrArg (fun f => fbS (packs B) f 2 k0) r4).trans e5.1
  have r6 : rh6 (packs B) 0 = _ := (congrArg (fun f => fbS (packs B) f 18 kLens) r5).trans e6.1
  have vW : rhW (packs B) 0 = a / 8 - 1 := by unfold rhW; rw [r1]; exact e2.2
  have vH : rhH (packs B) 0 = b / 8 - 1 := by unfold rhH; rw [r2]; exact e3.2
  have vL : rhL (packs B) 0 = _ := (congrArg (fun f => fbV (packs B) f 18 kLens) r5).trans e6.2
  have h0 : (rh6 (packs B) 0).code = 0 := by rw [r6]
  obtain ⟨y1, y2, _, _, _, y6⟩ := hd_yes h0
  refine ⟨?_, by rw [y1, vW]; omega, by rw [y2, vH]; omega, by rw [y6, vL, x1]⟩
  rw [r6]; simp only [List.length_append, Nat.add_assoc]
theorem packs_snoc {P : List Int} {v : Int} (h8 : P.length % 8 = 0) (hv : 0 ≤ v ∧ v ≤ 255) : packs (P ++ bitsl v 8) = packs P ++ strOf [v] := by
  have e : bytesl (P ++ bitsl v 8) = bytesl P ++ [v] := by
    unfold bytesl
    rw [List.length_append, bitsl_length, show (P.length + 8) / 8 = P.length / 8 + 1 by omega, List.range_succ, List.map_append]
    congr 1
    · refine List.map_congr_left fun j hj => ?_
      rw [List.mem_range] at hj
      rw [List.drop_append_of_le_length (by omega), List.take_append_of_le_length (by rw [List.length_drop]; omega)]
    · simp only [List.map_cons, List.map_nil]
      rw [show 8 * (P.length / 8) = P.length by omega, List.drop_left, List.take_of_length_le (by rw [bitsl_length]; omega), numl_bitsl]
      congr 1; omega
  unfold packs; rw [e]
  unfold strOf
  apply ByteArray.ext
  simp
theorem pr_longer {a b q v : Int} {y z : Bool} {xs : List Int} {ms : List PM} (hne : unp a b q y z xs ms ≠ ⟨#[]⟩) (hv : 0 ≤ v ∧ v ≤ 255) : (prR (unp a b q y z xs ms ++ strOf [v])).code = 6 := by
  have h : streamOk a b q xs ms := Classical.byContradiction fun h2 => hne (unp_no h2)
  have hu := unp_yes (y := y) (z := z) h rfl
  have hX : isBits (stA a b q y z xs ms ms.length) := stopped_ne (by rw [← hu]; exact hne)
  rw [hu, stopped_yes hX]
  have hl := pad8_len (stA a b q y z xs ms ms.length ++ [1])
  rw [← packs_snoc hl.1 hv]
  obtain ⟨R, hR⟩ := pad8_app (stA a b q y z xs ms ms.length) [1]
  have hB : isBits (pad8 (stA a b q y z xs ms ms.length ++ [1]) ++ bitsl v 8) := isBits_app.2 ⟨stopped_bits hX, bitsl_bits v 8⟩
  have h8 : (pad8 (stA a b q y z xs ms ms.length ++ [1]) ++ bitsl v 8).length % 8 = 0 := by rw [List.length_append, bitsl_length]; omega
  have hA : At (pad8 (stA a b q y z xs ms ms.length ++ [1]) ++ bitsl v 8) 0 (stA a b q y z xs ms ms.length) := ⟨Nat.zero_le _, R ++ bitsl v 8, by rw [List.drop_zero, hR, List.append_assoc]⟩
  have hlen : (stA a b q y z xs ms ms.length).length + 9 ≤ (pad8 (stA a b q y z xs ms ms.length ++ [1]) ++ bitsl v 8).length := by
    have := hl.2.1
    rw [List.length_append, List.length_cons, List.length_nil] at this
    rw [List.length_append, bitsl_length]; omega
  generalize pad8 (stA a b q y z xs ms ms.length ++ [1]) ++ bitsl v 8 = B at hB h8 hA hlen ⊢
  have hS : stA a b q y z xs ms ms.length = headBits a b q y z xs ++ ms.flatMap fun m => mbBits m.1 m.2 xs := by unfold stA; rw [List.take_length]
  rw [hS] at hA hlen
  obtain ⟨g1, g2, g3, g4⟩ := at_head hB h8 h.1 hA.fst
  have hN : ms.length = prN (packs B) := by unfold prN; rw [g2, g3, ← h.2.1]; omega
  obtain ⟨m1, m2⟩ := at_mbs hB h8 h.2.2 hA.snd ms.length (Nat.le_refl _)
  have hI : prI (packs B) ms.length = pmIt (packs B) xs ((0 + (headBits a b q y z xs).length : Nat) : Int) ms.length := by unfold prI; rw [g1, g4]
  rw [List.length_append] at hlen
  have hs : stopOf (packs B) (prI (packs B) ms.length).a = 6 := by
    rw [hI, m2, List.take_length]
    have hsz := packs_size B
    unfold stopOf
    rw [remOf_in (by omega), if_neg (by omega), if_neg (fun hh => by omega)]
  have hr := pr_stop (by rw [g1]) (by rw [hI]; exact m1) hN (by rw [hs]; decide)
  rw [hr]; exact hs
theorem unp_size (a b q : Int) (y z : Bool) (xs : List Int) (ms : List PM) : (unp a b q y z xs ms).size ≤ 41000 := by
  by_cases h : streamOk a b q xs ms
  · rw [unp_yes h rfl]
    have h1 := stopped_size (stA a b q y z xs ms ms.length)
    have h2 := stA_len a b q y z xs ms ms.length
    have h3 := many_range h.1.1
    have h4 := h.2.1
    omega
  · rw [unp_no h]; decide
end Go.Pl
