/- Plain numbers and lists, with no program in sight. -/
import Derived.Test.YtnehdmcilmlchaaVSxB
import Derived.Lib.Tables
/- Plain numbers: bits of a text. -/
namespace Go.Pl

def bitAt (s : ByteArray) (i : Int) : Int :=
  if 0 ≤ i ∧ i < 8 * s.size then (s.data.toList.getD (i / 8).toNat 0).toNat / 2 ^ (7 - i % 8).toNat % 2 else -1

/-- the number with n bits from a place on; missing bits are 0 -/
def bitsOf (s : ByteArray) (a : Int) : Nat → Int
  | 0 => 0
  | n + 1 => bitsOf s a n * 2 + max (bitAt s (a + n)) 0

theorem bitAt_range (s : ByteArray) (i : Int) : -1 ≤ bitAt s i ∧ bitAt s i ≤ 1 := by
  unfold bitAt; split <;> omega
theorem bitAt_in {s : ByteArray} {i : Int} (h : 0 ≤ i ∧ i < 8 * s.size) : bitAt s i = (s.data.toList.getD (i / 8).toNat 0).toNat / 2 ^ (7 - i % 8).toNat % 2 := by
  unfold bitAt; rw [if_pos h]
theorem bitAt_in0 {s : ByteArray} {i : Int} (h : 0 ≤ i ∧ i < 8 * s.size) : 0 ≤ bitAt s i ∧ bitAt s i ≤ 1 := by
  rw [bitAt_in h]; omega
theorem bitAt_out {s : ByteArray} {i : Int} (h : i < 0 ∨ 8 * s.size ≤ i) : bitAt s i = -1 := by
  unfold bitAt; rw [if_neg (by omega)]
theorem bitsOf_range (s : ByteArray) (a : Int) (n : Nat) : 0 ≤ bitsOf s a n ∧ bitsOf s a n < 2 ^ n := by
  induction n with
  | zero => simp [bitsOf]
  | succ n ih =>
    have := bitAt_range s (a + n)
    simp only [bitsOf]
    have h2 : (2 : Int) ^ (n + 1) = 2 * 2 ^ n := by rw [Int.pow_succ]; omega
    rw [h2]
    omega
theorem bitsOf_lt (s : ByteArray) (a : Int) (n m : Nat) (h : n ≤ m) : bitsOf s a n < 2 ^ m := by
  have h1 := (bitsOf_range s a n).2
  have h2 : (2 : Int) ^ n ≤ 2 ^ m := by
    have : (2 : Nat) ^ n ≤ 2 ^ m := Nat.pow_le_pow_right (by omega) h
    exact_mod_cast this
  omega
theorem bitsOf_62 (s : ByteArray) (a : Int) (n : Nat) (h : n ≤ 62) : 0 ≤ bitsOf s a n ∧ bitsOf s a n < 4611686018427387904 :=
  ⟨(bitsOf_range s a n).1, by have := bitsOf_lt s a n 62 h; simpa using this⟩

def cacheOk (s : ByteArray) (pos word have_ : Int) : Prop := 0 ≤ pos ∧ pos ≤ s.size ∧ 0 ≤ have_ ∧ have_ ≤ 56 ∧ have_ ≤ 8 * pos ∧ word = bitsOf s (8 * pos - have_) have_.toNat
instance (s : ByteArray) (pos word have_ : Int) : Decidable (cacheOk s pos word have_) := by unfold cacheOk; infer_instance

theorem byteshift_le (x : UInt8) (k : Nat) : (0 : Int) ≤ x.toNat / 2 ^ k ∧ (x.toNat : Int) / 2 ^ k ≤ 255 := by
  have h1 : (x.toNat : Int) / 2 ^ k = ((x.toNat / 2 ^ k : Nat) : Int) := by simp
  have h2 : x.toNat / 2 ^ k ≤ x.toNat := Nat.div_le_self _ _
  have h3 := x.toNat_lt
  rw [h1]
  generalize x.toNat / 2 ^ k = q at *
  omega
end Go.Pl

/- Plain numbers: readers and caches over a text. -/
namespace Go.Pl

theorem two_pow_pos (n : Nat) : (0 : Int) < 2 ^ n := Int.pow_pos (by omega)
theorem two_pow_succ (n : Nat) : (2 : Int) ^ (n + 1) = 2 * 2 ^ n := by rw [Int.pow_succ]; omega
theorem two_pow_le {n m : Nat} (h : n ≤ m) : (2 : Int) ^ n ≤ 2 ^ m := by
  have : (2 : Nat) ^ n ≤ 2 ^ m := Nat.pow_le_pow_right (by omega) h
  exact_mod_cast this

/-- bits in two parts -/
theorem bitsOf_add (s : ByteArray) (a : Int) (n m : Nat) : bitsOf s a (n + m) = bitsOf s a n * 2 ^ m + bitsOf s (a + n) m := by
  induction m with
  | zero => simp [bitsOf]
  | succ m ih =>
    rw [← Nat.add_assoc]
    simp only [bitsOf]
    rw [ih, two_pow_succ]
    have h1 : a + ((n + m : Nat) : Int) = a + n + m := by omega
    rw [h1]
    generalize max (bitAt s (a + n + m)) 0 = x
    rw [Int.add_mul, Int.mul_assoc, Int.mul_comm (2 ^ m) 2]; omega
theorem bitsOf_past (s : ByteArray) (a : Int) (n : Nat) (h : 8 * s.size ≤ a) : bitsOf s a n = 0 := by
  induction n with
  | zero => rfl
  | succ n ih => simp only [bitsOf]; rw [ih, bitAt_out (by omega)]; rfl
theorem bitsOf_div (s : ByteArray) (a : Int) (n m : Nat) : bitsOf s a (n + m) / 2 ^ m = bitsOf s a n := by
  have h := bitsOf_range s (a + n) m
  have hp := two_pow_pos m
  rw [bitsOf_add, Int.add_comm, Int.add_mul_ediv_right _ _ (by omega), Int.ediv_eq_zero_of_lt h.1 h.2]; omega
theorem bitsOf_mod (s : ByteArray) (a : Int) (n m : Nat) : bitsOf s a (n + m) % 2 ^ m = bitsOf s (a + n) m := by
  have h := bitsOf_range s (a + n) m
  rw [bitsOf_add, Int.add_comm, Int.add_mul_emod_self_right, Int.emod_eq_of_lt h.1 h.2]
/-- eight bits are a byte -/
theorem bitsOf_byte (s : ByteArray) (p : Int) (h : 0 ≤ p ∧ p < s.size) : bitsOf s (8 * p) 8 = (s.data.toList.getD p.toNat 0).toNat := by
  have hb := (s.data.toList.getD p.toNat 0).toNat_lt
  have hx : ∀ k : Nat, k < 8 → max (bitAt s (8 * p + k)) 0 = (s.data.toList.getD p.toNat 0).toNat / 2 ^ (7 - k) % 2 := by
    intro k hk
    rw [bitAt_in (by omega)]
    have h1 : ((8 * p + (k : Int)) / 8).toNat = p.toNat := by omega
    have h2 : (7 - (8 * p + (k : Int)) % 8).toNat = 7 - k := by omega
    rw [h1, h2]; omega
  have h0 := hx 0; have h1 := hx 1; have h2 := hx 2; have h3 := hx 3; have h4 := hx 4; have h5 := hx 5; have h6 := hx 6; have h7 := hx 7
  simp only [bitsOf]
  rw [h0 (by omega), h1 (by omega), h2 (by omega), h3 (by omega), h4 (by omega), h5 (by omega), h6 (by omega), h7 (by omega)]
  generalize (s.data.toList.getD p.toNat 0).toNat = q at *
  rw [show (2 : Int) ^ (7 - 0) = 128 from rfl, show (2 : Int) ^ (7 - 1) = 64 from rfl, show (2 : Int) ^ (7 - 2) = 32 from rfl, show (2 : Int) ^ (7 - 3) = 16 from rfl, show (2 : Int) ^ (7 - 4) = 8 from rfl, show (2 : Int) ^ (7 - 5) = 4 from rfl, show (2 : Int) ^ (7 - 6) = 2 from rfl, show (2 : Int) ^ (7 - 7) = 1 from rfl]
  have hq : q < 256 := hb
  clear hb hx h0 h1 h2 h3 h4 h5 h6 h7
  omega

def remOf (s : ByteArray) (a : Int) : Int := if 0 ≤ a ∧ a ≤ 8 * s.size then 8 * s.size - a else 0
def rbOk (s : ByteArray) (a n : Int) : Prop := (0 ≤ a ∧ a ≤ 8 * s.size) ∧ (0 ≤ n ∧ n ≤ 32) ∧ n ≤ remOf s a
instance (s : ByteArray) (a n : Int) : Decidable (rbOk s a n) := by unfold rbOk; infer_instance
def rbAt (s : ByteArray) (a n : Int) : Int := if rbOk s a n then a + n else a
def rbV (s : ByteArray) (a n : Int) : Int := if rbOk s a n then bitsOf s a n.toNat else 0
theorem remOf_range (s : ByteArray) (a : Int) : 0 ≤ remOf s a ∧ remOf s a ≤ 8 * s.size := by unfold remOf; split <;> omega
theorem remOf_in {s : ByteArray} {a : Int} (h : 0 ≤ a ∧ a ≤ 8 * s.size) : remOf s a = 8 * s.size - a := by unfold remOf; rw [if_pos h]

theorem remOf_pos (s : ByteArray) (a : Int) (h : 0 < remOf s a) : 0 ≤ a ∧ a < 8 * s.size ∧ remOf s a = 8 * s.size - a := by
  unfold remOf at h ⊢; split at h
  · rename_i hx; rw [if_pos hx]; omega
  · omega
/-- how many bits from a place on are 0 -/
def zc (s : ByteArray) (a : Int) : Nat → Nat
  | 0 => 0
  | f + 1 => if bitAt s a = 0 then zc s (a + 1) f + 1 else 0
def zerosOf (s : ByteArray) (a : Int) : Int := zc s a (remOf s a).toNat
theorem zc_le (s : ByteArray) (a : Int) (f : Nat) : zc s a f ≤ f := by
  induction f generalizing a with
  | zero => simp [zc]
  | succ f ih => simp only [zc]; split; have := ih (a + 1); omega; omega
theorem zc_step {s : ByteArray} {a : Int} {f : Nat} (h : bitAt s a = 0) (hf : 0 < f) : zc s a f = zc s (a + 1) (f - 1) + 1 := by
  obtain ⟨g, rfl⟩ : ∃ g, f = g + 1 := ⟨f - 1, by omega⟩
  simp [zc, h]
theorem zc_stop {s : ByteArray} {a : Int} {f : Nat} (h : bitAt s a ≠ 0 ∨ f = 0) : zc s a f = 0 := by
  cases f with
  | zero => rfl
  | succ f => simp only [zc]; rw [if_neg (by omega)]
theorem zerosOf_range (s : ByteArray) (a : Int) : 0 ≤ zerosOf s a ∧ zerosOf s a ≤ remOf s a := by
  have h1 := zc_le s a (remOf s a).toNat
  have h2 := remOf_range s a
  unfold zerosOf; omega
def ueOk (s : ByteArray) (a : Int) : Prop := zerosOf s a ≤ 15 ∧ rbOk s a (2 * zerosOf s a + 1)
instance (s : ByteArray) (a : Int) : Decidable (ueOk s a) := by unfold ueOk; infer_instance
def ueAt (s : ByteArray) (a : Int) : Int := if ueOk s a then a + (2 * zerosOf s a + 1) else a
def ueV (s : ByteArray) (a : Int) : Int := if ueOk s a then bitsOf s a (2 * zerosOf s a + 1).toNat - 1 else 0
def ueE (s : ByteArray) (a : Int) : Int := if 15 < zerosOf s a then 4 else if rbOk s a (2 * zerosOf s a + 1) then 0 else 1

/-- a cache over a text -/
structure Ca where
  pos : Int
  word : Int
  hv : Int
abbrev caOk (s : ByteArray) (c : Ca) : Prop := cacheOk s c.pos c.word c.hv
def byteAt (s : ByteArray) (p : Int) : Int := (s.data.toList.getD p.toNat 0).toNat
theorem byteAt_range (s : ByteArray) (p : Int) : 0 ≤ byteAt s p ∧ byteAt s p ≤ 255 := by
  have := (s.data.toList.getD p.toNat 0).toNat_lt
  unfold byteAt; omega
def rfStep (s : ByteArray) (c : Ca) : Ca := ⟨c.pos + 1, c.word * 256 + byteAt s c.pos, c.hv + 8⟩
def rf (s : ByteArray) : Nat → Ca → Ca
  | 0, c => c
  | f + 1, c => if c.hv ≤ 48 ∧ c.pos < s.size then rf s f (rfStep s c) else c
theorem rfStep_ok {s : ByteArray} {c : Ca} (h : caOk s c) (h1 : c.hv ≤ 48) (h2 : c.pos < s.size) : caOk s (rfStep s c) := by
  obtain ⟨a1, a2, a3, a4, a5, a6⟩ := h
  refine ⟨?_, ?_, ?_, ?_, ?_, ?_⟩
  · show 0 ≤ c.pos + 1; omega
  · show c.pos + 1 ≤ _; omega
  · show 0 ≤ c.hv + 8; omega
  · show c.hv + 8 ≤ 56; omega
  · show c.hv + 8 ≤ 8 * (c.pos + 1); omega
  · show c.word * 256 + byteAt s c.pos = bitsOf s (8 * (c.pos + 1) - (c.hv + 8)) (c.hv + 8).toNat
    have e1 : 8 * (c.pos + 1) - (c.hv + 8) = 8 * c.pos - c.hv := by omega
    have e2 : (c.hv + 8).toNat = c.hv.toNat + 8 := by omega
    have e3 : 8 * c.pos - c.hv + (c.hv.toNat : Int) = 8 * c.pos := by omega
    rw [e1, e2, bitsOf_add, e3, bitsOf_byte s c.pos (by omega), ← a6]
    unfold byteAt; rw [show (2 : Int) ^ 8 = 256 from rfl]
theorem rf_ok {s : ByteArray} {c : Ca} (f : Nat) (h : caOk s c) : caOk s (rf s f c) := by
  induction f generalizing c with
  | zero => exact h
  | succ f ih => simp only [rf]; split; exact ih (rfStep_ok h (by omega) (by omega)); exact h
theorem rf_place (s : ByteArray) (c : Ca) (f : Nat) : 8 * (rf s f c).pos - (rf s f c).hv = 8 * c.pos - c.hv := by
  induction f generalizing c with
  | zero => rfl
  | succ f ih => simp only [rf]; split; rw [ih]; simp only [rfStep]; omega; rfl
theorem rf_end {s : ByteArray} {c : Ca} (f : Nat) (h : ¬ (c.hv ≤ 48 ∧ c.pos < s.size)) : rf s f c = c := by
  cases f with
  | zero => rfl
  | succ f => simp only [rf]; rw [if_neg h]
theorem rf_more {s : ByteArray} {c : Ca} (f : Nat) (h : c.hv ≤ 48 ∧ c.pos < s.size) : rf s (f + 1) c = rf s f (rfStep s c) := by
  simp only [rf]; rw [if_pos h]
/-- after seven rounds it is full, or at the end -/
theorem rf_full {s : ByteArray} {c : Ca} (f : Nat) (h : 0 ≤ c.hv + 8 * f - 49) : ¬ ((rf s f c).hv ≤ 48 ∧ (rf s f c).pos < s.size) := by
  induction f generalizing c with
  | zero => simp only [rf]; omega
  | succ f ih =>
    simp only [rf]
    split
    · refine ih ?_; simp only [rfStep]; omega
    · assumption
def refillOf (s : ByteArray) (c : Ca) : Ca := if caOk s c then rf s 7 c else c
def placeOf (s : ByteArray) (c : Ca) : Int := if caOk s c then 8 * c.pos - c.hv else -1
def settledAt (s : ByteArray) (a : Int) : Ca := ⟨(a + 7) / 8, bitsOf s a (8 * ((a + 7) / 8) - a).toNat, 8 * ((a + 7) / 8) - a⟩
def settleOf (s : ByteArray) (c : Ca) : Ca := if caOk s c then settledAt s (8 * c.pos - c.hv) else c
def readyOf (s : ByteArray) (c : Ca) (n : Int) : Ca := if c.hv < n then rf s 7 c else c
theorem ready_ok {s : ByteArray} {c : Ca} {n : Int} (h : caOk s c) : caOk s (readyOf s c n) := by
  unfold readyOf; split; exact rf_ok 7 h; exact h
theorem ready_place (s : ByteArray) (c : Ca) (n : Int) : 8 * (readyOf s c n).pos - (readyOf s c n).hv = 8 * c.pos - c.hv := by
  unfold readyOf; split; exact rf_place s c 7; rfl
theorem ready_full {s : ByteArray} {c : Ca} {n : Int} (h : caOk s c) (hn : n ≤ 16) (hlt : (readyOf s c n).hv < n) : (readyOf s c n).pos = s.size := by
  have h1 := ready_ok (n := n) h
  unfold readyOf at *
  split at hlt
  · rename_i hx
    rw [if_pos hx] at h1 ⊢
    have := rf_full (s := s) (c := c) 7 (by obtain ⟨_, _, h3, _⟩ := h; omega)
    obtain ⟨_, h2, _⟩ := h1
    omega
  · omega
def okN (s : ByteArray) (c : Ca) (n : Int) : Prop := caOk s c ∧ 0 ≤ n ∧ n ≤ 16
instance (s : ByteArray) (c : Ca) (n : Int) : Decidable (okN s c n) := by unfold okN; infer_instance
def peekC (s : ByteArray) (c : Ca) (n : Int) : Ca := if okN s c n then readyOf s c n else c
def peekV (s : ByteArray) (c : Ca) (n : Int) : Int := if okN s c n then bitsOf s (8 * c.pos - c.hv) n.toNat else 0
theorem peek_hi {s : ByteArray} {c : Ca} {n : Int} (h : caOk s c) (h0 : 0 ≤ n) (hn : n ≤ c.hv) : c.word / 2 ^ (c.hv - n).toNat = bitsOf s (8 * c.pos - c.hv) n.toNat := by
  obtain ⟨a1, a2, a3, a4, a5, a6⟩ := h
  have e : c.hv.toNat = n.toNat + (c.hv - n).toNat := by omega
  rw [a6]; conv => lhs; rw [e]
  exact bitsOf_div _ _ _ _
theorem peek_lo {s : ByteArray} {c : Ca} {n : Int} (h : caOk s c) (h0 : c.hv ≤ n) (hn : c.pos = s.size) : c.word * 2 ^ (n - c.hv).toNat = bitsOf s (8 * c.pos - c.hv) n.toNat := by
  obtain ⟨a1, a2, a3, a4, a5, a6⟩ := h
  have e : n.toNat = c.hv.toNat + (n - c.hv).toNat := by omega
  rw [e, bitsOf_add, bitsOf_past s (8 * c.pos - c.hv + (c.hv.toNat : Int)) _ (by omega), ← a6]; omega
theorem ca_word {s : ByteArray} {c : Ca} (h : caOk s c) (m : Nat) (h1 : c.hv ≤ m) : 0 ≤ c.word ∧ c.word < 2 ^ m := by
  obtain ⟨a1, a2, a3, a4, a5, a6⟩ := h
  have h2 := bitsOf_range s (8 * c.pos - c.hv) c.hv.toNat
  have h3 := two_pow_le (n := c.hv.toNat) (m := m) (by omega)
  omega
theorem ca_word48 {s : ByteArray} {c : Ca} (h : caOk s c) (h1 : c.hv ≤ 48) : 0 ≤ c.word ∧ c.word < 281474976710656 := ca_word h 48 h1
theorem ca_word56 {s : ByteArray} {c : Ca} (h : caOk s c) : 0 ≤ c.word ∧ c.word < 72057594037927936 := ca_word h 56 h.2.2.2.1
def skOk (s : ByteArray) (c : Ca) (n : Int) : Prop := okN s c n ∧ n ≤ (readyOf s c n).hv
instance (s : ByteArray) (c : Ca) (n : Int) : Decidable (skOk s c n) := by unfold skOk; infer_instance
def skC (s : ByteArray) (c : Ca) (n : Int) : Ca :=
  if skOk s c n then ⟨(readyOf s c n).pos, (readyOf s c n).word % 2 ^ ((readyOf s c n).hv - n).toNat, (readyOf s c n).hv - n⟩
  else if okN s c n then readyOf s c n else c
end Go.Pl

/- Plain lists of numbers: code lengths, steps, headers. -/
namespace Go.Pl

/-- how full a code of these lengths is, in parts of 128 -/
def kraft : List Int → Int
  | [] => 0
  | x :: r => (if 0 < x then 2 ^ (7 - x).toNat else 0) + kraft r
def codeOk (xs : List Int) : Prop := (∀ j : Nat, j < xs.length → 0 ≤ xs.getD j 0 ∧ xs.getD j 0 ≤ 7) ∧ xs.length = 6 ∧ kraft xs = 128
instance (xs : List Int) : Decidable (codeOk xs) := by unfold codeOk; infer_instance

def sidesOk (a b : Int) : Prop := (8 ≤ a ∧ a ≤ 32) ∧ (8 ≤ b ∧ b ≤ 32) ∧ a % 8 = 0 ∧ b % 8 = 0
instance (a b : Int) : Decidable (sidesOk a b) := by unfold sidesOk; infer_instance
def headOk (a b q : Int) (xs : List Int) : Prop := sidesOk a b ∧ (0 ≤ q ∧ q ≤ 51) ∧ codeOk xs
instance (a b q : Int) (xs : List Int) : Decidable (headOk a b q xs) := by unfold headOk; infer_instance
end Go.Pl

/- Plain: bits read in parts. -/
namespace Go.Pl
end Go.Pl

/- Plain: what caches yield. -/
namespace Go.Pl
theorem sk_ok {s : ByteArray} {c : Ca} {n : Int} (h : skOk s c n) : caOk s (skC s c n) ∧ 8 * (skC s c n).pos - (skC s c n).hv = 8 * c.pos - c.hv + n := by
  obtain ⟨⟨h1, h2⟩, h3⟩ := id h
  have hr := ready_ok (n := n) h1
  have hp := ready_place s c n
  have e : skC s c n = ⟨(readyOf s c n).pos, (readyOf s c n).word % 2 ^ ((readyOf s c n).hv - n).toNat, (readyOf s c n).hv - n⟩ := by unfold skC; rw [if_pos h]
  rw [e]
  generalize readyOf s c n = d at *
  obtain ⟨a1, a2, a3, a4, a5, a6⟩ := hr
  refine ⟨⟨a1, a2, ?_, ?_, ?_, ?_⟩, ?_⟩
  · show 0 ≤ d.hv - n; omega
  · show d.hv - n ≤ 56; omega
  · show d.hv - n ≤ 8 * d.pos; omega
  · show d.word % 2 ^ (d.hv - n).toNat = bitsOf s (8 * d.pos - (d.hv - n)) (d.hv - n).toNat
    have e2 : d.hv.toNat = n.toNat + (d.hv - n).toNat := by omega
    rw [a6]; conv => lhs; rw [e2, bitsOf_mod]
    congr 1; omega
  · show 8 * d.pos - (d.hv - n) = _; omega
theorem sk_iff {s : ByteArray} {c : Ca} {n : Int} (h : okN s c n) : skOk s c n ↔ rbOk s (8 * c.pos - c.hv) n := by
  obtain ⟨h1, h2⟩ := id h
  have hr := ready_ok (n := n) h1
  have hp := ready_place s c n
  have hf := ready_full (n := n) h1 h2.2
  obtain ⟨a1, a2, a3, a4, a5, a6⟩ := hr
  obtain ⟨b1, b2, b3, b4, b5, b6⟩ := id h1
  have hl : remOf s (8 * c.pos - c.hv) = 8 * s.size - (8 * c.pos - c.hv) := remOf_in (by omega)
  constructor
  · rintro ⟨_, h3⟩
    exact ⟨by omega, by omega, by omega⟩
  · rintro ⟨_, _, h3⟩
    refine ⟨h, ?_⟩
    rcases Int.lt_or_le (readyOf s c n).hv n with hx | hx
    · have := hf hx; omega
    · exact hx
theorem settled_ok {s : ByteArray} {a : Int} (h : 0 ≤ a ∧ a ≤ 8 * s.size) : caOk s (settledAt s a) ∧ 8 * (settledAt s a).pos - (settledAt s a).hv = a ∧ (settledAt s a).hv < 8 := by
  unfold settledAt
  refine ⟨⟨?_, ?_, ?_, ?_, ?_, ?_⟩, ?_, ?_⟩
  · show 0 ≤ (a + 7) / 8; omega
  · show (a + 7) / 8 ≤ _; omega
  · show 0 ≤ 8 * ((a + 7) / 8) - a; omega
  · show 8 * ((a + 7) / 8) - a ≤ 56; omega
  · show 8 * ((a + 7) / 8) - a ≤ 8 * ((a + 7) / 8); omega
  · show bitsOf s a _ = bitsOf s (8 * ((a + 7) / 8) - (8 * ((a + 7) / 8) - a)) _
    congr 1; omega
  · show 8 * ((a + 7) / 8) - (8 * ((a + 7) / 8) - a) = a; omega
  · show 8 * ((a + 7) / 8) - a < 8; omega
theorem place_of {s : ByteArray} {c : Ca} (h : caOk s c) : placeOf s c = 8 * c.pos - c.hv := by unfold placeOf; rw [if_pos h]
theorem place_in {s : ByteArray} {c : Ca} (h : caOk s c) : 0 ≤ 8 * c.pos - c.hv ∧ 8 * c.pos - c.hv ≤ 8 * s.size := by obtain ⟨_, _, _, _, _, _⟩ := h; omega
theorem new_ok (s : ByteArray) : caOk s ⟨0, 0, 0⟩ := by
  refine ⟨?_, ?_, ?_, ?_, ?_, ?_⟩ <;> simp [bitsOf]
theorem sk_keep {s : ByteArray} {c : Ca} {n : Int} (h : caOk s c) : caOk s (skC s c n) := by
  by_cases h1 : skOk s c n
  · exact (sk_ok h1).1
  · unfold skC; rw [if_neg h1]; split
    · exact ready_ok h
    · exact h
theorem refill_keep {s : ByteArray} {c : Ca} (h : caOk s c) : caOk s (refillOf s c) ∧ 8 * (refillOf s c).pos - (refillOf s c).hv = 8 * c.pos - c.hv := by
  unfold refillOf; rw [if_pos h]; exact ⟨rf_ok 7 h, rf_place s c 7⟩
/-- taking bits -/
def tkOk (s : ByteArray) (c : Ca) (n : Int) : Prop := skOk s (peekC s c n) n
instance (s : ByteArray) (c : Ca) (n : Int) : Decidable (tkOk s c n) := by unfold tkOk; infer_instance
end Go.Pl

/- Plain numbers: lists of bits, the bytes that they make, codes of numbers. -/
namespace Go.Pl
open Go.Sx
/-- the w low bits of n, the highest first -/
def bitsl (n : Int) : Nat → List Int
  | 0 => []
  | w + 1 => n / 2 ^ w % 2 :: bitsl n w
theorem bitsl_length (n : Int) (w : Nat) : (bitsl n w).length = w := by induction w with
  | zero => rfl
  | succ w ih => simp [bitsl, ih]
def bitOk (w n : Int) : Prop := (0 ≤ w ∧ w ≤ 48) ∧ 0 ≤ n ∧ n / 2 ^ w.toNat = 0
instance (w n : Int) : Decidable (bitOk w n) := by unfold bitOk; infer_instance
def bitsIn (n w : Int) : List Int := if bitOk w n then bitsl n w.toNat else []
theorem bitsIn_len (n w : Int) : (bitsIn n w).length ≤ 48 ∧ (bitOk w n → ((bitsIn n w).length : Int) = w) := by
  unfold bitsIn; split
  · rename_i h; rw [bitsl_length]; obtain ⟨⟨h1, h2⟩, _⟩ := h; omega
  · simp; intro h; contradiction
/-- are all of them bits? -/
def isBits (b : List Int) : Prop := ∀ x ∈ b, x = 0 ∨ x = 1
instance (b : List Int) : Decidable (isBits b) := by unfold isBits; infer_instance
theorem bitsl_bits (n : Int) (w : Nat) : isBits (bitsl n w) := by
  induction w with
  | zero => intro x hx; cases hx
  | succ w ih =>
    intro x hx
    simp only [bitsl, List.mem_cons] at hx
    rcases hx with rfl | hx
    · omega
    · exact ih x hx
theorem isBits_app {a b : List Int} : isBits (a ++ b) ↔ isBits a ∧ isBits b := by
  unfold isBits; simp only [List.mem_append]
  exact ⟨fun h => ⟨fun x hx => h x (.inl hx), fun x hx => h x (.inr hx)⟩, fun h x hx => hx.elim (h.1 x) (h.2 x)⟩
theorem isBits_get {b : List Int} (h : isBits b) (i : Nat) : b.getD i 0 = 0 ∨ b.getD i 0 = 1 := by
  rw [List.getD_eq_getElem?_getD]
  cases hh : b[i]? with
  | none => left; rfl
  | some v => exact h v (List.mem_of_getElem? hh)
theorem isBits_take {b : List Int} (h : isBits b) (n : Nat) : isBits (b.take n) := fun x hx => h x (List.mem_of_mem_take hx)
theorem isBits_drop {b : List Int} (h : isBits b) (n : Nat) : isBits (b.drop n) := fun x hx => h x (List.mem_of_mem_drop hx)
theorem isBits_upto {b : List Int} (h : ∀ j : Nat, j < b.length → b.getD j 0 = 0 ∨ b.getD j 0 = 1) : isBits b := fun x hx => by
  obtain ⟨j, hj, rfl⟩ := List.mem_iff_getElem.1 hx
  have := h j hj
  simpa [List.getD, hj] using this
/-- bits as a number -/
def numl : List Int → Int
  | [] => 0
  | x :: r => x * 2 ^ r.length + numl r
theorem numl_app (a b : List Int) : numl (a ++ b) = numl a * 2 ^ b.length + numl b := by
  induction a with
  | nil => simp [numl]
  | cons x r ih =>
    simp only [List.cons_append, numl, ih, List.length_append]
    rw [Int.pow_add, Int.add_mul, Int.mul_assoc]; omega
theorem numl_snoc (a : List Int) (x : Int) : numl (a ++ [x]) = numl a * 2 + x := by rw [numl_app]; simp [numl]
theorem numl_range {b : List Int} (h : isBits b) : 0 ≤ numl b ∧ numl b < 2 ^ b.length := by
  induction b with
  | nil => simp [numl]
  | cons x r ih =>
    have h1 := ih fun y hy => h y (List.mem_cons_of_mem _ hy)
    have h2 := h x (by simp)
    have hp := two_pow_pos r.length
    simp only [numl, List.length_cons, two_pow_succ]
    rcases h2 with rfl | rfl <;> omega
theorem numl_get {b : List Int} (h : isBits b) (i : Nat) (hi : i < b.length) : numl b / 2 ^ (b.length - 1 - i) % 2 = b.getD i 0 := by
  induction b generalizing i with
  | nil => simp at hi
  | cons x r ih =>
    have hr : isBits r := fun y hy => h y (List.mem_cons_of_mem _ hy)
    have h1 := numl_range hr
    have h2 := h x (by simp)
    cases i with
    | zero =>
      simp only [numl, List.length_cons, Nat.add_sub_cancel, Nat.sub_zero, List.getD_cons_zero]
      have hp := two_pow_pos r.length
      rw [Int.add_comm, Int.add_mul_ediv_right _ _ (by omega), Int.ediv_eq_zero_of_lt h1.1 h1.2]
      rcases h2 with rfl | rfl <;> rfl
    | succ i =>
      simp only [List.length_cons] at hi
      have h3 := ih hr i (by omega)
      simp only [numl, List.length_cons, List.getD_cons_succ]
      rw [← h3]
      have e1 : r.length + 1 - 1 - (i + 1) = r.length - 1 - i := by omega
      rw [e1]
      obtain ⟨m, hm⟩ : ∃ m, r.length = (r.length - 1 - i) + (m + 1) := ⟨i, by omega⟩
      have e2 : x * 2 ^ r.length = (x * 2 ^ m * 2) * 2 ^ (r.length - 1 - i) := by
        conv => lhs; rw [hm, Int.pow_add, Int.pow_succ]
        rw [Int.mul_comm (2 ^ (r.length - 1 - i)), ← Int.mul_assoc, ← Int.mul_assoc]
      have hp := two_pow_pos (r.length - 1 - i)
      rw [e2, Int.add_comm, Int.add_mul_ediv_right _ _ (by omega)]
      generalize x * 2 ^ m = y
      omega
/-- the bytes of bits -/
def bytesl (b : List Int) : List Int := (List.range (b.length / 8)).map fun j => numl ((b.drop (8 * j)).take 8)
def packs (b : List Int) : ByteArray := strOf (bytesl b)
theorem bytesl_length (b : List Int) : (bytesl b).length = b.length / 8 := by simp [bytesl]
theorem packs_size (b : List Int) : (packs b).size = b.length / 8 := by unfold packs; rw [strOf_size, bytesl_length]
theorem strOf_byte {xs : List Int} (h : ∀ x ∈ xs, 0 ≤ x ∧ x ≤ 255) (i : Nat) : (((strOf xs).data.toList.getD i 0).toNat : Int) = xs.getD i 0 := by
  simp only [strOf, List.getD_eq_getElem?_getD, List.getElem?_map]
  cases hh : xs[i]? with
  | none => simp
  | some v =>
    have := h v (List.mem_of_getElem? hh)
    simp only [Option.map_some, Option.getD_some]
    rw [UInt8.toNat_ofNat']
    omega
theorem bytesl_range {b : List Int} (h : isBits b) : ∀ x ∈ bytesl b, 0 ≤ x ∧ x ≤ 255 := by
  intro x hx
  obtain ⟨j, _, rfl⟩ := List.mem_map.1 hx
  have h1 := numl_range (isBits_take (isBits_drop h (8 * j)) 8)
  have h2 := two_pow_le (n := ((b.drop (8 * j)).take 8).length) (m := 8) (by rw [List.length_take]; omega)
  have e : (2 : Int) ^ 8 = 256 := rfl
  rw [e] at h2
  omega
theorem bitAt_packs {b : List Int} (h : isBits b) (i : Nat) (hi : i < 8 * (b.length / 8)) : bitAt (packs b) i = b.getD i 0 := by
  have hs : (packs b).size = b.length / 8 := packs_size b
  rw [bitAt_in (by rw [hs]; omega)]
  unfold packs
  have e1 : ((i : Int) / 8).toNat = i / 8 := by omega
  rw [e1, strOf_byte (bytesl_range h)]
  have hj : i / 8 < b.length / 8 := by omega
  have e2 : (bytesl b).getD (i / 8) 0 = numl ((b.drop (8 * (i / 8))).take 8) := by
    simp only [bytesl, List.getD_eq_getElem?_getD, List.getElem?_map, List.getElem?_range hj, Option.map_some, Option.getD_some]
  have hl : ((b.drop (8 * (i / 8))).take 8).length = 8 := by rw [List.length_take, List.length_drop]; omega
  rw [e2]
  have h3 := numl_get (isBits_take (isBits_drop h (8 * (i / 8))) 8) (i % 8) (by rw [hl]; omega)
  rw [hl] at h3
  have e3 : (7 - (i : Int) % 8).toNat = 8 - 1 - i % 8 := by omega
  rw [e3, h3]
  simp only [List.getD_eq_getElem?_getD, List.getElem?_take, List.getElem?_drop]
  rw [if_pos (by omega)]
  congr 2; omega
/-- the bytes of the first k bits -/
def byP (b : List Int) (k : Nat) : List Int := (List.range (b.length / 8)).map fun j => numl ((b.drop (8 * j)).take (min 8 (k - 8 * j))) * 2 ^ (8 - min 8 (k - 8 * j))
theorem byP_length (b : List Int) (k : Nat) : (byP b k).length = b.length / 8 := by simp [byP]
theorem byP_zero (b : List Int) : byP b 0 = List.replicate (b.length / 8) 0 := by
  apply List.ext_getElem
  · simp [byP]
  · intro i h1 h2; simp [byP, numl]
theorem byP_get {b : List Int} {k j : Nat} (hj : j < b.length / 8) : (byP b k).getD j 0 = numl ((b.drop (8 * j)).take (min 8 (k - 8 * j))) * 2 ^ (8 - min 8 (k - 8 * j)) := by
  simp only [byP, List.getD_eq_getElem?_getD, List.getElem?_map, List.getElem?_range hj, Option.map_some, Option.getD_some]
theorem byP_range {b : List Int} (h : isBits b) (k j : Nat) : 0 ≤ (byP b k).getD j 0 ∧ (byP b k).getD j 0 ≤ 255 := by
  by_cases hj : j < b.length / 8
  · rw [byP_get hj]
    have h1 := numl_range (isBits_take (isBits_drop h (8 * j)) (min 8 (k - 8 * j)))
    generalize hs : min 8 (k - 8 * j) = s at *
    have hs8 : s ≤ 8 := by omega
    have hl : ((b.drop (8 * j)).take s).length = s := by rw [List.length_take, List.length_drop]; omega
    rw [hl] at h1
    have hp := two_pow_pos (8 - s)
    have e : (2 : Int) ^ s * 2 ^ (8 - s) = 256 := by rw [← Int.pow_add, show s + (8 - s) = 8 by omega]; rfl
    have h2 : (numl ((b.drop (8 * j)).take s) + 1) * 2 ^ (8 - s) ≤ 2 ^ s * 2 ^ (8 - s) := Int.mul_le_mul_of_nonneg_right (by omega) (by omega)
    have h3 := Int.mul_nonneg h1.1 (Int.le_of_lt hp)
    rw [e, Int.add_mul] at h2
    omega
  · have : (byP b k).getD j 0 = 0 := by
      simp only [List.getD_eq_getElem?_getD]; rw [List.getElem?_eq_none (by rw [byP_length]; omega)]; rfl
    rw [this]; omega
theorem byP_mult (b : List Int) (k : Nat) (hk : k / 8 < b.length / 8) : (byP b k).getD (k / 8) 0 = numl ((b.drop (8 * (k / 8))).take (k % 8)) * 2 ^ (8 - k % 8) := by
  rw [byP_get hk, show min 8 (k - 8 * (k / 8)) = k % 8 by omega]
theorem byP_succ (b : List Int) (k : Nat) (hk : k / 8 < b.length / 8) : byP b (k + 1) = (byP b k).set (k / 8) ((byP b k).getD (k / 8) 0 + b.getD k 0 * 2 ^ (7 - k % 8)) := by
  apply List.ext_getElem?
  intro i
  rw [List.getElem?_set, byP_length]
  by_cases hi : i < b.length / 8
  · have e : ∀ m, (byP b m)[i]? = some (numl ((b.drop (8 * i)).take (min 8 (m - 8 * i))) * 2 ^ (8 - min 8 (m - 8 * i))) := fun m => by
      simp only [byP, List.getElem?_map, List.getElem?_range hi, Option.map_some]
    by_cases hik : k / 8 = i
    · subst hik
      rw [if_pos rfl, if_pos hk, e, byP_mult b k hk]
      have e1 : min 8 (k + 1 - 8 * (k / 8)) = k % 8 + 1 := by omega
      rw [e1, List.take_add_one]
      have e2 : (b.drop (8 * (k / 8)))[k % 8]? = some (b.getD k 0) := by
        rw [List.getElem?_drop, List.getD_eq_getElem?_getD, show 8 * (k / 8) + k % 8 = k by omega, List.getElem?_eq_getElem (by omega)]; rfl
      rw [e2, Option.toList_some, numl_snoc]
      have e3 : 8 - k % 8 = (7 - k % 8) + 1 := by omega
      have e4 : 8 - (k % 8 + 1) = 7 - k % 8 := by omega
      rw [e3, e4, two_pow_succ]
      generalize (2 : Int) ^ (7 - k % 8) = q
      rw [Int.add_mul, Int.mul_assoc]
    · rw [if_neg hik, e, e]
      have e1 : min 8 (k + 1 - 8 * i) = min 8 (k - 8 * i) := by omega
      rw [e1]
  · have e : ∀ m, (byP b m)[i]? = none := fun m => List.getElem?_eq_none (by rw [byP_length]; omega)
    by_cases hik : k / 8 = i
    · omega
    · rw [if_neg hik, e, e]
theorem byP_end {b : List Int} {k : Nat} (h : 8 * (b.length / 8) ≤ k) : byP b k = bytesl b := by
  unfold byP bytesl
  apply List.map_congr_left
  intro j hj
  rw [List.mem_range] at hj
  have e : min 8 (k - 8 * j) = 8 := by omega
  rw [e]; simp
def byOk (b : List Int) : Prop := isBits b ∧ b.length % 8 = 0
instance (b : List Int) : Decidable (byOk b) := by unfold byOk; infer_instance
def bytesStr (b : List Int) : ByteArray := if byOk b then packs b else ⟨#[]⟩
/-- how many zeros lead the code of n -/
def lz (n : Int) : Int := ((n + 1).toNat.log2 : Nat)
theorem lz_spec {n : Int} (h : 0 ≤ n) : 2 ^ (lz n).toNat ≤ n + 1 ∧ n + 1 < 2 ^ ((lz n).toNat + 1) := by
  have h1 := Nat.log2_self_le (n := (n + 1).toNat) (by omega)
  have h2 := Nat.lt_log2_self (n := (n + 1).toNat)
  unfold lz
  simp only [Int.toNat_natCast]
  have e1 : ((2 ^ (n + 1).toNat.log2 : Nat) : Int) = 2 ^ (n + 1).toNat.log2 := by simp
  have e2 : ((2 ^ ((n + 1).toNat.log2 + 1) : Nat) : Int) = 2 ^ ((n + 1).toNat.log2 + 1) := by simp
  rw [← e1, ← e2]
  omega
theorem lz_uniq {n : Int} {z : Nat} (h : 0 ≤ n) (h1 : 2 ^ z ≤ n + 1) (h2 : n + 1 < 2 ^ (z + 1)) : lz n = z := by
  obtain ⟨h3, h4⟩ := lz_spec h
  have h0 : 0 ≤ lz n := by unfold lz; omega
  rcases Nat.lt_trichotomy (lz n).toNat z with h5 | h5 | h5
  · have := two_pow_le (n := (lz n).toNat + 1) (m := z) (by omega); omega
  · omega
  · have := two_pow_le (n := z + 1) (m := (lz n).toNat) (by omega); omega
theorem lz_range {n : Int} (h : 0 ≤ n ∧ n ≤ 65534) : 0 ≤ lz n ∧ lz n ≤ 15 := by
  obtain ⟨h3, h4⟩ := lz_spec h.1
  have h0 : 0 ≤ lz n := by unfold lz; omega
  refine ⟨h0, ?_⟩
  rcases Int.lt_or_le 15 (lz n) with h5 | h5
  · have := two_pow_le (n := 16) (m := (lz n).toNat) (by omega)
    have e : (2 : Int) ^ 16 = 65536 := rfl
    omega
  · exact h5
/-- the length of a number's code -/
def ueSize (n : Int) : Int := if 0 ≤ n ∧ n ≤ 65534 then 2 * lz n + 1 else 0
end Go.Pl

/- Plain numbers: the table of numbers' codes. -/
namespace Go.Pl
theorem bitsIn_no {n w : Int} (h : ¬ bitOk w n) : bitsIn n w = [] := by unfold bitsIn; rw [if_neg h]
theorem bitsIn_yes {n w : Int} {k : Nat} (h : bitOk w n) (hk : (k : Int) = w) : bitsIn n w = (bitsl n w.toNat).take k := by
  unfold bitsIn; rw [if_pos h, List.take_of_length_le (by rw [bitsl_length]; omega)]
theorem bitsl_take {n w : Int} {k : Nat} (h : (k : Int) < w) : (bitsl n w.toNat).take (k + 1) = (bitsl n w.toNat).take k ++ [n / 2 ^ (w - 1 - k).toNat % 2] := by
  have key : ∀ (m k : Nat), k < m → (bitsl n m).take (k + 1) = (bitsl n m).take k ++ [n / 2 ^ (m - 1 - k) % 2] := by
    intro m
    induction m with
    | zero => intro k hk; omega
    | succ m ih =>
      intro k hk
      cases k with
      | zero => simp [bitsl]
      | succ k =>
        simp only [bitsl, List.take_succ_cons, List.cons_append]
        rw [ih k (by omega), show m + 1 - 1 - (k + 1) = m - 1 - k by omega]
  rw [key w.toNat k (by omega)]
  congr 5; omega
def ueEnt (i : Nat) : Int × Int :=
  if ueE (packs (bitsl i 9 ++ List.replicate 7 0)) 0 = 0 ∧ ueAt (packs (bitsl i 9 ++ List.replicate 7 0)) 0 ≤ 9 then (ueAt (packs (bitsl i 9 ++ List.replicate 7 0)) 0, ueV (packs (bitsl i 9 ++ List.replicate 7 0)) 0) else (0, 0)
def ueU (k : Nat) : List (Int × Int) := (List.range k).map ueEnt ++ List.replicate (512 - k) (0, 0)
def ueTab : List (Int × Int) := (List.range 512).map ueEnt
theorem ueU_length {k : Nat} (h : k ≤ 512) : (ueU k).length = 512 := by simp [ueU]; omega
theorem ueU_zero : ueU 0 = List.replicate 512 (0, 0) := by simp only [ueU, List.range_zero, List.map_nil, List.nil_append, Nat.sub_zero]
theorem ueU_end : ueU 512 = ueTab := by simp [ueU, ueTab]
theorem ueU_succ {k : Nat} (h : k < 512) : ueU (k + 1) = (ueU k).set k (ueEnt k) := by
  apply List.ext_getElem?
  intro i
  have hr : (List.map ueEnt (List.range k)).length = k := by simp
  have hr1 : (List.map ueEnt (List.range (k + 1))).length = k + 1 := by simp
  rw [List.getElem?_set]
  by_cases hik : k = i
  · subst hik
    rw [if_pos rfl, if_pos (by rw [ueU_length (by omega)]; exact h)]
    unfold ueU
    rw [List.getElem?_append_left (by omega)]
    simp
  · rw [if_neg hik]
    unfold ueU
    rcases Nat.lt_or_ge i k with h1 | h1
    · rw [List.getElem?_append_left (by omega), List.getElem?_append_left (by omega)]
      simp [h1, show i < k + 1 by omega]
    · rw [List.getElem?_append_right (by omega), List.getElem?_append_right (by omega), hr, hr1, List.getElem?_replicate, List.getElem?_replicate]
      by_cases h2 : i < 512
      · rw [if_pos (by omega), if_pos (by omega)]
      · rw [if_neg (by omega), if_neg (by omega)]
theorem ueU_skip {k : Nat} (h : k < 512) (he : ueEnt k = (0, 0)) : ueU (k + 1) = ueU k := by
  rw [ueU_succ h, he]
  apply List.ext_getElem?
  intro i
  rw [List.getElem?_set]
  by_cases hik : k = i
  · subst hik
    rw [if_pos rfl, if_pos (by rw [ueU_length (by omega)]; exact h)]
    unfold ueU
    rw [List.getElem?_append_right (by simp), List.length_map, List.length_range, Nat.sub_self, List.getElem?_replicate, if_pos (by omega)]
  · rw [if_neg hik]
/-- the table, filled number by number -/
def ueFill (t : List (Int × Int)) (n : Nat) : Nat → List (Int × Int)
  | 0 => t
  | k + 1 => (ueFill t n k).set ((n + 1) * 2 ^ (9 - ueSize n).toNat + k) (ueSize n, (n : Int))
def ueT : Nat → List (Int × Int)
  | 0 => List.replicate 512 (0, 0)
  | n + 1 => ueFill (ueT n) n (2 ^ (9 - ueSize n).toNat)
theorem ueFill_length (t : List (Int × Int)) (n k : Nat) : (ueFill t n k).length = t.length := by induction k with
  | zero => rfl
  | succ k ih => simp [ueFill, ih]
theorem ueT_length (n : Nat) : (ueT n).length = 512 := by induction n with
  | zero => exact List.length_replicate
  | succ n ih => rw [ueT, ueFill_length, ih]
theorem ueSize_small : ∀ n : Fin 31, 1 ≤ ueSize (n.1 : Int) ∧ ueSize (n.1 : Int) ≤ 9 ∧ (n.1 + 1) * 2 ^ (9 - ueSize (n.1 : Int)).toNat + 2 ^ (9 - ueSize (n.1 : Int)).toNat ≤ 512 := by decide +kernel
theorem ueSize_31 : ueSize 31 = 11 := by decide +kernel
theorem ueT_tab : ueT 31 = ueTab := by decide +kernel
end Go.Pl

/- Plain numbers: prefix codes. -/
namespace Go.Pl
/-- codes given out: one round over the six lengths -/
def cIn (l : List Int) (n : Int) (st : List Int × Int) : Nat → List Int × Int
  | 0 => st
  | j + 1 => if l.getD j 0 = n then ((cIn l n st j).1.set j (cIn l n st j).2, (cIn l n st j).2 + 1) else cIn l n st j
def cOut (l : List Int) : Nat → List Int × Int
  | 0 => (List.replicate 6 (-1), 0)
  | n + 1 => cIn l ((n : Int) + 1) ((cOut l n).1, (cOut l n).2 * 2) 6
def codesOf (l : List Int) : List Int := if codeOk l then (cOut l 7).1 else []
def inP (l : List Int) (n : Int) (j m : Nat) : Prop := m < 6 ∧ 1 ≤ l.getD m 0 ∧ (l.getD m 0 < n ∨ (l.getD m 0 = n ∧ m < j))
def cHit (l out : List Int) (m : Nat) (v : Int) : Prop := v / 2 ^ (7 - l.getD m 0).toNat = out.getD m 0
instance (l out : List Int) (m : Nat) (v : Int) : Decidable (cHit l out m v) := by unfold cHit; infer_instance
theorem div_iff {v d q : Int} (hd : 0 < d) : v / d = q ↔ q * d ≤ v ∧ v < q * d + d := by
  have h1 := Int.le_ediv_iff_mul_le (a := q) (b := v) hd
  have h2 := Int.ediv_lt_iff_lt_mul (a := v) (b := q + 1) hd
  rw [Int.add_mul, Int.one_mul] at h2
  omega
structure CInv (l out : List Int) (next n S : Int) (j : Nat) : Prop where
  len : out.length = 6
  nx : next * 2 ^ (7 - n).toNat = S
  n0 : 0 ≤ next
  un : ∀ m, m < 6 → ¬ inP l n j m → out.getD m 0 = -1
  cov : ∀ v, 0 ≤ v → v < S → ∃ m, inP l n j m ∧ cHit l out m v
  abv : ∀ v, S ≤ v → ∀ m, inP l n j m → ¬ cHit l out m v
  unq : ∀ v m m', inP l n j m → inP l n j m' → cHit l out m v → cHit l out m' v → m = m'
  nneg : ∀ m, inP l n j m → 0 ≤ out.getD m 0 ∧ (out.getD m 0 + 1) * 2 ^ (7 - l.getD m 0).toNat ≤ S
theorem getD_set_eq {xs : List Int} {i : Nat} {a : Int} (h : i < xs.length) : (xs.set i a).getD i 0 = a := by simp [List.getD, h]
theorem getD_set_ne {xs : List Int} {i j : Nat} {a : Int} (h : i ≠ j) : (xs.set i a).getD j 0 = xs.getD j 0 := by
  simp only [List.getD_eq_getElem?_getD, List.getElem?_set, if_neg h]
theorem CInv.give {l out : List Int} {next n S : Int} {j : Nat} (h : CInv l out next n S j) (hn : 1 ≤ n ∧ n ≤ 7) (hj : j < 6) (hl : l.getD j 0 = n) : CInv l (out.set j next) (next + 1) n (S + 2 ^ (7 - n).toNat) (j + 1) := by
  have hp := two_pow_pos (7 - n).toNat
  have hP : ∀ m, inP l n (j + 1) m ↔ inP l n j m ∨ m = j := by
    intro m; unfold inP
    constructor
    · rintro ⟨h1, h2, h3⟩
      by_cases hm : m = j
      · exact .inr hm
      · left; exact ⟨h1, h2, by omega⟩
    · rintro (⟨h1, h2, h3⟩ | rfl)
      · exact ⟨h1, h2, by omega⟩
      · exact ⟨hj, by omega, .inr ⟨hl, by omega⟩⟩
  have hnj : ∀ m, inP l n j m → m ≠ j := by rintro m ⟨h1, h2, h3⟩ rfl; omega
  have hold : ∀ m v, m ≠ j → (cHit l (out.set j next) m v ↔ cHit l out m v) := by
    intro m v hm; unfold cHit; rw [getD_set_ne (Ne.symm hm)]
  have hnew : ∀ v, cHit l (out.set j next) j v ↔ S ≤ v ∧ v < S + 2 ^ (7 - n).toNat := by
    intro v; unfold cHit; rw [getD_set_eq (by rw [h.len]; exact hj), hl, div_iff hp, h.nx]
  refine ⟨by simp [h.len], by rw [Int.add_mul, h.nx]; omega, by have := h.n0; omega, ?_, ?_, ?_, ?_, ?_⟩
  · intro m hm hn'
    rw [hP] at hn'
    rw [getD_set_ne (fun e => hn' (.inr e.symm))]
    exact h.un m hm fun h' => hn' (.inl h')
  · intro v h0 h1
    rcases Int.lt_or_le v S with h2 | h2
    · obtain ⟨m, hm, hh⟩ := h.cov v h0 h2
      exact ⟨m, (hP m).2 (.inl hm), (hold m v (hnj m hm)).2 hh⟩
    · exact ⟨j, (hP j).2 (.inr rfl), (hnew v).2 ⟨h2, h1⟩⟩
  · intro v hv m hm
    rcases (hP m).1 hm with h1 | rfl
    · rw [hold m v (hnj m h1)]; exact h.abv v (by omega) m h1
    · rw [hnew]; omega
  · intro v m m' hm hm' h1 h2
    rcases (hP m).1 hm with a | rfl <;> rcases (hP m').1 hm' with b | rfl
    · exact h.unq v m m' a b ((hold m v (hnj m a)).1 h1) ((hold m' v (hnj m' b)).1 h2)
    · exact absurd ((hold m v (hnj m a)).1 h1) (h.abv v ((hnew v).1 h2).1 m a)
    · exact absurd ((hold m' v (hnj m' b)).1 h2) (h.abv v ((hnew v).1 h1).1 m' b)
    · rfl
  · intro m hm
    rcases (hP m).1 hm with h1 | rfl
    · rw [getD_set_ne (Ne.symm (hnj m h1))]
      have := h.nneg m h1; omega
    · rw [getD_set_eq (by rw [h.len]; exact hj), hl, Int.add_mul, h.nx]
      exact ⟨h.n0, by omega⟩
theorem CInv.pass {l out : List Int} {next n S : Int} {j : Nat} (h : CInv l out next n S j) (hl : l.getD j 0 ≠ n) : CInv l out next n S (j + 1) := by
  have hP : ∀ m, inP l n (j + 1) m ↔ inP l n j m := by
    intro m; unfold inP
    by_cases hm : m = j
    · subst hm; omega
    · omega
  exact ⟨h.len, h.nx, h.n0, fun m hm hn => h.un m hm fun h' => hn ((hP m).2 h'), fun v h0 h1 => by obtain ⟨m, a, b⟩ := h.cov v h0 h1; exact ⟨m, (hP m).2 a, b⟩,
    fun v hv m hm => h.abv v hv m ((hP m).1 hm), fun v m m' a b => h.unq v m m' ((hP m).1 a) ((hP m').1 b), fun m hm => h.nneg m ((hP m).1 hm)⟩
theorem CInv.next {l out : List Int} {next n S : Int} (h : CInv l out next n S 6) (hn : 0 ≤ n ∧ n ≤ 6) : CInv l out (next * 2) (n + 1) S 0 := by
  have hP : ∀ m, inP l (n + 1) 0 m ↔ inP l n 6 m := by intro m; unfold inP; omega
  refine ⟨h.len, ?_, by have := h.n0; omega, fun m hm hn => h.un m hm fun h' => hn ((hP m).2 h'), fun v h0 h1 => by obtain ⟨m, a, b⟩ := h.cov v h0 h1; exact ⟨m, (hP m).2 a, b⟩,
    fun v hv m hm => h.abv v hv m ((hP m).1 hm), fun v m m' a b => h.unq v m m' ((hP m).1 a) ((hP m').1 b), fun m hm => h.nneg m ((hP m).1 hm)⟩
  have e : (7 - n).toNat = (7 - (n + 1)).toNat + 1 := by omega
  rw [← h.nx, e, two_pow_succ, Int.mul_assoc]
/-- the symbol whose code seven bits begin with -/
def symOf (l : List Int) (v : Int) : Nat := ((List.range 6).find? fun m => decide (1 ≤ l.getD m 0 ∧ cHit l (codesOf l) m v)).getD 0
/-- reading a symbol -/
def symAt (s : ByteArray) (a : Int) (l : List Int) : Nat := symOf l (bitsOf s a 7)
def rsOk (s : ByteArray) (a : Int) (l : List Int) : Prop := codeOk l ∧ rbOk s a (l.getD (symAt s a l) 0)
instance (s : ByteArray) (a : Int) (l : List Int) : Decidable (rsOk s a l) := by unfold rsOk; infer_instance
def sideOf (n : Int) : Int := if n = 16 then 4 else if n = 64 then 8 else 0
def levelsOk (xs : List Int) : Prop := (∀ j : Nat, j < xs.length → -16383 ≤ xs.getD j 0 ∧ xs.getD j 0 ≤ 16383) ∧ 0 < sideOf xs.length
instance (xs : List Int) : Decidable (levelsOk xs) := by unfold levelsOk; infer_instance
def symOk (l : List Int) (m : Int) : Prop := codeOk l ∧ (0 ≤ m ∧ m ≤ 5) ∧ l.getD m.toNat 0 ≠ 0
instance (l : List Int) (m : Int) : Decidable (symOk l m) := by unfold symOk; infer_instance
def blockOk (m : Int) (ys xs : List Int) (n : Int) : Prop := (n = 4 ∨ n = 8) ∧ symOk xs m ∧ (ys.length : Int) = n * n ∧ levelsOk ys
instance (m : Int) (ys xs : List Int) (n : Int) : Decidable (blockOk m ys xs n) := by unfold blockOk; infer_instance
end Go.Pl

/- Plain numbers: what is written is read. -/
namespace Go.Pl
open Go.Sx
theorem mod_two {q r P : Int} (h0 : 0 ≤ r) (h1 : r < P) : (q * P + r) % (2 * P) = q % 2 * P + r := by
  have hb : 0 ≤ q % 2 * P ∧ q % 2 * P ≤ P := by
    rcases (show q % 2 = 0 ∨ q % 2 = 1 by omega) with hh | hh <;> rw [hh] <;> omega
  have e : q * P + r = (q % 2 * P + r) + q / 2 * (2 * P) := by
    have h2 : q = q / 2 * 2 + q % 2 := by omega
    conv => lhs; rw [h2]
    rw [Int.add_mul, Int.mul_assoc]; omega
  rw [e, Int.add_mul_emod_self_right, Int.emod_eq_of_lt (by omega) (by omega)]
theorem numl_bitsl {n : Int} (w : Nat) : numl (bitsl n w) = n % 2 ^ w := by
  induction w with
  | zero => simp [bitsl, numl, Int.emod_one]
  | succ w ih =>
    simp only [bitsl, numl, ih, bitsl_length, two_pow_succ]
    have hp := two_pow_pos w
    rw [← mod_two (Int.emod_nonneg n (by omega)) (Int.emod_lt_of_pos n hp)]
    congr 1
    rw [Int.mul_comm]; exact Int.mul_ediv_add_emod n (2 ^ w)
/-- bits read from bytes -/
theorem bitsOf_packs {B : List Int} (h : isBits B) (a : Nat) : ∀ n : Nat, a + n ≤ 8 * (B.length / 8) → bitsOf (packs B) a n = numl ((B.drop a).take n)
  | 0, _ => by simp [bitsOf, numl]
  | n + 1, hn => by
    have ih := bitsOf_packs h a n (by omega)
    simp only [bitsOf]
    rw [ih, show ((a : Int) + (n : Int)) = ((a + n : Nat) : Int) by omega, bitAt_packs h (a + n) (by omega)]
    have hx : 0 ≤ B.getD (a + n) 0 := by have := isBits_get h (a + n); omega
    rw [Int.max_eq_left hx, List.take_add_one]
    have e : (B.drop a)[n]? = some (B.getD (a + n) 0) := by
      rw [List.getElem?_drop, List.getD_eq_getElem?_getD, List.getElem?_eq_getElem (by omega)]; rfl
    rw [e, Option.toList_some, numl_snoc]
/-- the code of a number -/
def ueBits (n : Int) : List Int := if 0 ≤ n ∧ n ≤ 65534 then bitsIn (n + 1) (ueSize n) else []
theorem ueBits_eq {n : Int} (h : 0 ≤ n ∧ n ≤ 65534) : ueBits n = bitsl (n + 1) (2 * (lz n).toNat + 1) := by
  have h1 := lz_range h
  obtain ⟨h2, h3⟩ := lz_spec h.1
  have e : ueSize n = 2 * lz n + 1 := by unfold ueSize; rw [if_pos h]
  have h4 := two_pow_le (n := (lz n).toNat + 1) (m := (2 * lz n + 1).toNat) (by omega)
  unfold ueBits bitsIn
  rw [if_pos h, e, if_pos ⟨by omega, by omega, Int.ediv_eq_zero_of_lt (by omega) (by omega)⟩, show (2 * lz n + 1).toNat = 2 * (lz n).toNat + 1 by omega]
theorem ueBits_len {n : Int} (h : 0 ≤ n ∧ n ≤ 65534) : ((ueBits n).length : Int) = ueSize n := by
  have h1 := lz_range h
  rw [ueBits_eq h, bitsl_length]; unfold ueSize; rw [if_pos h]; omega
theorem ueBits_no {n : Int} (h : ¬ (0 ≤ n ∧ n ≤ 65534)) : ueBits n = [] := by unfold ueBits; rw [if_neg h]
/-- filled up to whole bytes -/
def pad8 (b : List Int) : List Int := b ++ List.replicate ((8 - b.length % 8) % 8) 0
theorem pad8_len (b : List Int) : (pad8 b).length % 8 = 0 ∧ b.length ≤ (pad8 b).length ∧ (pad8 b).length ≤ b.length + 7 := by
  unfold pad8; rw [List.length_append, List.length_replicate]; omega
def stopped (b : List Int) : ByteArray := bytesStr (pad8 (b ++ [1]))
theorem stopped_size (b : List Int) : (stopped b).size ≤ (b.length + 8) / 8 := by
  unfold stopped bytesStr
  split
  · rw [packs_size]
    have := (pad8_len (b ++ [1])).2.2
    rw [List.length_append] at this
    simp only [List.length_cons, List.length_nil] at this
    omega
  · show 0 ≤ _; omega
theorem ueSize_range (n : Int) : 0 ≤ ueSize n ∧ ueSize n ≤ 31 := by
  unfold ueSize; split
  · rename_i h; have := lz_range h; omega
  · omega
end Go.Pl
