/- Plain numbers: readers and caches over a text. -/
import Derived.Test.YtdnckakaoageoaaPl1
namespace Go.Pl

theorem ofNat_pow2 (n : Nat) : ((2 ^ n : Nat) : Int) = 2 ^ n := by simp
theorem two_pow_pos (n : Nat) : (0 : Int) < 2 ^ n := Int.pow_pos (by omega)
theorem two_pow_succ (n : Nat) : (2 : Int) ^ (n + 1) = 2 * 2 ^ n := by rw [Int.pow_succ]; omega
theorem two_pow_le {n m : Nat} (h : n ≤ m) : (2 : Int) ^ n ≤ 2 ^ m := by
  have : (2 : Nat) ^ n ≤ 2 ^ m := Nat.pow_le_pow_right (by omega) h
  exact_mod_cast this

/-- bits in two parts -/
theorem bitsOf_add (s : ByteArray) (a : Int) (n m : Nat) : bitsOf s a (n + m) = bitsOf s a n * 2 ^ m + bitsOf s (a + n) m := by
  induction m with
  | zero => simp [bitsOf]
  | succ m ih =>
    rw [← Nat.add_assoc]
    simp only [bitsOf]
    rw [ih, two_pow_succ]
    have h1 : a + ((n + m : Nat) : Int) = a + n + m := by omega
    rw [h1]
    generalize max (bitAt s (a + n + m)) 0 = x
    rw [Int.add_mul, Int.mul_assoc, Int.mul_comm (2 ^ m) 2]; omega
theorem bitsOf_first (s : ByteArray) (a : Int) (n : Nat) : bitsOf s a (n + 1) = max (bitAt s a) 0 * 2 ^ n + bitsOf s (a + 1) n := by
  rw [Nat.add_comm, bitsOf_add]; simp [bitsOf]
theorem bitsOf_past (s : ByteArray) (a : Int) (n : Nat) (h : 8 * s.size ≤ a) : bitsOf s a n = 0 := by
  induction n with
  | zero => rfl
  | succ n ih => simp only [bitsOf]; rw [ih, bitAt_out (by omega)]; rfl
theorem bitsOf_div (s : ByteArray) (a : Int) (n m : Nat) : bitsOf s a (n + m) / 2 ^ m = bitsOf s a n := by
  have h := bitsOf_range s (a + n) m
  have hp := two_pow_pos m
  rw [bitsOf_add, Int.add_comm, Int.add_mul_ediv_right _ _ (by omega), Int.ediv_eq_zero_of_lt h.1 h.2]; omega
theorem bitsOf_mod (s : ByteArray) (a : Int) (n m : Nat) : bitsOf s a (n + m) % 2 ^ m = bitsOf s (a + n) m := by
  have h := bitsOf_range s (a + n) m
  rw [bitsOf_add, Int.add_comm, Int.add_mul_emod_self_right, Int.emod_eq_of_lt h.1 h.2]
/-- eight bits are a byte -/
theorem bitsOf_byte (s : ByteArray) (p : Int) (h : 0 ≤ p ∧ p < s.size) : bitsOf s (8 * p) 8 = (s.data.toList.getD p.toNat 0).toNat := by
  have hb := (s.data.toList.getD p.toNat 0).toNat_lt
  have hx : ∀ k : Nat, k < 8 → max (bitAt s (8 * p + k)) 0 = (s.data.toList.getD p.toNat 0).toNat / 2 ^ (7 - k) % 2 := by
    intro k hk
    rw [bitAt_in (by omega)]
    have h1 : ((8 * p + (k : Int)) / 8).toNat = p.toNat := by omega
    have h2 : (7 - (8 * p + (k : Int)) % 8).toNat = 7 - k := by omega
    rw [h1, h2]; omega
  have h0 := hx 0; have h1 := hx 1; have h2 := hx 2; have h3 := hx 3; have h4 := hx 4; have h5 := hx 5; have h6 := hx 6; have h7 := hx 7
  simp only [bitsOf]
  rw [h0 (by omega), h1 (by omega), h2 (by omega), h3 (by omega), h4 (by omega), h5 (by omega), h6 (by omega), h7 (by omega)]
  generalize (s.data.toList.getD p.toNat 0).toNat = q at *
  rw [show (2 : Int) ^ (7 - 0) = 128 from rfl, show (2 : Int) ^ (7 - 1) = 64 from rfl, show (2 : Int) ^ (7 - 2) = 32 from rfl, show (2 : Int) ^ (7 - 3) = 16 from rfl, show (2 : Int) ^ (7 - 4) = 8 from rfl, show (2 : Int) ^ (7 - 5) = 4 from rfl, show (2 : Int) ^ (7 - 6) = 2 from rfl, show (2 : Int) ^ (7 - 7) = 1 from rfl]
  have hq : q < 256 := hb
  clear hb hx h0 h1 h2 h3 h4 h5 h6 h7
  omega

def remOf (s : ByteArray) (a : Int) : Int := if 0 ≤ a ∧ a ≤ 8 * s.size then 8 * s.size - a else 0
def rbOk (s : ByteArray) (a n : Int) : Prop := (0 ≤ a ∧ a ≤ 8 * s.size) ∧ (0 ≤ n ∧ n ≤ 32) ∧ n ≤ remOf s a
instance (s : ByteArray) (a n : Int) : Decidable (rbOk s a n) := by unfold rbOk; infer_instance
def rbAt (s : ByteArray) (a n : Int) : Int := if rbOk s a n then a + n else a
def rbV (s : ByteArray) (a n : Int) : Int := if rbOk s a n then bitsOf s a n.toNat else 0
theorem remOf_range (s : ByteArray) (a : Int) : 0 ≤ remOf s a ∧ remOf s a ≤ 8 * s.size := by unfold remOf; split <;> omega
theorem remOf_in {s : ByteArray} {a : Int} (h : 0 ≤ a ∧ a ≤ 8 * s.size) : remOf s a = 8 * s.size - a := by unfold remOf; rw [if_pos h]

theorem remOf_pos (s : ByteArray) (a : Int) (h : 0 < remOf s a) : 0 ≤ a ∧ a < 8 * s.size ∧ remOf s a = 8 * s.size - a := by
  unfold remOf at h ⊢; split at h
  · rename_i hx; rw [if_pos hx]; omega
  · omega
/-- how many bits from a place on are 0 -/
def zc (s : ByteArray) (a : Int) : Nat → Nat
  | 0 => 0
  | f + 1 => if bitAt s a = 0 then zc s (a + 1) f + 1 else 0
def zerosOf (s : ByteArray) (a : Int) : Int := zc s a (remOf s a).toNat
theorem zc_le (s : ByteArray) (a : Int) (f : Nat) : zc s a f ≤ f := by
  induction f generalizing a with
  | zero => simp [zc]
  | succ f ih => simp only [zc]; split; have := ih (a + 1); omega; omega
theorem zc_step {s : ByteArray} {a : Int} {f : Nat} (h : bitAt s a = 0) (hf : 0 < f) : zc s a f = zc s (a + 1) (f - 1) + 1 := by
  obtain ⟨g, rfl⟩ : ∃ g, f = g + 1 := ⟨f - 1, by omega⟩
  simp [zc, h]
theorem zc_stop {s : ByteArray} {a : Int} {f : Nat} (h : bitAt s a ≠ 0 ∨ f = 0) : zc s a f = 0 := by
  cases f with
  | zero => rfl
  | succ f => simp only [zc]; rw [if_neg (by omega)]
theorem zerosOf_range (s : ByteArray) (a : Int) : 0 ≤ zerosOf s a ∧ zerosOf s a ≤ remOf s a := by
  have h1 := zc_le s a (remOf s a).toNat
  have h2 := remOf_range s a
  unfold zerosOf; omega
theorem zc_all {s : ByteArray} {a : Int} {f : Nat} (hr : 0 ≤ a ∧ a + f ≤ 8 * s.size) : zc s a f = f ↔ bitsOf s a f = 0 := by
  induction f generalizing a with
  | zero => simp [zc, bitsOf]
  | succ f ih =>
    rw [bitsOf_first]
    have hb := bitAt_in0 (s := s) (i := a) (by omega)
    have hp := two_pow_pos f
    have h2 := bitsOf_range s (a + 1) f
    have h3 := ih (a := a + 1) (by omega)
    simp only [zc]
    by_cases h : bitAt s a = 0
    · rw [if_pos h, h, show max (0 : Int) 0 = 0 from rfl, Int.zero_mul]; omega
    · have h1 : bitAt s a = 1 := by omega
      rw [if_neg h, h1, show max (1 : Int) 0 = 1 from rfl, Int.one_mul]; omega

def ueOk (s : ByteArray) (a : Int) : Prop := zerosOf s a ≤ 15 ∧ rbOk s a (2 * zerosOf s a + 1)
instance (s : ByteArray) (a : Int) : Decidable (ueOk s a) := by unfold ueOk; infer_instance
def ueAt (s : ByteArray) (a : Int) : Int := if ueOk s a then a + (2 * zerosOf s a + 1) else a
def ueV (s : ByteArray) (a : Int) : Int := if ueOk s a then bitsOf s a (2 * zerosOf s a + 1).toNat - 1 else 0
def ueE (s : ByteArray) (a : Int) : Int := if 15 < zerosOf s a then 4 else if rbOk s a (2 * zerosOf s a + 1) then 0 else 1

def stopOf (s : ByteArray) (a : Int) : Int :=
  if remOf s a = 0 then 1 else if remOf s a ≤ 8 ∧ bitsOf s a (remOf s a).toNat = 2 ^ (remOf s a - 1).toNat then 0 else 6
theorem stop_spec {s : ByteArray} {a : Int} (h : 0 ≤ a ∧ a < 8 * s.size) :
    bitsOf s a (remOf s a).toNat = 2 ^ (remOf s a - 1).toNat ↔ bitAt s a = 1 ∧ zerosOf s (a + 1) = remOf s (a + 1) := by
  have h1 : remOf s a = 8 * s.size - a := remOf_in (by omega)
  have h2 : remOf s (a + 1) = 8 * s.size - (a + 1) := remOf_in (by omega)
  obtain ⟨m, hm⟩ : ∃ m : Nat, 8 * s.size - a = m + 1 := ⟨(8 * s.size - a - 1).toNat, by omega⟩
  have e1 : (remOf s a).toNat = m + 1 := by omega
  have e2 : (remOf s a - 1).toNat = m := by omega
  have e3 : (remOf s (a + 1)).toNat = m := by omega
  unfold zerosOf
  rw [e1, e2, e3, bitsOf_first]
  have hb := bitAt_in0 (s := s) (i := a) (by omega)
  have hz := zc_all (s := s) (a := a + 1) (f := m) (by omega)
  have hr := bitsOf_range s (a + 1) m
  have hp := two_pow_pos m
  by_cases hx : bitAt s a = 0
  · rw [hx, show max (0 : Int) 0 = 0 from rfl, Int.zero_mul]; omega
  · have hx1 : bitAt s a = 1 := by omega
    rw [hx1, show max (1 : Int) 0 = 1 from rfl, Int.one_mul]
    constructor
    · intro h; have : zc s (a + 1) m = m := hz.2 (by omega); omega
    · rintro ⟨_, h⟩; have : bitsOf s (a + 1) m = 0 := hz.1 (by omega); omega

/-- a cache over a text -/
structure Ca where
  pos : Int
  word : Int
  hv : Int
abbrev caOk (s : ByteArray) (c : Ca) : Prop := cacheOk s c.pos c.word c.hv
def byteAt (s : ByteArray) (p : Int) : Int := (s.data.toList.getD p.toNat 0).toNat
theorem byteAt_range (s : ByteArray) (p : Int) : 0 ≤ byteAt s p ∧ byteAt s p ≤ 255 := by
  have := (s.data.toList.getD p.toNat 0).toNat_lt
  unfold byteAt; omega
def rfStep (s : ByteArray) (c : Ca) : Ca := ⟨c.pos + 1, c.word * 256 + byteAt s c.pos, c.hv + 8⟩
def rf (s : ByteArray) : Nat → Ca → Ca
  | 0, c => c
  | f + 1, c => if c.hv ≤ 48 ∧ c.pos < s.size then rf s f (rfStep s c) else c
theorem rfStep_ok {s : ByteArray} {c : Ca} (h : caOk s c) (h1 : c.hv ≤ 48) (h2 : c.pos < s.size) : caOk s (rfStep s c) := by
  obtain ⟨a1, a2, a3, a4, a5, a6⟩ := h
  refine ⟨?_, ?_, ?_, ?_, ?_, ?_⟩
  · show 0 ≤ c.pos + 1; omega
  · show c.pos + 1 ≤ _; omega
  · show 0 ≤ c.hv + 8; omega
  · show c.hv + 8 ≤ 56; omega
  · show c.hv + 8 ≤ 8 * (c.pos + 1); omega
  · show c.word * 256 + byteAt s c.pos = bitsOf s (8 * (c.pos + 1) - (c.hv + 8)) (c.hv + 8).toNat
    have e1 : 8 * (c.pos + 1) - (c.hv + 8) = 8 * c.pos - c.hv := by omega
    have e2 : (c.hv + 8).toNat = c.hv.toNat + 8 := by omega
    have e3 : 8 * c.pos - c.hv + (c.hv.toNat : Int) = 8 * c.pos := by omega
    rw [e1, e2, bitsOf_add, e3, bitsOf_byte s c.pos (by omega), ← a6]
    unfold byteAt; rw [show (2 : Int) ^ 8 = 256 from rfl]
theorem rf_ok {s : ByteArray} {c : Ca} (f : Nat) (h : caOk s c) : caOk s (rf s f c) := by
  induction f generalizing c with
  | zero => exact h
  | succ f ih => simp only [rf]; split; exact ih (rfStep_ok h (by omega) (by omega)); exact h
theorem rf_place (s : ByteArray) (c : Ca) (f : Nat) : 8 * (rf s f c).pos - (rf s f c).hv = 8 * c.pos - c.hv := by
  induction f generalizing c with
  | zero => rfl
  | succ f ih => simp only [rf]; split; rw [ih]; simp only [rfStep]; omega; rfl
theorem rf_end {s : ByteArray} {c : Ca} (f : Nat) (h : ¬ (c.hv ≤ 48 ∧ c.pos < s.size)) : rf s f c = c := by
  cases f with
  | zero => rfl
  | succ f => simp only [rf]; rw [if_neg h]
theorem rf_more {s : ByteArray} {c : Ca} (f : Nat) (h : c.hv ≤ 48 ∧ c.pos < s.size) : rf s (f + 1) c = rf s f (rfStep s c) := by
  simp only [rf]; rw [if_pos h]
/-- after seven rounds it is full, or at the end -/
theorem rf_full {s : ByteArray} {c : Ca} (f : Nat) (h : 0 ≤ c.hv + 8 * f - 49) : ¬ ((rf s f c).hv ≤ 48 ∧ (rf s f c).pos < s.size) := by
  induction f generalizing c with
  | zero => simp only [rf]; omega
  | succ f ih =>
    simp only [rf]
    split
    · refine ih ?_; simp only [rfStep]; omega
    · assumption
def refillOf (s : ByteArray) (c : Ca) : Ca := if caOk s c then rf s 7 c else c
def placeOf (s : ByteArray) (c : Ca) : Int := if caOk s c then 8 * c.pos - c.hv else -1
def settledAt (s : ByteArray) (a : Int) : Ca := ⟨(a + 7) / 8, bitsOf s a (8 * ((a + 7) / 8) - a).toNat, 8 * ((a + 7) / 8) - a⟩
def settleOf (s : ByteArray) (c : Ca) : Ca := if caOk s c then settledAt s (8 * c.pos - c.hv) else c
def readyOf (s : ByteArray) (c : Ca) (n : Int) : Ca := if c.hv < n then rf s 7 c else c
theorem ready_ok {s : ByteArray} {c : Ca} {n : Int} (h : caOk s c) : caOk s (readyOf s c n) := by
  unfold readyOf; split; exact rf_ok 7 h; exact h
theorem ready_place (s : ByteArray) (c : Ca) (n : Int) : 8 * (readyOf s c n).pos - (readyOf s c n).hv = 8 * c.pos - c.hv := by
  unfold readyOf; split; exact rf_place s c 7; rfl
theorem ready_full {s : ByteArray} {c : Ca} {n : Int} (h : caOk s c) (hn : n ≤ 16) (hlt : (readyOf s c n).hv < n) : (readyOf s c n).pos = s.size := by
  have h1 := ready_ok (n := n) h
  unfold readyOf at *
  split at hlt
  · rename_i hx
    rw [if_pos hx] at h1 ⊢
    have := rf_full (s := s) (c := c) 7 (by obtain ⟨_, _, h3, _⟩ := h; omega)
    obtain ⟨_, h2, _⟩ := h1
    omega
  · omega
def okN (s : ByteArray) (c : Ca) (n : Int) : Prop := caOk s c ∧ 0 ≤ n ∧ n ≤ 16
instance (s : ByteArray) (c : Ca) (n : Int) : Decidable (okN s c n) := by unfold okN; infer_instance
def peekC (s : ByteArray) (c : Ca) (n : Int) : Ca := if okN s c n then readyOf s c n else c
def peekV (s : ByteArray) (c : Ca) (n : Int) : Int := if okN s c n then bitsOf s (8 * c.pos - c.hv) n.toNat else 0
theorem peek_hi {s : ByteArray} {c : Ca} {n : Int} (h : caOk s c) (h0 : 0 ≤ n) (hn : n ≤ c.hv) : c.word / 2 ^ (c.hv - n).toNat = bitsOf s (8 * c.pos - c.hv) n.toNat := by
  obtain ⟨a1, a2, a3, a4, a5, a6⟩ := h
  have e : c.hv.toNat = n.toNat + (c.hv - n).toNat := by omega
  rw [a6]; conv => lhs; rw [e]
  exact bitsOf_div _ _ _ _
theorem peek_lo {s : ByteArray} {c : Ca} {n : Int} (h : caOk s c) (h0 : c.hv ≤ n) (hn : c.pos = s.size) : c.word * 2 ^ (n - c.hv).toNat = bitsOf s (8 * c.pos - c.hv) n.toNat := by
  obtain ⟨a1, a2, a3, a4, a5, a6⟩ := h
  have e : n.toNat = c.hv.toNat + (n - c.hv).toNat := by omega
  rw [e, bitsOf_add, bitsOf_past s (8 * c.pos - c.hv + (c.hv.toNat : Int)) _ (by omega), ← a6]; omega
theorem ca_word {s : ByteArray} {c : Ca} (h : caOk s c) (m : Nat) (h1 : c.hv ≤ m) : 0 ≤ c.word ∧ c.word < 2 ^ m := by
  obtain ⟨a1, a2, a3, a4, a5, a6⟩ := h
  have h2 := bitsOf_range s (8 * c.pos - c.hv) c.hv.toNat
  have h3 := two_pow_le (n := c.hv.toNat) (m := m) (by omega)
  omega
theorem ca_word48 {s : ByteArray} {c : Ca} (h : caOk s c) (h1 : c.hv ≤ 48) : 0 ≤ c.word ∧ c.word < 281474976710656 := ca_word h 48 h1
theorem ca_word56 {s : ByteArray} {c : Ca} (h : caOk s c) : 0 ≤ c.word ∧ c.word < 72057594037927936 := ca_word h 56 h.2.2.2.1
def skOk (s : ByteArray) (c : Ca) (n : Int) : Prop := okN s c n ∧ n ≤ (readyOf s c n).hv
instance (s : ByteArray) (c : Ca) (n : Int) : Decidable (skOk s c n) := by unfold skOk; infer_instance
def skC (s : ByteArray) (c : Ca) (n : Int) : Ca :=
  if skOk s c n then ⟨(readyOf s c n).pos, (readyOf s c n).word % 2 ^ ((readyOf s c n).hv - n).toNat, (readyOf s c n).hv - n⟩
  else if okN s c n then readyOf s c n else c
end Go.Pl
