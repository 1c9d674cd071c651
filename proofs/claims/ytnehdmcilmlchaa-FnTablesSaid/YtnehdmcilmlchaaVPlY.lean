/- Plain numbers and lists, with no program in sight. -/
import Derived.Test.YtnehdmcilmlchaaVPlX
import Derived.Test.YtnehdmcilmlchaaVSxF
/- Plain numbers: tables of symbols. -/
namespace Go.Pl
open Go.Sx
end Go.Pl

/- Plain numbers: symbols out of caches; edges drawn together. -/
namespace Go.Pl
theorem peek_place {s : ByteArray} {c : Ca} {n : Int} (h : okN s c n) : caOk s (peekC s c n) ∧ 8 * (peekC s c n).pos - (peekC s c n).hv = 8 * c.pos - c.hv := by
  have e : peekC s c n = readyOf s c n := by unfold peekC; rw [if_pos h]
  rw [e]; exact ⟨ready_ok h.1, ready_place s c n⟩
/-- the bounds of an edge -/
def alphaOf (q : Int) : Int := if 0 ≤ q ∧ q ≤ 51 then q + 4 else 0
def betaOf (q : Int) : Int := if 0 ≤ q ∧ q ≤ 51 then q / 3 + 2 else 0
def pixOk (xs : List Int) : Prop := ∀ j : Nat, j < xs.length → 0 ≤ xs.getD j 0 ∧ xs.getD j 0 ≤ 255
def edgeC (a b c d q : Int) : Prop := ((0 ≤ a ∧ a ≤ 255) ∧ (0 ≤ b ∧ b ≤ 255) ∧ (0 ≤ c ∧ c ≤ 255) ∧ (0 ≤ d ∧ d ≤ 255)) ∧ (b - c < alphaOf q ∧ c - b < alphaOf q) ∧ (a - b < betaOf q ∧ b - a < betaOf q) ∧ (d - c < betaOf q ∧ c - d < betaOf q)
instance (a b c d q : Int) : Decidable (edgeC a b c d q) := by unfold edgeC; infer_instance
/-- a right frame -/
def frOk (W H : Int) (xs : List Int) : Prop := sidesOk W H ∧ (xs.length : Int) = W * H ∧ pixOk xs
end Go.Pl

/- Plain numbers: headers, pairs and blocks as bits. -/
namespace Go.Pl
instance (xs : List Int) : Decidable (pixOk xs) := by unfold pixOk; infer_instance
instance (W H : Int) (xs : List Int) : Decidable (frOk W H xs) := by unfold frOk; infer_instance
theorem ueBits_le (n : Int) : (ueBits n).length ≤ 31 := by
  by_cases h : 0 ≤ n ∧ n ≤ 65534
  · have h1 := ueBits_len h; have h2 := ueSize_range n; omega
  · rw [ueBits_no h]; simp
/-- the first k numbers' bits -/
def fieldsOf (xs : List Int) (k : Nat) : List Int := (xs.take k).flatMap (fun n => bitsIn n 3)
/-- a macroblock -/
def side (e : Bool) : Int := if e then 8 else 4
def mbOk (e : Bool) (bs : List (Int × List Int)) (xs : List Int) : Prop := (bs.length : Int) = 64 / (side e * side e) ∧ ∀ j : Nat, j < bs.length → blockOk (bs.getD j default).1 (bs.getD j default).2 xs (side e)
instance (e : Bool) (bs : List (Int × List Int)) (xs : List Int) : Decidable (mbOk e bs xs) := by unfold mbOk; infer_instance
/-- a table's number out of a cache, else bit by bit -/
def fuIx (s : ByteArray) (c : Ca) : Nat := (bitsOf s (8 * c.pos - c.hv) 9).toNat
def fuHit (s : ByteArray) (c : Ca) (t : List (Int × Int)) : Prop := t.length = 512 ∧ 1 ≤ (t.getD (fuIx s c) default).1 ∧ (t.getD (fuIx s c) default).1 ≤ 9
instance (s : ByteArray) (c : Ca) (t : List (Int × Int)) : Decidable (fuHit s c t) := by unfold fuHit; infer_instance
def fuE (s : ByteArray) (c : Ca) (t : List (Int × Int)) : Int :=
  if ¬ caOk s c then 1 else if fuHit s c t then (if 8 * c.pos - c.hv + (t.getD (fuIx s c) default).1 > 8 * s.size then 1 else 0) else ueE s (8 * c.pos - c.hv)
def fuAt (s : ByteArray) (c : Ca) (t : List (Int × Int)) : Int := if fuHit s c t then 8 * c.pos - c.hv + (t.getD (fuIx s c) default).1 else ueAt s (8 * c.pos - c.hv)
def fuC (s : ByteArray) (c : Ca) (t : List (Int × Int)) : Ca := if fuE s c t = 0 then settledAt s (fuAt s c t) else c
def fuV (s : ByteArray) (c : Ca) (t : List (Int × Int)) : Int := if fuE s c t = 0 then (if fuHit s c t then (t.getD (fuIx s c) default).2 else ueV s (8 * c.pos - c.hv)) else 0
theorem fu_peek {s : ByteArray} {c : Ca} (h : caOk s c) : peekV s c 9 = fuIx s c ∧ 0 ≤ peekV s c 9 ∧ peekV s c 9 < 512 := by
  have hk : okN s c 9 := ⟨h, by omega, by omega⟩
  have h7 := bitsOf_range s (8 * c.pos - c.hv) 9
  have e : peekV s c 9 = bitsOf s (8 * c.pos - c.hv) 9 := by unfold peekV; rw [if_pos hk]; rfl
  have e9 : (2 : Int) ^ 9 = 512 := rfl
  rw [e]; refine ⟨?_, h7.1, by omega⟩
  unfold fuIx; omega
theorem fu_skip {s : ByteArray} {c : Ca} {n : Int} (h : caOk s c) (hn : 1 ≤ n ∧ n ≤ 9) : (skOk s (peekC s c 9) n ↔ 8 * c.pos - c.hv + n ≤ 8 * s.size) ∧ (skOk s (peekC s c 9) n → settleOf s (skC s (peekC s c 9) n) = settledAt s (8 * c.pos - c.hv + n)) := by
  have hk : okN s c 9 := ⟨h, by omega, by omega⟩
  have hp := peek_place hk
  have hin := place_in h
  have h2 := sk_iff (c := peekC s c 9) (n := n) ⟨hp.1, by omega, by omega⟩
  rw [hp.2] at h2
  refine ⟨?_, fun h3 => ?_⟩
  · rw [h2]
    constructor
    · intro h4; have := h4.2.2; rw [remOf_in hin] at this; omega
    · intro h4; exact ⟨hin, by omega, by rw [remOf_in hin]; omega⟩
  · have h4 := sk_ok h3
    unfold settleOf; rw [if_pos h4.1, h4.2, hp.2]
theorem ueAt_in {s : ByteArray} {a : Int} (h : 0 ≤ a ∧ a ≤ 8 * s.size) : a ≤ ueAt s a ∧ ueAt s a ≤ 8 * s.size := by
  have hz := zerosOf_range s a
  unfold ueAt; split
  · next h1 => have := h1.2.2.2; rw [remOf_in h] at this; omega
  · omega
end Go.Pl

/- Plain numbers: frames filtered. -/
namespace Go.Pl
def allIn (lo hi : Int) (xs : List Int) : Prop := ∀ j : Nat, j < xs.length → lo ≤ xs.getD j 0 ∧ xs.getD j 0 ≤ hi
instance (lo hi : Int) (xs : List Int) : Decidable (allIn lo hi xs) := by unfold allIn; infer_instance
def fqOk (W H q : Int) (xs : List Int) : Prop := frOk W H xs ∧ 0 ≤ q ∧ q ≤ 51
instance (W H q : Int) (xs : List Int) : Decidable (fqOk W H q xs) := by unfold fqOk; infer_instance
end Go.Pl

/- Plain numbers: fields read one by one, up to the first error. -/
namespace Go.Pl
structure Fs where
  a : Int
  code : Int
section
variable {s : ByteArray} {f : Fs} {n : Int} {chk : Int → Int}
end
end Go.Pl
namespace Go.Pl
structure Lv where
  f : Fs
  p : Int
  l : List Int
end Go.Pl

/- Plain numbers: numbers read are none below 0; pairs read one by one. -/
namespace Go.Pl
end Go.Pl

/- Plain numbers: headers and blocks as bits, joined. -/
namespace Go.Pl
open Go.Sx
theorem bitsl_pad {m : Int} {w : Nat} (h : 0 ≤ m ∧ m < 2 ^ w) : ∀ k : Nat, bitsl m (w + k) = List.replicate k 0 ++ bitsl m w
  | 0 => by simp
  | k + 1 => by
    have ih := bitsl_pad h k
    have h2 := two_pow_le (n := w) (m := w + k) (by omega)
    show bitsl m (w + k + 1) = _
    rw [bitsl, ih, Int.ediv_eq_zero_of_lt h.1 (by omega)]; rfl
theorem ueBits_zeros {n : Int} (h : 0 ≤ n ∧ n ≤ 65534) : ueBits n = List.replicate (lz n).toNat 0 ++ bitsIn (n + 1) (lz n + 1) := by
  have h1 := lz_spec h.1
  have h2 := lz_range h
  have e1 : (lz n + 1).toNat = (lz n).toNat + 1 := by omega
  have hb : bitOk (lz n + 1) (n + 1) := ⟨by omega, by omega, by rw [e1]; exact Int.ediv_eq_zero_of_lt (by omega) h1.2⟩
  rw [ueBits_eq h, show 2 * (lz n).toNat + 1 = ((lz n).toNat + 1) + (lz n).toNat by omega, bitsl_pad ⟨by omega, h1.2⟩]
  unfold bitsIn; rw [if_pos hb, e1]
theorem own_eq {w : World} {p : Option Addr} {c : Nat} {e : TypeId} {F : List Nat} {xs ys : List Int} (h : xs = ys) (o : Own w p xs.length c e 1 (ic xs) F) : Own w p ys.length c e 1 (ic ys) F := h ▸ o
end Go.Pl

/- Plain numbers: headers read. -/
namespace Go.Pl
section
variable {s : ByteArray} {a : Int}
end
theorem rbV_range (s : ByteArray) (a n : Int) : 0 ≤ rbV s a n ∧ rbV s a n < 4294967296 := by
  unfold rbV; split
  · next h =>
    have h1 := bitsOf_range s a n.toNat
    have h2 := two_pow_le (n := n.toNat) (m := 32) (by have := h.2.1; omega)
    have e : (2 : Int) ^ 32 = 4294967296 := rfl
    omega
  · omega
theorem ueAt_no {s : ByteArray} {a : Int} (h : ueE s a ≠ 0) : ueAt s a = a := by
  unfold ueAt; rw [if_neg]
  intro h1
  apply h
  unfold ueE; rw [if_neg (by have := h1.1; omega), if_pos h1.2]
theorem ueV_no {s : ByteArray} {a : Int} (h : ueE s a ≠ 0) : ueV s a = 0 := by
  unfold ueV; rw [if_neg]
  intro h1
  apply h
  unfold ueE; rw [if_neg (by have := h1.1; omega), if_pos h1.2]
end Go.Pl

/- Plain numbers: streams as bits. -/
namespace Go.Pl
open Go.Sx
abbrev PB : Type := Int × List Int
abbrev PM : Type := Bool × List PB
def streamOk (a b q : Int) (xs : List Int) (ms : List PM) : Prop := headOk a b q xs ∧ (ms.length : Int) = a / 8 * (b / 8) ∧ ∀ j : Nat, j < ms.length → mbOk (ms.getD j default).1 (ms.getD j default).2 xs
instance (a b q : Int) (xs : List Int) (ms : List PM) : Decidable (streamOk a b q xs ms) := by unfold streamOk; infer_instance
/-- a number of its bits -/
def numOk (b : List Int) : Prop := isBits b ∧ b.length ≤ 48
instance (b : List Int) : Decidable (isBits b) := by unfold isBits; infer_instance
instance (b : List Int) : Decidable (numOk b) := by unfold numOk; infer_instance
theorem numl_take {b : List Int} {k : Nat} (h : k < b.length) : numl (b.take (k + 1)) = numl (b.take k) * 2 + b.getD k 0 := by
  rw [List.take_add_one]; simp only [List.getElem?_eq_getElem h, Option.toList_some]; rw [numl_snoc]; simp [List.getD, h]
theorem numl_take_range {b : List Int} {k : Nat} (hk : k ≤ 48) (h : ∀ j : Nat, j < k → b.getD j 0 = 0 ∨ b.getD j 0 = 1) (hl : k ≤ b.length) : 0 ≤ numl (b.take k) ∧ numl (b.take k) < 281474976710656 := by
  have hb : isBits (b.take k) := isBits_upto fun j hj => by
    rw [List.length_take] at hj
    have := h j (by omega)
    rw [List.getD_eq_getElem?_getD, List.getElem?_take, if_pos (by omega), ← List.getD_eq_getElem?_getD]; exact this
  have h1 := numl_range hb
  have h2 := two_pow_le (n := (b.take k).length) (m := 48) (by rw [List.length_take]; omega)
  have e : (2 : Int) ^ 48 = 281474976710656 := rfl
  omega
/-- the first k bytes of bits -/
theorem bytesl_get {b : List Int} {k : Nat} (h : k < b.length / 8) : (bytesl b)[k]? = some (numl ((b.drop (8 * k)).take 8)) := by simp [bytesl, h]
theorem bytesl_take {b : List Int} {k : Nat} (h : k < b.length / 8) : (bytesl b).take (k + 1) = (bytesl b).take k ++ [numl ((b.drop (8 * k)).take 8)] := by
  rw [List.take_add_one, bytesl_get h]; rfl
theorem isBits_parts {b : List Int} {k : Nat} (h : isBits (b.take (8 * k))) (h2 : isBits ((b.drop (8 * k)).take 8)) : isBits (b.take (8 * (k + 1))) := by
  rw [show 8 * (k + 1) = 8 * k + 8 by omega, List.take_add]; exact isBits_app.2 ⟨h, h2⟩
end Go.Pl
