/- Plain numbers and lists, with no program in sight. -/
import Derived.Test.YtepnknffaecbdaaGreatVSxA
import Derived.Lib.Tables
/- Plain numbers: bits of a text. -/
namespace Go.Pl

def bitAt (s : ByteArray) (i : Int) : Int :=
  if 0 ≤ i ∧ i < 8 * s.size then (s.data.toList.getD (i / 8).toNat 0).toNat / 2 ^ (7 - i % 8).toNat % 2 else -1

def bitsOf (s : ByteArray) (a : Int) : Nat → Int
  | 0 => 0
  | n + 1 => bitsOf s a n * 2 + max (bitAt s (a + n)) 0

def cacheOk (s : ByteArray) (pos word have_ : Int) : Prop := 0 ≤ pos ∧ pos ≤ s.size ∧ 0 ≤ have_ ∧ have_ ≤ 56 ∧ have_ ≤ 8 * pos ∧ word = bitsOf s (8 * pos - have_) have_.toNat
instance (s : ByteArray) (pos word have_ : Int) : Decidable (cacheOk s pos word have_) := by unfold cacheOk; infer_instance

end Go.Pl

/- Plain numbers: readers and caches over a text. -/
namespace Go.Pl

theorem two_pow_pos (n : Nat) : (0 : Int) < 2 ^ n := Int.pow_pos (by omega)
theorem two_pow_succ (n : Nat) : (2 : Int) ^ (n + 1) = 2 * 2 ^ n := by rw [Int.pow_succ]; omega
theorem two_pow_le {n m : Nat} (h : n ≤ m) : (2 : Int) ^ n ≤ 2 ^ m := by
  have : (2 : Nat) ^ n ≤ 2 ^ m := Nat.pow_le_pow_right (by omega) h
  exact_mod_cast this

def remOf (s : ByteArray) (a : Int) : Int := if 0 ≤ a ∧ a ≤ 8 * s.size then 8 * s.size - a else 0
def rbOk (s : ByteArray) (a n : Int) : Prop := (0 ≤ a ∧ a ≤ 8 * s.size) ∧ (0 ≤ n ∧ n ≤ 32) ∧ n ≤ remOf s a
instance (s : ByteArray) (a n : Int) : Decidable (rbOk s a n) := by unfold rbOk; infer_instance
def zc (s : ByteArray) (a : Int) : Nat → Nat
  | 0 => 0
  | f + 1 => if bitAt s a = 0 then zc s (a + 1) f + 1 else 0
def zerosOf (s : ByteArray) (a : Int) : Int := zc s a (remOf s a).toNat
def ueOk (s : ByteArray) (a : Int) : Prop := zerosOf s a ≤ 15 ∧ rbOk s a (2 * zerosOf s a + 1)
instance (s : ByteArray) (a : Int) : Decidable (ueOk s a) := by unfold ueOk; infer_instance
def ueAt (s : ByteArray) (a : Int) : Int := if ueOk s a then a + (2 * zerosOf s a + 1) else a
def ueV (s : ByteArray) (a : Int) : Int := if ueOk s a then bitsOf s a (2 * zerosOf s a + 1).toNat - 1 else 0
def ueE (s : ByteArray) (a : Int) : Int := if 15 < zerosOf s a then 4 else if rbOk s a (2 * zerosOf s a + 1) then 0 else 1

structure Ca where
  pos : Int
  word : Int
  hv : Int
abbrev caOk (s : ByteArray) (c : Ca) : Prop := cacheOk s c.pos c.word c.hv
def byteAt (s : ByteArray) (p : Int) : Int := (s.data.toList.getD p.toNat 0).toNat
def rfStep (s : ByteArray) (c : Ca) : Ca := ⟨c.pos + 1, c.word * 256 + byteAt s c.pos, c.hv + 8⟩
def rf (s : ByteArray) : Nat → Ca → Ca
  | 0, c => c
  | f + 1, c => if c.hv ≤ 48 ∧ c.pos < s.size then rf s f (rfStep s c) else c
def readyOf (s : ByteArray) (c : Ca) (n : Int) : Ca := if c.hv < n then rf s 7 c else c
def okN (s : ByteArray) (c : Ca) (n : Int) : Prop := caOk s c ∧ 0 ≤ n ∧ n ≤ 16
instance (s : ByteArray) (c : Ca) (n : Int) : Decidable (okN s c n) := by unfold okN; infer_instance
def peekC (s : ByteArray) (c : Ca) (n : Int) : Ca := if okN s c n then readyOf s c n else c
def skOk (s : ByteArray) (c : Ca) (n : Int) : Prop := okN s c n ∧ n ≤ (readyOf s c n).hv
instance (s : ByteArray) (c : Ca) (n : Int) : Decidable (skOk s c n) := by unfold skOk; infer_instance
end Go.Pl

/- Plain lists of numbers: code lengths, steps, headers. -/
namespace Go.Pl

theorem upto_succ {P : Nat → Prop} {k : Nat} (h : ∀ j : Nat, j < k → P j) (hk : P k) : ∀ j : Nat, j < k + 1 → P j := fun j hj => by
  rcases Nat.lt_or_ge j k with h1 | h1
  · exact h j h1
  · obtain rfl : j = k := by omega
    exact hk

def kraft : List Int → Int
  | [] => 0
  | x :: r => (if 0 < x then 2 ^ (7 - x).toNat else 0) + kraft r
theorem kraft_append (xs ys : List Int) : kraft (xs ++ ys) = kraft xs + kraft ys := by
  induction xs with
  | nil => simp [kraft]
  | cons x xs ih => simp only [List.cons_append, kraft, ih]; omega
theorem kraft_take (xs : List Int) (k : Nat) (h : (k : Int) < xs.length) : kraft (xs.take (k + 1)) = kraft (xs.take k) + if 0 < xs.getD k 0 then 2 ^ (7 - xs.getD k 0).toNat else 0 := by
  have hk : k < xs.length := by omega
  have e : xs.take (k + 1) = xs.take k ++ [xs.getD k 0] := by
    rw [List.take_add_one]; simp [List.getD, hk]
  rw [e, kraft_append]; simp only [kraft]; omega
theorem pow7 (x : Int) (h : 0 < x) : (1 : Int) ≤ 2 ^ (7 - x).toNat ∧ (2 : Int) ^ (7 - x).toNat ≤ 64 := by
  have h1 := two_pow_le (n := (7 - x).toNat) (m := 6) (by omega)
  have h2 := two_pow_pos (7 - x).toNat
  omega
theorem kraft_range (xs : List Int) : 0 ≤ kraft xs ∧ kraft xs ≤ 64 * xs.length := by
  induction xs with
  | nil => simp [kraft]
  | cons x xs ih =>
    simp only [kraft, List.length_cons]
    split
    · have := pow7 x (by omega); omega
    · omega
theorem kraft_take_range (xs : List Int) (k : Nat) : 0 ≤ kraft (xs.take k) ∧ kraft (xs.take k) ≤ 64 * k := by
  have h := kraft_range (xs.take k)
  have h2 : (xs.take k).length ≤ k := by simp; omega
  omega
def codeOk (xs : List Int) : Prop := (∀ j : Nat, j < xs.length → 0 ≤ xs.getD j 0 ∧ xs.getD j 0 ≤ 7) ∧ xs.length = 6 ∧ kraft xs = 128
instance (xs : List Int) : Decidable (codeOk xs) := by unfold codeOk; infer_instance

def stepOf (q : Int) : Int := if 0 ≤ q ∧ q ≤ 51 then [8, 9, 10, 11, 13, 14].getD (q % 6).toNat 0 * 2 ^ (q / 6).toNat / 8 else 0
theorem step_row (q : Int) : 8 ≤ ([8, 9, 10, 11, 13, 14] : List Int).getD (q % 6).toNat 0 ∧ ([8, 9, 10, 11, 13, 14] : List Int).getD (q % 6).toNat 0 ≤ 14 := by
  obtain ⟨k, hk⟩ : ∃ k, k = (q % 6).toNat := ⟨_, rfl⟩
  have : k < 6 := by omega
  rw [← hk]
  clear hk
  match k, this with
  | 0, _ => decide
  | 1, _ => decide
  | 2, _ => decide
  | 3, _ => decide
  | 4, _ => decide
  | 5, _ => decide
theorem step_range (q : Int) (h : 0 ≤ q ∧ q ≤ 51) : 8 ≤ ([8, 9, 10, 11, 13, 14] : List Int).getD (q % 6).toNat 0 * 2 ^ (q / 6).toNat ∧ ([8, 9, 10, 11, 13, 14] : List Int).getD (q % 6).toNat 0 * 2 ^ (q / 6).toNat ≤ 3584 := by
  have h1 := step_row q
  have h2 := two_pow_le (n := (q / 6).toNat) (m := 8) (by omega)
  have h3 := two_pow_pos (q / 6).toNat
  generalize ([8, 9, 10, 11, 13, 14] : List Int).getD (q % 6).toNat 0 = x at *
  generalize (2 : Int) ^ (q / 6).toNat = y at *
  constructor
  · have := Int.mul_le_mul h1.1 (show 1 ≤ y by omega) (by omega) (by omega); omega
  · have h2' : y ≤ 256 := by simpa using h2
    have := Int.mul_le_mul h1.2 h2' (by omega) (by omega); omega
theorem step_pos (q : Int) : 0 < stepOf q ↔ 0 ≤ q ∧ q ≤ 51 := by
  unfold stepOf
  split
  · rename_i h
    have := step_range q h
    omega
  · omega
def sidesOk (a b : Int) : Prop := (8 ≤ a ∧ a ≤ 32) ∧ (8 ≤ b ∧ b ≤ 32) ∧ a % 8 = 0 ∧ b % 8 = 0
instance (a b : Int) : Decidable (sidesOk a b) := by unfold sidesOk; infer_instance
def headOk (a b q : Int) (xs : List Int) : Prop := sidesOk a b ∧ (0 ≤ q ∧ q ≤ 51) ∧ codeOk xs
instance (a b q : Int) (xs : List Int) : Decidable (headOk a b q xs) := by unfold headOk; infer_instance
end Go.Pl

/- Plain: bits read in parts. -/
namespace Go.Pl
end Go.Pl

/- Plain: what caches yield. -/
namespace Go.Pl
def tkOk (s : ByteArray) (c : Ca) (n : Int) : Prop := skOk s (peekC s c n) n
instance (s : ByteArray) (c : Ca) (n : Int) : Decidable (tkOk s c n) := by unfold tkOk; infer_instance
end Go.Pl

/- Plain numbers: lists of bits, the bytes that they make, codes of numbers. -/
namespace Go.Pl
open Go.Sx
def bitsl (n : Int) : Nat → List Int
  | 0 => []
  | w + 1 => n / 2 ^ w % 2 :: bitsl n w
theorem bitsl_length (n : Int) (w : Nat) : (bitsl n w).length = w := by induction w with
  | zero => rfl
  | succ w ih => simp [bitsl, ih]
def bitOk (w n : Int) : Prop := (0 ≤ w ∧ w ≤ 48) ∧ 0 ≤ n ∧ n / 2 ^ w.toNat = 0
instance (w n : Int) : Decidable (bitOk w n) := by unfold bitOk; infer_instance
def bitsIn (n w : Int) : List Int := if bitOk w n then bitsl n w.toNat else []
theorem bitsIn_len (n w : Int) : (bitsIn n w).length ≤ 48 ∧ (bitOk w n → ((bitsIn n w).length : Int) = w) := by
  unfold bitsIn; split
  · rename_i h; rw [bitsl_length]; obtain ⟨⟨h1, h2⟩, _⟩ := h; omega
  · simp; intro h; contradiction
def isBits (b : List Int) : Prop := ∀ x ∈ b, x = 0 ∨ x = 1
instance (b : List Int) : Decidable (isBits b) := by unfold isBits; infer_instance
def numl : List Int → Int
  | [] => 0
  | x :: r => x * 2 ^ r.length + numl r
def bytesl (b : List Int) : List Int := (List.range (b.length / 8)).map fun j => numl ((b.drop (8 * j)).take 8)
def packs (b : List Int) : ByteArray := strOf (bytesl b)
def byOk (b : List Int) : Prop := isBits b ∧ b.length % 8 = 0
instance (b : List Int) : Decidable (byOk b) := by unfold byOk; infer_instance
end Go.Pl

/- Plain numbers: the table of numbers' codes. -/
namespace Go.Pl
theorem bitsIn_no {n w : Int} (h : ¬ bitOk w n) : bitsIn n w = [] := by unfold bitsIn; rw [if_neg h]
theorem bitsIn_yes {n w : Int} {k : Nat} (h : bitOk w n) (hk : (k : Int) = w) : bitsIn n w = (bitsl n w.toNat).take k := by
  unfold bitsIn; rw [if_pos h, List.take_of_length_le (by rw [bitsl_length]; omega)]
theorem bitsl_take {n w : Int} {k : Nat} (h : (k : Int) < w) : (bitsl n w.toNat).take (k + 1) = (bitsl n w.toNat).take k ++ [n / 2 ^ (w - 1 - k).toNat % 2] := by
  have key : ∀ (m k : Nat), k < m → (bitsl n m).take (k + 1) = (bitsl n m).take k ++ [n / 2 ^ (m - 1 - k) % 2] := by
    intro m
    induction m with
    | zero => intro k hk; omega
    | succ m ih =>
      intro k hk
      cases k with
      | zero => simp [bitsl]
      | succ k =>
        simp only [bitsl, List.take_succ_cons, List.cons_append]
        rw [ih k (by omega), show m + 1 - 1 - (k + 1) = m - 1 - k by omega]
  rw [key w.toNat k (by omega)]
  congr 5; omega
def ueEnt (i : Nat) : Int × Int :=
  if ueE (packs (bitsl i 9 ++ List.replicate 7 0)) 0 = 0 ∧ ueAt (packs (bitsl i 9 ++ List.replicate 7 0)) 0 ≤ 9 then (ueAt (packs (bitsl i 9 ++ List.replicate 7 0)) 0, ueV (packs (bitsl i 9 ++ List.replicate 7 0)) 0) else (0, 0)
def ueTab : List (Int × Int) := (List.range 512).map ueEnt
end Go.Pl

/- Plain numbers: prefix codes. -/
namespace Go.Pl
def cIn (l : List Int) (n : Int) (st : List Int × Int) : Nat → List Int × Int
  | 0 => st
  | j + 1 => if l.getD j 0 = n then ((cIn l n st j).1.set j (cIn l n st j).2, (cIn l n st j).2 + 1) else cIn l n st j
def cOut (l : List Int) : Nat → List Int × Int
  | 0 => (List.replicate 6 (-1), 0)
  | n + 1 => cIn l ((n : Int) + 1) ((cOut l n).1, (cOut l n).2 * 2) 6
def codesOf (l : List Int) : List Int := if codeOk l then (cOut l 7).1 else []
theorem cIn_length (l : List Int) (n : Int) (st : List Int × Int) (j : Nat) : (cIn l n st j).1.length = st.1.length := by
  induction j with
  | zero => rfl
  | succ j ih => simp only [cIn]; split <;> simp [ih]
theorem cOut_length (l : List Int) (n : Nat) : (cOut l n).1.length = 6 := by
  induction n with
  | zero => rfl
  | succ n ih => simp only [cOut, cIn_length, ih]
theorem codes_length {l : List Int} (h : codeOk l) : (codesOf l).length = 6 := by unfold codesOf; rw [if_pos h, cOut_length]
theorem cIn_range (l : List Int) (n : Int) (st : List Int × Int) (j : Nat) : st.2 ≤ (cIn l n st j).2 ∧ (cIn l n st j).2 ≤ st.2 + j := by
  induction j with
  | zero => simp [cIn]
  | succ j ih =>
    simp only [cIn]; split
    · show st.2 ≤ _ + 1 ∧ _ + 1 ≤ _; omega
    · omega
theorem cOut_range (l : List Int) (n : Nat) : 0 ≤ (cOut l n).2 ∧ (cOut l n).2 + 6 ≤ 6 * 2 ^ n := by
  induction n with
  | zero => simp [cOut]
  | succ n ih =>
    have h := cIn_range l ((n : Int) + 1) ((cOut l n).1, (cOut l n).2 * 2) 6
    simp only [cOut, two_pow_succ] at *
    omega
def inP (l : List Int) (n : Int) (j m : Nat) : Prop := m < 6 ∧ 1 ≤ l.getD m 0 ∧ (l.getD m 0 < n ∨ (l.getD m 0 = n ∧ m < j))
def cHit (l out : List Int) (m : Nat) (v : Int) : Prop := v / 2 ^ (7 - l.getD m 0).toNat = out.getD m 0
instance (l out : List Int) (m : Nat) (v : Int) : Decidable (cHit l out m v) := by unfold cHit; infer_instance
theorem div_iff {v d q : Int} (hd : 0 < d) : v / d = q ↔ q * d ≤ v ∧ v < q * d + d := by
  have h1 := Int.le_ediv_iff_mul_le (a := q) (b := v) hd
  have h2 := Int.ediv_lt_iff_lt_mul (a := v) (b := q + 1) hd
  rw [Int.add_mul, Int.one_mul] at h2
  omega
structure CInv (l out : List Int) (next n S : Int) (j : Nat) : Prop where
  len : out.length = 6
  nx : next * 2 ^ (7 - n).toNat = S
  n0 : 0 ≤ next
  un : ∀ m, m < 6 → ¬ inP l n j m → out.getD m 0 = -1
  cov : ∀ v, 0 ≤ v → v < S → ∃ m, inP l n j m ∧ cHit l out m v
  abv : ∀ v, S ≤ v → ∀ m, inP l n j m → ¬ cHit l out m v
  unq : ∀ v m m', inP l n j m → inP l n j m' → cHit l out m v → cHit l out m' v → m = m'
  nneg : ∀ m, inP l n j m → 0 ≤ out.getD m 0 ∧ (out.getD m 0 + 1) * 2 ^ (7 - l.getD m 0).toNat ≤ S
def gone (n : Int) (j : Nat) : List Int → Nat → Int
  | [], _ => 0
  | x :: r, i => (if 1 ≤ x ∧ (x < n ∨ (x = n ∧ i < j)) then 2 ^ (7 - x).toNat else 0) + gone n j r (i + 1)
theorem gone_succ {n : Int} (hn : 1 ≤ n) (j : Nat) : ∀ (l : List Int) (i : Nat), gone n (j + 1) l i = gone n j l i + (if i ≤ j ∧ j - i < l.length ∧ l.getD (j - i) 0 = n then 2 ^ (7 - n).toNat else 0)
  | [], i => by simp [gone]
  | x :: r, i => by
    have ih := gone_succ hn j r (i + 1)
    simp only [gone, ih]
    by_cases h : i ≤ j
    · by_cases hij : i = j
      · subst hij
        simp only [Nat.sub_self, List.getD_cons_zero, List.length_cons]
        rw [if_neg (show ¬ (i + 1 ≤ i ∧ i - (i + 1) < r.length ∧ r.getD (i - (i + 1)) 0 = n) by omega)]
        by_cases hx : x = n
        · subst hx
          rw [if_pos ⟨hn, .inr ⟨rfl, by omega⟩⟩, if_neg (by omega), if_pos ⟨by omega, by omega, rfl⟩]; omega
        · rw [if_neg (show ¬ (i ≤ i ∧ 0 < r.length + 1 ∧ x = n) by omega)]
          by_cases h2 : 1 ≤ x ∧ x < n
          · rw [if_pos (by omega), if_pos (by omega)]; omega
          · rw [if_neg (by omega), if_neg (by omega)]; omega
      · have e : j - i = (j - (i + 1)) + 1 := by omega
        rw [e]
        simp only [List.getD_cons_succ, List.length_cons]
        have e1 : (1 ≤ x ∧ (x < n ∨ x = n ∧ i < j + 1)) ↔ (1 ≤ x ∧ (x < n ∨ x = n ∧ i < j)) := by omega
        have e2 : (i + 1 ≤ j ∧ j - (i + 1) < r.length ∧ r.getD (j - (i + 1)) 0 = n) ↔ (i ≤ j ∧ j - (i + 1) + 1 < r.length + 1 ∧ r.getD (j - (i + 1)) 0 = n) := by omega
        simp only [e1, e2]; omega
    · have e1 : (1 ≤ x ∧ (x < n ∨ x = n ∧ i < j + 1)) ↔ (1 ≤ x ∧ (x < n ∨ x = n ∧ i < j)) := by omega
      rw [if_neg (show ¬ (i + 1 ≤ j ∧ _) by omega), if_neg (show ¬ (i ≤ j ∧ _) by omega)]
      simp only [e1]; omega
theorem gone_next (n : Int) : ∀ (l : List Int) (i : Nat), (i + l.length ≤ 6) → gone (n + 1) 0 l i = gone n 6 l i
  | [], _, _ => rfl
  | x :: r, i, h => by
    simp only [List.length_cons] at h
    simp only [gone, gone_next n r (i + 1) (by omega)]
    have e1 : (1 ≤ x ∧ (x < n + 1 ∨ x = n + 1 ∧ i < 0)) ↔ (1 ≤ x ∧ (x < n ∨ x = n ∧ i < 6)) := by omega
    simp only [e1]
theorem gone_zero : ∀ (l : List Int) (i : Nat), gone 1 0 l i = 0
  | [], _ => rfl
  | x :: r, i => by
    simp only [gone, gone_zero r (i + 1)]
    rw [if_neg (by omega)]; rfl
theorem gone_all : ∀ (l : List Int) (i : Nat), (i + l.length ≤ 6) → (∀ x ∈ l, x ≤ 7) → gone 7 6 l i = kraft l
  | [], _, _, _ => rfl
  | x :: r, i, h, hx => by
    simp only [List.length_cons] at h
    have h1 := hx x (by simp)
    simp only [gone, kraft, gone_all r (i + 1) (by omega) fun y hy => hx y (by simp [hy])]
    have e1 : (1 ≤ x ∧ (x < 7 ∨ x = 7 ∧ i < 6)) ↔ 0 < x := by omega
    simp only [e1]
theorem getD_set_eq {xs : List Int} {i : Nat} {a : Int} (h : i < xs.length) : (xs.set i a).getD i 0 = a := by simp [List.getD, h]
theorem getD_set_ne {xs : List Int} {i j : Nat} {a : Int} (h : i ≠ j) : (xs.set i a).getD j 0 = xs.getD j 0 := by
  simp only [List.getD_eq_getElem?_getD, List.getElem?_set, if_neg h]
theorem CInv.give {l out : List Int} {next n S : Int} {j : Nat} (h : CInv l out next n S j) (hn : 1 ≤ n ∧ n ≤ 7) (hj : j < 6) (hl : l.getD j 0 = n) : CInv l (out.set j next) (next + 1) n (S + 2 ^ (7 - n).toNat) (j + 1) := by
  have hp := two_pow_pos (7 - n).toNat
  have hP : ∀ m, inP l n (j + 1) m ↔ inP l n j m ∨ m = j := by
    intro m; unfold inP
    constructor
    · rintro ⟨h1, h2, h3⟩
      by_cases hm : m = j
      · exact .inr hm
      · left; exact ⟨h1, h2, by omega⟩
    · rintro (⟨h1, h2, h3⟩ | rfl)
      · exact ⟨h1, h2, by omega⟩
      · exact ⟨hj, by omega, .inr ⟨hl, by omega⟩⟩
  have hnj : ∀ m, inP l n j m → m ≠ j := by rintro m ⟨h1, h2, h3⟩ rfl; omega
  have hold : ∀ m v, m ≠ j → (cHit l (out.set j next) m v ↔ cHit l out m v) := by
    intro m v hm; unfold cHit; rw [getD_set_ne (Ne.symm hm)]
  have hnew : ∀ v, cHit l (out.set j next) j v ↔ S ≤ v ∧ v < S + 2 ^ (7 - n).toNat := by
    intro v; unfold cHit; rw [getD_set_eq (by rw [h.len]; exact hj), hl, div_iff hp, h.nx]
  refine ⟨by simp [h.len], by rw [Int.add_mul, h.nx]; omega, by have := h.n0; omega, ?_, ?_, ?_, ?_, ?_⟩
  · intro m hm hn'
    rw [hP] at hn'
    rw [getD_set_ne (fun e => hn' (.inr e.symm))]
    exact h.un m hm fun h' => hn' (.inl h')
  · intro v h0 h1
    rcases Int.lt_or_le v S with h2 | h2
    · obtain ⟨m, hm, hh⟩ := h.cov v h0 h2
      exact ⟨m, (hP m).2 (.inl hm), (hold m v (hnj m hm)).2 hh⟩
    · exact ⟨j, (hP j).2 (.inr rfl), (hnew v).2 ⟨h2, h1⟩⟩
  · intro v hv m hm
    rcases (hP m).1 hm with h1 | rfl
    · rw [hold m v (hnj m h1)]; exact h.abv v (by omega) m h1
    · rw [hnew]; omega
  · intro v m m' hm hm' h1 h2
    rcases (hP m).1 hm with a | rfl <;> rcases (hP m').1 hm' with b | rfl
    · exact h.unq v m m' a b ((hold m v (hnj m a)).1 h1) ((hold m' v (hnj m' b)).1 h2)
    · exact absurd ((hold m v (hnj m a)).1 h1) (h.abv v ((hnew v).1 h2).1 m a)
    · exact absurd ((hold m' v (hnj m' b)).1 h2) (h.abv v ((hnew v).1 h1).1 m' b)
    · rfl
  · intro m hm
    rcases (hP m).1 hm with h1 | rfl
    · rw [getD_set_ne (Ne.symm (hnj m h1))]
      have := h.nneg m h1; omega
    · rw [getD_set_eq (by rw [h.len]; exact hj), hl, Int.add_mul, h.nx]
      exact ⟨h.n0, by omega⟩
theorem CInv.pass {l out : List Int} {next n S : Int} {j : Nat} (h : CInv l out next n S j) (hl : l.getD j 0 ≠ n) : CInv l out next n S (j + 1) := by
  have hP : ∀ m, inP l n (j + 1) m ↔ inP l n j m := by
    intro m; unfold inP
    by_cases hm : m = j
    · subst hm; omega
    · omega
  exact ⟨h.len, h.nx, h.n0, fun m hm hn => h.un m hm fun h' => hn ((hP m).2 h'), fun v h0 h1 => by obtain ⟨m, a, b⟩ := h.cov v h0 h1; exact ⟨m, (hP m).2 a, b⟩,
    fun v hv m hm => h.abv v hv m ((hP m).1 hm), fun v m m' a b => h.unq v m m' ((hP m).1 a) ((hP m').1 b), fun m hm => h.nneg m ((hP m).1 hm)⟩
theorem CInv.next {l out : List Int} {next n S : Int} (h : CInv l out next n S 6) (hn : 0 ≤ n ∧ n ≤ 6) : CInv l out (next * 2) (n + 1) S 0 := by
  have hP : ∀ m, inP l (n + 1) 0 m ↔ inP l n 6 m := by intro m; unfold inP; omega
  refine ⟨h.len, ?_, by have := h.n0; omega, fun m hm hn => h.un m hm fun h' => hn ((hP m).2 h'), fun v h0 h1 => by obtain ⟨m, a, b⟩ := h.cov v h0 h1; exact ⟨m, (hP m).2 a, b⟩,
    fun v hv m hm => h.abv v hv m ((hP m).1 hm), fun v m m' a b => h.unq v m m' ((hP m).1 a) ((hP m').1 b), fun m hm => h.nneg m ((hP m).1 hm)⟩
  have e : (7 - n).toNat = (7 - (n + 1)).toNat + 1 := by omega
  rw [← h.nx, e, two_pow_succ, Int.mul_assoc]
theorem cIn_inv {l out : List Int} {next n S : Int} (hl : l.length = 6) (hn : 1 ≤ n ∧ n ≤ 7) (h : CInv l out next n S 0) (hS : S = gone n 0 l 0) : ∀ j, j ≤ 6 → CInv l (cIn l n (out, next) j).1 (cIn l n (out, next) j).2 n (gone n j l 0) j
  | 0, _ => by rw [← hS]; exact h
  | j + 1, hj => by
    have ih := cIn_inv hl hn h hS j (by omega)
    have hg := gone_succ hn.1 j l 0
    simp only [Nat.zero_le, Nat.sub_zero, true_and, hl] at hg
    simp only [cIn]
    by_cases hx : l.getD j 0 = n
    · rw [if_pos hx]
      rw [if_pos ⟨by omega, hx⟩] at hg
      rw [hg]
      exact ih.give hn (by omega) hx
    · rw [if_neg hx]
      rw [if_neg (fun h => hx h.2)] at hg
      rw [hg, Int.add_zero]
      exact ih.pass hx
theorem cOut_inv {l : List Int} (hl : l.length = 6) : ∀ n : Nat, n ≤ 7 → CInv l (cOut l n).1 (cOut l n).2 n (gone n 6 l 0) 6
  | 0, _ => by
    have hP : ∀ m, ¬ inP l (0 : Nat) 6 m := by intro m; unfold inP; omega
    have e : gone ((0 : Nat) : Int) 6 l 0 = 0 := by rw [← gone_next _ l 0 (by omega)]; exact gone_zero l 0
    rw [e]
    refine ⟨rfl, by simp [cOut], by simp [cOut], fun m hm _ => ?_, fun v h0 h1 => by omega, fun v _ m hm => absurd hm (hP m), fun v m _ hm => absurd hm (hP m), fun m hm => absurd hm (hP m)⟩
    show (List.replicate 6 (-1 : Int)).getD m 0 = -1
    rw [List.getD_eq_getElem?_getD, List.getElem?_replicate, if_pos hm]; rfl
  | n + 1, hn => by
    have ih := (cOut_inv hl n (by omega)).next (by omega)
    rw [← gone_next _ l 0 (by omega)] at ih
    exact cIn_inv hl (by omega) ih rfl 6 (by omega)
theorem codes_all {l : List Int} (h : codeOk l) : CInv l (codesOf l) (cOut l 7).2 7 128 6 := by
  have h1 := cOut_inv h.2.1 7 (by omega)
  have e : gone 7 6 l 0 = 128 := by
    rw [gone_all l 0 (by have := h.2.1; omega) fun x hx => ?_, h.2.2]
    obtain ⟨j, hj, rfl⟩ := List.mem_iff_getElem.1 hx
    have := h.1 j hj
    simp only [List.getD_eq_getElem?_getD, List.getElem?_eq_getElem hj, Option.getD_some] at this
    exact this.2
  have e2 : codesOf l = (cOut l 7).1 := by unfold codesOf; rw [if_pos h]
  rw [e2, ← e]; exact h1
theorem codeOk_at {l : List Int} (h : codeOk l) (m : Nat) : 0 ≤ l.getD m 0 ∧ l.getD m 0 ≤ 7 := by
  rcases Nat.lt_or_ge m l.length with h1 | h1
  · exact h.1 m h1
  · rw [List.getD_eq_getElem?_getD, List.getElem?_eq_none h1]; simp
theorem inP_all {l : List Int} (h : codeOk l) (m : Nat) : inP l 7 6 m ↔ m < 6 ∧ 1 ≤ l.getD m 0 := by
  have := codeOk_at h m
  unfold inP; omega
theorem code_range {l : List Int} (h : codeOk l) {m : Nat} (a : m < 6 ∧ 1 ≤ l.getD m 0) : 0 ≤ (codesOf l).getD m 0 ∧ ((codesOf l).getD m 0 + 1) * 2 ^ (7 - l.getD m 0).toNat ≤ 128 :=
  (codes_all h).nneg m ((inP_all h m).2 a)
def symOf (l : List Int) (v : Int) : Nat := ((List.range 6).find? fun m => decide (1 ≤ l.getD m 0 ∧ cHit l (codesOf l) m v)).getD 0
def symAt (s : ByteArray) (a : Int) (l : List Int) : Nat := symOf l (bitsOf s a 7)
def rsOk (s : ByteArray) (a : Int) (l : List Int) : Prop := codeOk l ∧ rbOk s a (l.getD (symAt s a l) 0)
instance (s : ByteArray) (a : Int) (l : List Int) : Decidable (rsOk s a l) := by unfold rsOk; infer_instance
def sideOf (n : Int) : Int := if n = 16 then 4 else if n = 64 then 8 else 0
def levelsOk (xs : List Int) : Prop := (∀ j : Nat, j < xs.length → -16383 ≤ xs.getD j 0 ∧ xs.getD j 0 ≤ 16383) ∧ 0 < sideOf xs.length
instance (xs : List Int) : Decidable (levelsOk xs) := by unfold levelsOk; infer_instance
def symOk (l : List Int) (m : Int) : Prop := codeOk l ∧ (0 ≤ m ∧ m ≤ 5) ∧ l.getD m.toNat 0 ≠ 0
instance (l : List Int) (m : Int) : Decidable (symOk l m) := by unfold symOk; infer_instance
def symBits (l : List Int) (m : Int) : List Int := if symOk l m then bitsIn ((codesOf l).getD m.toNat 0) (l.getD m.toNat 0) else []
theorem symBits_no {l : List Int} {m : Int} (h : ¬ symOk l m) : symBits l m = [] := by unfold symBits; rw [if_neg h]
theorem symBits_yes {l : List Int} {m : Int} (h : symOk l m) : symBits l m = bitsIn ((codesOf l).getD m.toNat 0) (l.getD m.toNat 0) := by unfold symBits; rw [if_pos h]
theorem code_range2 {l : List Int} (h : codeOk l) {m : Nat} (a : m < 6 ∧ 1 ≤ l.getD m 0) : 0 ≤ (codesOf l).getD m 0 ∧ (codesOf l).getD m 0 < 2 ^ (l.getD m 0).toNat := by
  have h1 := code_range h a
  have h2 := codeOk_at h m
  have hp := two_pow_pos (7 - l.getD m 0).toNat
  have e : (2 : Int) ^ (l.getD m 0).toNat * 2 ^ (7 - l.getD m 0).toNat = 128 := by rw [← Int.pow_add, show (l.getD m 0).toNat + (7 - l.getD m 0).toNat = 7 by omega]; rfl
  refine ⟨h1.1, ?_⟩
  rcases Int.lt_or_le ((codesOf l).getD m 0) (2 ^ (l.getD m 0).toNat) with h3 | h3
  · exact h3
  · have h4 := Int.mul_le_mul_of_nonneg_right (c := 2 ^ (7 - l.getD m 0).toNat) (show 2 ^ (l.getD m 0).toNat + 1 ≤ (codesOf l).getD m 0 + 1 by omega) (by omega)
    rw [Int.add_mul, e] at h4
    omega
theorem symBits_len {l : List Int} {m : Int} (h : symOk l m) : ((symBits l m).length : Int) = l.getD m.toNat 0 := by
  have h1 := codeOk_at h.1 m.toNat
  have h2 := code_range2 h.1 (m := m.toNat) ⟨by have := h.2.1; omega, by have := h.2.2; omega⟩
  rw [symBits_yes h]
  exact (bitsIn_len _ _).2 ⟨by omega, h2.1, Int.ediv_eq_zero_of_lt h2.1 h2.2⟩
theorem symBits_pos (l : List Int) (m : Int) : (0 < (symBits l m).length → symOk l m) ∧ (symOk l m → 0 < (symBits l m).length) := by
  constructor
  · intro h
    refine Classical.byContradiction fun h1 => ?_
    rw [symBits_no h1] at h; simp at h
  · intro h
    have h1 := symBits_len h
    have h2 := codeOk_at h.1 m.toNat
    have h3 := h.2.2
    omega
def blockOk (m : Int) (ys xs : List Int) (n : Int) : Prop := (n = 4 ∨ n = 8) ∧ symOk xs m ∧ (ys.length : Int) = n * n ∧ levelsOk ys
instance (m : Int) (ys xs : List Int) (n : Int) : Decidable (blockOk m ys xs n) := by unfold blockOk; infer_instance
end Go.Pl

/- Plain numbers: what is written is read. -/
namespace Go.Pl
open Go.Sx
end Go.Pl

/- Plain numbers: tables of symbols. -/
namespace Go.Pl
open Go.Sx
end Go.Pl

/- Plain numbers: symbols out of caches; edges drawn together. -/
namespace Go.Pl
def alphaOf (q : Int) : Int := if 0 ≤ q ∧ q ≤ 51 then q + 4 else 0
def betaOf (q : Int) : Int := if 0 ≤ q ∧ q ≤ 51 then q / 3 + 2 else 0
def pixOk (xs : List Int) : Prop := ∀ j : Nat, j < xs.length → 0 ≤ xs.getD j 0 ∧ xs.getD j 0 ≤ 255
def edgeC (a b c d q : Int) : Prop := ((0 ≤ a ∧ a ≤ 255) ∧ (0 ≤ b ∧ b ≤ 255) ∧ (0 ≤ c ∧ c ≤ 255) ∧ (0 ≤ d ∧ d ≤ 255)) ∧ (b - c < alphaOf q ∧ c - b < alphaOf q) ∧ (a - b < betaOf q ∧ b - a < betaOf q) ∧ (d - c < betaOf q ∧ c - d < betaOf q)
instance (a b c d q : Int) : Decidable (edgeC a b c d q) := by unfold edgeC; infer_instance
def clip (x : Int) : Int := max 0 (min x 255)
def edgeD (a b c d q : Int) : Int := max (-(q / 4 + 1)) (min ((4 * (c - b) + (a - d) + 4) / 8) (q / 4 + 1))
def edgeL (a b c d q : Int) : Int := if edgeC a b c d q then clip (b + edgeD a b c d q) else b
def edgeR (a b c d q : Int) : Int := if edgeC a b c d q then clip (c - edgeD a b c d q) else c
def eg (q : Int) (xs : List Int) (e : Int × Int) : List Int :=
  (xs.set (e.1 - e.2).toNat (edgeL (xs.getD (e.1 - 2 * e.2).toNat 0) (xs.getD (e.1 - e.2).toNat 0) (xs.getD e.1.toNat 0) (xs.getD (e.1 + e.2).toNat 0) q)).set e.1.toNat
    (edgeR (xs.getD (e.1 - 2 * e.2).toNat 0) (xs.getD (e.1 - e.2).toNat 0) (xs.getD e.1.toNat 0) (xs.getD (e.1 + e.2).toNat 0) q)
def egs (q : Int) (xs : List Int) (l : List (Int × Int)) : List Int := l.foldl (eg q) xs
theorem eg_length (q : Int) (xs : List Int) (e : Int × Int) : (eg q xs e).length = xs.length := by simp [eg]
theorem egs_length (q : Int) (l : List (Int × Int)) : ∀ xs : List Int, (egs q xs l).length = xs.length := by
  induction l with
  | nil => intro xs; rfl
  | cons e l ih => intro xs; show (egs q (eg q xs e) l).length = _; rw [ih, eg_length]
theorem egs_snoc (q : Int) (xs : List Int) (l : List (Int × Int)) (e : Int × Int) : egs q xs (l ++ [e]) = eg q (egs q xs l) e := by simp [egs]
theorem egs_app (q : Int) (xs : List Int) (l m : List (Int × Int)) : egs q xs (l ++ m) = egs q (egs q xs l) m := by simp [egs]
theorem set_getD_ne {xs : List Int} {i j : Nat} {v : Int} (h : j ≠ i) : (xs.set j v).getD i 0 = xs.getD i 0 := by
  simp only [List.getD_eq_getElem?_getD, List.getElem?_set, if_neg h]
theorem pix_set {xs : List Int} {i : Nat} {v : Int} (h : pixOk xs) (hv : 0 ≤ v ∧ v ≤ 255) : pixOk (xs.set i v) := fun j hj => by
  rw [List.length_set] at hj
  by_cases hij : i = j
  · subst hij; simp only [List.getD_eq_getElem?_getD, List.getElem?_set, if_pos hj]; exact hv
  · rw [set_getD_ne hij]; exact h j hj
theorem pix_get {xs : List Int} (h : pixOk xs) (j : Nat) : 0 ≤ xs.getD j 0 ∧ xs.getD j 0 ≤ 255 := by
  rcases Nat.lt_or_ge j xs.length with h1 | h1
  · exact h j h1
  · rw [List.getD_eq_getElem?_getD, List.getElem?_eq_none h1]; simp
def vRow (W y : Int) (k : Nat) : List (Int × Int) := (List.range k).map fun i : Nat => (y * W + (8 + 8 * (i : Int)), 1)
def vRows (W a : Int) (n : Nat) : List (Int × Int) := (List.range n).flatMap fun j : Nat => vRow W (a + (j : Int)) (W / 8 - 1).toNat
def hRow (W y : Int) (k : Nat) : List (Int × Int) := (List.range k).map fun i : Nat => (y * W + (i : Int), W)
theorem vRow_zero (W y : Int) : vRow W y 0 = [] := rfl
theorem vRow_succ (W y : Int) (k : Nat) : vRow W y (k + 1) = vRow W y k ++ [(y * W + (8 + 8 * (k : Int)), 1)] := by simp [vRow, List.range_succ]
theorem vRows_succ (W a : Int) (n : Nat) : vRows W a (n + 1) = vRows W a n ++ vRow W (a + (n : Int)) (W / 8 - 1).toNat := by simp [vRows, List.range_succ]
theorem hRow_succ (W y : Int) (k : Nat) : hRow W y (k + 1) = hRow W y k ++ [(y * W + (k : Int), W)] := by simp [hRow, List.range_succ]
def hRows (W : Int) (n : Nat) : List (Int × Int) := (List.range n).flatMap fun j : Nat => hRow W (8 * ((j : Int) + 1)) W.toNat
theorem hRows_succ (W : Int) (n : Nat) : hRows W (n + 1) = hRows W n ++ hRow W (8 * ((n : Int) + 1)) W.toNat := by simp [hRows, List.range_succ]
def dbAll (q W : Int) (xs : List Int) (r : Nat) : List Int := egs q (egs q xs (vRows W 0 (8 * r))) (hRows W (r - 1))
def frOk (W H : Int) (xs : List Int) : Prop := sidesOk W H ∧ (xs.length : Int) = W * H ∧ pixOk xs
end Go.Pl

/- Plain numbers: headers, pairs and blocks as bits. -/
namespace Go.Pl
instance (xs : List Int) : Decidable (pixOk xs) := by unfold pixOk; infer_instance
instance (W H : Int) (xs : List Int) : Decidable (frOk W H xs) := by unfold frOk; infer_instance
def fieldsOf (xs : List Int) (k : Nat) : List Int := (xs.take k).flatMap (fun n => bitsIn n 3)
theorem side_len {n : Int} (h : 0 < sideOf n) : n = 16 ∨ n = 64 := by
  unfold sideOf at h; split at h
  · omega
  · split at h
    · omega
    · omega
def side (e : Bool) : Int := if e then 8 else 4
def mbOk (e : Bool) (bs : List (Int × List Int)) (xs : List Int) : Prop := (bs.length : Int) = 64 / (side e * side e) ∧ ∀ j : Nat, j < bs.length → blockOk (bs.getD j default).1 (bs.getD j default).2 xs (side e)
instance (e : Bool) (bs : List (Int × List Int)) (xs : List Int) : Decidable (mbOk e bs xs) := by unfold mbOk; infer_instance
def fuIx (s : ByteArray) (c : Ca) : Nat := (bitsOf s (8 * c.pos - c.hv) 9).toNat
def fuHit (s : ByteArray) (c : Ca) (t : List (Int × Int)) : Prop := t.length = 512 ∧ 1 ≤ (t.getD (fuIx s c) default).1 ∧ (t.getD (fuIx s c) default).1 ≤ 9
instance (s : ByteArray) (c : Ca) (t : List (Int × Int)) : Decidable (fuHit s c t) := by unfold fuHit; infer_instance
end Go.Pl

/- Plain numbers: frames filtered. -/
namespace Go.Pl
def allIn (lo hi : Int) (xs : List Int) : Prop := ∀ j : Nat, j < xs.length → lo ≤ xs.getD j 0 ∧ xs.getD j 0 ≤ hi
instance (lo hi : Int) (xs : List Int) : Decidable (allIn lo hi xs) := by unfold allIn; infer_instance
theorem four_in {lo hi a b c d : Int} : allIn lo hi [a, b, c, d] ↔ (lo ≤ a ∧ a ≤ hi) ∧ (lo ≤ b ∧ b ≤ hi) ∧ (lo ≤ c ∧ c ≤ hi) ∧ (lo ≤ d ∧ d ≤ hi) := by
  constructor
  · intro h; exact ⟨h 0 (by simp), h 1 (by simp), h 2 (by simp), h 3 (by simp)⟩
  · rintro ⟨h0, h1, h2, h3⟩ j hj
    match j, hj with
    | 0, _ => exact h0
    | 1, _ => exact h1
    | 2, _ => exact h2
    | 3, _ => exact h3
    | n + 4, h => simp at h; omega
theorem floor_eq {a b : Int} (hb : 0 < b) : (if a.tmod b < 0 then a.tdiv b - 1 else a.tdiv b) = a / b := by
  rcases Int.lt_or_le a 0 with h | h
  · obtain ⟨c, rfl⟩ : ∃ c, a = -c := ⟨-a, by omega⟩
    have hc : 0 ≤ c := by omega
    rw [Int.neg_tdiv, Int.neg_tmod, Int.tdiv_eq_ediv_of_nonneg hc, Int.tmod_eq_emod_of_nonneg hc]
    have h1 := Int.mul_ediv_add_emod c b
    have h2 := Int.emod_nonneg c (show b ≠ 0 by omega)
    have h3 := Int.emod_lt_of_pos c hb
    have h4 : c / b * b = b * (c / b) := Int.mul_comm _ _
    split
    · refine ((div_iff hb).2 ?_).symm
      rw [Int.sub_mul, Int.neg_mul, h4, Int.one_mul]
      generalize b * (c / b) = z at *
      omega
    · refine ((div_iff hb).2 ?_).symm
      rw [Int.neg_mul, h4]
      generalize b * (c / b) = z at *
      omega
  · rw [Int.tdiv_eq_ediv_of_nonneg h, Int.tmod_eq_emod_of_nonneg h, if_neg]
    have := Int.emod_nonneg a (show b ≠ 0 by omega)
    omega
theorem tdiv_range {a b : Int} (hb : 0 < b) (h : -9223372036854775807 ≤ a ∧ a ≤ 9223372036854775807) : -9223372036854775807 ≤ a.tdiv b ∧ a.tdiv b ≤ 9223372036854775807 := by
  rcases Int.lt_or_le a 0 with h1 | h1
  · obtain ⟨c, rfl⟩ : ∃ c, a = -c := ⟨-a, by omega⟩
    have hc : 0 ≤ c := by omega
    rw [Int.neg_tdiv, Int.tdiv_eq_ediv_of_nonneg hc]
    have h3 : 0 ≤ c / b := Int.ediv_nonneg hc (by omega)
    have h4 : c / b ≤ c := Int.ediv_le_self _ hc
    omega
  · rw [Int.tdiv_eq_ediv_of_nonneg h1]
    have h3 : 0 ≤ a / b := Int.ediv_nonneg h1 (by omega)
    have h4 : a / b ≤ a := Int.ediv_le_self _ h1
    omega
theorem tdiv_small {a b : Int} (hb : 0 < b) (h : -4611686018427387904 ≤ a ∧ a ≤ 4611686018427387904) : -4611686018427387904 ≤ a.tdiv b := by
  rcases Int.lt_or_le a 0 with h1 | h1
  · obtain ⟨c, rfl⟩ : ∃ c, a = -c := ⟨-a, by omega⟩
    have hc : 0 ≤ c := by omega
    rw [Int.neg_tdiv, Int.tdiv_eq_ediv_of_nonneg hc]
    have h4 : c / b ≤ c := Int.ediv_le_self _ hc
    omega
  · rw [Int.tdiv_eq_ediv_of_nonneg h1]
    have h3 : 0 ≤ a / b := Int.ediv_nonneg h1 (by omega)
    omega
theorem alpha_pos (q : Int) : 0 < alphaOf q ↔ 0 ≤ q ∧ q ≤ 51 := by unfold alphaOf; split <;> omega
def fqOk (W H q : Int) (xs : List Int) : Prop := frOk W H xs ∧ 0 ≤ q ∧ q ≤ 51
instance (W H q : Int) (xs : List Int) : Decidable (fqOk W H q xs) := by unfold fqOk; infer_instance
def dbOf (W H q : Int) (xs : List Int) : List Int := if fqOk W H q xs then dbAll q W xs (H / 8).toNat else xs
theorem dbOf_length (W H q : Int) (xs : List Int) : (dbOf W H q xs).length = xs.length := by unfold dbOf dbAll; split <;> simp [egs_length]
theorem db_impl {W H q : Int} {xs : List Int} (h : fqOk W H q xs) {j : Nat} (hj : 8 * ((j : Int) + 1) = H) : egs q (egs q xs (vRows W 0 (H - 0).toNat)) (hRows W j) = dbOf W H q xs := by
  unfold dbOf dbAll; rw [if_pos h, show (H - 0).toNat = 8 * (H / 8).toNat by omega, show (H / 8).toNat - 1 = j by omega]
theorem db_no {W H q : Int} {xs : List Int} (h : ¬ fqOk W H q xs) : dbOf W H q xs = xs := by unfold dbOf; rw [if_neg h]
theorem sides_mul {W H : Int} (h : sidesOk W H) : 64 ≤ W * H ∧ W * H ≤ 1024 := by
  obtain ⟨h1, h2, _⟩ := h
  have e1 := Int.mul_le_mul h1.2 h2.2 (by omega) (by omega)
  have e2 := Int.mul_le_mul h1.1 h2.1 (by omega) (by omega)
  omega
theorem fr_geo {W H : Int} {xs : List Int} (h : frOk W H xs) : (8 ≤ W ∧ W ≤ 32) ∧ (8 ≤ H ∧ H ≤ 32) ∧ W % 8 = 0 ∧ H % 8 = 0 ∧ (xs.length : Int) = W * H := ⟨h.1.1, h.1.2.1, h.1.2.2.1, h.1.2.2.2, h.2.1⟩
theorem row_in {W H y n : Int} (hW : 8 ≤ W ∧ W ≤ 32) (hn : n = W * H) (h0 : 0 ≤ y) (h1 : y ≤ H - 1) : 0 ≤ y * W ∧ y * W + W ≤ n ∧ y * W + W ≤ n := by
  have e1 := Int.mul_le_mul_of_nonneg_right (show y + 1 ≤ H by omega) (show 0 ≤ W by omega)
  have e2 := Int.mul_nonneg h0 (show 0 ≤ W by omega)
  rw [Int.add_mul, Int.one_mul, Int.mul_comm H W] at e1
  omega
theorem rows_in {W H y n : Int} (hW : 8 ≤ W ∧ W ≤ 32) (hn : n = W * H) (h0 : 2 ≤ y) (h1 : y ≤ H - 2) : 2 * W ≤ y * W ∧ y * W + 2 * W ≤ n := by
  have e1 := Int.mul_le_mul_of_nonneg_right (show y + 2 ≤ H by omega) (show 0 ≤ W by omega)
  have e2 := Int.mul_le_mul_of_nonneg_right h0 (show 0 ≤ W by omega)
  rw [Int.add_mul, Int.mul_comm H W] at e1
  omega
end Go.Pl

/- Plain numbers: fields read one by one, up to the first error. -/
namespace Go.Pl
structure Fs where
  a : Int
  code : Int
section
variable {s : ByteArray} {f : Fs} {n : Int} {chk : Int → Int}
end
end Go.Pl
namespace Go.Pl
structure Lv where
  f : Fs
  p : Int
  l : List Int
end Go.Pl

/- Plain numbers: numbers read are none below 0; pairs read one by one. -/
namespace Go.Pl
end Go.Pl

/- Plain numbers: headers and blocks as bits, joined. -/
namespace Go.Pl
open Go.Sx
theorem map_getD {α β : Type} [Inhabited α] [Inhabited β] (f : α → β) {xs : List α} {j : Nat} (h : j < xs.length) : (xs.map f).getD j default = f (xs.getD j default) := by
  simp [List.getD, h]
def manyOf (e : Bool) : Int := if e then 1 else 4
theorem many_eq (e : Bool) : 64 / (side e * side e) = manyOf e := by cases e <;> decide
theorem side_in (e : Bool) : side e = 4 ∨ side e = 8 := by cases e <;> decide
theorem mb_iff {e : Bool} {bs : List Bk} {xs : List Int} : mbOk e (bs.map Bk.pl) xs ↔ (bs.length : Int) = manyOf e ∧ ∀ j : Nat, j < bs.length → blockOk (bs.getD j default).mode (bs.getD j default).lv xs (side e) := by
  unfold mbOk
  rw [List.length_map, many_eq]
  constructor
  · rintro ⟨h1, h2⟩
    refine ⟨h1, fun j hj => ?_⟩
    have h3 := h2 j hj
    rw [map_getD _ hj] at h3; exact h3
  · rintro ⟨h1, h2⟩
    refine ⟨h1, fun j hj => ?_⟩
    rw [map_getD _ hj]; exact h2 j hj
end Go.Pl

/- Plain numbers: headers read. -/
namespace Go.Pl
section
variable {s : ByteArray} {a : Int}
end
theorem bx_eq {w : World} {b T : Nat} {cs cs' : List Value} (h : cs = cs') (hB : Go.Sx.Bx w b cs T) : Go.Sx.Bx w b cs' T := h ▸ hB
end Go.Pl

/- Plain numbers: streams as bits. -/
namespace Go.Pl
open Go.Sx
abbrev PB : Type := Int × List Int
abbrev PM : Type := Bool × List PB
def streamOk (a b q : Int) (xs : List Int) (ms : List PM) : Prop := headOk a b q xs ∧ (ms.length : Int) = a / 8 * (b / 8) ∧ ∀ j : Nat, j < ms.length → mbOk (ms.getD j default).1 (ms.getD j default).2 xs
instance (a b q : Int) (xs : List Int) (ms : List PM) : Decidable (streamOk a b q xs ms) := by unfold streamOk; infer_instance
theorem many_range {a b : Int} (h : sidesOk a b) : 0 ≤ a / 8 * (b / 8) ∧ a / 8 * (b / 8) ≤ 16 := by
  obtain ⟨h1, h2, _⟩ := h
  have e1 := Int.mul_le_mul (show a / 8 ≤ 4 by omega) (show b / 8 ≤ 4 by omega) (by omega) (by omega)
  have e2 := Int.mul_nonneg (show 0 ≤ a / 8 by omega) (show 0 ≤ b / 8 by omega)
  omega
theorem stream_iff {a b q : Int} {xs : List Int} {ms : List Mk} : streamOk a b q xs (ms.map Mk.pl) ↔ headOk a b q xs ∧ (ms.length : Int) = a / 8 * (b / 8) ∧ ∀ j : Nat, j < ms.length → mbOk (ms.getD j default).eight ((ms.getD j default).bs.map Bk.pl) xs := by
  unfold streamOk
  rw [List.length_map]
  refine and_congr_right fun _ => and_congr_right fun _ => ⟨fun h j hj => ?_, fun h j hj => ?_⟩
  · have h3 := h j hj; rw [map_getD _ hj] at h3; exact h3
  · rw [map_getD _ hj]; exact h j hj
def numOk (b : List Int) : Prop := isBits b ∧ b.length ≤ 48
instance (b : List Int) : Decidable (isBits b) := by unfold isBits; infer_instance
instance (b : List Int) : Decidable (numOk b) := by unfold numOk; infer_instance
end Go.Pl

/- Plain numbers: blocks read. -/
namespace Go.Pl
def sizeOk (n : Int) : Prop := n = 4 ∨ n = 8
instance (n : Int) : Decidable (sizeOk n) := by unfold sizeOk; infer_instance
section
variable {s : ByteArray} {a : Int} {xs : List Int} {n : Int}
end
def fhOk (s : ByteArray) (c : Ca) (t : List (Int × Int)) : Prop := caOk s c ∧ t = ueTab
instance (s : ByteArray) (c : Ca) (t : List (Int × Int)) : Decidable (fhOk s c t) := by unfold fhOk; infer_instance
end Go.Pl
namespace Go.Pl
end Go.Pl

/- Plain numbers: headers read are right; headers' bits. -/
namespace Go.Pl
end Go.Pl

/- Plain numbers: bits put, texts ended. -/
namespace Go.Pl
def putOk (b : List Int) (n w : Int) : Prop := (0 ≤ w ∧ w ≤ 32) ∧ 0 ≤ n ∧ n / 2 ^ w.toNat = 0 ∧ (b.length : Int) + w ≤ 200000
instance (b : List Int) (n w : Int) : Decidable (putOk b n w) := by unfold putOk; infer_instance
end Go.Pl

/- Plain numbers: numbers by the table are numbers bit by bit. -/
namespace Go.Pl
end Go.Pl

/- Plain numbers: macroblocks read. -/
namespace Go.Pl
structure Rm where
  a : Int
  code : Int
  bs : List (Int × List Int)
end Go.Pl
namespace Go.Pl
end Go.Pl

/- Plain numbers: streams read. -/
namespace Go.Pl
structure Pm where
  a : Int
  code : Int
  ms : List PM
end Go.Pl

/- Plain numbers: scans, steps, transforms. -/
namespace Go.Pl
def accP (T : Nat → Nat → Int) (q : Nat) : Nat → Int
  | 0 => 0
  | i + 1 => accP T q i + T q i
def accS (T : Nat → Nat → Int) (N n q0 i : Nat) : List Int := (List.range N).map fun q => if q < q0 then accP T q n else if q = q0 then accP T q i else 0
def accL (T : Nat → Nat → Int) (N n : Nat) : List Int := (List.range N).map fun q => accP T q n
theorem accS_length (T : Nat → Nat → Int) (N n q0 i : Nat) : (accS T N n q0 i).length = N := by simp [accS]
theorem accL_length (T : Nat → Nat → Int) (N n : Nat) : (accL T N n).length = N := by simp [accL]
theorem accS_zero (T : Nat → Nat → Int) (N n : Nat) : accS T N n 0 0 = List.replicate N 0 := by
  have e : ∀ q ∈ List.range N, (if q < 0 then accP T q n else if q = 0 then accP T q 0 else 0) = 0 := by
    intro q _
    rw [if_neg (Nat.not_lt_zero q)]; split <;> rfl
  unfold accS
  rw [List.map_congr_left e, List.map_const', List.length_range]
theorem accS_next (T : Nat → Nat → Int) (N n q0 : Nat) : accS T N n q0 n = accS T N n (q0 + 1) 0 := by
  unfold accS
  refine List.map_congr_left fun q _ => ?_
  by_cases h : q < q0
  · rw [if_pos h, if_pos (by omega)]
  · rw [if_neg h]
    by_cases h2 : q = q0
    · rw [if_pos h2, if_pos (by omega)]
    · rw [if_neg h2, if_neg (by omega)]
      split <;> rfl
theorem accS_end (T : Nat → Nat → Int) {N n q0 i : Nat} (h : N ≤ q0) : accS T N n q0 i = accL T N n := by
  unfold accS accL
  refine List.map_congr_left fun q hq => ?_
  rw [if_pos (by have := List.mem_range.1 hq; omega)]
theorem accS_get (T : Nat → Nat → Int) {N n q0 i : Nat} (h : q0 < N) : (accS T N n q0 i).getD q0 0 = accP T q0 i := by
  simp [accS, List.getD, h]
theorem accL_get (T : Nat → Nat → Int) {N n q : Nat} (h : q < N) : (accL T N n).getD q 0 = accP T q n := by
  simp [accL, List.getD, h]
theorem accS_set (T : Nat → Nat → Int) {N n q0 i : Nat} {v : Int} (h : q0 < N) (hv : v = accP T q0 i + T q0 i) : (accS T N n q0 i).set q0 v = accS T N n q0 (i + 1) := by
  apply List.ext_getElem?
  intro j
  rw [List.getElem?_set, accS_length]
  unfold accS
  by_cases hj : j < N
  · rw [List.getElem?_map, List.getElem?_map, List.getElem?_range hj]
    by_cases e : q0 = j
    · subst e; rw [if_pos rfl, if_pos hj]; simp [accP, hv]
    · rw [if_neg e]
      simp only [Option.map_some]
      congr 1
      rw [if_neg (c := j = q0) (by omega), if_neg (c := j = q0) (by omega)]
  · rw [List.getElem?_eq_none (by simp; omega)]
    by_cases e : q0 = j
    · omega
    · rw [if_neg e, List.getElem?_eq_none (by simp; omega)]
theorem accP_range {T : Nat → Nat → Int} {q : Nat} {B : Int} {n : Nat} (h : ∀ j, j < n → -B ≤ T q j ∧ T q j ≤ B) : -((n : Int) * B) ≤ accP T q n ∧ accP T q n ≤ (n : Int) * B := by
  induction n with
  | zero => simp [accP]
  | succ n ih =>
    have h1 := ih fun j hj => h j (by omega)
    have h2 := h n (by omega)
    have e : ((n + 1 : Nat) : Int) * B = (n : Int) * B + B := by rw [show ((n + 1 : Nat) : Int) = (n : Int) + 1 by omega, Int.add_mul, Int.one_mul]
    simp only [accP]; omega
theorem qdiv {r n k : Nat} (hk : k < n) : (r * n + k) / n = r ∧ (r * n + k) % n = k := by
  have hn : 0 < n := by omega
  refine ⟨?_, ?_⟩
  · rw [Nat.mul_comm, Nat.mul_add_div hn, Nat.div_eq_of_lt hk, Nat.add_zero]
  · rw [Nat.mul_comm, Nat.mul_add_mod, Nat.mod_eq_of_lt hk]
theorem q_lt {r n k : Nat} (hr : r < n) (hk : k < n) : r * n + k < n * n := by
  have h : (r + 1) * n ≤ n * n := Nat.mul_le_mul_right n hr
  rw [Nat.add_mul, Nat.one_mul] at h; omega
def mt (m : List (List Int)) (r i : Nat) : Int := (m.getD r []).getD i 0
def T1 (M : Nat → Nat → Int) (l : List Int) (n q j : Nat) : Int := M (q / n) j * l.getD (j * n + q % n) 0
def T2 (M : Nat → Nat → Int) (h : List Int) (n q j : Nat) : Int := h.getD (q / n * n + j) 0 * M (q % n) j
def halfL (M : Nat → Nat → Int) (l : List Int) (n : Nat) : List Int := accL (T1 M l n) (n * n) n
def prodL (M : Nat → Nat → Int) (l : List Int) (n : Nat) : List Int := accL (T2 M (halfL M l n) n) (n * n) n
def smallMt (M : Nat → Nat → Int) (n : Nat) : Prop := ∀ r i, r < n → i < n → -2 ≤ M r i ∧ M r i ≤ 2
def inW (l : List Int) (B : Int) : Prop := ∀ i : Nat, -B ≤ l.getD i 0 ∧ l.getD i 0 ≤ B
theorem mul_small {a b B : Int} (ha : -2 ≤ a ∧ a ≤ 2) (hb : -B ≤ b ∧ b ≤ B) : -(2 * B) ≤ a * b ∧ a * b ≤ 2 * B := by
  obtain rfl | rfl | rfl | rfl | rfl : a = -2 ∨ a = -1 ∨ a = 0 ∨ a = 1 ∨ a = 2 := by omega
  all_goals omega
theorem T1_range {M : Nat → Nat → Int} {l : List Int} {n q j : Nat} (hm : smallMt M n) (hl : inW l 1000000000) (hq : q < n * n) (hj : j < n) : -2000000000 ≤ T1 M l n q j ∧ T1 M l n q j ≤ 2000000000 := by
  have h1 := hm (q / n) j (Nat.div_lt_of_lt_mul hq) hj
  have h2 := mul_small h1 (hl (j * n + q % n))
  unfold T1; omega
theorem half_range {M : Nat → Nat → Int} {l : List Int} {n : Nat} (hm : smallMt M n) (hl : inW l 1000000000) (hn : n ≤ 8) : inW (halfL M l n) 16000000000 := by
  intro i
  by_cases hi : i < n * n
  · unfold halfL; rw [accL_get _ hi]
    have h := accP_range (T := T1 M l n) (q := i) (B := 2000000000) (n := n) fun j hj => T1_range hm hl hi hj
    omega
  · rw [List.getD_eq_getElem?_getD, List.getElem?_eq_none (by unfold halfL; rw [accL_length]; omega)]; simp
theorem T2_range {M : Nat → Nat → Int} {h : List Int} {n q j : Nat} (hm : smallMt M n) (hl : inW h 16000000000) (hj : j < n) : -32000000000 ≤ T2 M h n q j ∧ T2 M h n q j ≤ 32000000000 := by
  have h1 := hm (q % n) j (Nat.mod_lt _ (by omega)) hj
  have h2 := mul_small h1 (hl (q / n * n + j))
  unfold T2; rw [Int.mul_comm]; omega
def matA : List (List Int) := [[1, 1, 1, 1], [2, 1, -1, -2], [1, -1, -1, 1], [1, -2, 2, -1]]
def pop3 (x : Nat) : Nat := x % 2 + x / 2 % 2 + x / 4 % 2
def hEnt (r k : Nat) : Int := 1 - 2 * (((pop3 (r &&& k) : Nat) : Int) % 2)
def mAt (r k : Nat) : Int := mt matA k r
theorem mAt_small : smallMt mAt 4 := by
  intro r i hr hi
  obtain rfl | rfl | rfl | rfl : r = 0 ∨ r = 1 ∨ r = 2 ∨ r = 3 := by omega
  all_goals (obtain rfl | rfl | rfl | rfl : i = 0 ∨ i = 1 ∨ i = 2 ∨ i = 3 := by omega) <;> decide
theorem hEnt_small : smallMt hEnt 8 := by
  intro r i hr hi
  unfold hEnt; omega
def tabU (M : Nat → Nat → Int) (n r k : Nat) : List (List Int) := (List.range n).map fun j => if j < r then (List.range n).map (M j) else if j = r then (List.range k).map (M j) else []
def tabM (M : Nat → Nat → Int) (n : Nat) : List (List Int) := (List.range n).map fun r => (List.range n).map (M r)
theorem tabU_length (M : Nat → Nat → Int) (n r k : Nat) : (tabU M n r k).length = n := by simp [tabU]
theorem tabU_zero (M : Nat → Nat → Int) (n : Nat) : tabU M n 0 0 = List.replicate n [] := by
  have e : ∀ j ∈ List.range n, (if j < 0 then (List.range n).map (M j) else if j = 0 then (List.range 0).map (M j) else []) = [] := by
    intro j _
    rw [if_neg (Nat.not_lt_zero j)]; split <;> rfl
  unfold tabU
  rw [List.map_congr_left e, List.map_const', List.length_range]
theorem tabU_next (M : Nat → Nat → Int) (n r : Nat) : tabU M n r n = tabU M n (r + 1) 0 := by
  unfold tabU
  refine List.map_congr_left fun j _ => ?_
  by_cases h : j < r
  · rw [if_pos h, if_pos (by omega)]
  · rw [if_neg h]
    by_cases h2 : j = r
    · rw [if_pos h2, if_pos (by omega)]
    · rw [if_neg h2, if_neg (by omega)]
      split <;> rfl
theorem tabU_end (M : Nat → Nat → Int) {n r k : Nat} (h : n ≤ r) : tabU M n r k = tabM M n := by
  unfold tabU tabM
  refine List.map_congr_left fun j hj => ?_
  rw [if_pos (by have := List.mem_range.1 hj; omega)]
theorem tabU_get (M : Nat → Nat → Int) {n r k : Nat} (h : r < n) : (tabU M n r k).getD r [] = (List.range k).map (M r) := by
  simp [tabU, List.getD, h]
theorem tabM_get (M : Nat → Nat → Int) {n r : Nat} (h : r < n) : (tabM M n).getD r [] = (List.range n).map (M r) := by
  simp [tabM, List.getD, h]
theorem tabU_set (M : Nat → Nat → Int) {n r k : Nat} {v : Int} (h : r < n) (hv : v = M r k) : (tabU M n r k).set r ((tabU M n r k).getD r [] ++ [v]) = tabU M n r (k + 1) := by
  rw [tabU_get M h]
  apply List.ext_getElem?
  intro j
  rw [List.getElem?_set, tabU_length]
  unfold tabU
  by_cases hj : j < n
  · rw [List.getElem?_map, List.getElem?_map, List.getElem?_range hj]
    by_cases e : r = j
    · subst e; rw [if_pos rfl, if_pos hj]; simp [hv, List.range_succ]
    · rw [if_neg e]
      simp only [Option.map_some]
      congr 1
      rw [if_neg (c := j = r) (by omega), if_neg (c := j = r) (by omega)]
  · rw [List.getElem?_eq_none (by simp; omega)]
    by_cases e : r = j
    · omega
    · rw [if_neg e, List.getElem?_eq_none (by simp; omega)]
theorem row_get (M : Nat → Nat → Int) {n r i : Nat} (hi : i < n) : ((List.range n).map (M r)).getD i 0 = M r i := by simp [List.getD, hi]
theorem T1_at {M : Nat → Nat → Int} {l : List Int} {n r k i : Nat} (hk : k < n) : T1 M l n (r * n + k) i = M r i * l.getD (i * n + k) 0 := by
  unfold T1; rw [(qdiv hk).1, (qdiv hk).2]
theorem T2_at {M : Nat → Nat → Int} {h : List Int} {n r k i : Nat} (hk : k < n) : T2 M h n (r * n + k) i = h.getD (r * n + i) 0 * M k i := by
  unfold T2; rw [(qdiv hk).1, (qdiv hk).2]
def flatM (M : Nat → Nat → Int) (n : Nat) : List Int := (List.range (n * n)).map fun q => M (q / n) (q % n)
theorem flatM_length (M : Nat → Nat → Int) (n : Nat) : (flatM M n).length = n * n := by simp [flatM]
def scCell (n : Int) (d k : Nat) : List Int :=
  if (if (d : Int) % 2 = 0 then (d : Int) - k else k) < n ∧ (d : Int) - (if (d : Int) % 2 = 0 then (d : Int) - k else k) < n then [((d : Int) - (if (d : Int) % 2 = 0 then (d : Int) - k else k)) * n + (if (d : Int) % 2 = 0 then (d : Int) - k else k)] else []
theorem scE {n : Int} {d k : Nat} (h : (d : Int) % 2 = 0) : scCell n d k = if (d : Int) - k < n ∧ (d : Int) - ((d : Int) - k) < n then [((d : Int) - ((d : Int) - k)) * n + ((d : Int) - k)] else [] := by
  unfold scCell; rw [if_pos h]
theorem scO {n : Int} {d k : Nat} (h : ¬ (d : Int) % 2 = 0) : scCell n d k = if (k : Int) < n ∧ (d : Int) - k < n then [((d : Int) - k) * n + k] else [] := by
  unfold scCell; rw [if_neg h]
def scRow (n : Int) (d k : Nat) : List Int := (List.range k).flatMap (scCell n d)
def scN (n : Int) (d : Nat) : List Int := (List.range d).flatMap fun d => scRow n d (d + 1)
def scanOf (n : Int) : List Int := if n = 4 ∨ n = 8 then scN n (2 * n - 1).toNat else []
theorem scRow_succ (n : Int) (d k : Nat) : scRow n d (k + 1) = scRow n d k ++ scCell n d k := by simp [scRow, List.range_succ, List.flatMap_append]
theorem scN_succ (n : Int) (d : Nat) : scN n (d + 1) = scN n d ++ scRow n d (d + 1) := by simp [scN, List.range_succ, List.flatMap_append]
theorem scCell_len (n : Int) (d k : Nat) : (scCell n d k).length ≤ 1 := by
  by_cases h : (d : Int) % 2 = 0
  · rw [scE h]; split <;> simp
  · rw [scO h]; split <;> simp
theorem scRow_len (n : Int) (d k : Nat) : (scRow n d k).length ≤ k := by
  induction k with
  | zero => simp [scRow]
  | succ k ih => have := scCell_len n d k; rw [scRow_succ, List.length_append]; omega
theorem scN_len (n : Int) {d : Nat} (h : d ≤ 15) : (scN n d).length ≤ 16 * d := by
  induction d with
  | zero => simp [scN]
  | succ d ih => have := scRow_len n d (d + 1); have := ih (by omega); rw [scN_succ, List.length_append]; omega
theorem scan_no {n : Int} (h : ¬ (n = 4 ∨ n = 8)) : scanOf n = [] := if_neg h
theorem scan_yes {n : Int} {d : Nat} (h : n = 4 ∨ n = 8) (hd : (d : Int) = 2 * n - 1) : scanOf n = scN n d := by
  unfold scanOf; rw [if_pos h, show (2 * n - 1).toNat = d by omega]
def permL (l : List Int) (N : Nat) : Prop := l.length = N ∧ ∀ i : Nat, i < N → 0 ≤ l.getD i 0 ∧ l.getD i 0 < N
instance (l : List Int) (N : Nat) : Decidable (permL l N) := by unfold permL; infer_instance
theorem scan_perm4 : permL (scanOf 4) 16 := by decide
theorem scan_perm8 : permL (scanOf 8) 64 := by decide
theorem scan_facts {N : Nat} {k : Nat} (h : k < (scanOf (sideOf N)).length) : (scanOf (sideOf N)).length = N ∧ (N = 16 ∨ N = 64) ∧ 0 ≤ (scanOf (sideOf N)).getD k 0 ∧ (scanOf (sideOf N)).getD k 0 < N := by
  unfold sideOf at *
  by_cases h1 : (N : Int) = 16
  · rw [if_pos h1] at h ⊢
    obtain rfl : N = 16 := by omega
    have := scan_perm4
    exact ⟨this.1, .inl rfl, this.2 k (by rw [this.1] at h; exact h)⟩
  · rw [if_neg h1] at h ⊢
    by_cases h2 : (N : Int) = 64
    · rw [if_pos h2] at h ⊢
      obtain rfl : N = 64 := by omega
      have := scan_perm8
      exact ⟨this.1, .inr rfl, this.2 k (by rw [this.1] at h; exact h)⟩
    · rw [if_neg h2] at h ⊢
      rw [scan_no (by omega)] at h; simp at h
theorem scan_len {N : Nat} (h : N = 16 ∨ N = 64) : (scanOf (sideOf N)).length = N := by
  rcases h with rfl | rfl
  · exact scan_perm4.1
  · exact scan_perm8.1
def plK (o l : List Int) (N : Nat) : Nat → List Int
  | 0 => List.replicate N 0
  | k + 1 => (plK o l N k).set (o.getD k 0).toNat (l.getD k 0)
def placed (l : List Int) : List Int := plK (scanOf (sideOf l.length)) l (scanOf (sideOf l.length)).length (scanOf (sideOf l.length)).length
theorem plK_length (o l : List Int) (N k : Nat) : (plK o l N k).length = N := by
  induction k with
  | zero => simp [plK]
  | succ k ih => simp only [plK]; rw [List.length_set]; exact ih
theorem stepOf_le {q : Int} (h : 0 ≤ q ∧ q ≤ 51) : 1 ≤ stepOf q ∧ stepOf q ≤ 448 := by
  have : ∀ k : Nat, k ≤ 51 → 1 ≤ stepOf k ∧ stepOf k ≤ 448 := by decide
  have h1 := this q.toNat (by omega)
  rw [show ((q.toNat : Nat) : Int) = q by omega] at h1
  exact h1
theorem stepOf_no {q : Int} (h : ¬ (0 ≤ q ∧ q ≤ 51)) : stepOf q = 0 := if_neg h
theorem stepOf_rng (q : Int) : 0 ≤ stepOf q ∧ stepOf q ≤ 448 := by
  by_cases h : 0 ≤ q ∧ q ≤ 51
  · have := stepOf_le h; omega
  · rw [stepOf_no h]; omega
def normAt (n i : Int) : Int := if (n = 4 ∨ n = 8) ∧ 0 ≤ i ∧ i ≤ n * n - 1 then (if n = 8 then 1 else if i / 4 % 2 + i % 4 % 2 = 0 then 100 else if i / 4 % 2 + i % 4 % 2 = 2 then 16 else 40) else 0
theorem normAt_range (n i : Int) : 0 ≤ normAt n i ∧ normAt n i ≤ 100 := by
  unfold normAt; split
  · split
    · omega
    · split
      · omega
      · split <;> omega
  · omega
def scaledK (l : List Int) (q : Int) (k : Nat) : List Int := (List.range k).map fun i : Nat => l.getD i 0 * stepOf q * normAt (sideOf l.length) i
def scaled (l : List Int) (q : Int) : List Int := if levelsOk l ∧ stepOf q ≠ 0 then scaledK l q l.length else []
theorem scaledK_succ (l : List Int) (q : Int) (k : Nat) : scaledK l q (k + 1) = scaledK l q k ++ [l.getD k 0 * stepOf q * normAt (sideOf l.length) k] := by simp [scaledK, List.range_succ]
theorem scaledK_length (l : List Int) (q : Int) (k : Nat) : (scaledK l q k).length = k := by simp [scaledK]
def clampW (v : Int) : Int := max (-1000000000000) (min 1000000000000 v)
def rndE (N : Int) (v : Int) : Int := if N = 16 then (clampW v + 800) / 1600 else (clampW v + 32) / 64
def rndK (l : List Int) (k : Nat) : List Int := (List.range k).map fun i : Nat => rndE l.length (l.getD i 0)
def rounded (l : List Int) : List Int := if sideOf l.length = 0 then [] else rndK l l.length
theorem rndK_succ (l : List Int) (k : Nat) : rndK l (k + 1) = rndK l k ++ [rndE l.length (l.getD k 0)] := by simp [rndK, List.range_succ]
theorem rnd_i {N b v : Int} (h : (N = 16 ∧ b = 1600) ∨ (¬ N = 16 ∧ b = 64)) : (max (-1000000000000) (min v 1000000000000) + b / 2) / b = rndE N v := by
  rw [Int.min_comm]
  rcases h with ⟨h, rfl⟩ | ⟨h, rfl⟩
  · unfold rndE clampW; rw [if_pos h]; rfl
  · unfold rndE clampW; rw [if_neg h]; rfl
theorem rndK_length (l : List Int) (k : Nat) : (rndK l k).length = k := by simp [rndK]
theorem plK_range {o l : List Int} {N : Nat} {B : Int} (hB : 0 ≤ B) (h : ∀ i : Nat, -B ≤ l.getD i 0 ∧ l.getD i 0 ≤ B) (k : Nat) : ∀ i : Nat, -B ≤ (plK o l N k).getD i 0 ∧ (plK o l N k).getD i 0 ≤ B := by
  induction k with
  | zero =>
    intro i
    have e : (plK o l N 0).getD i 0 = 0 := by show (List.replicate N (0 : Int)).getD i 0 = 0; rw [List.getD_eq_getElem?_getD, List.getElem?_replicate]; split <;> rfl
    rw [e]; omega
  | succ k ih =>
    intro i
    simp only [plK, List.getD_eq_getElem?_getD, List.getElem?_set]
    split
    · split
      · have := h k; rw [List.getD_eq_getElem?_getD] at this; simpa using this
      · simp; omega
    · have := ih i; rw [List.getD_eq_getElem?_getD] at this; exact this
theorem levels_any {l : List Int} (h : levelsOk l) (i : Nat) : -16383 ≤ l.getD i 0 ∧ l.getD i 0 ≤ 16383 := by
  by_cases hi : i < l.length
  · exact h.1 i hi
  · rw [List.getD_eq_getElem?_getD, List.getElem?_eq_none (by omega)]; simp
theorem levels_size {l : List Int} (h : levelsOk l) : l.length = 16 ∨ l.length = 64 := by have := side_len h.2; omega
theorem placed_len {l : List Int} (h : levelsOk l) : (placed l).length = l.length := by
  unfold placed; rw [plK_length, scan_len (levels_size h)]
theorem placed_ok {l : List Int} (h : levelsOk l) : levelsOk (placed l) := by
  refine ⟨fun j _ => plK_range (by decide) (levels_any h) _ j, ?_⟩
  rw [placed_len h]; exact h.2
def fitsW (l : List Int) (N : Nat) : Prop := l.length = N ∧ allIn (-1000000000) 1000000000 l
instance (l : List Int) (N : Nat) : Decidable (fitsW l N) := by unfold fitsW; infer_instance
theorem fits_inW {l : List Int} {N : Nat} (h : fitsW l N) : inW l 1000000000 := by
  intro i
  by_cases hi : i < l.length
  · exact h.2 i hi
  · rw [List.getD_eq_getElem?_getD, List.getElem?_eq_none (by omega)]; simp
def prodG (M : Nat → Nat → Int) (l : List Int) (n : Nat) : List Int := if fitsW l (n * n) then prodL M l n else []
theorem prodL_length (M : Nat → Nat → Int) (l : List Int) (n : Nat) : (prodL M l n).length = n * n := accL_length _ _ _
theorem prodG_le (M : Nat → Nat → Int) (l : List Int) (n : Nat) : (prodG M l n).length ≤ n * n := by
  unfold prodG; split
  · rw [prodL_length]; exact Nat.le_refl _
  · simp
def residual (q : Int) (byp : Bool) (l : List Int) : List Int :=
  if levelsOk l ∧ 0 ≤ q ∧ q ≤ 51 then (if byp = true then placed l else if l.length = 16 then rounded (prodG mAt (scaled (placed l) q) 4) else rounded (prodG hEnt (scaled (placed l) q) 8)) else []
theorem scaled_len {l : List Int} {q : Int} (h : levelsOk l) (hq : 0 ≤ q ∧ q ≤ 51) : (scaled l q).length = l.length := by
  unfold scaled; rw [if_pos ⟨h, by have := stepOf_le hq; omega⟩, scaledK_length]
theorem scaled_no {l : List Int} {q : Int} (h : ¬ (levelsOk l ∧ stepOf q ≠ 0)) : scaled l q = [] := if_neg h
theorem mul3 {a b c : Int} (ha : -16383 ≤ a ∧ a ≤ 16383) (hb : 0 ≤ b ∧ b ≤ 448) (hc : 0 ≤ c ∧ c ≤ 100) : (-7339584 ≤ a * b ∧ a * b ≤ 7339584) ∧ (-733958400 ≤ a * b * c ∧ a * b * c ≤ 733958400) := by
  have h1 : -(16383 * b) ≤ a * b ∧ a * b ≤ 16383 * b := by
    constructor
    · have := Int.mul_le_mul_of_nonneg_right (show -16383 ≤ a by omega) hb.1; omega
    · exact Int.mul_le_mul_of_nonneg_right ha.2 hb.1
  have h2 : -(7339584 * c) ≤ a * b * c ∧ a * b * c ≤ 7339584 * c := by
    constructor
    · have := Int.mul_le_mul_of_nonneg_right (show -7339584 ≤ a * b by omega) hc.1; omega
    · exact Int.mul_le_mul_of_nonneg_right (show a * b ≤ 7339584 by omega) hc.1
  omega
theorem residual_no {q : Int} {byp : Bool} {l : List Int} (h : ¬ (levelsOk l ∧ 0 ≤ q ∧ q ≤ 51)) : residual q byp l = [] := if_neg h
theorem residual_le (q : Int) (byp : Bool) (l : List Int) : (residual q byp l).length ≤ 64 := by
  unfold residual; split
  · next h =>
    have hs := levels_size h.1
    split
    · rw [placed_len h.1]; omega
    · have hr : ∀ x : List Int, x.length ≤ 64 → (rounded x).length ≤ 64 := by
        intro x hx; unfold rounded; split
        · simp
        · rw [rndK_length]; exact hx
      have hp : ∀ (M : Nat → Nat → Int) (x : List Int) (n : Nat), n * n ≤ 64 → (prodG M x n).length ≤ 64 := by
        intro M x n hn; unfold prodG; split
        · rw [prodL_length]; exact hn
        · simp
      split
      · exact hr _ (hp _ _ 4 (by decide))
      · exact hr _ (hp _ _ 8 (by decide))
  · simp
end Go.Pl

/- Plain numbers: products by sums and differences; sizes of blocks. -/
namespace Go.Pl
def sumN (f : Nat → Int) : Nat → Int
  | 0 => 0
  | k + 1 => sumN f k + f k
end Go.Pl

/- Plain numbers: what lies around a block, predictions, blocks set into frames. -/
namespace Go.Pl
def fitsF (W H : Int) (xs : List Int) (x y n : Int) : Prop := frOk W H xs ∧ (n = 4 ∨ n = 8) ∧ (0 ≤ x ∧ x ≤ W - n) ∧ (0 ≤ y ∧ y ≤ H - n) ∧ x % n = 0 ∧ y % n = 0
theorem pix_in {W H a b : Int} {xs : List Int} (h : frOk W H xs) (ha : 0 ≤ a ∧ a ≤ H - 1) (hb : 0 ≤ b ∧ b ≤ W - 1) : 0 ≤ a * W ∧ a * W ≤ 1024 ∧ 0 ≤ a * W + b ∧ a * W + b < xs.length := by
  obtain ⟨h1, h2, h3, h4, h5⟩ := fr_geo h
  have h6 := sides_mul h.1
  have h7 : 0 ≤ a * W := Int.mul_nonneg ha.1 (by omega)
  have h8 : a * W ≤ (H - 1) * W := Int.mul_le_mul_of_nonneg_right ha.2 (by omega)
  rw [Int.sub_mul, Int.one_mul, Int.mul_comm H W] at h8
  omega
def topV (W x y n : Int) (xs pr : List Int) (i : Nat) : Int := if y = 0 then 128 else if (i : Int) < n ∨ (y % 8 = 0 ∧ x + i < W) then xs.getD ((y - 1) * W + x + i).toNat 0 else pr.getD ((i : Int) - 1).toNat 0
def topK (W x y n : Int) (xs : List Int) : Nat → List Int
  | 0 => []
  | i + 1 => topK W x y n xs i ++ [topV W x y n xs (topK W x y n xs i) i]
theorem topK_length (W x y n : Int) (xs : List Int) (i : Nat) : (topK W x y n xs i).length = i := by
  induction i with
  | zero => rfl
  | succ i ih => simp only [topK, List.length_append, ih, List.length_cons, List.length_nil]
theorem pix_snoc {l : List Int} {v : Int} (h : pixOk l) (hv : 0 ≤ v ∧ v ≤ 255) : pixOk (l ++ [v]) := by
  intro j hj
  rw [List.length_append] at hj
  by_cases h2 : j < l.length
  · have := h j h2
    rw [List.getD_eq_getElem?_getD, List.getElem?_append_left h2, ← List.getD_eq_getElem?_getD]; exact this
  · have e : j = l.length := by simp at hj; omega
    subst e
    rw [List.getD_eq_getElem?_getD, List.getElem?_append_right (Nat.le_refl _)]; simpa using hv
theorem topV_range {W x y n : Int} {xs pr : List Int} {i : Nat} (h : pixOk xs) (hp : pixOk pr) : 0 ≤ topV W x y n xs pr i ∧ topV W x y n xs pr i ≤ 255 := by
  unfold topV
  split
  · omega
  · split
    · exact pix_get h _
    · exact pix_get hp _
theorem topK_pix {W x y n : Int} {xs : List Int} (h : pixOk xs) (i : Nat) : pixOk (topK W x y n xs i) := by
  induction i with
  | zero => intro j hj; simp [topK] at hj
  | succ i ih => exact pix_snoc ih (topV_range h ih)
def leftV (W x y : Int) (xs : List Int) (i : Nat) : Int := if 0 < x then xs.getD ((y + i) * W + x - 1).toNat 0 else 128
def leftK (W x y : Int) (xs : List Int) (k : Nat) : List Int := (List.range k).map (leftV W x y xs)
theorem leftK_length (W x y : Int) (xs : List Int) (k : Nat) : (leftK W x y xs k).length = k := by simp [leftK]
theorem leftK_succ (W x y : Int) (xs : List Int) (k : Nat) : leftK W x y xs (k + 1) = leftK W x y xs k ++ [leftV W x y xs k] := by simp [leftK, List.range_succ]
theorem leftV_range {W x y : Int} {xs : List Int} {i : Nat} (h : pixOk xs) : 0 ≤ leftV W x y xs i ∧ leftV W x y xs i ≤ 255 := by
  unfold leftV; split
  · exact pix_get h _
  · omega
theorem leftK_pix {W x y : Int} {xs : List Int} (h : pixOk xs) (i : Nat) : pixOk (leftK W x y xs i) := by
  induction i with
  | zero => intro j hj; simp [leftK] at hj
  | succ i ih => rw [leftK_succ]; exact pix_snoc ih (leftV_range h)
def cornV (W x y : Int) (xs : List Int) : Int := if 0 < x ∧ 0 < y then xs.getD ((y - 1) * W + x - 1).toNat 0 else 128
theorem cornV_range {W x y : Int} {xs : List Int} (h : pixOk xs) : 0 ≤ cornV W x y xs ∧ cornV W x y xs ≤ 255 := by
  unfold cornV; split
  · exact pix_get h _
  · omega
def nbOk (ts ls : List Int) (cr n : Int) : Prop := (n = 4 ∨ n = 8) ∧ (ts.length : Int) = 2 * n ∧ (ls.length : Int) = n ∧ pixOk ts ∧ pixOk ls ∧ (0 ≤ cr ∧ cr ≤ 255)
theorem nb_ok {W H x y n : Int} {xs : List Int} (h : fitsF W H xs x y n) : nbOk (topK W x y n xs (2 * n).toNat) (leftK W x y xs n.toNat) (cornV W x y xs) n := by
  have hp := h.1.2.2
  have hn := h.2.1
  exact ⟨hn, by rw [topK_length]; omega, by rw [leftK_length]; omega, topK_pix hp _, leftK_pix hp _, cornV_range hp⟩
def sumK (l : List Int) (k : Nat) : Int := sumN (fun i => l.getD i 0) k
theorem sumK_range {l : List Int} (h : pixOk l) (k : Nat) : 0 ≤ sumK l k ∧ sumK l k ≤ 255 * k := by
  induction k with
  | zero => simp [sumK, sumN]
  | succ k ih =>
    have := pix_get h k
    unfold sumK at *
    simp only [sumN]; omega
def mC (ht hl : Bool) (n : Int) : Int := (if ht then n else 0) + (if hl then n else 0)
def mS (ts ls : List Int) (ht hl : Bool) (n : Int) : Int := (if ht then sumK ts n.toNat else 0) + (if hl then sumK ls n.toNat else 0)
def meanV (ts ls : List Int) (ht hl : Bool) (n : Int) : Int := if mC ht hl n = 0 then 128 else (mS ts ls ht hl n + mC ht hl n / 2) / mC ht hl n
theorem mC_range {n : Int} (ht hl : Bool) (h : n = 4 ∨ n = 8) : mC ht hl n = 0 ∨ mC ht hl n = n ∨ mC ht hl n = 2 * n := by
  unfold mC; cases ht <;> cases hl <;> simp <;> omega
theorem mS_range {n : Int} {ts ls : List Int} (ht hl : Bool) (h : n = 4 ∨ n = 8) (h1 : pixOk ts) (h2 : pixOk ls) : 0 ≤ mS ts ls ht hl n ∧ mS ts ls ht hl n ≤ 255 * mC ht hl n := by
  have h3 := sumK_range h1 n.toNat
  have h4 := sumK_range h2 n.toNat
  unfold mC mS; cases ht <;> cases hl <;> simp <;> omega
theorem mean_range {n : Int} {ts ls : List Int} (ht hl : Bool) (h : n = 4 ∨ n = 8) (h1 : pixOk ts) (h2 : pixOk ls) : 0 ≤ meanV ts ls ht hl n ∧ meanV ts ls ht hl n ≤ 255 := by
  have h3 := mC_range ht hl h
  have h4 := mS_range (n := n) ht hl h h1 h2
  unfold meanV
  generalize mC ht hl n = c at *
  generalize mS ts ls ht hl n = s at *
  split
  · omega
  · have : c = 4 ∨ c = 8 ∨ c = 16 := by omega
    rcases this with rfl | rfl | rfl <;> omega
theorem mean_tt {n : Int} (ts ls : List Int) (h : n = 4 ∨ n = 8) : meanV ts ls true true n = (sumK ts n.toNat + sumK ls n.toNat + n) / (2 * n) := by
  have e : mC true true n = 2 * n := by simp [mC]; omega
  unfold meanV
  rw [if_neg (by omega), e]
  simp only [mS, if_true]
  congr 1; omega
theorem mean_tf {n : Int} (ts ls : List Int) (h : n = 4 ∨ n = 8) : meanV ts ls true false n = (sumK ts n.toNat + n / 2) / n := by
  have e : mC true false n = n := by simp [mC]
  unfold meanV
  rw [if_neg (by omega), e]
  simp [mS]
theorem mean_ft {n : Int} (ts ls : List Int) (h : n = 4 ∨ n = 8) : meanV ts ls false true n = (sumK ls n.toNat + n / 2) / n := by
  have e : mC false true n = n := by simp [mC]
  unfold meanV
  rw [if_neg (by omega), e]
  simp [mS]
theorem mean_ff {n : Int} (ts ls : List Int) : meanV ts ls false false n = 128 := by
  unfold meanV; rw [if_pos (by simp [mC])]
def borderL (ts ls : List Int) (cr n : Int) : List Int := ls.reverse ++ [cr] ++ ts.take n.toNat
theorem border_length {ts ls : List Int} {cr n : Int} (h : nbOk ts ls cr n) : ((borderL ts ls cr n).length : Int) = 2 * n + 1 := by
  obtain ⟨h1, h2, h3, _⟩ := h
  simp only [borderL, List.length_append, List.length_reverse, List.length_cons, List.length_nil, List.length_take]; omega
theorem pix_mem {a : List Int} : pixOk a ↔ ∀ v ∈ a, 0 ≤ v ∧ v ≤ 255 := by
  constructor
  · intro h v hv
    obtain ⟨j, hj, rfl⟩ := List.mem_iff_getElem.1 hv
    have := h j hj
    rwa [List.getD_eq_getElem?_getD, List.getElem?_eq_getElem hj, Option.getD_some] at this
  · intro h j hj
    rw [List.getD_eq_getElem?_getD, List.getElem?_eq_getElem hj, Option.getD_some]
    exact h _ (List.getElem_mem hj)
theorem border_pix {ts ls : List Int} {cr n : Int} (h : nbOk ts ls cr n) : pixOk (borderL ts ls cr n) := by
  obtain ⟨_, _, _, h4, h5, h6⟩ := h
  rw [pix_mem] at h4 h5 ⊢
  intro v hv
  simp only [borderL, List.mem_append, List.mem_reverse, List.mem_cons, List.not_mem_nil, or_false] at hv
  rcases hv with (hv | rfl) | hv
  · exact h5 v hv
  · exact h6
  · exact h4 v (List.mem_of_mem_take hv)
def soft (a b c : Int) : Int := (a + 2 * b + c + 2) / 4
def predV (m : Int) (ts ls : List Int) (cr : Int) (ht hl : Bool) (n x y : Int) : Int :=
  if m = 0 then meanV ts ls ht hl n
  else if m = 1 then ts.getD x.toNat 0
  else if m = 2 then ls.getD y.toNat 0
  else if m = 3 then clip (ls.getD y.toNat 0 + ts.getD x.toNat 0 - cr)
  else if m = 4 then soft (ts.getD (x + y).toNat 0) (ts.getD (min (x + y + 1) (2 * n - 1)).toNat 0) (ts.getD (min (x + y + 2) (2 * n - 1)).toNat 0)
  else soft ((borderL ts ls cr n).getD (x - y + n - 1).toNat 0) ((borderL ts ls cr n).getD (x - y + n).toNat 0) ((borderL ts ls cr n).getD (x - y + n + 1).toNat 0)
theorem predV_range {m : Int} {ts ls : List Int} {cr : Int} {ht hl : Bool} {n x y : Int} (h : nbOk ts ls cr n) : 0 ≤ predV m ts ls cr ht hl n x y ∧ predV m ts ls cr ht hl n x y ≤ 255 := by
  have hb := border_pix h
  have h4 := h.2.2.2.1
  have h5 := h.2.2.2.2.1
  unfold predV
  split
  · exact mean_range ht hl h.1 h4 h5
  · split
    · exact pix_get h4 _
    · split
      · exact pix_get h5 _
      · split
        · unfold clip; omega
        · split
          · have a1 := pix_get h4 (x + y).toNat
            have a2 := pix_get h4 (min (x + y + 1) (2 * n - 1)).toNat
            have a3 := pix_get h4 (min (x + y + 2) (2 * n - 1)).toNat
            unfold soft; omega
          · have a1 := pix_get hb (x - y + n - 1).toNat
            have a2 := pix_get hb (x - y + n).toNat
            have a3 := pix_get hb (x - y + n + 1).toNat
            unfold soft; omega
def predK (m : Int) (ts ls : List Int) (cr : Int) (ht hl : Bool) (n : Int) (k : Nat) : List Int := (List.range k).map fun i : Nat => predV m ts ls cr ht hl n ((i : Int) % n) ((i : Int) / n)
def predL (m : Int) (ts ls : List Int) (cr : Int) (ht hl : Bool) (n : Int) : List Int := predK m ts ls cr ht hl n (n * n).toNat
theorem predK_length (m : Int) (ts ls : List Int) (cr : Int) (ht hl : Bool) (n : Int) (k : Nat) : (predK m ts ls cr ht hl n k).length = k := by simp [predK]
theorem predK_succ (m : Int) (ts ls : List Int) (cr : Int) (ht hl : Bool) (n : Int) (k : Nat) : predK m ts ls cr ht hl n (k + 1) = predK m ts ls cr ht hl n k ++ [predV m ts ls cr ht hl n ((k : Int) % n) ((k : Int) / n)] := by simp [predK, List.range_succ]
theorem pix_map {k : Nat} {f : Nat → Int} (h : ∀ i, 0 ≤ f i ∧ f i ≤ 255) : pixOk ((List.range k).map f) := by
  rw [pix_mem]; intro v hv
  obtain ⟨i, _, rfl⟩ := List.mem_map.1 hv
  exact h i
theorem predL_pix {m : Int} {ts ls : List Int} {cr : Int} {ht hl : Bool} {n : Int} (h : nbOk ts ls cr n) : pixOk (predL m ts ls cr ht hl n) := pix_map fun _ => predV_range h
def recK (p r : List Int) (k : Nat) : List Int := (List.range k).map fun i : Nat => clip (p.getD i 0 + max (-1000000) (min 1000000 (r.getD i 0)))
def recL (p r : List Int) : List Int := recK p r p.length
theorem recK_length (p r : List Int) (k : Nat) : (recK p r k).length = k := by simp [recK]
theorem recK_succ (p r : List Int) (k : Nat) : recK p r (k + 1) = recK p r k ++ [clip (p.getD k 0 + max (-1000000) (min 1000000 (r.getD k 0)))] := by simp [recK, List.range_succ]
theorem recL_pix (p r : List Int) : pixOk (recL p r) := pix_map fun _ => by unfold clip; omega
def setAt (W x y n : Int) (k : Nat) : Nat := ((y + (k : Int) / n) * W + x + (k : Int) % n).toNat
def setK (W x y n : Int) (l xs : List Int) : Nat → List Int
  | 0 => xs
  | k + 1 => (setK W x y n l xs k).set (setAt W x y n k) (l.getD k 0)
theorem setK_length (W x y n : Int) (l xs : List Int) (k : Nat) : (setK W x y n l xs k).length = xs.length := by
  induction k with
  | zero => rfl
  | succ k ih => simp only [setK]; rw [List.length_set, ih]
theorem setK_pix {W x y n : Int} {l xs : List Int} (h : pixOk xs) (hl : pixOk l) (k : Nat) : pixOk (setK W x y n l xs k) := by
  induction k with
  | zero => exact h
  | succ k ih => exact pix_set ih (pix_get hl k)
theorem cell_in {W H x y n : Int} {xs : List Int} {k : Nat} (h : fitsF W H xs x y n) (hk : (k : Int) < n * n) : (0 ≤ (k : Int) / n ∧ (k : Int) / n ≤ n - 1) ∧ (0 ≤ (k : Int) % n ∧ (k : Int) % n ≤ n - 1) := by
  obtain ⟨_, hn, _⟩ := h
  rcases hn with rfl | rfl <;> omega
def nbPred (W x y n m : Int) (xs : List Int) : List Int := predL m (topK W x y n xs (2 * n).toNat) (leftK W x y xs n.toNat) (cornV W x y xs) (decide (0 < y)) (decide (0 < x)) n
def setsOk (W H : Int) (xs : List Int) (x y q : Int) (byp : Bool) (m : Int) (ys : List Int) : Prop := 0 < (residual q byp ys).length ∧ (0 ≤ m ∧ m ≤ 5) ∧ fitsF W H xs x y (sideOf ys.length)
instance (W H : Int) (xs : List Int) (x y n : Int) : Decidable (fitsF W H xs x y n) := by unfold fitsF; infer_instance
instance (W H : Int) (xs : List Int) (x y q : Int) (byp : Bool) (m : Int) (ys : List Int) : Decidable (setsOk W H xs x y q byp m ys) := by unfold setsOk; infer_instance
def putV (W x y q : Int) (byp : Bool) (m : Int) (ys xs : List Int) : List Int := setK W x y (sideOf ys.length) (recL (nbPred W x y (sideOf ys.length) m xs) (residual q byp ys)) xs ys.length
def putL (W H : Int) (xs : List Int) (x y q : Int) (byp : Bool) (m : Int) (ys : List Int) : List Int := if setsOk W H xs x y q byp m ys then putV W x y q byp m ys xs else xs
theorem putL_length (W H : Int) (xs : List Int) (x y q : Int) (byp : Bool) (m : Int) (ys : List Int) : (putL W H xs x y q byp m ys).length = xs.length := by
  unfold putL; split
  · exact setK_length _ _ _ _ _ _ _
  · rfl
theorem putL_ok {W H : Int} {xs : List Int} (x y q : Int) (byp : Bool) (m : Int) (ys : List Int) (h : frOk W H xs) : frOk W H (putL W H xs x y q byp m ys) := by
  refine ⟨h.1, by rw [putL_length]; exact h.2.1, ?_⟩
  unfold putL; split
  · exact setK_pix h.2.2 (recL_pix _ _) _
  · exact h.2.2
theorem scaled_fits {l : List Int} {q : Int} (h : levelsOk l) (hq : 0 ≤ q ∧ q ≤ 51) : fitsW (scaled l q) l.length := by
  refine ⟨scaled_len h hq, fun j hj => ?_⟩
  unfold scaled
  rw [if_pos ⟨h, by have := stepOf_le hq; omega⟩]
  have h1 := mul3 (levels_any h j) (stepOf_rng q) (normAt_range (sideOf l.length) j)
  rw [scaled_len h hq] at hj
  have e : (scaledK l q l.length).getD j 0 = l.getD j 0 * stepOf q * normAt (sideOf l.length) j := by
    simp [scaledK, List.getD, hj]
  rw [e]; omega
theorem residual_len {q : Int} {byp : Bool} {l : List Int} (h : levelsOk l ∧ 0 ≤ q ∧ q ≤ 51) : (residual q byp l).length = l.length := by
  have hs := levels_size h.1
  have hp := placed_len h.1
  have hf := scaled_fits (placed_ok h.1) h.2
  rw [hp] at hf
  have key : ∀ (M : Nat → Nat → Int) (n : Nat), (n = 4 ∨ n = 8) → l.length = n * n → (rounded (prodG M (scaled (placed l) q) n)).length = l.length := by
    intro M n hn hl
    have e : prodG M (scaled (placed l) q) n = prodL M (scaled (placed l) q) n := if_pos (by rw [← hl]; exact hf)
    have e2 : (prodL M (scaled (placed l) q) n).length = l.length := by rw [prodL_length, hl]
    rw [e]
    unfold rounded
    rw [e2, if_neg (by unfold sideOf; rcases hn with rfl | rfl <;> rw [hl] <;> decide), rndK_length]
  unfold residual
  rw [if_pos h]
  split
  · exact hp
  · split
    · next h16 => exact key mAt 4 (.inl rfl) h16
    · exact key hEnt 8 (.inr rfl) (by omega)
theorem residual_pos {q : Int} {byp : Bool} {l : List Int} (h : 0 < (residual q byp l).length) : (levelsOk l ∧ 0 ≤ q ∧ q ≤ 51) ∧ (residual q byp l).length = l.length := by
  by_cases h2 : levelsOk l ∧ 0 ≤ q ∧ q ≤ 51
  · exact ⟨h2, residual_len h2⟩
  · rw [residual_no h2] at h; simp at h
theorem cut0 (l : List Int) (k : Nat) : (l.drop 0).take (k - 0) = l.take k := by simp
theorem sumK_succ (l : List Int) (k : Nat) : sumK l (k + 1) = sumK l k + l.getD k 0 := rfl
theorem cells4 {n : Int} {k : Nat} (hn : n = 4 ∨ n = 8) (hk : (k : Int) < n * n) : (0 ≤ (k : Int) / n ∧ (k : Int) / n ≤ n - 1) ∧ (0 ≤ (k : Int) % n ∧ (k : Int) % n ≤ n - 1) := by
  rcases hn with rfl | rfl <;> omega
def rvK (l : List Int) : Nat → List Int
  | 0 => l
  | i + 1 => ((rvK l i).set i ((rvK l i).getD (l.length - 1 - i) 0)).set (l.length - 1 - i) ((rvK l i).getD i 0)
theorem rvK_length (l : List Int) (i : Nat) : (rvK l i).length = l.length := by
  induction i with
  | zero => rfl
  | succ i ih => simp only [rvK, List.length_set]; exact ih
theorem rvK_all {l : List Int} (h : l.length = 4 ∨ l.length = 8) {i : Nat} (hi : 2 * i = l.length) : rvK l i = l.reverse := by
  rcases h with h | h
  · obtain rfl : i = 2 := by omega
    match l, h with
    | [a, b, c, d], _ => rfl
  · obtain rfl : i = 4 := by omega
    match l, h with
    | [a, b, c, d, e, f, g, h], _ => rfl
end Go.Pl

/- Plain numbers: frames built from streams. -/
namespace Go.Pl
open Go.Sx
def plB (pl : List PM) (i k : Nat) : PB := (pl.getD i default).2.getD k default
theorem pl_blk {ms : List Mk} {i k : Nat} (hi : i < ms.length) (hk : k < (ms.getD i default).bs.length) : plB (ms.map Mk.pl) i k = Bk.pl ((ms.getD i default).bs.getD k default) := by
  unfold plB
  rw [map_getD _ hi]
  show ((ms.getD i default).bs.map Bk.pl).getD k default = _
  rw [map_getD _ hk]
theorem pl_len {ms : List Mk} {i : Nat} (hi : i < ms.length) : ((ms.map Mk.pl).getD i default).2.length = (ms.getD i default).bs.length := by
  rw [map_getD _ hi]; simp [Mk.pl]
def spX (W : Int) (i k : Nat) : Int := (i : Int) % (W / 8) * 8 + (k : Int) % 2 * 4
def spY (W : Int) (i k : Nat) : Int := (i : Int) / (W / 8) * 8 + (k : Int) / 2 * 4
def plist (W : Int) (i : Nat) (e : Bool) (k : Nat) : List (Int × Int × Int) := (List.range k).map fun j => (spX W i j, spY W i j, side e)
theorem plist_length (W : Int) (i : Nat) (e : Bool) (k : Nat) : (plist W i e k).length = k := by simp [plist]
theorem plist_succ (W : Int) (i : Nat) (e : Bool) (k : Nat) : plist W i e (k + 1) = plist W i e k ++ [(spX W i k, spY W i k, side e)] := by simp [plist, List.range_succ]
theorem plist_get {W : Int} {i : Nat} {e : Bool} {k j : Nat} (h : j < k) : (plist W i e k).getD j default = (spX W i j, spY W i j, side e) := by simp [plist, List.getD, h]
def bldB (W H q : Int) (y : Bool) (pl : List PM) (i : Nat) (px : List Int) : Nat → List Int
  | 0 => px
  | k + 1 => putL W H (bldB W H q y pl i px k) (spX W i k) (spY W i k) q y (plB pl i k).1 (plB pl i k).2
def bldM (W H q : Int) (y : Bool) (pl : List PM) : Nat → List Int
  | 0 => List.replicate (W * H).toNat 0
  | i + 1 => bldB W H q y pl i (bldM W H q y pl i) (pl.getD i default).2.length
theorem bldB_length (W H q : Int) (y : Bool) (pl : List PM) (i : Nat) (px : List Int) (k : Nat) : (bldB W H q y pl i px k).length = px.length := by
  induction k with
  | zero => rfl
  | succ k ih => simp only [bldB]; rw [putL_length, ih]
theorem bldM_length (W H q : Int) (y : Bool) (pl : List PM) (i : Nat) : (bldM W H q y pl i).length = (W * H).toNat := by
  induction i with
  | zero => simp [bldM]
  | succ i ih => simp only [bldM]; rw [bldB_length, ih]
theorem bldB_ok {W H q : Int} {y : Bool} {pl : List PM} {i : Nat} {px : List Int} (h : frOk W H px) (k : Nat) : frOk W H (bldB W H q y pl i px k) := by
  induction k with
  | zero => exact h
  | succ k ih => exact putL_ok _ _ _ _ _ _ ih
theorem zero_ok {W H : Int} (h : sidesOk W H) : frOk W H (List.replicate (W * H).toNat 0) := by
  have hm := sides_mul h
  refine ⟨h, by rw [List.length_replicate]; omega, ?_⟩
  rw [pix_mem]; intro v hv
  rw [(List.mem_replicate.1 hv).2]; omega
theorem bldM_ok {W H q : Int} {y : Bool} {pl : List PM} (h : sidesOk W H) (i : Nat) : frOk W H (bldM W H q y pl i) := by
  induction i with
  | zero => exact zero_ok h
  | succ i ih => exact bldB_ok ih _
def brX (W H q : Int) (y z : Bool) (zs : List Int) (pl : List PM) : List Int := if streamOk W H q zs pl then (if z then dbOf W H q (bldM W H q y pl pl.length) else bldM W H q y pl pl.length) else []
def brS (W H q : Int) (zs : List Int) (pl : List PM) (v : Int) : Int := if streamOk W H q zs pl then v else 0
theorem br_no {W H q : Int} {y z : Bool} {zs : List Int} {pl : List PM} (h : ¬ streamOk W H q zs pl) : brX W H q y z zs pl = [] ∧ brS W H q zs pl W = 0 ∧ brS W H q zs pl H = 0 := ⟨if_neg h, if_neg h, if_neg h⟩
theorem br_yes {W H q : Int} {y z : Bool} {zs : List Int} {pl : List PM} (h : streamOk W H q zs pl) : brX W H q y z zs pl = (if z then dbOf W H q (bldM W H q y pl pl.length) else bldM W H q y pl pl.length) ∧ brS W H q zs pl W = W ∧ brS W H q zs pl H = H := ⟨if_pos h, if_pos h, if_pos h⟩
end Go.Pl

/- Plain numbers: frames of streams that differ in the last macroblock only. -/
namespace Go.Pl
open Go.Sx
theorem setK_keep {W x y n : Int} {l xs : List Int} {i : Nat} : ∀ {k : Nat}, (∀ j, j < k → setAt W x y n j ≠ i) → (setK W x y n l xs k).getD i 0 = xs.getD i 0
  | 0, _ => rfl
  | k + 1, h => by
    simp only [setK]
    rw [set_getD_ne (h k (by omega)), setK_keep fun j hj => h j (by omega)]
theorem at_row {W r c : Int} {i : Nat} (hW : 0 < W) (hc : 0 ≤ c ∧ c < W) (h : (i : Int) = c + r * W) : (i : Int) % W = c ∧ (i : Int) / W = r := by
  rw [h]
  refine ⟨?_, ?_⟩
  · rw [Int.add_mul_emod_self_right]; exact Int.emod_eq_of_lt hc.1 hc.2
  · rw [Int.add_mul_ediv_right _ _ (by omega), Int.ediv_eq_zero_of_lt hc.1 hc.2]; omega
theorem put_keep {W H x y q m : Int} {byp : Bool} {xs ys : List Int} {i : Nat} (hx : W - 8 ≤ x) (hy : H - 8 ≤ y) (hi : (i : Int) % W < W - 8 ∨ (i : Int) / W < H - 8) : (putL W H xs x y q byp m ys).getD i 0 = xs.getD i 0 := by
  unfold putL
  split
  · next h =>
    obtain ⟨h1, h2, h3⟩ := h
    have hs := levels_size (residual_pos h1).1.1
    have hg := fr_geo h3.1
    have hn := h3.2.1
    have hfx := h3.2.2.1
    have hfy := h3.2.2.2.1
    unfold putV
    refine setK_keep fun j hj he => ?_
    have hnn : (ys.length : Int) = sideOf ys.length * sideOf ys.length := by
      rcases hs with h | h <;> rw [h] <;> decide
    have hc := cell_in h3 (k := j) (by omega)
    unfold setAt at he
    generalize sideOf (ys.length : Int) = n at *
    have hr0 : 0 ≤ (y + (j : Int) / n) * W := Int.mul_nonneg (by omega) (by omega)
    obtain ⟨a1, a2⟩ := at_row (W := W) (r := y + (j : Int) / n) (c := x + (j : Int) % n) (i := i) (by omega) (by omega) (by omega)
    rw [a1, a2] at hi
    omega
  · rfl
theorem bldB_keep {W H q : Int} {y : Bool} {pl : List PM} {i : Nat} {px : List Int} {p : Nat} (hX : ∀ k, W - 8 ≤ spX W i k) (hY : ∀ k, H - 8 ≤ spY W i k) (hp : (p : Int) % W < W - 8 ∨ (p : Int) / W < H - 8) (k : Nat) : (bldB W H q y pl i px k).getD p 0 = px.getD p 0 := by
  induction k with
  | zero => rfl
  | succ k ih => simp only [bldB]; rw [put_keep (hX k) (hY k) hp, ih]
theorem bldB_congr {W H q : Int} {y : Bool} {pl pl' : List PM} {i : Nat} (h : pl.getD i default = pl'.getD i default) (px : List Int) (k : Nat) : bldB W H q y pl i px k = bldB W H q y pl' i px k := by
  induction k with
  | zero => rfl
  | succ k ih => simp only [bldB]; rw [ih]; unfold plB; rw [h]
theorem bldM_congr {W H q : Int} {y : Bool} {pl pl' : List PM} {n : Nat} (h : ∀ j, j < n → pl.getD j default = pl'.getD j default) : ∀ i, i ≤ n → bldM W H q y pl i = bldM W H q y pl' i := by
  intro i
  induction i with
  | zero => intro _; rfl
  | succ i ih => intro hi; simp only [bldM]; rw [ih (by omega), h i (by omega), bldB_congr (h i (by omega))]
theorem causal {W H q : Int} {y : Bool} {pl pl' : List PM} {p : Nat} (hs : sidesOk W H) (hl : (pl.length : Int) = W / 8 * (H / 8)) (h1 : 1 ≤ pl.length) (hl2 : pl'.length = pl.length) (h : ∀ j, j + 1 < pl.length → pl.getD j default = pl'.getD j default) (hp : (p : Int) % W < W - 8 ∨ (p : Int) / W < H - 8) : (bldM W H q y pl pl.length).getD p 0 = (bldM W H q y pl' pl'.length).getD p 0 := by
  obtain ⟨n, hn⟩ : ∃ n, pl.length = n + 1 := ⟨pl.length - 1, by omega⟩
  obtain ⟨s1, s2, s3, s4⟩ := hs
  have hX0 : (n : Int) = (W / 8 - 1) + (H / 8 - 1) * (W / 8) := by
    rw [Int.sub_mul, Int.one_mul, Int.mul_comm (H / 8)]; omega
  obtain ⟨a1, a2⟩ := at_row (W := W / 8) (by omega) (by omega) hX0
  have hX : ∀ k, W - 8 ≤ spX W n k := fun k => by unfold spX; rw [a1]; omega
  have hY : ∀ k, H - 8 ≤ spY W n k := fun k => by unfold spY; rw [a2]; omega
  rw [hl2, hn]
  simp only [bldM]
  rw [bldB_keep hX hY hp, bldB_keep hX hY hp, bldM_congr (n := n) (fun j hj => h j (by omega)) n (Nat.le_refl _)]
theorem br_yesF {W H q : Int} {y : Bool} {zs : List Int} {pl : List PM} (h : streamOk W H q zs pl) : brX W H q y false zs pl = bldM W H q y pl pl.length ∧ brS W H q zs pl W = W ∧ brS W H q zs pl H = H := by
  obtain ⟨e1, e2, e3⟩ := br_yes (y := y) (z := false) h
  exact ⟨by rw [e1]; rfl, e2, e3⟩
theorem br_okF {W H q : Int} {y : Bool} {zs : List Int} {pl : List PM} (h : streamOk W H q zs pl) : frOk (brS W H q zs pl W) (brS W H q zs pl H) (brX W H q y false zs pl) := by
  obtain ⟨e1, e2, e3⟩ := br_yesF (y := y) h
  rw [e1, e2, e3]; exact bldM_ok h.1.1 _
def lastFirst (ms : List Mk) : List Mk := ms.set ((ms.length : Int) - 1).toNat (ms.getD (0 : Int).toNat default)
theorem lf_length (ms : List Mk) : (lastFirst ms).length = ms.length := by simp [lastFirst]
theorem lf_mem {ms : List Mk} (h : 1 ≤ ms.length) : ∀ m ∈ lastFirst ms, m ∈ ms := by
  intro m hm
  rcases List.mem_or_eq_of_mem_set hm with h2 | h2
  · exact h2
  · rw [h2]; exact getD_mem (i := 0) (by omega) (by omega)
theorem lf_get {ms : List Mk} (h : 1 ≤ ms.length) (j : Nat) : (lastFirst ms).getD j default = if ms.length - 1 = j then ms.getD 0 default else ms.getD j default := by
  unfold lastFirst
  rw [show ((ms.length : Int) - 1).toNat = ms.length - 1 by omega]
  by_cases e : ms.length - 1 = j
  · rw [if_pos e, List.getD_eq_getElem?_getD, List.getElem?_set, if_pos e, if_pos (by omega)]; rfl
  · rw [if_neg e, List.getD_eq_getElem?_getD, List.getElem?_set, if_neg e, ← List.getD_eq_getElem?_getD]
theorem lf_ok {a b q : Int} {xs : List Int} {ms : List Mk} (h : streamOk a b q xs (ms.map Mk.pl)) (h1 : 1 ≤ ms.length) : streamOk a b q xs ((lastFirst ms).map Mk.pl) := by
  obtain ⟨h2, h3, h4⟩ := stream_iff.1 h
  refine stream_iff.2 ⟨h2, by rw [lf_length]; exact h3, fun j hj => ?_⟩
  rw [lf_length] at hj
  rw [lf_get h1]
  split
  · exact h4 0 (by omega)
  · exact h4 j hj
theorem lf_pre {ms : List Mk} (h1 : 1 ≤ ms.length) : ∀ j, j + 1 < (ms.map Mk.pl).length → (ms.map Mk.pl).getD j default = ((lastFirst ms).map Mk.pl).getD j default := by
  intro j hj
  rw [List.length_map] at hj
  rw [map_getD _ (by omega), map_getD _ (by rw [lf_length]; omega), lf_get h1, if_neg (by omega)]
end Go.Pl
