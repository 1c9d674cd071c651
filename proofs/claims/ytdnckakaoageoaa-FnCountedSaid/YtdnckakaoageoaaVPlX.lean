/- Plain numbers and lists, with no program in sight. -/
import Derived.Test.YtdnckakaoageoaaVSxB
import Derived.Lib.Tables
/- Plain numbers: bits of a text. -/
namespace Go.Pl

def bitAt (s : ByteArray) (i : Int) : Int :=
  if 0 ≤ i ∧ i < 8 * s.size then (s.data.toList.getD (i / 8).toNat 0).toNat / 2 ^ (7 - i % 8).toNat % 2 else -1

/-- the number with n bits from a place on; missing bits are 0 -/
def bitsOf (s : ByteArray) (a : Int) : Nat → Int
  | 0 => 0
  | n + 1 => bitsOf s a n * 2 + max (bitAt s (a + n)) 0

def cacheOk (s : ByteArray) (pos word have_ : Int) : Prop := 0 ≤ pos ∧ pos ≤ s.size ∧ 0 ≤ have_ ∧ have_ ≤ 56 ∧ have_ ≤ 8 * pos ∧ word = bitsOf s (8 * pos - have_) have_.toNat
instance (s : ByteArray) (pos word have_ : Int) : Decidable (cacheOk s pos word have_) := by unfold cacheOk; infer_instance

end Go.Pl

/- Plain numbers: readers and caches over a text. -/
namespace Go.Pl

theorem two_pow_pos (n : Nat) : (0 : Int) < 2 ^ n := Int.pow_pos (by omega)
theorem two_pow_succ (n : Nat) : (2 : Int) ^ (n + 1) = 2 * 2 ^ n := by rw [Int.pow_succ]; omega
theorem two_pow_le {n m : Nat} (h : n ≤ m) : (2 : Int) ^ n ≤ 2 ^ m := by
  have : (2 : Nat) ^ n ≤ 2 ^ m := Nat.pow_le_pow_right (by omega) h
  exact_mod_cast this

def remOf (s : ByteArray) (a : Int) : Int := if 0 ≤ a ∧ a ≤ 8 * s.size then 8 * s.size - a else 0
def rbOk (s : ByteArray) (a n : Int) : Prop := (0 ≤ a ∧ a ≤ 8 * s.size) ∧ (0 ≤ n ∧ n ≤ 32) ∧ n ≤ remOf s a
instance (s : ByteArray) (a n : Int) : Decidable (rbOk s a n) := by unfold rbOk; infer_instance
/-- how many bits from a place on are 0 -/
def zc (s : ByteArray) (a : Int) : Nat → Nat
  | 0 => 0
  | f + 1 => if bitAt s a = 0 then zc s (a + 1) f + 1 else 0
def zerosOf (s : ByteArray) (a : Int) : Int := zc s a (remOf s a).toNat
def ueOk (s : ByteArray) (a : Int) : Prop := zerosOf s a ≤ 15 ∧ rbOk s a (2 * zerosOf s a + 1)
instance (s : ByteArray) (a : Int) : Decidable (ueOk s a) := by unfold ueOk; infer_instance
def ueAt (s : ByteArray) (a : Int) : Int := if ueOk s a then a + (2 * zerosOf s a + 1) else a
def ueV (s : ByteArray) (a : Int) : Int := if ueOk s a then bitsOf s a (2 * zerosOf s a + 1).toNat - 1 else 0
def ueE (s : ByteArray) (a : Int) : Int := if 15 < zerosOf s a then 4 else if rbOk s a (2 * zerosOf s a + 1) then 0 else 1

/-- a cache over a text -/
structure Ca where
  pos : Int
  word : Int
  hv : Int
abbrev caOk (s : ByteArray) (c : Ca) : Prop := cacheOk s c.pos c.word c.hv
def byteAt (s : ByteArray) (p : Int) : Int := (s.data.toList.getD p.toNat 0).toNat
def rfStep (s : ByteArray) (c : Ca) : Ca := ⟨c.pos + 1, c.word * 256 + byteAt s c.pos, c.hv + 8⟩
def rf (s : ByteArray) : Nat → Ca → Ca
  | 0, c => c
  | f + 1, c => if c.hv ≤ 48 ∧ c.pos < s.size then rf s f (rfStep s c) else c
def readyOf (s : ByteArray) (c : Ca) (n : Int) : Ca := if c.hv < n then rf s 7 c else c
def okN (s : ByteArray) (c : Ca) (n : Int) : Prop := caOk s c ∧ 0 ≤ n ∧ n ≤ 16
instance (s : ByteArray) (c : Ca) (n : Int) : Decidable (okN s c n) := by unfold okN; infer_instance
def peekC (s : ByteArray) (c : Ca) (n : Int) : Ca := if okN s c n then readyOf s c n else c
def skOk (s : ByteArray) (c : Ca) (n : Int) : Prop := okN s c n ∧ n ≤ (readyOf s c n).hv
instance (s : ByteArray) (c : Ca) (n : Int) : Decidable (skOk s c n) := by unfold skOk; infer_instance
end Go.Pl

/- Plain lists of numbers: code lengths, steps, headers. -/
namespace Go.Pl

theorem upto_succ {P : Nat → Prop} {k : Nat} (h : ∀ j : Nat, j < k → P j) (hk : P k) : ∀ j : Nat, j < k + 1 → P j := fun j hj => by
  rcases Nat.lt_or_ge j k with h1 | h1
  · exact h j h1
  · obtain rfl : j = k := by omega
    exact hk

/-- how full a code of these lengths is, in parts of 128 -/
def kraft : List Int → Int
  | [] => 0
  | x :: r => (if 0 < x then 2 ^ (7 - x).toNat else 0) + kraft r
theorem kraft_append (xs ys : List Int) : kraft (xs ++ ys) = kraft xs + kraft ys := by
  induction xs with
  | nil => simp [kraft]
  | cons x xs ih => simp only [List.cons_append, kraft, ih]; omega
theorem kraft_take (xs : List Int) (k : Nat) (h : (k : Int) < xs.length) : kraft (xs.take (k + 1)) = kraft (xs.take k) + if 0 < xs.getD k 0 then 2 ^ (7 - xs.getD k 0).toNat else 0 := by
  have hk : k < xs.length := by omega
  have e : xs.take (k + 1) = xs.take k ++ [xs.getD k 0] := by
    rw [List.take_add_one]; simp [List.getD, hk]
  rw [e, kraft_append]; simp only [kraft]; omega
theorem pow7 (x : Int) (h : 0 < x) : (1 : Int) ≤ 2 ^ (7 - x).toNat ∧ (2 : Int) ^ (7 - x).toNat ≤ 64 := by
  have h1 := two_pow_le (n := (7 - x).toNat) (m := 6) (by omega)
  have h2 := two_pow_pos (7 - x).toNat
  omega
theorem kraft_range (xs : List Int) : 0 ≤ kraft xs ∧ kraft xs ≤ 64 * xs.length := by
  induction xs with
  | nil => simp [kraft]
  | cons x xs ih =>
    simp only [kraft, List.length_cons]
    split
    · have := pow7 x (by omega); omega
    · omega
theorem kraft_take_range (xs : List Int) (k : Nat) : 0 ≤ kraft (xs.take k) ∧ kraft (xs.take k) ≤ 64 * k := by
  have h := kraft_range (xs.take k)
  have h2 : (xs.take k).length ≤ k := by simp; omega
  omega
def codeOk (xs : List Int) : Prop := (∀ j : Nat, j < xs.length → 0 ≤ xs.getD j 0 ∧ xs.getD j 0 ≤ 7) ∧ xs.length = 6 ∧ kraft xs = 128
instance (xs : List Int) : Decidable (codeOk xs) := by unfold codeOk; infer_instance

def sidesOk (a b : Int) : Prop := (8 ≤ a ∧ a ≤ 32) ∧ (8 ≤ b ∧ b ≤ 32) ∧ a % 8 = 0 ∧ b % 8 = 0
instance (a b : Int) : Decidable (sidesOk a b) := by unfold sidesOk; infer_instance
def headOk (a b q : Int) (xs : List Int) : Prop := sidesOk a b ∧ (0 ≤ q ∧ q ≤ 51) ∧ codeOk xs
instance (a b q : Int) (xs : List Int) : Decidable (headOk a b q xs) := by unfold headOk; infer_instance
end Go.Pl

/- Plain: bits read in parts. -/
namespace Go.Pl
end Go.Pl

/- Plain: what caches yield. -/
namespace Go.Pl
/-- taking bits -/
def tkOk (s : ByteArray) (c : Ca) (n : Int) : Prop := skOk s (peekC s c n) n
instance (s : ByteArray) (c : Ca) (n : Int) : Decidable (tkOk s c n) := by unfold tkOk; infer_instance
end Go.Pl

/- Plain numbers: lists of bits, the bytes that they make, codes of numbers. -/
namespace Go.Pl
open Go.Sx
/-- the w low bits of n, the highest first -/
def bitsl (n : Int) : Nat → List Int
  | 0 => []
  | w + 1 => n / 2 ^ w % 2 :: bitsl n w
theorem bitsl_length (n : Int) (w : Nat) : (bitsl n w).length = w := by induction w with
  | zero => rfl
  | succ w ih => simp [bitsl, ih]
def bitOk (w n : Int) : Prop := (0 ≤ w ∧ w ≤ 48) ∧ 0 ≤ n ∧ n / 2 ^ w.toNat = 0
instance (w n : Int) : Decidable (bitOk w n) := by unfold bitOk; infer_instance
def bitsIn (n w : Int) : List Int := if bitOk w n then bitsl n w.toNat else []
theorem bitsIn_len (n w : Int) : (bitsIn n w).length ≤ 48 ∧ (bitOk w n → ((bitsIn n w).length : Int) = w) := by
  unfold bitsIn; split
  · rename_i h; rw [bitsl_length]; obtain ⟨⟨h1, h2⟩, _⟩ := h; omega
  · simp; intro h; contradiction
/-- are all of them bits? -/
def isBits (b : List Int) : Prop := ∀ x ∈ b, x = 0 ∨ x = 1
instance (b : List Int) : Decidable (isBits b) := by unfold isBits; infer_instance
/-- bits as a number -/
def numl : List Int → Int
  | [] => 0
  | x :: r => x * 2 ^ r.length + numl r
/-- the bytes of bits -/
def bytesl (b : List Int) : List Int := (List.range (b.length / 8)).map fun j => numl ((b.drop (8 * j)).take 8)
def packs (b : List Int) : ByteArray := strOf (bytesl b)
def byOk (b : List Int) : Prop := isBits b ∧ b.length % 8 = 0
instance (b : List Int) : Decidable (byOk b) := by unfold byOk; infer_instance
/-- how many zeros lead the code of n -/
def lz (n : Int) : Int := ((n + 1).toNat.log2 : Nat)
theorem lz_spec {n : Int} (h : 0 ≤ n) : 2 ^ (lz n).toNat ≤ n + 1 ∧ n + 1 < 2 ^ ((lz n).toNat + 1) := by
  have h1 := Nat.log2_self_le (n := (n + 1).toNat) (by omega)
  have h2 := Nat.lt_log2_self (n := (n + 1).toNat)
  unfold lz
  simp only [Int.toNat_natCast]
  have e1 : ((2 ^ (n + 1).toNat.log2 : Nat) : Int) = 2 ^ (n + 1).toNat.log2 := by simp
  have e2 : ((2 ^ ((n + 1).toNat.log2 + 1) : Nat) : Int) = 2 ^ ((n + 1).toNat.log2 + 1) := by simp
  rw [← e1, ← e2]
  omega
theorem lz_uniq {n : Int} {z : Nat} (h : 0 ≤ n) (h1 : 2 ^ z ≤ n + 1) (h2 : n + 1 < 2 ^ (z + 1)) : lz n = z := by
  obtain ⟨h3, h4⟩ := lz_spec h
  have h0 : 0 ≤ lz n := by unfold lz; omega
  rcases Nat.lt_trichotomy (lz n).toNat z with h5 | h5 | h5
  · have := two_pow_le (n := (lz n).toNat + 1) (m := z) (by omega); omega
  · omega
  · have := two_pow_le (n := z + 1) (m := (lz n).toNat) (by omega); omega
theorem lz_range {n : Int} (h : 0 ≤ n ∧ n ≤ 65534) : 0 ≤ lz n ∧ lz n ≤ 15 := by
  obtain ⟨h3, h4⟩ := lz_spec h.1
  have h0 : 0 ≤ lz n := by unfold lz; omega
  refine ⟨h0, ?_⟩
  rcases Int.lt_or_le 15 (lz n) with h5 | h5
  · have := two_pow_le (n := 16) (m := (lz n).toNat) (by omega)
    have e : (2 : Int) ^ 16 = 65536 := rfl
    omega
  · exact h5
/-- the length of a number's code -/
def ueSize (n : Int) : Int := if 0 ≤ n ∧ n ≤ 65534 then 2 * lz n + 1 else 0
end Go.Pl

/- Plain numbers: the table of numbers' codes. -/
namespace Go.Pl
theorem bitsIn_no {n w : Int} (h : ¬ bitOk w n) : bitsIn n w = [] := by unfold bitsIn; rw [if_neg h]
theorem bitsIn_yes {n w : Int} {k : Nat} (h : bitOk w n) (hk : (k : Int) = w) : bitsIn n w = (bitsl n w.toNat).take k := by
  unfold bitsIn; rw [if_pos h, List.take_of_length_le (by rw [bitsl_length]; omega)]
theorem bitsl_take {n w : Int} {k : Nat} (h : (k : Int) < w) : (bitsl n w.toNat).take (k + 1) = (bitsl n w.toNat).take k ++ [n / 2 ^ (w - 1 - k).toNat % 2] := by
  have key : ∀ (m k : Nat), k < m → (bitsl n m).take (k + 1) = (bitsl n m).take k ++ [n / 2 ^ (m - 1 - k) % 2] := by
    intro m
    induction m with
    | zero => intro k hk; omega
    | succ m ih =>
      intro k hk
      cases k with
      | zero => simp [bitsl]
      | succ k =>
        simp only [bitsl, List.take_succ_cons, List.cons_append]
        rw [ih k (by omega), show m + 1 - 1 - (k + 1) = m - 1 - k by omega]
  rw [key w.toNat k (by omega)]
  congr 5; omega
def ueEnt (i : Nat) : Int × Int :=
  if ueE (packs (bitsl i 9 ++ List.replicate 7 0)) 0 = 0 ∧ ueAt (packs (bitsl i 9 ++ List.replicate 7 0)) 0 ≤ 9 then (ueAt (packs (bitsl i 9 ++ List.replicate 7 0)) 0, ueV (packs (bitsl i 9 ++ List.replicate 7 0)) 0) else (0, 0)
def ueTab : List (Int × Int) := (List.range 512).map ueEnt
end Go.Pl

/- Plain numbers: prefix codes. -/
namespace Go.Pl
/-- codes given out: one round over the six lengths -/
def cIn (l : List Int) (n : Int) (st : List Int × Int) : Nat → List Int × Int
  | 0 => st
  | j + 1 => if l.getD j 0 = n then ((cIn l n st j).1.set j (cIn l n st j).2, (cIn l n st j).2 + 1) else cIn l n st j
def cOut (l : List Int) : Nat → List Int × Int
  | 0 => (List.replicate 6 (-1), 0)
  | n + 1 => cIn l ((n : Int) + 1) ((cOut l n).1, (cOut l n).2 * 2) 6
def codesOf (l : List Int) : List Int := if codeOk l then (cOut l 7).1 else []
theorem cIn_length (l : List Int) (n : Int) (st : List Int × Int) (j : Nat) : (cIn l n st j).1.length = st.1.length := by
  induction j with
  | zero => rfl
  | succ j ih => simp only [cIn]; split <;> simp [ih]
theorem cOut_length (l : List Int) (n : Nat) : (cOut l n).1.length = 6 := by
  induction n with
  | zero => rfl
  | succ n ih => simp only [cOut, cIn_length, ih]
theorem codes_length {l : List Int} (h : codeOk l) : (codesOf l).length = 6 := by unfold codesOf; rw [if_pos h, cOut_length]
theorem cIn_range (l : List Int) (n : Int) (st : List Int × Int) (j : Nat) : st.2 ≤ (cIn l n st j).2 ∧ (cIn l n st j).2 ≤ st.2 + j := by
  induction j with
  | zero => simp [cIn]
  | succ j ih =>
    simp only [cIn]; split
    · show st.2 ≤ _ + 1 ∧ _ + 1 ≤ _; omega
    · omega
theorem cOut_range (l : List Int) (n : Nat) : 0 ≤ (cOut l n).2 ∧ (cOut l n).2 + 6 ≤ 6 * 2 ^ n := by
  induction n with
  | zero => simp [cOut]
  | succ n ih =>
    have h := cIn_range l ((n : Int) + 1) ((cOut l n).1, (cOut l n).2 * 2) 6
    simp only [cOut, two_pow_succ] at *
    omega
def inP (l : List Int) (n : Int) (j m : Nat) : Prop := m < 6 ∧ 1 ≤ l.getD m 0 ∧ (l.getD m 0 < n ∨ (l.getD m 0 = n ∧ m < j))
def cHit (l out : List Int) (m : Nat) (v : Int) : Prop := v / 2 ^ (7 - l.getD m 0).toNat = out.getD m 0
instance (l out : List Int) (m : Nat) (v : Int) : Decidable (cHit l out m v) := by unfold cHit; infer_instance
theorem div_iff {v d q : Int} (hd : 0 < d) : v / d = q ↔ q * d ≤ v ∧ v < q * d + d := by
  have h1 := Int.le_ediv_iff_mul_le (a := q) (b := v) hd
  have h2 := Int.ediv_lt_iff_lt_mul (a := v) (b := q + 1) hd
  rw [Int.add_mul, Int.one_mul] at h2
  omega
structure CInv (l out : List Int) (next n S : Int) (j : Nat) : Prop where
  len : out.length = 6
  nx : next * 2 ^ (7 - n).toNat = S
  n0 : 0 ≤ next
  un : ∀ m, m < 6 → ¬ inP l n j m → out.getD m 0 = -1
  cov : ∀ v, 0 ≤ v → v < S → ∃ m, inP l n j m ∧ cHit l out m v
  abv : ∀ v, S ≤ v → ∀ m, inP l n j m → ¬ cHit l out m v
  unq : ∀ v m m', inP l n j m → inP l n j m' → cHit l out m v → cHit l out m' v → m = m'
  nneg : ∀ m, inP l n j m → 0 ≤ out.getD m 0 ∧ (out.getD m 0 + 1) * 2 ^ (7 - l.getD m 0).toNat ≤ S
/-- parts of 128 given out -/
def gone (n : Int) (j : Nat) : List Int → Nat → Int
  | [], _ => 0
  | x :: r, i => (if 1 ≤ x ∧ (x < n ∨ (x = n ∧ i < j)) then 2 ^ (7 - x).toNat else 0) + gone n j r (i + 1)
theorem gone_succ {n : Int} (hn : 1 ≤ n) (j : Nat) : ∀ (l : List Int) (i : Nat), gone n (j + 1) l i = gone n j l i + (if i ≤ j ∧ j - i < l.length ∧ l.getD (j - i) 0 = n then 2 ^ (7 - n).toNat else 0)
  | [], i => by simp [gone]
  | x :: r, i => by
    have ih := gone_succ hn j r (i + 1)
    simp only [gone, ih]
    by_cases h : i ≤ j
    · by_cases hij : i = j
      · subst hij
        simp only [Nat.sub_self, List.getD_cons_zero, List.length_cons]
        rw [if_neg (show ¬ (i + 1 ≤ i ∧ i - (i + 1) < r.length ∧ r.getD (i - (i + 1)) 0 = n) by omega)]
        by_cases hx : x = n
        · subst hx
          rw [if_pos ⟨hn, .inr ⟨rfl, by omega⟩⟩, if_neg (by omega), if_pos ⟨by omega, by omega, rfl⟩]; omega
        · rw [if_neg (show ¬ (i ≤ i ∧ 0 < r.length + 1 ∧ x = n) by omega)]
          by_cases h2 : 1 ≤ x ∧ x < n
          · rw [if_pos (by omega), if_pos (by omega)]; omega
          · rw [if_neg (by omega), if_neg (by omega)]; omega
      · have e : j - i = (j - (i + 1)) + 1 := by omega
        rw [e]
        simp only [List.getD_cons_succ, List.length_cons]
        have e1 : (1 ≤ x ∧ (x < n ∨ x = n ∧ i < j + 1)) ↔ (1 ≤ x ∧ (x < n ∨ x = n ∧ i < j)) := by omega
        have e2 : (i + 1 ≤ j ∧ j - (i + 1) < r.length ∧ r.getD (j - (i + 1)) 0 = n) ↔ (i ≤ j ∧ j - (i + 1) + 1 < r.length + 1 ∧ r.getD (j - (i + 1)) 0 = n) := by omega
        simp only [e1, e2]; omega
    · have e1 : (1 ≤ x ∧ (x < n ∨ x = n ∧ i < j + 1)) ↔ (1 ≤ x ∧ (x < n ∨ x = n ∧ i < j)) := by omega
      rw [if_neg (show ¬ (i + 1 ≤ j ∧ _) by omega), if_neg (show ¬ (i ≤ j ∧ _) by omega)]
      simp only [e1]; omega
theorem gone_next (n : Int) : ∀ (l : List Int) (i : Nat), (i + l.length ≤ 6) → gone (n + 1) 0 l i = gone n 6 l i
  | [], _, _ => rfl
  | x :: r, i, h => by
    simp only [List.length_cons] at h
    simp only [gone, gone_next n r (i + 1) (by omega)]
    have e1 : (1 ≤ x ∧ (x < n + 1 ∨ x = n + 1 ∧ i < 0)) ↔ (1 ≤ x ∧ (x < n ∨ x = n ∧ i < 6)) := by omega
    simp only [e1]
theorem gone_zero : ∀ (l : List Int) (i : Nat), gone 1 0 l i = 0
  | [], _ => rfl
  | x :: r, i => by
    simp only [gone, gone_zero r (i + 1)]
    rw [if_neg (by omega)]; rfl
theorem gone_all : ∀ (l : List Int) (i : Nat), (i + l.length ≤ 6) → (∀ x ∈ l, x ≤ 7) → gone 7 6 l i = kraft l
  | [], _, _, _ => rfl
  | x :: r, i, h, hx => by
    simp only [List.length_cons] at h
    have h1 := hx x (by simp)
    simp only [gone, kraft, gone_all r (i + 1) (by omega) fun y hy => hx y (by simp [hy])]
    have e1 : (1 ≤ x ∧ (x < 7 ∨ x = 7 ∧ i < 6)) ↔ 0 < x := by omega
    simp only [e1]
theorem getD_set_eq {xs : List Int} {i : Nat} {a : Int} (h : i < xs.length) : (xs.set i a).getD i 0 = a := by simp [List.getD, h]
theorem getD_set_ne {xs : List Int} {i j : Nat} {a : Int} (h : i ≠ j) : (xs.set i a).getD j 0 = xs.getD j 0 := by
  simp only [List.getD_eq_getElem?_getD, List.getElem?_set, if_neg h]
theorem CInv.give {l out : List Int} {next n S : Int} {j : Nat} (h : CInv l out next n S j) (hn : 1 ≤ n ∧ n ≤ 7) (hj : j < 6) (hl : l.getD j 0 = n) : CInv l (out.set j next) (next + 1) n (S + 2 ^ (7 - n).toNat) (j + 1) := by
  have hp := two_pow_pos (7 - n).toNat
  have hP : ∀ m, inP l n (j + 1) m ↔ inP l n j m ∨ m = j := by
    intro m; unfold inP
    constructor
    · rintro ⟨h1, h2, h3⟩
      by_cases hm : m = j
      · exact .inr hm
      · left; exact ⟨h1, h2, by omega⟩
    · rintro (⟨h1, h2, h3⟩ | rfl)
      · exact ⟨h1, h2, by omega⟩
      · exact ⟨hj, by omega, .inr ⟨hl, by omega⟩⟩
  have hnj : ∀ m, inP l n j m → m ≠ j := by rintro m ⟨h1, h2, h3⟩ rfl; omega
  have hold : ∀ m v, m ≠ j → (cHit l (out.set j next) m v ↔ cHit l out m v) := by
    intro m v hm; unfold cHit; rw [getD_set_ne (Ne.symm hm)]
  have hnew : ∀ v, cHit l (out.set j next) j v ↔ S ≤ v ∧ v < S + 2 ^ (7 - n).toNat := by
    intro v; unfold cHit; rw [getD_set_eq (by rw [h.len]; exact hj), hl, div_iff hp, h.nx]
  refine ⟨by simp [h.len], by rw [Int.add_mul, h.nx]; omega, by have := h.n0; omega, ?_, ?_, ?_, ?_, ?_⟩
  · intro m hm hn'
    rw [hP] at hn'
    rw [getD_set_ne (fun e => hn' (.inr e.symm))]
    exact h.un m hm fun h' => hn' (.inl h')
  · intro v h0 h1
    rcases Int.lt_or_le v S with h2 | h2
    · obtain ⟨m, hm, hh⟩ := h.cov v h0 h2
      exact ⟨m, (hP m).2 (.inl hm), (hold m v (hnj m hm)).2 hh⟩
    · exact ⟨j, (hP j).2 (.inr rfl), (hnew v).2 ⟨h2, h1⟩⟩
  · intro v hv m hm
    rcases (hP m).1 hm with h1 | rfl
    · rw [hold m v (hnj m h1)]; exact h.abv v (by omega) m h1
    · rw [hnew]; omega
  · intro v m m' hm hm' h1 h2
    rcases (hP m).1 hm with a | rfl <;> rcases (hP m').1 hm' with b | rfl
    · exact h.unq v m m' a b ((hold m v (hnj m a)).1 h1) ((hold m' v (hnj m' b)).1 h2)
    · exact absurd ((hold m v (hnj m a)).1 h1) (h.abv v ((hnew v).1 h2).1 m a)
    · exact absurd ((hold m' v (hnj m' b)).1 h2) (h.abv v ((hnew v).1 h1).1 m' b)
    · rfl
  · intro m hm
    rcases (hP m).1 hm with h1 | rfl
    · rw [getD_set_ne (Ne.symm (hnj m h1))]
      have := h.nneg m h1; omega
    · rw [getD_set_eq (by rw [h.len]; exact hj), hl, Int.add_mul, h.nx]
      exact ⟨h.n0, by omega⟩
theorem CInv.pass {l out : List Int} {next n S : Int} {j : Nat} (h : CInv l out next n S j) (hl : l.getD j 0 ≠ n) : CInv l out next n S (j + 1) := by
  have hP : ∀ m, inP l n (j + 1) m ↔ inP l n j m := by
    intro m; unfold inP
    by_cases hm : m = j
    · subst hm; omega
    · omega
  exact ⟨h.len, h.nx, h.n0, fun m hm hn => h.un m hm fun h' => hn ((hP m).2 h'), fun v h0 h1 => by obtain ⟨m, a, b⟩ := h.cov v h0 h1; exact ⟨m, (hP m).2 a, b⟩,
    fun v hv m hm => h.abv v hv m ((hP m).1 hm), fun v m m' a b => h.unq v m m' ((hP m).1 a) ((hP m').1 b), fun m hm => h.nneg m ((hP m).1 hm)⟩
theorem CInv.next {l out : List Int} {next n S : Int} (h : CInv l out next n S 6) (hn : 0 ≤ n ∧ n ≤ 6) : CInv l out (next * 2) (n + 1) S 0 := by
  have hP : ∀ m, inP l (n + 1) 0 m ↔ inP l n 6 m := by intro m; unfold inP; omega
  refine ⟨h.len, ?_, by have := h.n0; omega, fun m hm hn => h.un m hm fun h' => hn ((hP m).2 h'), fun v h0 h1 => by obtain ⟨m, a, b⟩ := h.cov v h0 h1; exact ⟨m, (hP m).2 a, b⟩,
    fun v hv m hm => h.abv v hv m ((hP m).1 hm), fun v m m' a b => h.unq v m m' ((hP m).1 a) ((hP m').1 b), fun m hm => h.nneg m ((hP m).1 hm)⟩
  have e : (7 - n).toNat = (7 - (n + 1)).toNat + 1 := by omega
  rw [← h.nx, e, two_pow_succ, Int.mul_assoc]
theorem cIn_inv {l out : List Int} {next n S : Int} (hl : l.length = 6) (hn : 1 ≤ n ∧ n ≤ 7) (h : CInv l out next n S 0) (hS : S = gone n 0 l 0) : ∀ j, j ≤ 6 → CInv l (cIn l n (out, next) j).1 (cIn l n (out, next) j).2 n (gone n j l 0) j
  | 0, _ => by rw [← hS]; exact h
  | j + 1, hj => by
    have ih := cIn_inv hl hn h hS j (by omega)
    have hg := gone_succ hn.1 j l 0
    simp only [Nat.zero_le, Nat.sub_zero, true_and, hl] at hg
    simp only [cIn]
    by_cases hx : l.getD j 0 = n
    · rw [if_pos hx]
      rw [if_pos ⟨by omega, hx⟩] at hg
      rw [hg]
      exact ih.give hn (by omega) hx
    · rw [if_neg hx]
      rw [if_neg (fun h => hx h.2)] at hg
      rw [hg, Int.add_zero]
      exact ih.pass hx
theorem cOut_inv {l : List Int} (hl : l.length = 6) : ∀ n : Nat, n ≤ 7 → CInv l (cOut l n).1 (cOut l n).2 n (gone n 6 l 0) 6
  | 0, _ => by
    have hP : ∀ m, ¬ inP l (0 : Nat) 6 m := by intro m; unfold inP; omega
    have e : gone ((0 : Nat) : Int) 6 l 0 = 0 := by rw [← gone_next _ l 0 (by omega)]; exact gone_zero l 0
    rw [e]
    refine ⟨rfl, by simp [cOut], by simp [cOut], fun m hm _ => ?_, fun v h0 h1 => by omega, fun v _ m hm => absurd hm (hP m), fun v m _ hm => absurd hm (hP m), fun m hm => absurd hm (hP m)⟩
    show (List.replicate 6 (-1 : Int)).getD m 0 = -1
    rw [List.getD_eq_getElem?_getD, List.getElem?_replicate, if_pos hm]; rfl
  | n + 1, hn => by
    have ih := (cOut_inv hl n (by omega)).next (by omega)
    rw [← gone_next _ l 0 (by omega)] at ih
    exact cIn_inv hl (by omega) ih rfl 6 (by omega)
/-- a code: what it gives each run of seven bits -/
theorem codes_all {l : List Int} (h : codeOk l) : CInv l (codesOf l) (cOut l 7).2 7 128 6 := by
  have h1 := cOut_inv h.2.1 7 (by omega)
  have e : gone 7 6 l 0 = 128 := by
    rw [gone_all l 0 (by have := h.2.1; omega) fun x hx => ?_, h.2.2]
    obtain ⟨j, hj, rfl⟩ := List.mem_iff_getElem.1 hx
    have := h.1 j hj
    simp only [List.getD_eq_getElem?_getD, List.getElem?_eq_getElem hj, Option.getD_some] at this
    exact this.2
  have e2 : codesOf l = (cOut l 7).1 := by unfold codesOf; rw [if_pos h]
  rw [e2, ← e]; exact h1
theorem codeOk_at {l : List Int} (h : codeOk l) (m : Nat) : 0 ≤ l.getD m 0 ∧ l.getD m 0 ≤ 7 := by
  rcases Nat.lt_or_ge m l.length with h1 | h1
  · exact h.1 m h1
  · rw [List.getD_eq_getElem?_getD, List.getElem?_eq_none h1]; simp
theorem inP_all {l : List Int} (h : codeOk l) (m : Nat) : inP l 7 6 m ↔ m < 6 ∧ 1 ≤ l.getD m 0 := by
  have := codeOk_at h m
  unfold inP; omega
theorem code_range {l : List Int} (h : codeOk l) {m : Nat} (a : m < 6 ∧ 1 ≤ l.getD m 0) : 0 ≤ (codesOf l).getD m 0 ∧ ((codesOf l).getD m 0 + 1) * 2 ^ (7 - l.getD m 0).toNat ≤ 128 :=
  (codes_all h).nneg m ((inP_all h m).2 a)
/-- the symbol whose code seven bits begin with -/
def symOf (l : List Int) (v : Int) : Nat := ((List.range 6).find? fun m => decide (1 ≤ l.getD m 0 ∧ cHit l (codesOf l) m v)).getD 0
/-- reading a symbol -/
def symAt (s : ByteArray) (a : Int) (l : List Int) : Nat := symOf l (bitsOf s a 7)
def rsOk (s : ByteArray) (a : Int) (l : List Int) : Prop := codeOk l ∧ rbOk s a (l.getD (symAt s a l) 0)
instance (s : ByteArray) (a : Int) (l : List Int) : Decidable (rsOk s a l) := by unfold rsOk; infer_instance
def sideOf (n : Int) : Int := if n = 16 then 4 else if n = 64 then 8 else 0
def levelsOk (xs : List Int) : Prop := (∀ j : Nat, j < xs.length → -16383 ≤ xs.getD j 0 ∧ xs.getD j 0 ≤ 16383) ∧ 0 < sideOf xs.length
instance (xs : List Int) : Decidable (levelsOk xs) := by unfold levelsOk; infer_instance
def symOk (l : List Int) (m : Int) : Prop := codeOk l ∧ (0 ≤ m ∧ m ≤ 5) ∧ l.getD m.toNat 0 ≠ 0
instance (l : List Int) (m : Int) : Decidable (symOk l m) := by unfold symOk; infer_instance
def symBits (l : List Int) (m : Int) : List Int := if symOk l m then bitsIn ((codesOf l).getD m.toNat 0) (l.getD m.toNat 0) else []
theorem symBits_no {l : List Int} {m : Int} (h : ¬ symOk l m) : symBits l m = [] := by unfold symBits; rw [if_neg h]
theorem symBits_yes {l : List Int} {m : Int} (h : symOk l m) : symBits l m = bitsIn ((codesOf l).getD m.toNat 0) (l.getD m.toNat 0) := by unfold symBits; rw [if_pos h]
theorem code_range2 {l : List Int} (h : codeOk l) {m : Nat} (a : m < 6 ∧ 1 ≤ l.getD m 0) : 0 ≤ (codesOf l).getD m 0 ∧ (codesOf l).getD m 0 < 2 ^ (l.getD m 0).toNat := by
  have h1 := code_range h a
  have h2 := codeOk_at h m
  have hp := two_pow_pos (7 - l.getD m 0).toNat
  have e : (2 : Int) ^ (l.getD m 0).toNat * 2 ^ (7 - l.getD m 0).toNat = 128 := by rw [← Int.pow_add, show (l.getD m 0).toNat + (7 - l.getD m 0).toNat = 7 by omega]; rfl
  refine ⟨h1.1, ?_⟩
  rcases Int.lt_or_le ((codesOf l).getD m 0) (2 ^ (l.getD m 0).toNat) with h3 | h3
  · exact h3
  · have h4 := Int.mul_le_mul_of_nonneg_right (c := 2 ^ (7 - l.getD m 0).toNat) (show 2 ^ (l.getD m 0).toNat + 1 ≤ (codesOf l).getD m 0 + 1 by omega) (by omega)
    rw [Int.add_mul, e] at h4
    omega
theorem symBits_len {l : List Int} {m : Int} (h : symOk l m) : ((symBits l m).length : Int) = l.getD m.toNat 0 := by
  have h1 := codeOk_at h.1 m.toNat
  have h2 := code_range2 h.1 (m := m.toNat) ⟨by have := h.2.1; omega, by have := h.2.2; omega⟩
  rw [symBits_yes h]
  exact (bitsIn_len _ _).2 ⟨by omega, h2.1, Int.ediv_eq_zero_of_lt h2.1 h2.2⟩
theorem symBits_pos (l : List Int) (m : Int) : (0 < (symBits l m).length → symOk l m) ∧ (symOk l m → 0 < (symBits l m).length) := by
  constructor
  · intro h
    refine Classical.byContradiction fun h1 => ?_
    rw [symBits_no h1] at h; simp at h
  · intro h
    have h1 := symBits_len h
    have h2 := codeOk_at h.1 m.toNat
    have h3 := h.2.2
    omega
def blockOk (m : Int) (ys xs : List Int) (n : Int) : Prop := (n = 4 ∨ n = 8) ∧ symOk xs m ∧ (ys.length : Int) = n * n ∧ levelsOk ys
instance (m : Int) (ys xs : List Int) (n : Int) : Decidable (blockOk m ys xs n) := by unfold blockOk; infer_instance
end Go.Pl

/- Plain numbers: what is written is read. -/
namespace Go.Pl
open Go.Sx
theorem len8_all : ∀ i : Fin 256, (Go.Lib.len8tab.data.toList.getD i.1 0).toNat = if i.1 = 0 then 0 else i.1.log2 + 1 := by decide +kernel
theorem len_small {x : Int} (h : 1 ≤ x ∧ x ≤ 255) : ((Go.Lib.len8tab.data.toList.getD x.toNat 0).toNat : Int) = lz (x - 1) + 1 := by
  have h1 := len8_all ⟨x.toNat, by omega⟩
  simp only at h1
  rw [h1, if_neg (by omega)]
  unfold lz
  rw [show x - 1 + 1 = x by omega]; omega
theorem lz_256 {x : Int} (h : 256 ≤ x ∧ x ≤ 65535) : lz (x - 1) = lz (x / 256 - 1) + 8 := by
  obtain ⟨h1, h2⟩ := lz_spec (n := x / 256 - 1) (by omega)
  have h0 : 0 ≤ lz (x / 256 - 1) := by unfold lz; omega
  obtain ⟨z, hz⟩ : ∃ z : Nat, lz (x / 256 - 1) = z := ⟨(lz (x / 256 - 1)).toNat, by omega⟩
  rw [hz] at h1 h2 ⊢
  have e : lz (x - 1) = ((z + 8 : Nat) : Int) := by
    refine lz_uniq (by omega) ?_ ?_
    · rw [Int.pow_add]; rw [Int.toNat_natCast] at h1; show 2 ^ z * 256 ≤ _; omega
    · rw [show z + 8 + 1 = z + 1 + 8 by omega, Int.pow_add]; rw [Int.toNat_natCast] at h2; show _ < 2 ^ (z + 1) * 256; omega
  rw [e]; omega
/-- the code of a number -/
def ueBits (n : Int) : List Int := if 0 ≤ n ∧ n ≤ 65534 then bitsIn (n + 1) (ueSize n) else []
theorem ueBits_eq {n : Int} (h : 0 ≤ n ∧ n ≤ 65534) : ueBits n = bitsl (n + 1) (2 * (lz n).toNat + 1) := by
  have h1 := lz_range h
  obtain ⟨h2, h3⟩ := lz_spec h.1
  have e : ueSize n = 2 * lz n + 1 := by unfold ueSize; rw [if_pos h]
  have h4 := two_pow_le (n := (lz n).toNat + 1) (m := (2 * lz n + 1).toNat) (by omega)
  unfold ueBits bitsIn
  rw [if_pos h, e, if_pos ⟨by omega, by omega, Int.ediv_eq_zero_of_lt (by omega) (by omega)⟩, show (2 * lz n + 1).toNat = 2 * (lz n).toNat + 1 by omega]
theorem ueBits_len {n : Int} (h : 0 ≤ n ∧ n ≤ 65534) : ((ueBits n).length : Int) = ueSize n := by
  have h1 := lz_range h
  rw [ueBits_eq h, bitsl_length]; unfold ueSize; rw [if_pos h]; omega
theorem ueBits_no {n : Int} (h : ¬ (0 ≤ n ∧ n ≤ 65534)) : ueBits n = [] := by unfold ueBits; rw [if_neg h]
def numOf (v : Int) : Int := if 0 < v then 2 * v - 2 else if v < 0 then -2 * v - 1 else -1
theorem ueSize_range (n : Int) : 0 ≤ ueSize n ∧ ueSize n ≤ 31 := by
  unfold ueSize; split
  · rename_i h; have := lz_range h; omega
  · omega
end Go.Pl
