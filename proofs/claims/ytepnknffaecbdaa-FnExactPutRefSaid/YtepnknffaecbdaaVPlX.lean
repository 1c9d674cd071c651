/- Plain numbers and lists, with no program in sight. -/
import Derived.Test.YtepnknffaecbdaaVSxB
import Derived.Lib.Tables
/- Plain numbers: bits of a text. -/
namespace Go.Pl

def bitAt (s : ByteArray) (i : Int) : Int :=
  if 0 ≤ i ∧ i < 8 * s.size then (s.data.toList.getD (i / 8).toNat 0).toNat / 2 ^ (7 - i % 8).toNat % 2 else -1

/-- the number with n bits from a place on; missing bits are 0 -/
def bitsOf (s : ByteArray) (a : Int) : Nat → Int
  | 0 => 0
  | n + 1 => bitsOf s a n * 2 + max (bitAt s (a + n)) 0

def cacheOk (s : ByteArray) (pos word have_ : Int) : Prop := 0 ≤ pos ∧ pos ≤ s.size ∧ 0 ≤ have_ ∧ have_ ≤ 56 ∧ have_ ≤ 8 * pos ∧ word = bitsOf s (8 * pos - have_) have_.toNat
instance (s : ByteArray) (pos word have_ : Int) : Decidable (cacheOk s pos word have_) := by unfold cacheOk; infer_instance

def szOf (left n : Int) : Int := if left - n < 0 then -1 else left - n
end Go.Pl

/- Plain numbers: readers and caches over a text. -/
namespace Go.Pl

theorem two_pow_pos (n : Nat) : (0 : Int) < 2 ^ n := Int.pow_pos (by omega)
theorem two_pow_succ (n : Nat) : (2 : Int) ^ (n + 1) = 2 * 2 ^ n := by rw [Int.pow_succ]; omega
theorem two_pow_le {n m : Nat} (h : n ≤ m) : (2 : Int) ^ n ≤ 2 ^ m := by
  have : (2 : Nat) ^ n ≤ 2 ^ m := Nat.pow_le_pow_right (by omega) h
  exact_mod_cast this

def remOf (s : ByteArray) (a : Int) : Int := if 0 ≤ a ∧ a ≤ 8 * s.size then 8 * s.size - a else 0
def rbOk (s : ByteArray) (a n : Int) : Prop := (0 ≤ a ∧ a ≤ 8 * s.size) ∧ (0 ≤ n ∧ n ≤ 32) ∧ n ≤ remOf s a
instance (s : ByteArray) (a n : Int) : Decidable (rbOk s a n) := by unfold rbOk; infer_instance
/-- how many bits from a place on are 0 -/
def zc (s : ByteArray) (a : Int) : Nat → Nat
  | 0 => 0
  | f + 1 => if bitAt s a = 0 then zc s (a + 1) f + 1 else 0
def zerosOf (s : ByteArray) (a : Int) : Int := zc s a (remOf s a).toNat
def ueOk (s : ByteArray) (a : Int) : Prop := zerosOf s a ≤ 15 ∧ rbOk s a (2 * zerosOf s a + 1)
instance (s : ByteArray) (a : Int) : Decidable (ueOk s a) := by unfold ueOk; infer_instance
def ueAt (s : ByteArray) (a : Int) : Int := if ueOk s a then a + (2 * zerosOf s a + 1) else a
def ueV (s : ByteArray) (a : Int) : Int := if ueOk s a then bitsOf s a (2 * zerosOf s a + 1).toNat - 1 else 0
def ueE (s : ByteArray) (a : Int) : Int := if 15 < zerosOf s a then 4 else if rbOk s a (2 * zerosOf s a + 1) then 0 else 1

/-- a cache over a text -/
structure Ca where
  pos : Int
  word : Int
  hv : Int
abbrev caOk (s : ByteArray) (c : Ca) : Prop := cacheOk s c.pos c.word c.hv
def byteAt (s : ByteArray) (p : Int) : Int := (s.data.toList.getD p.toNat 0).toNat
def rfStep (s : ByteArray) (c : Ca) : Ca := ⟨c.pos + 1, c.word * 256 + byteAt s c.pos, c.hv + 8⟩
def rf (s : ByteArray) : Nat → Ca → Ca
  | 0, c => c
  | f + 1, c => if c.hv ≤ 48 ∧ c.pos < s.size then rf s f (rfStep s c) else c
def readyOf (s : ByteArray) (c : Ca) (n : Int) : Ca := if c.hv < n then rf s 7 c else c
def okN (s : ByteArray) (c : Ca) (n : Int) : Prop := caOk s c ∧ 0 ≤ n ∧ n ≤ 16
instance (s : ByteArray) (c : Ca) (n : Int) : Decidable (okN s c n) := by unfold okN; infer_instance
def peekC (s : ByteArray) (c : Ca) (n : Int) : Ca := if okN s c n then readyOf s c n else c
def skOk (s : ByteArray) (c : Ca) (n : Int) : Prop := okN s c n ∧ n ≤ (readyOf s c n).hv
instance (s : ByteArray) (c : Ca) (n : Int) : Decidable (skOk s c n) := by unfold skOk; infer_instance
end Go.Pl

/- Plain lists of numbers: code lengths, steps, headers. -/
namespace Go.Pl

def fillk (xs : List Int) (k : Nat) : List Int := xs.take k ++ List.replicate (xs.length - k) 0
theorem fill0 (xs : List Int) : List.replicate xs.length 0 = fillk xs 0 := by simp [fillk]
theorem fill_length (xs : List Int) (k : Nat) (h : (k : Int) ≤ xs.length) : (fillk xs k).length = xs.length := by simp [fillk]; omega
theorem fill_all (xs : List Int) : fillk xs xs.length = xs := by simp [fillk]
theorem fill_set (xs : List Int) (k : Nat) (h : (k : Int) < xs.length) : (fillk xs k).set k (xs.getD k 0) = fillk xs (k + 1) := by
  have hk : k < xs.length := by omega
  unfold fillk
  apply List.ext_getElem
  · simp; omega
  · intro i h1 h2
    rw [List.getElem_set]
    by_cases hi : k = i
    · subst hi
      rw [if_pos rfl, List.getElem_append_left (by simp; omega), List.getElem_take]
      simp [List.getD, hk]
    · rw [if_neg hi]
      by_cases hlt : i < k
      · rw [List.getElem_append_left (by simp; omega), List.getElem_append_left (by simp; omega), List.getElem_take, List.getElem_take]
      · rw [List.getElem_append_right (by simp; omega), List.getElem_append_right (by simp; omega)]
        simp
theorem getD_ext {xs ys : List Int} (hl : xs.length = ys.length) (h : ∀ j : Nat, j < xs.length → xs.getD j 0 = ys.getD j 0) : xs = ys := by
  apply List.ext_getElem hl
  intro i h1 h2
  have := h i h1
  simpa [List.getD, h1, h2] using this
theorem upto_succ {P : Nat → Prop} {k : Nat} (h : ∀ j : Nat, j < k → P j) (hk : P k) : ∀ j : Nat, j < k + 1 → P j := fun j hj => by
  rcases Nat.lt_or_ge j k with h1 | h1
  · exact h j h1
  · obtain rfl : j = k := by omega
    exact hk

/-- how full a code of these lengths is, in parts of 128 -/
def kraft : List Int → Int
  | [] => 0
  | x :: r => (if 0 < x then 2 ^ (7 - x).toNat else 0) + kraft r
def codeOk (xs : List Int) : Prop := (∀ j : Nat, j < xs.length → 0 ≤ xs.getD j 0 ∧ xs.getD j 0 ≤ 7) ∧ xs.length = 6 ∧ kraft xs = 128
instance (xs : List Int) : Decidable (codeOk xs) := by unfold codeOk; infer_instance

def stepOf (q : Int) : Int := if 0 ≤ q ∧ q ≤ 51 then [8, 9, 10, 11, 13, 14].getD (q % 6).toNat 0 * 2 ^ (q / 6).toNat / 8 else 0
theorem step_row (q : Int) : 8 ≤ ([8, 9, 10, 11, 13, 14] : List Int).getD (q % 6).toNat 0 ∧ ([8, 9, 10, 11, 13, 14] : List Int).getD (q % 6).toNat 0 ≤ 14 := by
  obtain ⟨k, hk⟩ : ∃ k, k = (q % 6).toNat := ⟨_, rfl⟩
  have : k < 6 := by omega
  rw [← hk]
  clear hk
  match k, this with
  | 0, _ => decide
  | 1, _ => decide
  | 2, _ => decide
  | 3, _ => decide
  | 4, _ => decide
  | 5, _ => decide
theorem step_range (q : Int) (h : 0 ≤ q ∧ q ≤ 51) : 8 ≤ ([8, 9, 10, 11, 13, 14] : List Int).getD (q % 6).toNat 0 * 2 ^ (q / 6).toNat ∧ ([8, 9, 10, 11, 13, 14] : List Int).getD (q % 6).toNat 0 * 2 ^ (q / 6).toNat ≤ 3584 := by
  have h1 := step_row q
  have h2 := two_pow_le (n := (q / 6).toNat) (m := 8) (by omega)
  have h3 := two_pow_pos (q / 6).toNat
  generalize ([8, 9, 10, 11, 13, 14] : List Int).getD (q % 6).toNat 0 = x at *
  generalize (2 : Int) ^ (q / 6).toNat = y at *
  constructor
  · have := Int.mul_le_mul h1.1 (show 1 ≤ y by omega) (by omega) (by omega); omega
  · have h2' : y ≤ 256 := by simpa using h2
    have := Int.mul_le_mul h1.2 h2' (by omega) (by omega); omega
def sidesOk (a b : Int) : Prop := (8 ≤ a ∧ a ≤ 32) ∧ (8 ≤ b ∧ b ≤ 32) ∧ a % 8 = 0 ∧ b % 8 = 0
instance (a b : Int) : Decidable (sidesOk a b) := by unfold sidesOk; infer_instance
def headOk (a b q : Int) (xs : List Int) : Prop := sidesOk a b ∧ (0 ≤ q ∧ q ≤ 51) ∧ codeOk xs
instance (a b q : Int) (xs : List Int) : Decidable (headOk a b q xs) := by unfold headOk; infer_instance
end Go.Pl

/- Plain: bits read in parts. -/
namespace Go.Pl
end Go.Pl

/- Plain: what caches yield. -/
namespace Go.Pl
/-- taking bits -/
def tkOk (s : ByteArray) (c : Ca) (n : Int) : Prop := skOk s (peekC s c n) n
instance (s : ByteArray) (c : Ca) (n : Int) : Decidable (tkOk s c n) := by unfold tkOk; infer_instance
theorem sz_in {l n : Int} (h : ¬ szOf l n < 0) : szOf l n = l - n ∧ n ≤ l := by
  unfold szOf at *; split at h <;> simp_all <;> omega
end Go.Pl

/- Plain numbers: lists of bits, the bytes that they make, codes of numbers. -/
namespace Go.Pl
open Go.Sx
/-- the w low bits of n, the highest first -/
def bitsl (n : Int) : Nat → List Int
  | 0 => []
  | w + 1 => n / 2 ^ w % 2 :: bitsl n w
def bitOk (w n : Int) : Prop := (0 ≤ w ∧ w ≤ 48) ∧ 0 ≤ n ∧ n / 2 ^ w.toNat = 0
instance (w n : Int) : Decidable (bitOk w n) := by unfold bitOk; infer_instance
def bitsIn (n w : Int) : List Int := if bitOk w n then bitsl n w.toNat else []
/-- are all of them bits? -/
def isBits (b : List Int) : Prop := ∀ x ∈ b, x = 0 ∨ x = 1
instance (b : List Int) : Decidable (isBits b) := by unfold isBits; infer_instance
/-- bits as a number -/
def numl : List Int → Int
  | [] => 0
  | x :: r => x * 2 ^ r.length + numl r
/-- the bytes of bits -/
def bytesl (b : List Int) : List Int := (List.range (b.length / 8)).map fun j => numl ((b.drop (8 * j)).take 8)
def packs (b : List Int) : ByteArray := strOf (bytesl b)
def byOk (b : List Int) : Prop := isBits b ∧ b.length % 8 = 0
instance (b : List Int) : Decidable (byOk b) := by unfold byOk; infer_instance
end Go.Pl

/- Plain numbers: the table of numbers' codes. -/
namespace Go.Pl
def ueEnt (i : Nat) : Int × Int :=
  if ueE (packs (bitsl i 9 ++ List.replicate 7 0)) 0 = 0 ∧ ueAt (packs (bitsl i 9 ++ List.replicate 7 0)) 0 ≤ 9 then (ueAt (packs (bitsl i 9 ++ List.replicate 7 0)) 0, ueV (packs (bitsl i 9 ++ List.replicate 7 0)) 0) else (0, 0)
def ueTab : List (Int × Int) := (List.range 512).map ueEnt
end Go.Pl

/- Plain numbers: prefix codes. -/
namespace Go.Pl
/-- codes given out: one round over the six lengths -/
def cIn (l : List Int) (n : Int) (st : List Int × Int) : Nat → List Int × Int
  | 0 => st
  | j + 1 => if l.getD j 0 = n then ((cIn l n st j).1.set j (cIn l n st j).2, (cIn l n st j).2 + 1) else cIn l n st j
def cOut (l : List Int) : Nat → List Int × Int
  | 0 => (List.replicate 6 (-1), 0)
  | n + 1 => cIn l ((n : Int) + 1) ((cOut l n).1, (cOut l n).2 * 2) 6
def codesOf (l : List Int) : List Int := if codeOk l then (cOut l 7).1 else []
def inP (l : List Int) (n : Int) (j m : Nat) : Prop := m < 6 ∧ 1 ≤ l.getD m 0 ∧ (l.getD m 0 < n ∨ (l.getD m 0 = n ∧ m < j))
def cHit (l out : List Int) (m : Nat) (v : Int) : Prop := v / 2 ^ (7 - l.getD m 0).toNat = out.getD m 0
instance (l out : List Int) (m : Nat) (v : Int) : Decidable (cHit l out m v) := by unfold cHit; infer_instance
theorem div_iff {v d q : Int} (hd : 0 < d) : v / d = q ↔ q * d ≤ v ∧ v < q * d + d := by
  have h1 := Int.le_ediv_iff_mul_le (a := q) (b := v) hd
  have h2 := Int.ediv_lt_iff_lt_mul (a := v) (b := q + 1) hd
  rw [Int.add_mul, Int.one_mul] at h2
  omega
structure CInv (l out : List Int) (next n S : Int) (j : Nat) : Prop where
  len : out.length = 6
  nx : next * 2 ^ (7 - n).toNat = S
  n0 : 0 ≤ next
  un : ∀ m, m < 6 → ¬ inP l n j m → out.getD m 0 = -1
  cov : ∀ v, 0 ≤ v → v < S → ∃ m, inP l n j m ∧ cHit l out m v
  abv : ∀ v, S ≤ v → ∀ m, inP l n j m → ¬ cHit l out m v
  unq : ∀ v m m', inP l n j m → inP l n j m' → cHit l out m v → cHit l out m' v → m = m'
  nneg : ∀ m, inP l n j m → 0 ≤ out.getD m 0 ∧ (out.getD m 0 + 1) * 2 ^ (7 - l.getD m 0).toNat ≤ S
theorem getD_set_eq {xs : List Int} {i : Nat} {a : Int} (h : i < xs.length) : (xs.set i a).getD i 0 = a := by simp [List.getD, h]
theorem getD_set_ne {xs : List Int} {i j : Nat} {a : Int} (h : i ≠ j) : (xs.set i a).getD j 0 = xs.getD j 0 := by
  simp only [List.getD_eq_getElem?_getD, List.getElem?_set, if_neg h]
theorem CInv.give {l out : List Int} {next n S : Int} {j : Nat} (h : CInv l out next n S j) (hn : 1 ≤ n ∧ n ≤ 7) (hj : j < 6) (hl : l.getD j 0 = n) : CInv l (out.set j next) (next + 1) n (S + 2 ^ (7 - n).toNat) (j + 1) := by
  have hp := two_pow_pos (7 - n).toNat
  have hP : ∀ m, inP l n (j + 1) m ↔ inP l n j m ∨ m = j := by
    intro m; unfold inP
    constructor
    · rintro ⟨h1, h2, h3⟩
      by_cases hm : m = j
      · exact .inr hm
      · left; exact ⟨h1, h2, by omega⟩
    · rintro (⟨h1, h2, h3⟩ | rfl)
      · exact ⟨h1, h2, by omega⟩
      · exact ⟨hj, by omega, .inr ⟨hl, by omega⟩⟩
  have hnj : ∀ m, inP l n j m → m ≠ j := by rintro m ⟨h1, h2, h3⟩ rfl; omega
  have hold : ∀ m v, m ≠ j → (cHit l (out.set j next) m v ↔ cHit l out m v) := by
    intro m v hm; unfold cHit; rw [getD_set_ne (Ne.symm hm)]
  have hnew : ∀ v, cHit l (out.set j next) j v ↔ S ≤ v ∧ v < S + 2 ^ (7 - n).toNat := by
    intro v; unfold cHit; rw [getD_set_eq (by rw [h.len]; exact hj), hl, div_iff hp, h.nx]
  refine ⟨by simp [h.len], by rw [Int.add_mul, h.nx]; omega, by have := h.n0; omega, ?_, ?_, ?_, ?_, ?_⟩
  · intro m hm hn'
    rw [hP] at hn'
    rw [getD_set_ne (fun e => hn' (.inr e.symm))]
    exact h.un m hm fun h' => hn' (.inl h')
  · intro v h0 h1
    rcases Int.lt_or_le v S with h2 | h2
    · obtain ⟨m, hm, hh⟩ := h.cov v h0 h2
      exact ⟨m, (hP m).2 (.inl hm), (hold m v (hnj m hm)).2 hh⟩
    · exact ⟨j, (hP j).2 (.inr rfl), (hnew v).2 ⟨h2, h1⟩⟩
  · intro v hv m hm
    rcases (hP m).1 hm with h1 | rfl
    · rw [hold m v (hnj m h1)]; exact h.abv v (by omega) m h1
    · rw [hnew]; omega
  · intro v m m' hm hm' h1 h2
    rcases (hP m).1 hm with a | rfl <;> rcases (hP m').1 hm' with b | rfl
    · exact h.unq v m m' a b ((hold m v (hnj m a)).1 h1) ((hold m' v (hnj m' b)).1 h2)
    · exact absurd ((hold m v (hnj m a)).1 h1) (h.abv v ((hnew v).1 h2).1 m a)
    · exact absurd ((hold m' v (hnj m' b)).1 h2) (h.abv v ((hnew v).1 h1).1 m' b)
    · rfl
  · intro m hm
    rcases (hP m).1 hm with h1 | rfl
    · rw [getD_set_ne (Ne.symm (hnj m h1))]
      have := h.nneg m h1; omega
    · rw [getD_set_eq (by rw [h.len]; exact hj), hl, Int.add_mul, h.nx]
      exact ⟨h.n0, by omega⟩
theorem CInv.pass {l out : List Int} {next n S : Int} {j : Nat} (h : CInv l out next n S j) (hl : l.getD j 0 ≠ n) : CInv l out next n S (j + 1) := by
  have hP : ∀ m, inP l n (j + 1) m ↔ inP l n j m := by
    intro m; unfold inP
    by_cases hm : m = j
    · subst hm; omega
    · omega
  exact ⟨h.len, h.nx, h.n0, fun m hm hn => h.un m hm fun h' => hn ((hP m).2 h'), fun v h0 h1 => by obtain ⟨m, a, b⟩ := h.cov v h0 h1; exact ⟨m, (hP m).2 a, b⟩,
    fun v hv m hm => h.abv v hv m ((hP m).1 hm), fun v m m' a b => h.unq v m m' ((hP m).1 a) ((hP m').1 b), fun m hm => h.nneg m ((hP m).1 hm)⟩
theorem CInv.next {l out : List Int} {next n S : Int} (h : CInv l out next n S 6) (hn : 0 ≤ n ∧ n ≤ 6) : CInv l out (next * 2) (n + 1) S 0 := by
  have hP : ∀ m, inP l (n + 1) 0 m ↔ inP l n 6 m := by intro m; unfold inP; omega
  refine ⟨h.len, ?_, by have := h.n0; omega, fun m hm hn => h.un m hm fun h' => hn ((hP m).2 h'), fun v h0 h1 => by obtain ⟨m, a, b⟩ := h.cov v h0 h1; exact ⟨m, (hP m).2 a, b⟩,
    fun v hv m hm => h.abv v hv m ((hP m).1 hm), fun v m m' a b => h.unq v m m' ((hP m).1 a) ((hP m').1 b), fun m hm => h.nneg m ((hP m).1 hm)⟩
  have e : (7 - n).toNat = (7 - (n + 1)).toNat + 1 := by omega
  rw [← h.nx, e, two_pow_succ, Int.mul_assoc]
/-- the symbol whose code seven bits begin with -/
def symOf (l : List Int) (v : Int) : Nat := ((List.range 6).find? fun m => decide (1 ≤ l.getD m 0 ∧ cHit l (codesOf l) m v)).getD 0
/-- reading a symbol -/
def symAt (s : ByteArray) (a : Int) (l : List Int) : Nat := symOf l (bitsOf s a 7)
def rsOk (s : ByteArray) (a : Int) (l : List Int) : Prop := codeOk l ∧ rbOk s a (l.getD (symAt s a l) 0)
instance (s : ByteArray) (a : Int) (l : List Int) : Decidable (rsOk s a l) := by unfold rsOk; infer_instance
def sideOf (n : Int) : Int := if n = 16 then 4 else if n = 64 then 8 else 0
def levelsOk (xs : List Int) : Prop := (∀ j : Nat, j < xs.length → -16383 ≤ xs.getD j 0 ∧ xs.getD j 0 ≤ 16383) ∧ 0 < sideOf xs.length
instance (xs : List Int) : Decidable (levelsOk xs) := by unfold levelsOk; infer_instance
def symOk (l : List Int) (m : Int) : Prop := codeOk l ∧ (0 ≤ m ∧ m ≤ 5) ∧ l.getD m.toNat 0 ≠ 0
instance (l : List Int) (m : Int) : Decidable (symOk l m) := by unfold symOk; infer_instance
def blockOk (m : Int) (ys xs : List Int) (n : Int) : Prop := (n = 4 ∨ n = 8) ∧ symOk xs m ∧ (ys.length : Int) = n * n ∧ levelsOk ys
instance (m : Int) (ys xs : List Int) (n : Int) : Decidable (blockOk m ys xs n) := by unfold blockOk; infer_instance
end Go.Pl

/- Plain numbers: what is written is read. -/
namespace Go.Pl
open Go.Sx
end Go.Pl
