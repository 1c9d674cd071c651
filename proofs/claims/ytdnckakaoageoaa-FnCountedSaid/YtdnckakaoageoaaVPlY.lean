/- Plain numbers and lists, with no program in sight. -/
import Derived.Test.YtdnckakaoageoaaVPlX
import Derived.Test.YtdnckakaoageoaaVSxF
/- Plain numbers: tables of symbols. -/
namespace Go.Pl
open Go.Sx
end Go.Pl

/- Plain numbers: symbols out of caches; edges drawn together. -/
namespace Go.Pl
/-- the bounds of an edge -/
def alphaOf (q : Int) : Int := if 0 ≤ q ∧ q ≤ 51 then q + 4 else 0
def betaOf (q : Int) : Int := if 0 ≤ q ∧ q ≤ 51 then q / 3 + 2 else 0
def pixOk (xs : List Int) : Prop := ∀ j : Nat, j < xs.length → 0 ≤ xs.getD j 0 ∧ xs.getD j 0 ≤ 255
def edgeC (a b c d q : Int) : Prop := ((0 ≤ a ∧ a ≤ 255) ∧ (0 ≤ b ∧ b ≤ 255) ∧ (0 ≤ c ∧ c ≤ 255) ∧ (0 ≤ d ∧ d ≤ 255)) ∧ (b - c < alphaOf q ∧ c - b < alphaOf q) ∧ (a - b < betaOf q ∧ b - a < betaOf q) ∧ (d - c < betaOf q ∧ c - d < betaOf q)
instance (a b c d q : Int) : Decidable (edgeC a b c d q) := by unfold edgeC; infer_instance
/-- a right frame -/
def frOk (W H : Int) (xs : List Int) : Prop := sidesOk W H ∧ (xs.length : Int) = W * H ∧ pixOk xs
end Go.Pl

/- Plain numbers: headers, pairs and blocks as bits. -/
namespace Go.Pl
instance (xs : List Int) : Decidable (pixOk xs) := by unfold pixOk; infer_instance
instance (W H : Int) (xs : List Int) : Decidable (frOk W H xs) := by unfold frOk; infer_instance
theorem ueBits_le (n : Int) : (ueBits n).length ≤ 31 := by
  by_cases h : 0 ≤ n ∧ n ≤ 65534
  · have h1 := ueBits_len h; have h2 := ueSize_range n; omega
  · rw [ueBits_no h]; simp
/-- the first k numbers' bits -/
def fieldsOf (xs : List Int) (k : Nat) : List Int := (xs.take k).flatMap (fun n => bitsIn n 3)
theorem flat_take_succ {α β : Type} [Inhabited α] (f : α → List β) (xs : List α) {k : Nat} (h : k < xs.length) : (xs.take (k + 1)).flatMap f = (xs.take k).flatMap f ++ f (xs.getD k default) := by
  rw [List.take_add_one, List.flatMap_append]; simp [List.getD, h]
theorem flat_take_le {α β : Type} (f : α → List β) {N : Nat} (hN : ∀ x, (f x).length ≤ N) (xs : List α) (k : Nat) : ((xs.take k).flatMap f).length ≤ N * k := by
  induction k generalizing xs with
  | zero => simp
  | succ k ih => cases xs with
    | nil => simp
    | cons x r =>
      have h1 := hN x; have h2 := ih r
      have h3 : N * (k + 1) = N * k + N := Nat.mul_succ N k
      simp only [List.take_succ_cons, List.flatMap_cons, List.length_append]; omega
/-- pairs of a run and a level -/
def prS (ys : List Int) : Nat → List (Int × Int) × Int
  | 0 => ([], 0)
  | k + 1 => if ys.getD k 0 = 0 then ((prS ys k).1, (prS ys k).2 + 1) else ((prS ys k).1 ++ [((prS ys k).2, ys.getD k 0)], 0)
def pairsOf (ys : List Int) : List (Int × Int) := if levelsOk ys then (prS ys ys.length).1 else []
theorem prS_range (ys : List Int) (k : Nat) : 0 ≤ (prS ys k).2 ∧ (prS ys k).2 ≤ k ∧ (prS ys k).1.length ≤ k := by
  induction k with
  | zero => simp [prS]
  | succ k ih => simp only [prS]; split <;> simp <;> omega
theorem prS_zero {ys : List Int} {k : Nat} (h : ys.getD k 0 = 0) : (prS ys k).1 = (prS ys (k + 1)).1 ∧ (prS ys k).2 + 1 = (prS ys (k + 1)).2 := by simp only [prS, if_pos h, and_self]
theorem prS_more {ys : List Int} {k : Nat} (h : ys.getD k 0 ≠ 0) : (prS ys k).1 ++ [((prS ys k).2, ys.getD k 0)] = (prS ys (k + 1)).1 ∧ 0 = (prS ys (k + 1)).2 := by
  simp only [prS, if_neg h, and_self]
theorem pairs_no {ys : List Int} (h : ¬ levelsOk ys) : pairsOf ys = [] := by unfold pairsOf; rw [if_neg h]
theorem pairs_yes {ys : List Int} (h : levelsOk ys) {k : Nat} (hk : k = ys.length) : pairsOf ys = (prS ys k).1 := by unfold pairsOf; rw [if_pos h, hk]
theorem side_len {n : Int} (h : 0 < sideOf n) : n = 16 ∨ n = 64 := by
  unfold sideOf at h; split at h
  · omega
  · split at h
    · omega
    · omega
theorem pairs_len (ys : List Int) : (pairsOf ys).length ≤ 64 := by
  unfold pairsOf; split
  · next h => have h1 := prS_range ys ys.length; have h2 := side_len h.2; omega
  · simp
def pairOk (p : Int × Int) : Prop := (0 ≤ p.1 ∧ p.1 ≤ 63) ∧ (-16383 ≤ p.2 ∧ p.2 ≤ 16383) ∧ p.2 ≠ 0
theorem prS_ok {ys : List Int} (h : ∀ j : Nat, j < ys.length → -16383 ≤ ys.getD j 0 ∧ ys.getD j 0 ≤ 16383) : ∀ k : Nat, k ≤ ys.length → k ≤ 64 → ∀ p ∈ (prS ys k).1, pairOk p := by
  intro k
  induction k with
  | zero => intro _ _ p hp; simp [prS] at hp
  | succ k ih =>
    intro hk h64 p hp
    simp only [prS] at hp
    split at hp
    · exact ih (by omega) (by omega) p hp
    · next h0 =>
      rcases List.mem_append.1 hp with h1 | h1
      · exact ih (by omega) (by omega) p h1
      · obtain rfl := List.mem_singleton.1 h1
        have h2 := prS_range ys k
        have h3 := h k (by omega)
        exact ⟨⟨h2.1, by show (prS ys k).2 ≤ 63; omega⟩, h3, h0⟩
theorem pairs_ok (ys : List Int) : ∀ p ∈ pairsOf ys, pairOk p := by
  unfold pairsOf; split
  · next h => have h2 := side_len h.2; exact prS_ok h.1 _ (Nat.le_refl _) (by omega)
  · simp
theorem pairs_get {ys : List Int} (k : Nat) (h : k < (pairsOf ys).length) : pairOk ((pairsOf ys).getD k default) := by
  have := pairs_ok ys ((pairsOf ys)[k]) (List.getElem_mem h)
  simpa [List.getD, h] using this
/-- a pair as bits -/
def pairBits (p : Int × Int) : List Int := ueBits p.1 ++ ueBits (numOf p.2)
theorem pairBits_le (p : Int × Int) : (pairBits p).length ≤ 62 := by
  have h1 := ueBits_le p.1; have h2 := ueBits_le (numOf p.2)
  unfold pairBits; rw [List.length_append]; omega
def levelBits (ys : List Int) : List Int := if (pairsOf ys).length = 0 then [0] else [1] ++ ueBits ((pairsOf ys).length - 1) ++ (pairsOf ys).flatMap pairBits
def blockBits (m : Int) (ys xs : List Int) (n : Int) : List Int := if blockOk m ys xs n then symBits xs m ++ levelBits ys else []
theorem blockBits_no {m n : Int} {ys xs : List Int} (h : ¬ blockOk m ys xs n) : blockBits m ys xs n = [] := by unfold blockBits; rw [if_neg h]
theorem symBits_le (l : List Int) (m : Int) : (symBits l m).length ≤ 48 := by
  unfold symBits; split
  · exact (bitsIn_len _ _).1
  · simp
theorem levelBits_le (ys : List Int) : (levelBits ys).length ≤ 4000 := by
  unfold levelBits
  have h1 := pairs_len ys
  have h2 := flat_take_le pairBits pairBits_le (pairsOf ys) (pairsOf ys).length
  rw [List.take_length] at h2
  have h3 := ueBits_le ((pairsOf ys).length - 1)
  split
  · simp
  · simp only [List.length_append, List.length_singleton]; omega
theorem blockBits_le (m : Int) (ys xs : List Int) (n : Int) : (blockBits m ys xs n).length ≤ 4048 := by
  unfold blockBits
  have h1 := symBits_le xs m; have h2 := levelBits_le ys
  split
  · rw [List.length_append]; omega
  · simp
/-- a macroblock -/
def side (e : Bool) : Int := if e then 8 else 4
def mbOk (e : Bool) (bs : List (Int × List Int)) (xs : List Int) : Prop := (bs.length : Int) = 64 / (side e * side e) ∧ ∀ j : Nat, j < bs.length → blockOk (bs.getD j default).1 (bs.getD j default).2 xs (side e)
instance (e : Bool) (bs : List (Int × List Int)) (xs : List Int) : Decidable (mbOk e bs xs) := by unfold mbOk; infer_instance
/-- a table's number out of a cache, else bit by bit -/
def fuIx (s : ByteArray) (c : Ca) : Nat := (bitsOf s (8 * c.pos - c.hv) 9).toNat
def fuHit (s : ByteArray) (c : Ca) (t : List (Int × Int)) : Prop := t.length = 512 ∧ 1 ≤ (t.getD (fuIx s c) default).1 ∧ (t.getD (fuIx s c) default).1 ≤ 9
instance (s : ByteArray) (c : Ca) (t : List (Int × Int)) : Decidable (fuHit s c t) := by unfold fuHit; infer_instance
end Go.Pl

/- Plain numbers: frames filtered. -/
namespace Go.Pl
def allIn (lo hi : Int) (xs : List Int) : Prop := ∀ j : Nat, j < xs.length → lo ≤ xs.getD j 0 ∧ xs.getD j 0 ≤ hi
instance (lo hi : Int) (xs : List Int) : Decidable (allIn lo hi xs) := by unfold allIn; infer_instance
def fqOk (W H q : Int) (xs : List Int) : Prop := frOk W H xs ∧ 0 ≤ q ∧ q ≤ 51
instance (W H q : Int) (xs : List Int) : Decidable (fqOk W H q xs) := by unfold fqOk; infer_instance
end Go.Pl

/- Plain numbers: fields read one by one, up to the first error. -/
namespace Go.Pl
structure Fs where
  a : Int
  code : Int
section
variable {s : ByteArray} {f : Fs} {n : Int} {chk : Int → Int}
end
end Go.Pl
namespace Go.Pl
structure Lv where
  f : Fs
  p : Int
  l : List Int
end Go.Pl

/- Plain numbers: numbers read are none below 0; pairs read one by one. -/
namespace Go.Pl
end Go.Pl

/- Plain numbers: headers and blocks as bits, joined. -/
namespace Go.Pl
open Go.Sx
theorem flat3 (a b c : Li) : [a, b, c].flatMap Li.xs = a.xs ++ b.xs ++ c.xs := by simp
theorem own_eq {w : World} {p : Option Addr} {c : Nat} {e : TypeId} {F : List Nat} {xs ys : List Int} (h : xs = ys) (o : Own w p xs.length c e 1 (ic xs) F) : Own w p ys.length c e 1 (ic ys) F := h ▸ o
def blockA (m : Int) (ys xs : List Int) : List Int := symBits xs m ++ ([1] ++ ueBits ((pairsOf ys).length - 1))
theorem blockA_len (m : Int) (ys xs : List Int) : (blockA m ys xs).length ≤ 100 := by
  have h1 := symBits_le xs m; have h2 := ueBits_le ((pairsOf ys).length - 1)
  unfold blockA; simp only [List.length_append, List.length_cons, List.length_nil]; omega
theorem block_none {m n : Int} {ys xs : List Int} (h : blockOk m ys xs n) (h0 : (pairsOf ys).length = 0) : blockBits m ys xs n = symBits xs m ++ [0] := by
  unfold blockBits levelBits; rw [if_pos h, if_pos h0]
theorem block_some {m n : Int} {ys xs : List Int} (h : blockOk m ys xs n) (h0 : (pairsOf ys).length ≠ 0) {k : Nat} (hk : k = (pairsOf ys).length) : blockBits m ys xs n = blockA m ys xs ++ ((pairsOf ys).take k).flatMap pairBits := by
  unfold blockBits levelBits blockA; rw [if_pos h, if_neg h0, hk, List.take_length]; simp
theorem pairsBits_len (ys : List Int) (k : Nat) : (((pairsOf ys).take k).flatMap pairBits).length ≤ 62 * k := flat_take_le _ pairBits_le _ k
theorem map_getD {α β : Type} [Inhabited α] [Inhabited β] (f : α → β) {xs : List α} {j : Nat} (h : j < xs.length) : (xs.map f).getD j default = f (xs.getD j default) := by
  simp [List.getD, h]
def manyOf (e : Bool) : Int := if e then 1 else 4
theorem many_eq (e : Bool) : 64 / (side e * side e) = manyOf e := by cases e <;> decide
theorem side_in (e : Bool) : side e = 4 ∨ side e = 8 := by cases e <;> decide
end Go.Pl

/- Plain numbers: headers read. -/
namespace Go.Pl
section
variable {s : ByteArray} {a : Int}
end
end Go.Pl

/- Plain numbers: streams as bits. -/
namespace Go.Pl
open Go.Sx
abbrev PB : Type := Int × List Int
abbrev PM : Type := Bool × List PB
def streamOk (a b q : Int) (xs : List Int) (ms : List PM) : Prop := headOk a b q xs ∧ (ms.length : Int) = a / 8 * (b / 8) ∧ ∀ j : Nat, j < ms.length → mbOk (ms.getD j default).1 (ms.getD j default).2 xs
instance (a b q : Int) (xs : List Int) (ms : List PM) : Decidable (streamOk a b q xs ms) := by unfold streamOk; infer_instance
/-- a number of its bits -/
def numOk (b : List Int) : Prop := isBits b ∧ b.length ≤ 48
instance (b : List Int) : Decidable (isBits b) := by unfold isBits; infer_instance
instance (b : List Int) : Decidable (numOk b) := by unfold numOk; infer_instance
end Go.Pl
