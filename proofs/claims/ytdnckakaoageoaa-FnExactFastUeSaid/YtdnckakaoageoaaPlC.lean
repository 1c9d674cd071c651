/- Plain numbers: headers, pairs and blocks as bits. -/
import Derived.Test.YtdnckakaoageoaaPlB
namespace Go.Pl
instance (xs : List Int) : Decidable (pixOk xs) := by unfold pixOk; infer_instance
instance (W H : Int) (xs : List Int) : Decidable (frOk W H xs) := by unfold frOk; infer_instance
def flag (b : Bool) : Int := if b then 1 else 0
theorem flag_range (b : Bool) : 0 ≤ flag b ∧ flag b ≤ 1 := by cases b <;> decide
def headBits (a b q : Int) (y d : Bool) (xs : List Int) : List Int :=
  if headOk a b q xs then bitsIn 183 8 ++ ueBits (a / 8 - 1) ++ ueBits (b / 8 - 1) ++ bitsIn q 6 ++ [flag y, flag d] ++ xs.flatMap (fun n => bitsIn n 3) else []
theorem headBits_no {a b q : Int} {y d : Bool} {xs : List Int} (h : ¬ headOk a b q xs) : headBits a b q y d xs = [] := by unfold headBits; rw [if_neg h]
theorem ueBits_le (n : Int) : (ueBits n).length ≤ 31 := by
  by_cases h : 0 ≤ n ∧ n ≤ 65534
  · have h1 := ueBits_len h; have h2 := ueSize_range n; omega
  · rw [ueBits_no h]; simp
/-- the first k numbers' bits -/
def fieldsOf (xs : List Int) (k : Nat) : List Int := (xs.take k).flatMap (fun n => bitsIn n 3)
theorem flat_take_succ {α β : Type} [Inhabited α] (f : α → List β) (xs : List α) {k : Nat} (h : k < xs.length) : (xs.take (k + 1)).flatMap f = (xs.take k).flatMap f ++ f (xs.getD k default) := by
  rw [List.take_add_one, List.flatMap_append]; simp [List.getD, h]
theorem flat_take_le {α β : Type} (f : α → List β) {N : Nat} (hN : ∀ x, (f x).length ≤ N) (xs : List α) (k : Nat) : ((xs.take k).flatMap f).length ≤ N * k := by
  induction k generalizing xs with
  | zero => simp
  | succ k ih => cases xs with
    | nil => simp
    | cons x r =>
      have h1 := hN x; have h2 := ih r
      have h3 : N * (k + 1) = N * k + N := Nat.mul_succ N k
      simp only [List.take_succ_cons, List.flatMap_cons, List.length_append]; omega
/-- pairs of a run and a level -/
def prS (ys : List Int) : Nat → List (Int × Int) × Int
  | 0 => ([], 0)
  | k + 1 => if ys.getD k 0 = 0 then ((prS ys k).1, (prS ys k).2 + 1) else ((prS ys k).1 ++ [((prS ys k).2, ys.getD k 0)], 0)
def pairsOf (ys : List Int) : List (Int × Int) := if levelsOk ys then (prS ys ys.length).1 else []
theorem prS_range (ys : List Int) (k : Nat) : 0 ≤ (prS ys k).2 ∧ (prS ys k).2 ≤ k ∧ (prS ys k).1.length ≤ k := by
  induction k with
  | zero => simp [prS]
  | succ k ih => simp only [prS]; split <;> simp <;> omega
theorem prS_zero {ys : List Int} {k : Nat} (h : ys.getD k 0 = 0) : (prS ys k).1 = (prS ys (k + 1)).1 ∧ (prS ys k).2 + 1 = (prS ys (k + 1)).2 := by simp only [prS, if_pos h, and_self]
theorem prS_more {ys : List Int} {k : Nat} (h : ys.getD k 0 ≠ 0) : (prS ys k).1 ++ [((prS ys k).2, ys.getD k 0)] = (prS ys (k + 1)).1 ∧ 0 = (prS ys (k + 1)).2 := by
  simp only [prS, if_neg h, and_self]
theorem pairs_no {ys : List Int} (h : ¬ levelsOk ys) : pairsOf ys = [] := by unfold pairsOf; rw [if_neg h]
theorem pairs_yes {ys : List Int} (h : levelsOk ys) {k : Nat} (hk : k = ys.length) : pairsOf ys = (prS ys k).1 := by unfold pairsOf; rw [if_pos h, hk]
theorem side_len {n : Int} (h : 0 < sideOf n) : n = 16 ∨ n = 64 := by
  unfold sideOf at h; split at h
  · omega
  · split at h
    · omega
    · omega
theorem pairs_len (ys : List Int) : (pairsOf ys).length ≤ 64 := by
  unfold pairsOf; split
  · next h => have h1 := prS_range ys ys.length; have h2 := side_len h.2; omega
  · simp
def pairOk (p : Int × Int) : Prop := (0 ≤ p.1 ∧ p.1 ≤ 63) ∧ (-16383 ≤ p.2 ∧ p.2 ≤ 16383) ∧ p.2 ≠ 0
theorem prS_ok {ys : List Int} (h : ∀ j : Nat, j < ys.length → -16383 ≤ ys.getD j 0 ∧ ys.getD j 0 ≤ 16383) : ∀ k : Nat, k ≤ ys.length → k ≤ 64 → ∀ p ∈ (prS ys k).1, pairOk p := by
  intro k
  induction k with
  | zero => intro _ _ p hp; simp [prS] at hp
  | succ k ih =>
    intro hk h64 p hp
    simp only [prS] at hp
    split at hp
    · exact ih (by omega) (by omega) p hp
    · next h0 =>
      rcases List.mem_append.1 hp with h1 | h1
      · exact ih (by omega) (by omega) p h1
      · obtain rfl := List.mem_singleton.1 h1
        have h2 := prS_range ys k
        have h3 := h k (by omega)
        exact ⟨⟨h2.1, by show (prS ys k).2 ≤ 63; omega⟩, h3, h0⟩
theorem pairs_ok (ys : List Int) : ∀ p ∈ pairsOf ys, pairOk p := by
  unfold pairsOf; split
  · next h => have h2 := side_len h.2; exact prS_ok h.1 _ (Nat.le_refl _) (by omega)
  · simp
theorem pairs_get {ys : List Int} (k : Nat) (h : k < (pairsOf ys).length) : pairOk ((pairsOf ys).getD k default) := by
  have := pairs_ok ys ((pairsOf ys)[k]) (List.getElem_mem h)
  simpa [List.getD, h] using this
/-- a pair as bits -/
def pairBits (p : Int × Int) : List Int := ueBits p.1 ++ ueBits (numOf p.2)
theorem pairBits_le (p : Int × Int) : (pairBits p).length ≤ 62 := by
  have h1 := ueBits_le p.1; have h2 := ueBits_le (numOf p.2)
  unfold pairBits; rw [List.length_append]; omega
def levelBits (ys : List Int) : List Int := if (pairsOf ys).length = 0 then [0] else [1] ++ ueBits ((pairsOf ys).length - 1) ++ (pairsOf ys).flatMap pairBits
def blockBits (m : Int) (ys xs : List Int) (n : Int) : List Int := if blockOk m ys xs n then symBits xs m ++ levelBits ys else []
theorem blockBits_no {m n : Int} {ys xs : List Int} (h : ¬ blockOk m ys xs n) : blockBits m ys xs n = [] := by unfold blockBits; rw [if_neg h]
theorem symBits_le (l : List Int) (m : Int) : (symBits l m).length ≤ 48 := by
  unfold symBits; split
  · exact (bitsIn_len _ _).1
  · simp
theorem levelBits_le (ys : List Int) : (levelBits ys).length ≤ 4000 := by
  unfold levelBits
  have h1 := pairs_len ys
  have h2 := flat_take_le pairBits pairBits_le (pairsOf ys) (pairsOf ys).length
  rw [List.take_length] at h2
  have h3 := ueBits_le ((pairsOf ys).length - 1)
  split
  · simp
  · simp only [List.length_append, List.length_singleton]; omega
theorem blockBits_le (m : Int) (ys xs : List Int) (n : Int) : (blockBits m ys xs n).length ≤ 4048 := by
  unfold blockBits
  have h1 := symBits_le xs m; have h2 := levelBits_le ys
  split
  · rw [List.length_append]; omega
  · simp
/-- a macroblock -/
def side (e : Bool) : Int := if e then 8 else 4
def mbOk (e : Bool) (bs : List (Int × List Int)) (xs : List Int) : Prop := (bs.length : Int) = 64 / (side e * side e) ∧ ∀ j : Nat, j < bs.length → blockOk (bs.getD j default).1 (bs.getD j default).2 xs (side e)
instance (e : Bool) (bs : List (Int × List Int)) (xs : List Int) : Decidable (mbOk e bs xs) := by unfold mbOk; infer_instance
def mbBits (e : Bool) (bs : List (Int × List Int)) (xs : List Int) : List Int := if mbOk e bs xs then [flag e] ++ bs.flatMap (fun b => blockBits b.1 b.2 xs (side e)) else []
/-- a table's number out of a cache, else bit by bit -/
def fuIx (s : ByteArray) (c : Ca) : Nat := (bitsOf s (8 * c.pos - c.hv) 9).toNat
def fuHit (s : ByteArray) (c : Ca) (t : List (Int × Int)) : Prop := t.length = 512 ∧ 1 ≤ (t.getD (fuIx s c) default).1 ∧ (t.getD (fuIx s c) default).1 ≤ 9
instance (s : ByteArray) (c : Ca) (t : List (Int × Int)) : Decidable (fuHit s c t) := by unfold fuHit; infer_instance
def fuE (s : ByteArray) (c : Ca) (t : List (Int × Int)) : Int :=
  if ¬ caOk s c then 1 else if fuHit s c t then (if 8 * c.pos - c.hv + (t.getD (fuIx s c) default).1 > 8 * s.size then 1 else 0) else ueE s (8 * c.pos - c.hv)
def fuAt (s : ByteArray) (c : Ca) (t : List (Int × Int)) : Int := if fuHit s c t then 8 * c.pos - c.hv + (t.getD (fuIx s c) default).1 else ueAt s (8 * c.pos - c.hv)
def fuC (s : ByteArray) (c : Ca) (t : List (Int × Int)) : Ca := if fuE s c t = 0 then settledAt s (fuAt s c t) else c
def fuV (s : ByteArray) (c : Ca) (t : List (Int × Int)) : Int := if fuE s c t = 0 then (if fuHit s c t then (t.getD (fuIx s c) default).2 else ueV s (8 * c.pos - c.hv)) else 0
theorem fu_peek {s : ByteArray} {c : Ca} (h : caOk s c) : peekV s c 9 = fuIx s c ∧ 0 ≤ peekV s c 9 ∧ peekV s c 9 < 512 := by
  have hk : okN s c 9 := ⟨h, by omega, by omega⟩
  have h7 := bitsOf_range s (8 * c.pos - c.hv) 9
  have e : peekV s c 9 = bitsOf s (8 * c.pos - c.hv) 9 := by unfold peekV; rw [if_pos hk]; rfl
  have e9 : (2 : Int) ^ 9 = 512 := rfl
  rw [e]; refine ⟨?_, h7.1, by omega⟩
  unfold fuIx; omega
theorem fu_skip {s : ByteArray} {c : Ca} {n : Int} (h : caOk s c) (hn : 1 ≤ n ∧ n ≤ 9) : (skOk s (peekC s c 9) n ↔ 8 * c.pos - c.hv + n ≤ 8 * s.size) ∧ (skOk s (peekC s c 9) n → settleOf s (skC s (peekC s c 9) n) = settledAt s (8 * c.pos - c.hv + n)) := by
  have hk : okN s c 9 := ⟨h, by omega, by omega⟩
  have hp := peek_place hk
  have hin := place_in h
  have h2 := sk_iff (c := peekC s c 9) (n := n) ⟨hp.1, by omega, by omega⟩
  rw [hp.2] at h2
  refine ⟨?_, fun h3 => ?_⟩
  · rw [h2]
    constructor
    · intro h4; have := h4.2.2; rw [remOf_in hin] at this; omega
    · intro h4; exact ⟨hin, by omega, by rw [remOf_in hin]; omega⟩
  · have h4 := sk_ok h3
    unfold settleOf; rw [if_pos h4.1, h4.2, hp.2]
theorem ueAt_in {s : ByteArray} {a : Int} (h : 0 ≤ a ∧ a ≤ 8 * s.size) : a ≤ ueAt s a ∧ ueAt s a ≤ 8 * s.size := by
  have hz := zerosOf_range s a
  unfold ueAt; split
  · next h1 => have := h1.2.2.2; rw [remOf_in h] at this; omega
  · omega
end Go.Pl
