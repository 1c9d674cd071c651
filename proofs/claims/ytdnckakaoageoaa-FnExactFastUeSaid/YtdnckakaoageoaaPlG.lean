/- Plain numbers: headers and blocks as bits, joined. -/
import Derived.Test.YtdnckakaoageoaaPlF
namespace Go.Pl
open Go.Sx
def headA (a b q : Int) (y z : Bool) : List Int := bitsIn 183 8 ++ ueBits (a / 8 - 1) ++ ueBits (b / 8 - 1) ++ bitsIn q 6 ++ [flag y, flag z]
theorem headA_len (a b q : Int) (y z : Bool) : (headA a b q y z).length ≤ 200 := by
  have h1 := (bitsIn_len 183 8).1; have h2 := ueBits_le (a / 8 - 1); have h3 := ueBits_le (b / 8 - 1); have h4 := (bitsIn_len q 6).1
  unfold headA; simp only [List.length_append, List.length_cons, List.length_nil]; omega
theorem headBits_yes {a b q : Int} {y z : Bool} {xs : List Int} (h : headOk a b q xs) {k : Nat} (hk : k = xs.length) : headBits a b q y z xs = headA a b q y z ++ fieldsOf xs k := by
  unfold headBits headA fieldsOf; rw [if_pos h, hk, List.take_length]
theorem fieldsOf_succ {xs : List Int} {k : Nat} (h : k < xs.length) : fieldsOf xs (k + 1) = fieldsOf xs k ++ bitsIn (xs.getD k 0) 3 := flat_take_succ _ xs h
theorem fieldsOf_len (xs : List Int) (k : Nat) : (fieldsOf xs k).length ≤ 48 * k := flat_take_le _ (fun x => (bitsIn_len x 3).1) xs k
theorem fieldsOf_zero (xs : List Int) : fieldsOf xs 0 = [] := by simp [fieldsOf]
theorem headBits_len (a b q : Int) (y z : Bool) (xs : List Int) : (headBits a b q y z xs).length ≤ 600 := by
  by_cases h : headOk a b q xs
  · rw [headBits_yes h rfl, List.length_append]
    have h1 := headA_len a b q y z; have h2 := fieldsOf_len xs xs.length; have h3 := h.2.2.2.1
    omega
  · rw [headBits_no h]; simp
theorem bitsl_pad {m : Int} {w : Nat} (h : 0 ≤ m ∧ m < 2 ^ w) : ∀ k : Nat, bitsl m (w + k) = List.replicate k 0 ++ bitsl m w
  | 0 => by simp
  | k + 1 => by
    have ih := bitsl_pad h k
    have h2 := two_pow_le (n := w) (m := w + k) (by omega)
    show bitsl m (w + k + 1) = _
    rw [bitsl, ih, Int.ediv_eq_zero_of_lt h.1 (by omega)]; rfl
theorem ueBits_zeros {n : Int} (h : 0 ≤ n ∧ n ≤ 65534) : ueBits n = List.replicate (lz n).toNat 0 ++ bitsIn (n + 1) (lz n + 1) := by
  have h1 := lz_spec h.1
  have h2 := lz_range h
  have e1 : (lz n + 1).toNat = (lz n).toNat + 1 := by omega
  have hb : bitOk (lz n + 1) (n + 1) := ⟨by omega, by omega, by rw [e1]; exact Int.ediv_eq_zero_of_lt (by omega) h1.2⟩
  rw [ueBits_eq h, show 2 * (lz n).toNat + 1 = ((lz n).toNat + 1) + (lz n).toNat by omega, bitsl_pad ⟨by omega, h1.2⟩]
  unfold bitsIn; rw [if_pos hb, e1]
theorem flat3 (a b c : Li) : [a, b, c].flatMap Li.xs = a.xs ++ b.xs ++ c.xs := by simp
theorem flat5 (a b c d e : Li) : [a, b, c, d, e].flatMap Li.xs = a.xs ++ b.xs ++ c.xs ++ d.xs ++ e.xs := by simp
theorem own_eq {w : World} {p : Option Addr} {c : Nat} {e : TypeId} {F : List Nat} {xs ys : List Int} (h : xs = ys) (o : Own w p xs.length c e 1 (ic xs) F) : Own w p ys.length c e 1 (ic ys) F := h ▸ o
theorem pairs_end {ys : List Int} {k : Nat} (h : 0 < k → levelsOk ys) (hk : k = ys.length ∨ ¬ levelsOk ys) : pairsOf ys = (prS ys k).1 := by
  rcases Nat.eq_zero_or_pos k with h0 | h0
  · subst h0
    by_cases hl : levelsOk ys
    · rcases hk with h1 | h1
      · exact pairs_yes hl h1
      · exact absurd hl h1
    · rw [pairs_no hl]; rfl
  · rcases hk with h1 | h1
    · exact pairs_yes (h h0) h1
    · exact absurd (h h0) h1
def blockA (m : Int) (ys xs : List Int) : List Int := symBits xs m ++ ([1] ++ ueBits ((pairsOf ys).length - 1))
theorem blockA_len (m : Int) (ys xs : List Int) : (blockA m ys xs).length ≤ 100 := by
  have h1 := symBits_le xs m; have h2 := ueBits_le ((pairsOf ys).length - 1)
  unfold blockA; simp only [List.length_append, List.length_cons, List.length_nil]; omega
theorem block_none {m n : Int} {ys xs : List Int} (h : blockOk m ys xs n) (h0 : (pairsOf ys).length = 0) : blockBits m ys xs n = symBits xs m ++ [0] := by
  unfold blockBits levelBits; rw [if_pos h, if_pos h0]
theorem block_some {m n : Int} {ys xs : List Int} (h : blockOk m ys xs n) (h0 : (pairsOf ys).length ≠ 0) {k : Nat} (hk : k = (pairsOf ys).length) : blockBits m ys xs n = blockA m ys xs ++ ((pairsOf ys).take k).flatMap pairBits := by
  unfold blockBits levelBits blockA; rw [if_pos h, if_neg h0, hk, List.take_length]; simp
theorem pairsBits_len (ys : List Int) (k : Nat) : (((pairsOf ys).take k).flatMap pairBits).length ≤ 62 * k := flat_take_le _ pairBits_le _ k
theorem map_getD {α β : Type} [Inhabited α] [Inhabited β] (f : α → β) {xs : List α} {j : Nat} (h : j < xs.length) : (xs.map f).getD j default = f (xs.getD j default) := by
  simp [List.getD, h]
def manyOf (e : Bool) : Int := if e then 1 else 4
theorem many_eq (e : Bool) : 64 / (side e * side e) = manyOf e := by cases e <;> decide
theorem side_in (e : Bool) : side e = 4 ∨ side e = 8 := by cases e <;> decide
theorem mb_iff {e : Bool} {bs : List Bk} {xs : List Int} : mbOk e (bs.map Bk.pl) xs ↔ (bs.length : Int) = manyOf e ∧ ∀ j : Nat, j < bs.length → blockOk (bs.getD j default).mode (bs.getD j default).lv xs (side e) := by
  unfold mbOk
  rw [List.length_map, many_eq]
  constructor
  · rintro ⟨h1, h2⟩
    refine ⟨h1, fun j hj => ?_⟩
    have h3 := h2 j hj
    rw [map_getD _ hj] at h3; exact h3
  · rintro ⟨h1, h2⟩
    refine ⟨h1, fun j hj => ?_⟩
    rw [map_getD _ hj]; exact h2 j hj
end Go.Pl
