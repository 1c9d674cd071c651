/- Plain numbers: the table of numbers' codes. -/
import Derived.Test.YtdnckakaoageoaaPl6
namespace Go.Pl
theorem bitsIn_no {n w : Int} (h : ¬ bitOk w n) : bitsIn n w = [] := by unfold bitsIn; rw [if_neg h]
theorem bitsIn_yes {n w : Int} {k : Nat} (h : bitOk w n) (hk : (k : Int) = w) : bitsIn n w = (bitsl n w.toNat).take k := by
  unfold bitsIn; rw [if_pos h, List.take_of_length_le (by rw [bitsl_length]; omega)]
theorem bitsl_take {n w : Int} {k : Nat} (h : (k : Int) < w) : (bitsl n w.toNat).take (k + 1) = (bitsl n w.toNat).take k ++ [n / 2 ^ (w - 1 - k).toNat % 2] := by
  have key : ∀ (m k : Nat), k < m → (bitsl n m).take (k + 1) = (bitsl n m).take k ++ [n / 2 ^ (m - 1 - k) % 2] := by
    intro m
    induction m with
    | zero => intro k hk; omega
    | succ m ih =>
      intro k hk
      cases k with
      | zero => simp [bitsl]
      | succ k =>
        simp only [bitsl, List.take_succ_cons, List.cons_append]
        rw [ih k (by omega), show m + 1 - 1 - (k + 1) = m - 1 - k by omega]
  rw [key w.toNat k (by omega)]
  congr 5; omega
def ueEnt (i : Nat) : Int × Int :=
  if ueE (packs (bitsl i 9 ++ List.replicate 7 0)) 0 = 0 ∧ ueAt (packs (bitsl i 9 ++ List.replicate 7 0)) 0 ≤ 9 then (ueAt (packs (bitsl i 9 ++ List.replicate 7 0)) 0, ueV (packs (bitsl i 9 ++ List.replicate 7 0)) 0) else (0, 0)
def ueU (k : Nat) : List (Int × Int) := (List.range k).map ueEnt ++ List.replicate (512 - k) (0, 0)
def ueTab : List (Int × Int) := (List.range 512).map ueEnt
theorem ueU_length {k : Nat} (h : k ≤ 512) : (ueU k).length = 512 := by simp [ueU]; omega
theorem ueU_zero : ueU 0 = List.replicate 512 (0, 0) := by simp only [ueU, List.range_zero, List.map_nil, List.nil_append, Nat.sub_zero]
theorem ueU_end : ueU 512 = ueTab := by simp [ueU, ueTab]
theorem ueU_succ {k : Nat} (h : k < 512) : ueU (k + 1) = (ueU k).set k (ueEnt k) := by
  apply List.ext_getElem?
  intro i
  have hr : (List.map ueEnt (List.range k)).length = k := by simp
  have hr1 : (List.map ueEnt (List.range (k + 1))).length = k + 1 := by simp
  rw [List.getElem?_set]
  by_cases hik : k = i
  · subst hik
    rw [if_pos rfl, if_pos (by rw [ueU_length (by omega)]; exact h)]
    unfold ueU
    rw [List.getElem?_append_left (by omega)]
    simp
  · rw [if_neg hik]
    unfold ueU
    rcases Nat.lt_or_ge i k with h1 | h1
    · rw [List.getElem?_append_left (by omega), List.getElem?_append_left (by omega)]
      simp [h1, show i < k + 1 by omega]
    · rw [List.getElem?_append_right (by omega), List.getElem?_append_right (by omega), hr, hr1, List.getElem?_replicate, List.getElem?_replicate]
      by_cases h2 : i < 512
      · rw [if_pos (by omega), if_pos (by omega)]
      · rw [if_neg (by omega), if_neg (by omega)]
theorem ueU_skip {k : Nat} (h : k < 512) (he : ueEnt k = (0, 0)) : ueU (k + 1) = ueU k := by
  rw [ueU_succ h, he]
  apply List.ext_getElem?
  intro i
  rw [List.getElem?_set]
  by_cases hik : k = i
  · subst hik
    rw [if_pos rfl, if_pos (by rw [ueU_length (by omega)]; exact h)]
    unfold ueU
    rw [List.getElem?_append_right (by simp), List.length_map, List.length_range, Nat.sub_self, List.getElem?_replicate, if_pos (by omega)]
  · rw [if_neg hik]
/-- the table, filled number by number -/
def ueFill (t : List (Int × Int)) (n : Nat) : Nat → List (Int × Int)
  | 0 => t
  | k + 1 => (ueFill t n k).set ((n + 1) * 2 ^ (9 - ueSize n).toNat + k) (ueSize n, (n : Int))
def ueT : Nat → List (Int × Int)
  | 0 => List.replicate 512 (0, 0)
  | n + 1 => ueFill (ueT n) n (2 ^ (9 - ueSize n).toNat)
theorem ueFill_length (t : List (Int × Int)) (n k : Nat) : (ueFill t n k).length = t.length := by induction k with
  | zero => rfl
  | succ k ih => simp [ueFill, ih]
theorem ueT_length (n : Nat) : (ueT n).length = 512 := by induction n with
  | zero => exact List.length_replicate
  | succ n ih => rw [ueT, ueFill_length, ih]
theorem ueSize_small : ∀ n : Fin 31, 1 ≤ ueSize (n.1 : Int) ∧ ueSize (n.1 : Int) ≤ 9 ∧ (n.1 + 1) * 2 ^ (9 - ueSize (n.1 : Int)).toNat + 2 ^ (9 - ueSize (n.1 : Int)).toNat ≤ 512 := by decide +kernel
theorem ueSize_31 : ueSize 31 = 11 := by decide +kernel
theorem ueT_tab : ueT 31 = ueTab := by decide +kernel
end Go.Pl
