/- What each function of this part returns, for every argument that meets its premises. -/
import Derived.Test.YtepnknffaecbdaaProg
import Derived.Test.YtepnknffaecbdaaVSxF
import Derived.Test.YtepnknffaecbdaaVPlX
import Derived.Test.YtepnknffaecbdaaVF1
import Derived.Test.YtepnknffaecbdaaVF7
namespace Go.Proofs.Ytepnknffaecbdaa
open Go.Sx Go.Pl Go.RowKit
/-- marked up to j, the rest as it was -/
def mkU {α : Type} (ms xs : List α) (j : Nat) : List α := ms.take j ++ xs.drop j
theorem mkU_zero {α : Type} (ms xs : List α) : mkU ms xs 0 = xs := by simp [mkU]
theorem mkU_length {α : Type} {ms xs : List α} (h : ms.length = xs.length) (j : Nat) : (mkU ms xs j).length = xs.length := by simp [mkU]; omega
theorem mkU_end {α : Type} {ms xs : List α} (h : ms.length = xs.length) : mkU ms xs xs.length = ms := by
  simp [mkU, List.take_of_length_le (by omega : ms.length ≤ xs.length)]
theorem mkU_succ {α : Type} {ms xs : List α} {j : Nat} {v : α} (h : ms.length = xs.length) (hj : j < xs.length) (hv : ms[j]? = some v) : (mkU ms xs j).set j v = mkU ms xs (j + 1) := by
  apply List.ext_getElem?
  intro i
  have ht : (ms.take j).length = j := by rw [List.length_take]; omega
  have ht1 : (ms.take (j + 1)).length = j + 1 := by rw [List.length_take]; omega
  rw [List.getElem?_set, mkU_length h]
  unfold mkU
  by_cases hij : j = i
  · subst hij
    rw [if_pos rfl, if_pos hj, List.getElem?_append_left (by omega), List.getElem?_take, if_pos (by omega), hv]
  · rw [if_neg hij]
    rcases Nat.lt_or_ge i j with h1 | h1
    · rw [List.getElem?_append_left (by omega), List.getElem?_append_left (by omega), List.getElem?_take, List.getElem?_take, if_pos h1, if_pos (by omega)]
    · rw [List.getElem?_append_right (by omega), List.getElem?_append_right (by omega), ht, ht1, List.getElem?_drop, List.getElem?_drop]
      congr 1; omega
end Go.Proofs.Ytepnknffaecbdaa
