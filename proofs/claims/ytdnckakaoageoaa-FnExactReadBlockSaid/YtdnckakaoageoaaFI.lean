/- What each function of this part returns, for every argument that meets its premises. -/
import Derived.Test.YtdnckakaoageoaaFH
import Derived.Test.YtdnckakaoageoaaPlY
namespace Go.Proofs.Ytdnckakaoageoaa
open Go.Sx Go.Pl Go.RowKit

theorem pick_le {xs : List Int} {x lo hi : Int} (h : ∃ j : Nat, j < xs.length ∧ x = xs.getD j 0) (hb : ∀ y ∈ xs, lo ≤ y ∧ y ≤ hi) : lo ≤ x ∧ x ≤ hi := by
  obtain ⟨j, hj, rfl⟩ := h
  refine hb _ ?_
  rw [List.getD_eq_getElem?_getD, List.getElem?_eq_getElem hj]; exact List.getElem_mem hj
theorem mul_4 {a b : Int} (ha : -4 ≤ a ∧ a ≤ 4) (hb : 0 ≤ b ∧ b ≤ 1048576) : -4194304 ≤ a * b ∧ a * b ≤ 4194304 := by
  have h1 := Int.mul_le_mul_of_nonneg_right ha.1 hb.1
  have h2 := Int.mul_le_mul_of_nonneg_right ha.2 hb.1
  omega

end Go.Proofs.Ytdnckakaoageoaa
