/- What each function of this part returns, for every argument that meets its premises. -/
import Derived.Test.YtnehdmcilmlchaaProg
import Derived.Test.YtnehdmcilmlchaaVSxF
import Derived.Test.YtnehdmcilmlchaaVPlX
namespace Go.Proofs.Ytnehdmcilmlchaa
open Go.Sx Go.Pl Go.RowKit
theorem map_ext {α β : Type} [Inhabited α] {f : α → β} {xs ys : List α} (hl : xs.length = ys.length) (h : ∀ j : Nat, j < xs.length → f (xs.getD j default) = f (ys.getD j default)) : xs.map f = ys.map f := by
  apply List.ext_getElem
  · simp [hl]
  · intro j h1 h2
    have := h j (by simpa using h1)
    have h3 : j < xs.length := by simpa using h1
    have h4 : j < ys.length := by simpa using h2
    simpa [List.getD, h3, h4] using this
theorem upto_succ' {φ : Nat → Prop} {k : Nat} (h : ∀ j : Nat, j < k → φ j) (h1 : φ k) : ∀ j : Nat, j < k + 1 → φ j := fun j hj => by
  rcases Nat.lt_or_ge j k with h2 | h2
  · exact h j h2
  · obtain rfl : j = k := by omega
    exact h1

end Go.Proofs.Ytnehdmcilmlchaa
