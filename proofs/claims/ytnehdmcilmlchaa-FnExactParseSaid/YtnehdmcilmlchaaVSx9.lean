/- Opening slices among a law's arguments. -/
import Derived.Test.YtnehdmcilmlchaaVSx8
namespace Go.Sx
open Go.RowKit
section rows
variable {α : Type} {f : α → List Value} {sz : Nat}
theorem rows_length (hf : ∀ x, (f x).length = sz) (xs : List α) : (xs.flatMap f).length = xs.length * sz := by
  induction xs with
  | nil => simp
  | cons x xs ih => rw [List.flatMap_cons, List.length_append, ih, hf, List.length_cons, Nat.add_mul]; omega
end rows
section opening
variable {H : Type} {enc : TypeId × Value → H} {P : Program} {W : World} {t : TypeId} {cs : List Value}
theorem flat_ic (xs : List Int) : xs.flatMap (fun x => [Value.int .i64 x]) = ic xs := by
  induction xs with
  | nil => rfl
  | cons x xs ih => rw [List.flatMap_cons, ih]; rfl
end opening
end Go.Sx
