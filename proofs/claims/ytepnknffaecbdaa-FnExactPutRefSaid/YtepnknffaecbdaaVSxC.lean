/- Structs compared. -/
import Derived.Test.YtepnknffaecbdaaVSxB
import Derived.Laws.StructEq
namespace Go.Sx
open Go.RowKit
section
variable {P : Program} {n : Nat} {E : Env} {ty T T' : TypeId} {x y : Operand} {w : World}
/-- fields compared one behind the other -/
def FE (P : Program) (fs : List Field) (xs ys : Array Value) (p : Prop) [Decidable p] : Prop := ∀ d w, (Op.eqFields (d + 1) xs ys fs).run P w = .ok (decide p) w
def StEq (P : Program) (T : TypeId) (xs ys : List Value) (p : Prop) [Decidable p] : Prop :=
  ∃ fs, P.underlying T = some (.struct fs) ∧ P.stoodInHeld T = false ∧ P.eqGuardType P.depth T = false ∧ FE P fs.toList xs.toArray ys.toArray p
theorem StEq.run {xs ys : List Value} {p : Prop} [Decidable p] (h : StEq P T xs ys p) (w : World) : (Op.equalIn 10000 T (.agg xs.toArray) (.agg ys.toArray)).run P w = .ok (decide p) w := by
  obtain ⟨fs, hu, h2, h3, h4⟩ := h
  have hf : P.fieldsOf T = fs := by unfold Program.fieldsOf; rw [hu]
  rw [run_equalIn_struct w 9999 T _ _ (by rw [hf]; exact hu) h2, hf]
  exact h4 9998 w
end
end Go.Sx
