/- Structs compared. -/
import Derived.Test.YtnehdmcilmlchaaVSxB
import Derived.Laws.StructEq
namespace Go.Sx
open Go.RowKit
section
variable {P : Program} {n : Nat} {E : Env} {ty T T' : TypeId} {x y : Operand} {w : World}
theorem part_sc {xs : Array Value} {o : Nat} {v : Value} (h : Sc P T) (hv : xs[o]? = some v) : (part T xs o).run P w = .ok v w := by
  unfold part
  simp [run_isAgg_sc h, hv]
/-- fields compared one behind the other -/
def FE (P : Program) (fs : List Field) (xs ys : Array Value) (p : Prop) [Decidable p] : Prop := ∀ d w, (Op.eqFields (d + 1) xs ys fs).run P w = .ok (decide p) w
theorem fe_nil {xs ys : Array Value} : FE P [] xs ys True := fun d w => by simp [Op.eqFields]
theorem fe_step {f : Field} {fs : List Field} {xs ys : Array Value} {a b : Value} {p q : Prop} [Decidable p] [Decidable q] (hn : f.name ≠ "_") (hT : Sc P f.type) (ha : xs[f.offset]? = some a) (hb : ys[f.offset]? = some b)
    (he : ∀ d w, (Op.equalIn (d + 1) f.type a b).run P w = .ok (decide p) w) (t : FE P fs xs ys q) : FE P (f :: fs) xs ys (p ∧ q) := fun d w => by
  unfold Op.eqFields
  rw [if_pos hn]
  simp only [Sem.run_bind, part_sc hT ha, part_sc hT hb, Result.andThen_ok, he, Sem.run_ite]
  by_cases hp : p
  · simp [hp, t d w]
  · simp [hp]
theorem fe_int {f : Field} {fs : List Field} {xs ys : Array Value} {k k' : IntKind} {a b : Int} {q : Prop} [Decidable q] (hn : f.name ≠ "_") (hT : Sc P f.type) (hu : P.underlying f.type = some (.int k')) (ha : xs[f.offset]? = some (.int k a)) (hb : ys[f.offset]? = some (.int k b)) (t : FE P fs xs ys q) : FE P (f :: fs) xs ys (a = b ∧ q) :=
  fe_step hn hT ha hb (fun d w => by rw [run_equalIn_int (h := hu)]; congr 1) t
def StEq (P : Program) (T : TypeId) (xs ys : List Value) (p : Prop) [Decidable p] : Prop :=
  ∃ fs, P.underlying T = some (.struct fs) ∧ P.stoodInHeld T = false ∧ P.eqGuardType P.depth T = false ∧ FE P fs.toList xs.toArray ys.toArray p
theorem StEq.run {xs ys : List Value} {p : Prop} [Decidable p] (h : StEq P T xs ys p) (w : World) : (Op.equalIn 10000 T (.agg xs.toArray) (.agg ys.toArray)).run P w = .ok (decide p) w := by
  obtain ⟨fs, hu, h2, h3, h4⟩ := h
  have hf : P.fieldsOf T = fs := by unfold Program.fieldsOf; rw [hu]
  rw [run_equalIn_struct w 9999 T _ _ (by rw [hf]; exact hu) h2, hf]
  exact h4 9998 w
theorem x_neqa {xs ys : List Value} {p : Prop} [Decidable p] (h : StEq P T xs ys p) (hx : opd n E x = .agg xs.toArray) (hy : opd n E y = .agg ys.toArray) : X0 P n E (.binOp .neq T x y T') ty (.bool (decide (¬ p))) :=
  x_bin hx hy (fun w => by obtain ⟨_, _, _, h3, _⟩ := h; exact run_eqGuard_agg w _ _ _ _ _ _ h3) fun w => by rw [run_neq_struct, h.run]; simp
end
theorem ok_one {P : Program} {W : World} {r : Reach} {base : Nat} {t e : TypeId} {v : Value} (hu : P.underlying t = some (.slice e)) (h : Value.okWide P W r base t v) : v.cells = #[v] := by
  unfold Value.okWide at h
  rw [hu] at h
  simp only at h
  cases v with
  | agg cs => unfold Cell.okWide at h; rw [hu] at h; simp only at h; unfold Cell.ok at h; rw [hu] at h; simp_all
  | _ => rfl
end Go.Sx
