/- Small endings of a walk. -/
import Derived.Test.YtepnknffaecbdaaVSx6
namespace Go.Sx
section
variable {P : Program} {ops : Array Oper} {Q : Exit → Act → World → Prop} {rest : List Oper} {n d : Nat} {E : Env} {op : Op} {ty T : TypeId} {pos : String} {after : Array Edge} {w : World} {v v1 v2 : Value} {f : FuncId} {vs : List Value}
/-- a loaded test parts the walk -/
theorem sbl {p : Prop} [Decidable p] (hx : X P n E op ty w (.bool (decide p)) w) (kt : p → WL P ops Q rest (mk n (upd E d (.bool true))) w) (kf : ¬ p → WL P ops Q rest (mk n (upd E d (.bool false))) w) :
    WL P ops Q (⟨some d, op, ty, pos, after, none⟩ :: rest) (mk n E) w := by
  refine st hx ?_
  by_cases h : p
  · rw [decide_eq_true h]; exact kt h
  · rw [decide_eq_false h]; exact kf h
/-- how a struct is put together: its zero value, and where its fields lie -/
def Built (P : Program) (T : TypeId) (zs : List Value) (places : Array (Nat × Nat)) : Prop :=
  ∃ fs, P.underlying T = some (.struct fs) ∧ ZeroV P T zs ∧ ∀ w, (fs.mapM fun f => do pure (f.offset, ← sizeOf f.type) : Sem (Array (Nat × Nat))).run P w = .ok places w
/-- the parts of a struct, looked up -/
def Pts (n : Nat) (E : Env) (ps : List (Nat × Operand)) (vs : List (Nat × Value)) : Prop := ps.map (fun q => (q.1, opd n E q.2)) = vs
theorem pts_nil {n : Nat} {E : Env} : Pts n E [] [] := rfl
theorem pts_cons {n i : Nat} {E : Env} {x : Operand} {v : Value} {ps : List (Nat × Operand)} {vs : List (Nat × Value)} (h : opd n E x = v) (t : Pts n E ps vs) : Pts n E ((i, x) :: ps) ((i, v) :: vs) := by
  unfold Pts at *; simp [h, t]
theorem x_build {zs cs : List Value} {places : Array (Nat × Nat)} {parts : List (Nat × Operand)} {vs : List (Nat × Value)} (hb : Built P T zs places) (hp : Pts n E parts vs) (hf : Instr.fill (places[·]?) zs.toArray vs = some cs.toArray) :
    X0 P n E (.build T parts.toArray) ty (.agg cs.toArray) := by
  intro w dst pos after g
  obtain ⟨fs, hu, hz, hq⟩ := hb
  unfold ZeroV at hz
  obtain ⟨zv, h4, h5⟩ := Option.map_eq_some_iff.1 hz
  obtain ⟨i, h2, h3⟩ := Option.bind_eq_some_iff.1 h4
  have hp1 := hq w
  unfold Pts at hp
  simp only [execOp, eval_mk, Instr.build, zeroValue, typeInfo, Sem.run_bind, run_program, Result.andThen_ok, h2, Sem.run_pure, h3, run_underlying hu, hp1]
  simp [h5, hf, hp]
end

theorem ret_int {a b : Int} (h : a = b) : Ending.returned (.int .i64 a) = .returned (.int .i64 b) := by rw [h]
theorem vint {a b : Int} (h : a = b) : Value.int .i64 a = .int .i64 b := by rw [h]
theorem ret_t {p : Prop} [Decidable p] (h : p) : Ending.returned (.bool true) = .returned (.bool (decide p)) := by simp [h]
theorem ret_f {p : Prop} [Decidable p] (h : ¬ p) : Ending.returned (.bool false) = .returned (.bool (decide p)) := by simp [h]
theorem ret_dec2 {p q : Prop} [Decidable p] [Decidable q] (h : p ↔ q) : Ending.returned (.bool (decide p)) = .returned (.bool (decide q)) := by simp [h]
end Go.Sx
