/- Small endings of a walk. -/
import Derived.Test.YtdnckakaoageoaaVSx6
namespace Go.Sx
section
variable {P : Program} {ops : Array Oper} {Q : Exit → Act → World → Prop} {rest : List Oper} {n d : Nat} {E : Env} {op : Op} {ty T : TypeId} {pos : String} {after : Array Edge} {w : World} {v v1 v2 : Value} {f : FuncId} {vs : List Value}
/-- a loaded test parts the walk -/
theorem sbl {p : Prop} [Decidable p] (hx : X P n E op ty w (.bool (decide p)) w) (kt : p → WL P ops Q rest (mk n (upd E d (.bool true))) w) (kf : ¬ p → WL P ops Q rest (mk n (upd E d (.bool false))) w) :
    WL P ops Q (⟨some d, op, ty, pos, after, none⟩ :: rest) (mk n E) w := by
  refine st hx ?_
  by_cases h : p
  · rw [decide_eq_true h]; exact kt h
  · rw [decide_eq_false h]; exact kf h
/-- the parts of a struct, looked up -/
def Pts (n : Nat) (E : Env) (ps : List (Nat × Operand)) (vs : List (Nat × Value)) : Prop := ps.map (fun q => (q.1, opd n E q.2)) = vs
theorem pts_nil {n : Nat} {E : Env} : Pts n E [] [] := rfl
theorem pts_cons {n i : Nat} {E : Env} {x : Operand} {v : Value} {ps : List (Nat × Operand)} {vs : List (Nat × Value)} (h : opd n E x = v) (t : Pts n E ps vs) : Pts n E ((i, x) :: ps) ((i, v) :: vs) := by
  unfold Pts at *; simp [h, t]
end

theorem ret_int {a b : Int} (h : a = b) : Ending.returned (.int .i64 a) = .returned (.int .i64 b) := by rw [h]
theorem vint {a b : Int} (h : a = b) : Value.int .i64 a = .int .i64 b := by rw [h]
theorem ret_t {p : Prop} [Decidable p] (h : p) : Ending.returned (.bool true) = .returned (.bool (decide p)) := by simp [h]
theorem ret_f {p : Prop} [Decidable p] (h : ¬ p) : Ending.returned (.bool false) = .returned (.bool (decide p)) := by simp [h]
theorem ret_dec2 {p q : Prop} [Decidable p] [Decidable q] (h : p ↔ q) : Ending.returned (.bool (decide p)) = .returned (.bool (decide q)) := by simp [h]
end Go.Sx
