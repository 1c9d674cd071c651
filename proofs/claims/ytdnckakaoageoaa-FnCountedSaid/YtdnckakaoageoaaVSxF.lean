/- A slice of one's own, cut back to nothing. -/
import Derived.Test.YtdnckakaoageoaaVSxE
namespace Go.Sx
open Go.RowKit
section
variable {E : Env} {i1 i2 i3 i4 i5 i6 i7 i8 i9 i10 i11 i12 i13 i14 i15 : Nat} {v1 v2 v3 v4 v5 v6 v7 v8 v9 v10 v11 v12 v13 v14 v15 : Value}
end
theorem cutp_zero {g c : Nat} : cutp (some ⟨g, 0, none⟩) c 0 1 = some ⟨g, 0, none⟩ := by
  unfold cutp
  split
  · rfl
  · simp [Addr.add]
theorem Own.cut0 {w : World} {p : Option Addr} {n c : Nat} {e : TypeId} {cells : List Value} {F : List Nat} (h : Own w p n c e 1 cells F) : Own w (cutp p c 0 1) 0 (c - 0) e 1 (ic []) F := by
  obtain ⟨h1, h2⟩ := h
  rcases h2 with ⟨rfl, rfl, rfl, h3⟩ | ⟨g, cur, rfl, rfl, hg, hnc, hcm, hcs, htake⟩
  · exact ⟨rfl, .inl ⟨rfl, rfl, rfl, fun _ => rfl⟩⟩
  · refine ⟨rfl, .inr ⟨g, cur, rfl, cutp_zero, hg, Nat.zero_le _, hcm, hcs, by simp [ic]⟩⟩
/-- slices of numbers that can be read -/
def RdL (w : World) (p : Option Addr) (n c : Nat) (ls : List Li) : Prop := Sl w p n c 1 (ls.flatMap lrow) ∧ ∀ x ∈ ls, Sl w x.p x.xs.length x.c 1 (ic x.xs)
theorem RdL.ext {w w' : World} {p : Option Addr} {n c : Nat} {ls : List Li} (h : RdL w p n c ls) (k : Ext w w') : RdL w' p n c ls := ⟨h.1.ext k, fun x hx => (h.2 x hx).ext k⟩
section
variable {P : Program} {n : Nat} {E : Env} {ty T : TypeId} {x hi : Operand}
theorem x_capsl {e : TypeId} {base : Option Addr} {m c : Nat} (hT : P.underlying T = some (.slice e)) (hx : opd n E x = .slice base m c) : X0 P n E (.call { callee := .builtin .cap, args := [x].toArray, argTypes := [T].toArray }) ty (.int .i64 c) := by
  intro w dst pos after g
  simp [execOp, eval_mk, hx, resolve, invoke, builtin, Builtin.cap_, run_underlying hT, goInt]
theorem x_nilcut {e bytes : Nat} {k : IntKind} (hT : SliceOf P T e 1 bytes) (hx : opd n E x = .slice none 0 0) (hh : opd n E hi = .int k 0) : X0 P n E (.slice T x none (some hi) none) ty (.slice none 0 0) := by
  intro w
  have h := x_cuthr (P := P) (n := n) (E := E) (ty := ty) (T := T) (e := e) (bytes := bytes) (x := x) (hi := hi) (xs := ([] : List Int)) (w' := w) hT (Sl.r Sl.nil') rfl hx hh (by omega) (by omega) w
  exact h
end
theorem three {α : Type} {φ : α → Prop} {a b c : α} (h1 : φ a) (h2 : φ b) (h3 : φ c) : ∀ x ∈ [a, b, c], φ x := by
  intro x hx
  simp only [List.mem_cons, List.not_mem_nil, or_false] at hx
  rcases hx with rfl | rfl | rfl <;> assumption
end Go.Sx
