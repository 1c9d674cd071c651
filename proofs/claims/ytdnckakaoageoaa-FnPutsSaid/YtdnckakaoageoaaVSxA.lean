/- Calls that turn some blocks, bytes, and slices of structs. -/
import Derived.Test.YtdnckakaoageoaaVSx9
namespace Go.Sx
open Go.RowKit
/-- a function that returns v with φ, and turns only the blocks M -/
def RetM (M : List Nat) (w : World) (φ : Value → World → Prop) : Ending → World → Prop := fun e w' => ∃ v, e = .returned v ∧ Exm M w w' ∧ φ v w'
section
variable {P : Program} {ops : Array Oper} {Q : Exit → Act → World → Prop} {rest : List Oper} {n d : Nat} {E : Env} {op : Op} {ty T T' e : TypeId} {pos : String} {after : Array Edge} {w : World} {x y : Operand} {f : FuncId} {vs : List Value}
theorem spm {M : List Nat} {φ : Value → World → Prop} (hz : Z P n E op ty f vs) (hc : Calls P f vs.toArray w (RetM M w φ)) (k : ∀ v w', Exm M w w' → φ v w' → WL P ops Q rest (mk n (upd E d v)) w') :
    WL P ops Q (⟨some d, op, ty, pos, after, none⟩ :: rest) (mk n E) w :=
  sc hz hc (fun _ _ h => ⟨h.choose, h.choose_spec.1⟩) fun v' w' h => by
    obtain ⟨v, h1, h2, h3⟩ := h
    cases h1
    exact k v' w' h2 h3
theorem bits_and_le (a : Int) {b : Int} (g0 : 0 ≤ b) (g1 : b ≤ 9223372036854775807) : 0 ≤ bits .and .i64 a b ∧ bits .and .i64 a b ≤ b := by
  have h : bits .and .i64 a b = IntKind.i64.wrap ((BitVec.ofInt 64 a) &&& (BitVec.ofInt 64 b)).toNat := rfl
  rw [h, BitVec.toNat_and, ofInt_nat g0 g1]
  have h2 : (BitVec.ofInt 64 a).toNat &&& b.toNat ≤ b.toNat := Nat.and_le_right
  rw [wrap_in ⟨by omega, by omega⟩]
  omega
/-- cells of bytes -/
def bc (xs : List Int) : List Value := xs.map (.int .u8)
theorem bc_length (xs : List Int) : (bc xs).length = xs.length := by simp [bc]
theorem bc_get {xs : List Int} {i : Int} (h0 : 0 ≤ i) (h1 : i < xs.length) : (bc xs)[i.toNat]? = some (.int .u8 (xs.getD i.toNat 0)) := by
  have : i.toNat < xs.length := by omega
  simp [bc, List.getD, this]
theorem x_ldb {p : Option Addr} {m c : Nat} {xs : List Int} {i : Int} (hT : Sc P T) (hx : opd n E x = pt (blk p) (off p + i.toNat * 1)) (hs : Sl w p m c 1 (bc xs)) (h0 : 0 ≤ i) (h1 : i < xs.length) : X P n E (.load T x) ty w (.int .u8 (xs.getD i.toNat 0)) w :=
  x_ldc hT hx hs (by omega) (bc_get h0 h1)
theorem getD_byte {xs : List Int} (h : ∀ x ∈ xs, 0 ≤ x ∧ x ≤ 255) (i : Nat) : 0 ≤ xs.getD i 0 ∧ xs.getD i 0 ≤ 255 := by
  rw [List.getD_eq_getElem?_getD]
  cases hh : xs[i]? with
  | none => simp
  | some v => exact h v (List.mem_of_getElem? hh)
end
section opening
variable {H : Type} {enc : TypeId × Value → H} {P : Program} {W : World} {t : TypeId} {cs : List Value}
theorem flat_bc (xs : List Int) : xs.flatMap (fun x => [Value.int .u8 x]) = bc xs := by
  induction xs with
  | nil => rfl
  | cons x xs ih => rw [List.flatMap_cons, ih]; rfl
theorem op_bytes {e : TypeId} (hu : P.underlying t = some (.slice e)) (he : P.underlying e = some (.int .u8)) (hsz : P.cellsOf e = 1) (h : Tr enc P W t cs) :
    ∃ (p : Option Addr) (c : Nat) (xs : List Int), cs = [.slice p xs.length c] ∧ Sl W p xs.length c 1 (bc xs) ∧ (∀ x ∈ xs, 0 ≤ x ∧ x ≤ 255) ∧ xs.length ≤ maxLen := by
  obtain ⟨p, c, xs, h1, h2, h3⟩ := op_rows (fun x : Int => [.int .u8 x]) (fun x => 0 ≤ x ∧ x ≤ 255) hu hsz (fun _ => rfl) (fun es h => by
    obtain ⟨x, rfl, hw⟩ := op_int he h
    exact ⟨x, rfl, by simpa [Lit.wf, IntKind.min, IntKind.max, IntKind.signed, IntKind.bits] using hw⟩) h
  rw [flat_bc] at h2
  exact ⟨p, c, xs, h1, h2, h3, Nat.le_trans h2.cap h2.mx⟩
end opening

section rows
variable {α : Type} {f : α → List Value} {sz : Nat} {P : Program} {n : Nat} {E : Env} {ty T : TypeId} {x : Operand} {w : World} {p : Option Addr} {m c : Nat} {xs : List α} {i : Int}
theorem flat_set (hf : ∀ x, (f x).length = sz) : ∀ (xs : List α) (i : Nat) (v : α), i < xs.length → (xs.flatMap f).take (i * sz) ++ f v ++ (xs.flatMap f).drop (i * sz + sz) = (xs.set i v).flatMap f
  | [], i, v, h => by simp at h
  | x :: xs, 0, v, h => by
    have e1 : (f x ++ xs.flatMap f).drop sz = xs.flatMap f := by rw [← hf x]; exact List.drop_left
    simp only [List.flatMap_cons, Nat.zero_mul, Nat.zero_add, List.take_zero, List.nil_append, List.set_cons_zero, e1]
  | x :: xs, i + 1, v, h => by
    have ih := flat_set hf xs i v (by simpa using h)
    have e1 : ((f x ++ xs.flatMap f).drop ((i + 1) * sz + sz)) = (xs.flatMap f).drop (i * sz + sz) := by
      rw [List.drop_append, hf, List.drop_of_length_le (by rw [hf, Nat.add_mul]; omega), List.nil_append]
      congr 1
      rw [Nat.add_mul]; omega
    have e2 : ((f x ++ xs.flatMap f).take ((i + 1) * sz)) = f x ++ (xs.flatMap f).take (i * sz) := by
      rw [List.take_append, hf, List.take_of_length_le (by rw [hf, Nat.add_mul]; omega)]
      congr 2
      rw [Nat.add_mul]; omega
    simp only [List.flatMap_cons, List.set_cons_succ, e1, e2, ← ih, List.append_assoc]
end rows

section fill
variable {α : Type} {f : α → List Value} {g : α → Value} {sz : Nat}
end fill

section steps
variable {α : Type} {f : α → List Value} {g : α → Value} {sz : Nat} {P : Program} {ops : Array Oper} {Q : Exit → Act → World → Prop} {rest : List Oper} {n d : Nat} {E : Env} {op : Op} {ty T T' e : TypeId} {pos : String} {after : Array Edge} {w : World} {x y : Operand} {p a : Option Addr} {m c m' c' bytes : Nat} {xs ys : List α} {B : Nat} {F : List Nat} {i : Int}
end steps
end Go.Sx
