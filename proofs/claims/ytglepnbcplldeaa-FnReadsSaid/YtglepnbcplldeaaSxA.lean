/- Calls that turn one block, bytes, and facts that stay as long as an interval of blocks does. -/
import Derived.Test.YtglepnbcplldeaaSx9
namespace Go.Sx
open Go.RowKit
/-- a function that returns v with φ, and turns only the blocks M -/
def RetM (M : List Nat) (w : World) (φ : Value → World → Prop) : Ending → World → Prop := fun e w' => ∃ v, e = .returned v ∧ Exm M w w' ∧ φ v w'
section
variable {P : Program} {ops : Array Oper} {Q : Exit → Act → World → Prop} {rest : List Oper} {n d : Nat} {E : Env} {op : Op} {ty T T' e : TypeId} {pos : String} {after : Array Edge} {w : World} {x y : Operand} {f : FuncId} {vs : List Value}
theorem spm {M : List Nat} {φ : Value → World → Prop} (hz : Z P n E op ty f vs) (hc : Calls P f vs.toArray w (RetM M w φ)) (k : ∀ v w', Exm M w w' → φ v w' → WL P ops Q rest (mk n (upd E d v)) w') :
    WL P ops Q (⟨some d, op, ty, pos, after, none⟩ :: rest) (mk n E) w :=
  sc hz hc (fun _ _ h => ⟨h.choose, h.choose_spec.1⟩) fun v' w' h => by
    obtain ⟨v, h1, h2, h3⟩ := h
    cases h1
    exact k v' w' h2 h3
theorem bits_and_le (a : Int) {b : Int} (g0 : 0 ≤ b) (g1 : b ≤ 9223372036854775807) : 0 ≤ bits .and .i64 a b ∧ bits .and .i64 a b ≤ b := by
  have h : bits .and .i64 a b = IntKind.i64.wrap ((BitVec.ofInt 64 a) &&& (BitVec.ofInt 64 b)).toNat := rfl
  rw [h, BitVec.toNat_and, ofInt_nat g0 g1]
  have h2 : (BitVec.ofInt 64 a).toNat &&& b.toNat ≤ b.toNat := Nat.and_le_right
  rw [wrap_in ⟨by omega, by omega⟩]
  omega
/-- cells of bytes -/
def bc (xs : List Int) : List Value := xs.map (.int .u8)
theorem bc_length (xs : List Int) : (bc xs).length = xs.length := by simp [bc]
theorem bc_get {xs : List Int} {i : Int} (h0 : 0 ≤ i) (h1 : i < xs.length) : (bc xs)[i.toNat]? = some (.int .u8 (xs.getD i.toNat 0)) := by
  have : i.toNat < xs.length := by omega
  simp [bc, List.getD, this]
theorem x_ldb {p : Option Addr} {m c : Nat} {xs : List Int} {i : Int} (hT : Sc P T) (hx : opd n E x = pt (blk p) (off p + i.toNat * 1)) (hs : Sl w p m c 1 (bc xs)) (h0 : 0 ≤ i) (h1 : i < xs.length) : X P n E (.load T x) ty w (.int .u8 (xs.getD i.toNat 0)) w :=
  x_ldc hT hx hs (by omega) (bc_get h0 h1)
theorem getD_byte {xs : List Int} (h : ∀ x ∈ xs, 0 ≤ x ∧ x ≤ 255) (i : Nat) : 0 ≤ xs.getD i 0 ∧ xs.getD i 0 ≤ 255 := by
  rw [List.getD_eq_getElem?_getD]
  cases hh : xs[i]? with
  | none => simp
  | some v => exact h v (List.mem_of_getElem? hh)
end
section opening
variable {H : Type} {enc : TypeId × Value → H} {P : Program} {W : World} {t : TypeId} {cs : List Value}
theorem flat_bc (xs : List Int) : xs.flatMap (fun x => [Value.int .u8 x]) = bc xs := by
  induction xs with
  | nil => rfl
  | cons x xs ih => rw [List.flatMap_cons, ih]; rfl
theorem op_bytes {e : TypeId} (hu : P.underlying t = some (.slice e)) (he : P.underlying e = some (.int .u8)) (hsz : P.cellsOf e = 1) (h : Tr enc P W t cs) :
    ∃ (p : Option Addr) (c : Nat) (xs : List Int), cs = [.slice p xs.length c] ∧ Sl W p xs.length c 1 (bc xs) ∧ (∀ x ∈ xs, 0 ≤ x ∧ x ≤ 255) ∧ xs.length ≤ maxLen := by
  obtain ⟨p, c, xs, h1, h2, h3⟩ := op_rows (fun x : Int => [.int .u8 x]) (fun x => 0 ≤ x ∧ x ≤ 255) hu hsz (fun _ => rfl) (fun es h => by
    obtain ⟨x, rfl, hw⟩ := op_int he h
    exact ⟨x, rfl, by simpa [Lit.wf, IntKind.min, IntKind.max, IntKind.signed, IntKind.bits] using hw⟩) h
  rw [flat_bc] at h2
  exact ⟨p, c, xs, h1, h2, h3, Nat.le_trans h2.cap h2.mx⟩
end opening

/-- a fact of the world that stays while the blocks lo..hi-1 do -/
structure Keep (R : World → Prop) (lo hi : Nat) (w : World) : Prop where
  now : R w
  ext : ∀ w w', R w → Ext w w' → R w'
  st : ∀ w w' b, R w → Exm [b] w w' → b < lo ∨ hi ≤ b → R w'
section keep
variable {R : World → Prop} {lo hi b : Nat} {w w' : World}
theorem Keep.tr (h : Keep R lo hi w) (k : Ext w w') : Keep R lo hi w' := ⟨h.ext _ _ h.now k, h.ext, h.st⟩
theorem Keep.ne (h : Keep R lo hi w) (k : Exm [b] w w') (hb : b < lo ∨ hi ≤ b) : Keep R lo hi w' := ⟨h.st _ _ b h.now k hb, h.ext, h.st⟩
theorem Keep.wide {lo' hi' : Nat} (h : Keep R lo hi w) (h1 : lo' ≤ lo) (h2 : hi ≤ hi') : Keep R lo' hi' w := ⟨h.now, h.ext, fun w w' b hr k hb => h.st w w' b hr k (by omega)⟩
theorem Keep.sl {p : Option Addr} {n c sz : Nat} {cells : List Value} (h : Sl w p n c sz cells) (f : Fr lo p) (g : Lt p hi) : Keep (fun w => Sl w p n c sz cells) lo hi w :=
  ⟨h, fun _ _ h k => h.ext k, fun _ _ _ h k hb => h.ne k (ap_of f g hb)⟩
theorem Keep.and {R' : World → Prop} (h : Keep R lo hi w) (h' : Keep R' lo hi w) : Keep (fun w => R w ∧ R' w) lo hi w :=
  ⟨⟨h.now, h'.now⟩, fun _ _ hr k => ⟨h.ext _ _ hr.1 k, h'.ext _ _ hr.2 k⟩, fun _ _ b hr k hb => ⟨h.st _ _ b hr.1 k hb, h'.st _ _ b hr.2 k hb⟩⟩
theorem Keep.all {α : Type} {xs : List α} {S : α → World → Prop} (h : ∀ x ∈ xs, Keep (S x) lo hi w) : Keep (fun w => ∀ x ∈ xs, S x w) lo hi w :=
  ⟨fun x hx => (h x hx).now, fun _ _ hr k x hx => (h x hx).ext _ _ (hr x hx) k, fun _ _ b hr k hb x hx => (h x hx).st _ _ b (hr x hx) k hb⟩
theorem Keep.app {p : Option Addr} {lo2 hi2 : Nat} (h : Keep R lo hi w) (k : Exm (match p with | some q => [q.block] | none => []) w w') (f : Fr lo2 p) (g : Lt p hi2) (hd : hi2 ≤ lo ∨ hi ≤ lo2) : Keep R lo hi w' := by
  cases p with
  | none => exact h.tr k
  | some q => exact h.ne k (by have := f q rfl; have := g q rfl; omega)
end keep

section rows
variable {α : Type} {f : α → List Value} {sz : Nat} {P : Program} {n : Nat} {E : Env} {ty T : TypeId} {x : Operand} {w : World} {p : Option Addr} {m c : Nat} {xs : List α} {i : Int}
theorem row_at (hf : ∀ x, (f x).length = sz) : ∀ (xs : List α) (i : Nat) (v : α), xs[i]? = some v → ((xs.flatMap f).drop (i * sz)).take sz = f v
  | [], i, v, h => by simp at h
  | x :: xs, 0, v, h => by
    simp at h; subst h
    rw [List.flatMap_cons, Nat.zero_mul, List.drop_zero, List.take_append_of_le_length (by rw [hf]; exact Nat.le_refl _), List.take_of_length_le (by rw [hf]; exact Nat.le_refl _)]
  | x :: xs, i + 1, v, h => by
    have e1 : ((f x ++ xs.flatMap f).drop ((i + 1) * sz)) = (xs.flatMap f).drop (i * sz) := by
      rw [List.drop_append, hf, List.drop_of_length_le (by rw [hf, Nat.add_mul]; omega), List.nil_append]
      congr 1
      rw [Nat.add_mul]; omega
    rw [List.flatMap_cons, e1]
    exact row_at hf xs i v (by simpa using h)
theorem row_cell (hf : ∀ x, (f x).length = sz) {xs : List α} {i k : Nat} {v : α} {u : Value} (h : xs[i]? = some v) (hk : k < sz) (hu : (f v)[k]? = some u) : (xs.flatMap f)[i * sz + k]? = some u := by
  have h1 := row_at hf xs i v h
  rw [← h1, List.getElem?_take, if_pos hk, List.getElem?_drop] at hu
  exact hu
theorem get_some [Inhabited α] {xs : List α} {i : Int} (h0 : 0 ≤ i) (h1 : i < xs.length) : xs[i.toNat]? = some (xs.getD i.toNat default) := by
  have : i.toNat < xs.length := by omega
  simp [List.getD, this]
/-- a load of a whole element -/
theorem x_ldr [Inhabited α] (hf : ∀ x, (f x).length = sz) (hT : Ag P T sz) (hx : opd n E x = pt (blk p) (off p + i.toNat * sz)) (hs : Sl w p m c sz (xs.flatMap f)) (h0 : 0 ≤ i) (h1 : i < xs.length) : X P n E (.load T x) ty w (.agg (f (xs.getD i.toNat default)).toArray) w :=
  x_lda hT hx hs rfl _ (hf _) (row_at hf xs _ _ (get_some h0 h1))
/-- a load of a field of an element -/
theorem x_ldf [Inhabited α] {k : Nat} {u : Value} (hf : ∀ x, (f x).length = sz) (hT : Sc P T) (hx : opd n E x = pt (blk p) (off p + i.toNat * sz + k)) (hs : Sl w p m c sz (xs.flatMap f)) (h0 : 0 ≤ i) (h1 : i < xs.length) (hk : k < sz) (hu : (f (xs.getD i.toNat default))[k]? = some u) : X P n E (.load T x) ty w u w :=
  x_ldc hT hx hs (by omega) (row_cell hf (get_some h0 h1) hk hu)
end rows
end Go.Sx
