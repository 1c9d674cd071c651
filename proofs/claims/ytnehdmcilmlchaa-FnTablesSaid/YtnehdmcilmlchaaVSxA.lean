/- Calls that turn some blocks, bytes, and slices of structs. -/
import Derived.Test.YtnehdmcilmlchaaVSx9
namespace Go.Sx
open Go.RowKit
/-- a function that returns v with φ, and turns only the blocks M -/
def RetM (M : List Nat) (w : World) (φ : Value → World → Prop) : Ending → World → Prop := fun e w' => ∃ v, e = .returned v ∧ Exm M w w' ∧ φ v w'
section
variable {P : Program} {ops : Array Oper} {Q : Exit → Act → World → Prop} {rest : List Oper} {n d : Nat} {E : Env} {op : Op} {ty T T' e : TypeId} {pos : String} {after : Array Edge} {w : World} {x y : Operand} {f : FuncId} {vs : List Value}
theorem spm {M : List Nat} {φ : Value → World → Prop} (hz : Z P n E op ty f vs) (hc : Calls P f vs.toArray w (RetM M w φ)) (k : ∀ v w', Exm M w w' → φ v w' → WL P ops Q rest (mk n (upd E d v)) w') :
    WL P ops Q (⟨some d, op, ty, pos, after, none⟩ :: rest) (mk n E) w :=
  sc hz hc (fun _ _ h => ⟨h.choose, h.choose_spec.1⟩) fun v' w' h => by
    obtain ⟨v, h1, h2, h3⟩ := h
    cases h1
    exact k v' w' h2 h3
theorem bits_and_le (a : Int) {b : Int} (g0 : 0 ≤ b) (g1 : b ≤ 9223372036854775807) : 0 ≤ bits .and .i64 a b ∧ bits .and .i64 a b ≤ b := by
  have h : bits .and .i64 a b = IntKind.i64.wrap ((BitVec.ofInt 64 a) &&& (BitVec.ofInt 64 b)).toNat := rfl
  rw [h, BitVec.toNat_and, ofInt_nat g0 g1]
  have h2 : (BitVec.ofInt 64 a).toNat &&& b.toNat ≤ b.toNat := Nat.and_le_right
  rw [wrap_in ⟨by omega, by omega⟩]
  omega
/-- cells of bytes -/
def bc (xs : List Int) : List Value := xs.map (.int .u8)
theorem bc_length (xs : List Int) : (bc xs).length = xs.length := by simp [bc]
theorem bc_get {xs : List Int} {i : Int} (h0 : 0 ≤ i) (h1 : i < xs.length) : (bc xs)[i.toNat]? = some (.int .u8 (xs.getD i.toNat 0)) := by
  have : i.toNat < xs.length := by omega
  simp [bc, List.getD, this]
theorem x_ldb {p : Option Addr} {m c : Nat} {xs : List Int} {i : Int} (hT : Sc P T) (hx : opd n E x = pt (blk p) (off p + i.toNat * 1)) (hs : Sl w p m c 1 (bc xs)) (h0 : 0 ≤ i) (h1 : i < xs.length) : X P n E (.load T x) ty w (.int .u8 (xs.getD i.toNat 0)) w :=
  x_ldc hT hx hs (by omega) (bc_get h0 h1)
theorem getD_byte {xs : List Int} (h : ∀ x ∈ xs, 0 ≤ x ∧ x ≤ 255) (i : Nat) : 0 ≤ xs.getD i 0 ∧ xs.getD i 0 ≤ 255 := by
  rw [List.getD_eq_getElem?_getD]
  cases hh : xs[i]? with
  | none => simp
  | some v => exact h v (List.mem_of_getElem? hh)
end
section opening
variable {H : Type} {enc : TypeId × Value → H} {P : Program} {W : World} {t : TypeId} {cs : List Value}
theorem flat_bc (xs : List Int) : xs.flatMap (fun x => [Value.int .u8 x]) = bc xs := by
  induction xs with
  | nil => rfl
  | cons x xs ih => rw [List.flatMap_cons, ih]; rfl
theorem op_bytes {e : TypeId} (hu : P.underlying t = some (.slice e)) (he : P.underlying e = some (.int .u8)) (hsz : P.cellsOf e = 1) (h : Tr enc P W t cs) :
    ∃ (p : Option Addr) (c : Nat) (xs : List Int), cs = [.slice p xs.length c] ∧ Sl W p xs.length c 1 (bc xs) ∧ (∀ x ∈ xs, 0 ≤ x ∧ x ≤ 255) ∧ xs.length ≤ maxLen := by
  obtain ⟨p, c, xs, h1, h2, h3⟩ := op_rows (fun x : Int => [.int .u8 x]) (fun x => 0 ≤ x ∧ x ≤ 255) hu hsz (fun _ => rfl) (fun es h => by
    obtain ⟨x, rfl, hw⟩ := op_int he h
    exact ⟨x, rfl, by simpa [Lit.wf, IntKind.min, IntKind.max, IntKind.signed, IntKind.bits] using hw⟩) h
  rw [flat_bc] at h2
  exact ⟨p, c, xs, h1, h2, h3, Nat.le_trans h2.cap h2.mx⟩
end opening

section rows
variable {α : Type} {f : α → List Value} {sz : Nat} {P : Program} {n : Nat} {E : Env} {ty T : TypeId} {x : Operand} {w : World} {p : Option Addr} {m c : Nat} {xs : List α} {i : Int}
theorem row_at (hf : ∀ x, (f x).length = sz) : ∀ (xs : List α) (i : Nat) (v : α), xs[i]? = some v → ((xs.flatMap f).drop (i * sz)).take sz = f v
  | [], i, v, h => by simp at h
  | x :: xs, 0, v, h => by
    simp at h; subst h
    rw [List.flatMap_cons, Nat.zero_mul, List.drop_zero, List.take_append_of_le_length (by rw [hf]; exact Nat.le_refl _), List.take_of_length_le (by rw [hf]; exact Nat.le_refl _)]
  | x :: xs, i + 1, v, h => by
    have e1 : ((f x ++ xs.flatMap f).drop ((i + 1) * sz)) = (xs.flatMap f).drop (i * sz) := by
      rw [List.drop_append, hf, List.drop_of_length_le (by rw [hf, Nat.add_mul]; omega), List.nil_append]
      congr 1
      rw [Nat.add_mul]; omega
    rw [List.flatMap_cons, e1]
    exact row_at hf xs i v (by simpa using h)
theorem row_cell (hf : ∀ x, (f x).length = sz) {xs : List α} {i k : Nat} {v : α} {u : Value} (h : xs[i]? = some v) (hk : k < sz) (hu : (f v)[k]? = some u) : (xs.flatMap f)[i * sz + k]? = some u := by
  have h1 := row_at hf xs i v h
  rw [← h1, List.getElem?_take, if_pos hk, List.getElem?_drop] at hu
  exact hu
theorem get_some [Inhabited α] {xs : List α} {i : Int} (h0 : 0 ≤ i) (h1 : i < xs.length) : xs[i.toNat]? = some (xs.getD i.toNat default) := by
  have : i.toNat < xs.length := by omega
  simp [List.getD, this]
/-- a load of a whole element -/
theorem x_ldr [Inhabited α] (hf : ∀ x, (f x).length = sz) (hT : Ag P T sz) (hx : opd n E x = pt (blk p) (off p + i.toNat * sz)) (hs : Sl w p m c sz (xs.flatMap f)) (h0 : 0 ≤ i) (h1 : i < xs.length) : X P n E (.load T x) ty w (.agg (f (xs.getD i.toNat default)).toArray) w :=
  x_lda hT hx hs rfl _ (hf _) (row_at hf xs _ _ (get_some h0 h1))
/-- a load of a field of an element -/
theorem x_ldf [Inhabited α] {k : Nat} {u : Value} (hf : ∀ x, (f x).length = sz) (hT : Sc P T) (hx : opd n E x = pt (blk p) (off p + i.toNat * sz + k)) (hs : Sl w p m c sz (xs.flatMap f)) (h0 : 0 ≤ i) (h1 : i < xs.length) (hk : k < sz) (hu : (f (xs.getD i.toNat default))[k]? = some u) : X P n E (.load T x) ty w u w :=
  x_ldc hT hx hs (by omega) (row_cell hf (get_some h0 h1) hk hu)
theorem flat_set (hf : ∀ x, (f x).length = sz) : ∀ (xs : List α) (i : Nat) (v : α), i < xs.length → (xs.flatMap f).take (i * sz) ++ f v ++ (xs.flatMap f).drop (i * sz + sz) = (xs.set i v).flatMap f
  | [], i, v, h => by simp at h
  | x :: xs, 0, v, h => by
    have e1 : (f x ++ xs.flatMap f).drop sz = xs.flatMap f := by rw [← hf x]; exact List.drop_left
    simp only [List.flatMap_cons, Nat.zero_mul, Nat.zero_add, List.take_zero, List.nil_append, List.set_cons_zero, e1]
  | x :: xs, i + 1, v, h => by
    have ih := flat_set hf xs i v (by simpa using h)
    have e1 : ((f x ++ xs.flatMap f).drop ((i + 1) * sz + sz)) = (xs.flatMap f).drop (i * sz + sz) := by
      rw [List.drop_append, hf, List.drop_of_length_le (by rw [hf, Nat.add_mul]; omega), List.nil_append]
      congr 1
      rw [Nat.add_mul]; omega
    have e2 : ((f x ++ xs.flatMap f).take ((i + 1) * sz)) = f x ++ (xs.flatMap f).take (i * sz) := by
      rw [List.take_append, hf, List.take_of_length_le (by rw [hf, Nat.add_mul]; omega)]
      congr 2
      rw [Nat.add_mul]; omega
    simp only [List.flatMap_cons, List.set_cons_succ, e1, e2, ← ih, List.append_assoc]
theorem made_rows (hf : ∀ x, (f x).length = sz) (z : α) (l : Nat) : (madeCells (f z).toArray (l * sz)).toList = (List.replicate l z).flatMap f := by
  have h1 : ((List.replicate l z).flatMap f).length = l * sz := by rw [rows_length hf, List.length_replicate]
  apply List.ext_getElem
  · rw [h1]; simp [madeCells]
  · intro i h2 h3
    have hi : i < l * sz := by rw [h1] at h3; exact h3
    have hz : 0 < sz := Nat.pos_of_ne_zero (by rintro rfl; simp at hi)
    have hl : i / sz < l := Nat.div_lt_of_lt_mul (by rw [Nat.mul_comm]; exact hi)
    have hk : i % sz < sz := Nat.mod_lt _ hz
    have h4 := row_cell hf (xs := List.replicate l z) (i := i / sz) (k := i % sz) (v := z) (u := (f z)[i % sz]'(by rw [hf]; exact hk)) (by simp [hl]) hk (by rw [List.getElem?_eq_getElem])
    rw [show i / sz * sz + i % sz = i by rw [Nat.mul_comm]; exact Nat.div_add_mod i sz] at h4
    rw [List.getElem?_eq_getElem h3] at h4
    simp only [Option.some.injEq] at h4
    rw [h4]
    simp [madeCells, hf, hk]
end rows

section fill
theorem take_splice (L v : List Value) (a s M : Nat) (hv : v.length = s) (h : a + s ≤ M) (hM : M ≤ L.length) : (L.take a ++ v ++ L.drop (a + s)).take M = (L.take M).take a ++ v ++ (L.take M).drop (a + s) := by
  have hK : (L.take M).length = M := by rw [List.length_take]; omega
  have hL : L.take M ++ L.drop M = L := List.take_append_drop M L
  generalize L.take M = K at *
  generalize L.drop M = R at *
  subst hL
  have e1 : (K ++ R).take a = K.take a := List.take_append_of_le_length (by omega)
  have e2 : (K ++ R).drop (a + s) = K.drop (a + s) ++ R := List.drop_append_of_le_length (by omega)
  rw [e1, e2, ← List.append_assoc]
  rw [List.take_append_of_le_length (by simp only [List.length_append, List.length_take, List.length_drop]; omega), List.take_of_length_le (by simp only [List.length_append, List.length_take, List.length_drop]; omega)]
variable {α : Type} {f : α → List Value} {g : α → Value} {sz : Nat}
end fill

section steps
variable {α : Type} {f : α → List Value} {g : α → Value} {sz : Nat} {P : Program} {ops : Array Oper} {Q : Exit → Act → World → Prop} {rest : List Oper} {n d : Nat} {E : Env} {op : Op} {ty T T' e : TypeId} {pos : String} {after : Array Edge} {w : World} {x y : Operand} {p a : Option Addr} {m c m' c' bytes : Nat} {xs ys : List α} {B : Nat} {F : List Nat} {i : Int}
/-- make([]T, l), T a struct -/
theorem s_maker {kl kc : IntKind} {l : Int} (z : α) (hf : ∀ x, (f x).length = sz) (hT : SliceOf P T e sz bytes) (hz : ZeroV P e (f z)) (hl : opd n E x = .int kl l) (hc : opd n E y = .int kc l) (h0 : 0 ≤ l) (hb : l * bytes ≤ 140737488355328) (hm : l ≤ 1099511627776)
    (k : ∀ p F w', Ext w w' → Own w' p l.toNat l.toNat e sz ((List.replicate l.toNat z).flatMap f) F → Fr w.heap.size F → Lt F w'.heap.size → WL P ops Q rest (mk n (upd E d (.slice p l.toNat l.toNat))) w') :
    WL P ops Q (⟨some d, .makeSlice T x y, ty, pos, after, none⟩ :: rest) (mk n E) w := by
  obtain ⟨j, rfl⟩ : ∃ j : Nat, l = j := ⟨l.toNat, by omega⟩
  have hjb : j * bytes ≤ 140737488355328 := Int.ofNat_le.1 (by rw [Int.natCast_mul]; exact hb)
  refine s_make (l := j) hT hz hl hc (by omega) (by omega) fun p F w' h1 h2 h3 h4 => ?_
  rw [made_rows hf] at h2
  exact k p F w' h1 h2 h3 h4
/-- a whole element stored -/
theorem s_stor {dst : Option Tmp} {v : α} (hf : ∀ x, (f x).length = sz) (h1 : ∀ x, ∀ u ∈ f x, u.oneCell' = true) (hd : dst = none) (hT : Sz P T sz) (hx : opd n E x = pt (blk p) (off p + i.toNat * sz)) (hy : opd n E y = .agg (f v).toArray) (hz : 0 < sz) (hs : Own w p m c e sz (xs.flatMap f) F) (h0 : 0 ≤ i) (hi : i < xs.length)
    (k : ∀ w', Exm F w w' → w'.heap.size = w.heap.size → Own w' p m c e sz ((xs.set i.toNat v).flatMap f) F → WL P ops Q rest (mk n E) w') :
    WL P ops Q (⟨dst, .store T x y, ty, pos, after, none⟩ :: rest) (mk n E) w := by
  have hm : m = xs.length := hs.nr hf hz
  have hlen := rows_length hf xs
  have hi2 : i.toNat < xs.length := by omega
  have hmul : i.toNat * sz + sz ≤ xs.length * sz := by rw [← Nat.succ_mul]; exact Nat.mul_le_mul_right _ hi2
  obtain ⟨hp, rfl, ho⟩ := hs.some_of (by omega)
  rw [ho, Nat.zero_add] at hx
  obtain ⟨h2, h3⟩ := id hs
  rcases h3 with ⟨rfl, _⟩ | ⟨g, cur, hF, hp', hg, hnc, hcm, hcs, htake⟩
  · omega
  · have hb : blk p = g := by rw [hp']; rfl
    rw [hb] at hx
    have e1 := run_sizeOf hT w
    have hcur : i.toNat * sz + sz ≤ cur.size := by
      rw [hcs]; exact Nat.le_trans hmul (Nat.mul_le_mul_right _ (by omega))
    have e2 := run_storeCells_at P g (i.toNat * sz) e (f v) 0 cur w hg (by rw [hf]; omega) (h1 v)
    simp only [Nat.add_zero] at e2
    refine sy (w' := w.setRow g (cur.toList.take (i.toNat * sz) ++ f v ++ cur.toList.drop (i.toNat * sz + (f v).length)).toArray) (fun dst pos after g' => ?_) hd ?_
    · simp only [execOp, eval_mk, hx, hy, pt, Instr.storeAt, Instr.sureAddr, storeVar, Value.cells, Sem.run_bind, Sem.run_pure, Result.andThen_ok, e1]
      simp only [List.size_toArray, hf, ne_eq, not_true_eq_false, if_false]
      simp [e2, hf]
    · refine k _ ⟨rfl, rfl, rfl, ?_, fun j _ hj => setRow_other w g j _ (by simpa [hb] using hj)⟩ ?_ ⟨?_, .inr ⟨g, _, by rw [hb], hp', setRow_heap w g cur _ e _ hg, hnc, hcm, ?_, ?_⟩⟩
      · simp
      · simp
      · rw [rows_length hf, List.length_set]; omega
      · simp only [List.size_toArray, List.length_append, List.length_take, List.length_drop, Array.length_toList, hf]
        omega
      · rw [← flat_set hf xs i.toNat v hi2, ← htake, hf]
        exact take_splice _ _ _ _ _ (hf v) (by rw [hm]; exact hmul) (by rw [Array.length_toList, hcs]; exact Nat.mul_le_mul_right _ hnc)
end steps
end Go.Sx
