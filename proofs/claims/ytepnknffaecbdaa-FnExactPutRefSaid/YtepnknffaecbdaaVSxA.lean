/- Calls that turn some blocks, bytes, and slices of structs. -/
import Derived.Test.YtepnknffaecbdaaVSx9
namespace Go.Sx
open Go.RowKit
/-- a function that returns v with φ, and turns only the blocks M -/
def RetM (M : List Nat) (w : World) (φ : Value → World → Prop) : Ending → World → Prop := fun e w' => ∃ v, e = .returned v ∧ Exm M w w' ∧ φ v w'
section
variable {P : Program} {ops : Array Oper} {Q : Exit → Act → World → Prop} {rest : List Oper} {n d : Nat} {E : Env} {op : Op} {ty T T' e : TypeId} {pos : String} {after : Array Edge} {w : World} {x y : Operand} {f : FuncId} {vs : List Value}
theorem spm {M : List Nat} {φ : Value → World → Prop} (hz : Z P n E op ty f vs) (hc : Calls P f vs.toArray w (RetM M w φ)) (k : ∀ v w', Exm M w w' → φ v w' → WL P ops Q rest (mk n (upd E d v)) w') :
    WL P ops Q (⟨some d, op, ty, pos, after, none⟩ :: rest) (mk n E) w :=
  sc hz hc (fun _ _ h => ⟨h.choose, h.choose_spec.1⟩) fun v' w' h => by
    obtain ⟨v, h1, h2, h3⟩ := h
    cases h1
    exact k v' w' h2 h3
/-- cells of bytes -/
def bc (xs : List Int) : List Value := xs.map (.int .u8)
theorem bc_length (xs : List Int) : (bc xs).length = xs.length := by simp [bc]
end
section opening
variable {H : Type} {enc : TypeId × Value → H} {P : Program} {W : World} {t : TypeId} {cs : List Value}
theorem flat_bc (xs : List Int) : xs.flatMap (fun x => [Value.int .u8 x]) = bc xs := by
  induction xs with
  | nil => rfl
  | cons x xs ih => rw [List.flatMap_cons, ih]; rfl
end opening

section rows
variable {α : Type} {f : α → List Value} {sz : Nat} {P : Program} {n : Nat} {E : Env} {ty T : TypeId} {x : Operand} {w : World} {p : Option Addr} {m c : Nat} {xs : List α} {i : Int}
theorem row_at (hf : ∀ x, (f x).length = sz) : ∀ (xs : List α) (i : Nat) (v : α), xs[i]? = some v → ((xs.flatMap f).drop (i * sz)).take sz = f v
  | [], i, v, h => by simp at h
  | x :: xs, 0, v, h => by
    simp at h; subst h
    rw [List.flatMap_cons, Nat.zero_mul, List.drop_zero, List.take_append_of_le_length (by rw [hf]; exact Nat.le_refl _), List.take_of_length_le (by rw [hf]; exact Nat.le_refl _)]
  | x :: xs, i + 1, v, h => by
    have e1 : ((f x ++ xs.flatMap f).drop ((i + 1) * sz)) = (xs.flatMap f).drop (i * sz) := by
      rw [List.drop_append, hf, List.drop_of_length_le (by rw [hf, Nat.add_mul]; omega), List.nil_append]
      congr 1
      rw [Nat.add_mul]; omega
    rw [List.flatMap_cons, e1]
    exact row_at hf xs i v (by simpa using h)
theorem row_cell (hf : ∀ x, (f x).length = sz) {xs : List α} {i k : Nat} {v : α} {u : Value} (h : xs[i]? = some v) (hk : k < sz) (hu : (f v)[k]? = some u) : (xs.flatMap f)[i * sz + k]? = some u := by
  have h1 := row_at hf xs i v h
  rw [← h1, List.getElem?_take, if_pos hk, List.getElem?_drop] at hu
  exact hu
theorem get_some [Inhabited α] {xs : List α} {i : Int} (h0 : 0 ≤ i) (h1 : i < xs.length) : xs[i.toNat]? = some (xs.getD i.toNat default) := by
  have : i.toNat < xs.length := by omega
  simp [List.getD, this]
/-- a load of a field of an element -/
theorem x_ldf [Inhabited α] {k : Nat} {u : Value} (hf : ∀ x, (f x).length = sz) (hT : Sc P T) (hx : opd n E x = pt (blk p) (off p + i.toNat * sz + k)) (hs : Sl w p m c sz (xs.flatMap f)) (h0 : 0 ≤ i) (h1 : i < xs.length) (hk : k < sz) (hu : (f (xs.getD i.toNat default))[k]? = some u) : X P n E (.load T x) ty w u w :=
  x_ldc hT hx hs (by omega) (row_cell hf (get_some h0 h1) hk hu)
theorem flat_set (hf : ∀ x, (f x).length = sz) : ∀ (xs : List α) (i : Nat) (v : α), i < xs.length → (xs.flatMap f).take (i * sz) ++ f v ++ (xs.flatMap f).drop (i * sz + sz) = (xs.set i v).flatMap f
  | [], i, v, h => by simp at h
  | x :: xs, 0, v, h => by
    have e1 : (f x ++ xs.flatMap f).drop sz = xs.flatMap f := by rw [← hf x]; exact List.drop_left
    simp only [List.flatMap_cons, Nat.zero_mul, Nat.zero_add, List.take_zero, List.nil_append, List.set_cons_zero, e1]
  | x :: xs, i + 1, v, h => by
    have ih := flat_set hf xs i v (by simpa using h)
    have e1 : ((f x ++ xs.flatMap f).drop ((i + 1) * sz + sz)) = (xs.flatMap f).drop (i * sz + sz) := by
      rw [List.drop_append, hf, List.drop_of_length_le (by rw [hf, Nat.add_mul]; omega), List.nil_append]
      congr 1
      rw [Nat.add_mul]; omega
    have e2 : ((f x ++ xs.flatMap f).take ((i + 1) * sz)) = f x ++ (xs.flatMap f).take (i * sz) := by
      rw [List.take_append, hf, List.take_of_length_le (by rw [hf, Nat.add_mul]; omega)]
      congr 2
      rw [Nat.add_mul]; omega
    simp only [List.flatMap_cons, List.set_cons_succ, e1, e2, ← ih, List.append_assoc]
theorem made_rows (hf : ∀ x, (f x).length = sz) (z : α) (l : Nat) : (madeCells (f z).toArray (l * sz)).toList = (List.replicate l z).flatMap f := by
  have h1 : ((List.replicate l z).flatMap f).length = l * sz := by rw [rows_length hf, List.length_replicate]
  apply List.ext_getElem
  · rw [h1]; simp [madeCells]
  · intro i h2 h3
    have hi : i < l * sz := by rw [h1] at h3; exact h3
    have hz : 0 < sz := Nat.pos_of_ne_zero (by rintro rfl; simp at hi)
    have hl : i / sz < l := Nat.div_lt_of_lt_mul (by rw [Nat.mul_comm]; exact hi)
    have hk : i % sz < sz := Nat.mod_lt _ hz
    have h4 := row_cell hf (xs := List.replicate l z) (i := i / sz) (k := i % sz) (v := z) (u := (f z)[i % sz]'(by rw [hf]; exact hk)) (by simp [hl]) hk (by rw [List.getElem?_eq_getElem])
    rw [show i / sz * sz + i % sz = i by rw [Nat.mul_comm]; exact Nat.div_add_mod i sz] at h4
    rw [List.getElem?_eq_getElem h3] at h4
    simp only [Option.some.injEq] at h4
    rw [h4]
    simp [madeCells, hf, hk]
end rows

section fill
theorem fold_setL : ∀ (vs : List Value) (k o : Nat) (pre zs : List Value), pre.length = o + k → vs.length ≤ zs.length →
    (vs.zipIdx k).foldl (fun (cs : Array Value) (cj : Value × Nat) => cs.setIfInBounds (o + cj.2) cj.1) (pre ++ zs).toArray = (pre ++ vs ++ zs.drop vs.length).toArray
  | [], k, o, pre, zs, h, hl => by simp
  | v :: vs, k, o, pre, [], h, hl => by simp at hl
  | v :: vs, k, o, pre, z :: zs, h, hl => by
    have ih := fold_setL vs (k + 1) o (pre ++ [v]) zs (by simp; omega) (by simpa using hl)
    rw [List.zipIdx_cons, List.foldl_cons]
    have e : (pre ++ z :: zs).toArray.setIfInBounds (o + k) v = (pre ++ [v] ++ zs).toArray := by
      rw [← h]; simp
    rw [e, ih]; simp
theorem fold_set (vs : List Value) (o : Nat) (pre zs : List Value) (h : pre.length = o) (hl : vs.length ≤ zs.length) :
    vs.toArray.zipIdx.foldl (fun (cs : Array Value) (cj : Value × Nat) => cs.setIfInBounds (o + cj.2) cj.1) (pre ++ zs).toArray = (pre ++ vs ++ zs.drop vs.length).toArray := by
  rw [← Array.foldl_toList, Array.toList_zipIdx]
  exact fold_setL vs 0 o pre zs (by omega) hl
variable {α : Type} {f : α → List Value} {g : α → Value} {sz : Nat}
def numberedR (g : α → Value) : Nat → List α → List (Nat × Value)
  | _, [] => []
  | i, x :: r => (i, g x) :: numberedR g (i + 1) r
theorem fill_numR (hg : ∀ x, (g x).cells = (f x).toArray) (hf : ∀ x, (f x).length = sz) : ∀ (xs : List α) (k : Nat) (pre zs : List Value), pre.length = k * sz → zs.length = xs.length * sz → Instr.fill (fun i => some (i * sz, sz)) (pre ++ zs).toArray (numberedR g k xs) = some (pre ++ xs.flatMap f).toArray
  | [], k, pre, zs, hp, h => by
    have : zs = [] := List.eq_nil_of_length_eq_zero (by simpa using h)
    subst this; simp [numberedR, Instr.fill]
  | x :: r, k, pre, zs, hp, h => by
    have hzs : sz ≤ zs.length := by rw [h, List.length_cons, Nat.add_mul]; omega
    have ih := fill_numR hg hf r (k + 1) (pre ++ f x) (zs.drop sz) (by rw [List.length_append, hp, hf, Nat.add_mul]; omega) (by rw [List.length_drop, h, List.length_cons, Nat.add_mul]; omega)
    unfold numberedR Instr.fill
    have e := fold_set (f x) (k * sz) pre zs hp (by rw [hf]; exact hzs)
    rw [hf] at e
    have h0 : ¬ ((f x).toArray.size ≠ sz ∨ k * sz + (f x).toArray.size > (pre ++ zs).toArray.size) := by
      simp only [List.size_toArray, hf, List.length_append]; omega
    simp only [hg]
    rw [if_neg (by simpa using h0)]
    refine (congrArg (fun a => Instr.fill (fun i => some (i * sz, sz)) a (numberedR g (k + 1) r)) e).trans ?_
    rw [ih]; simp
end fill

section steps
variable {α : Type} {f : α → List Value} {g : α → Value} {sz : Nat} {P : Program} {ops : Array Oper} {Q : Exit → Act → World → Prop} {rest : List Oper} {n d : Nat} {E : Env} {op : Op} {ty T T' e : TypeId} {pos : String} {after : Array Edge} {w : World} {x y : Operand} {p a : Option Addr} {m c m' c' bytes : Nat} {xs ys : List α} {B : Nat} {F : List Nat} {i : Int}
/-- make([]T, l), T a struct -/
theorem s_maker {kl kc : IntKind} {l : Int} (z : α) (hf : ∀ x, (f x).length = sz) (hT : SliceOf P T e sz bytes) (hz : ZeroV P e (f z)) (hl : opd n E x = .int kl l) (hc : opd n E y = .int kc l) (h0 : 0 ≤ l) (hb : l * bytes ≤ 140737488355328) (hm : l ≤ 1099511627776)
    (k : ∀ p F w', Ext w w' → Own w' p l.toNat l.toNat e sz ((List.replicate l.toNat z).flatMap f) F → Fr w.heap.size F → Lt F w'.heap.size → WL P ops Q rest (mk n (upd E d (.slice p l.toNat l.toNat))) w') :
    WL P ops Q (⟨some d, .makeSlice T x y, ty, pos, after, none⟩ :: rest) (mk n E) w := by
  obtain ⟨j, rfl⟩ : ∃ j : Nat, l = j := ⟨l.toNat, by omega⟩
  have hjb : j * bytes ≤ 140737488355328 := Int.ofNat_le.1 (by rw [Int.natCast_mul]; exact hb)
  refine s_make (l := j) hT hz hl hc (by omega) (by omega) fun p F w' h1 h2 h3 h4 => ?_
  rw [made_rows hf] at h2
  exact k p F w' h1 h2 h3 h4
theorem s_bsr {l : Nat} {parts : List (Nat × Operand)} {zs : List Value} (hg : ∀ x, (g x).cells = (f x).toArray) (hf : ∀ x, (f x).length = sz) (hT : SliceOf P T e sz bytes) (hz : ZeroV P e zs) (hp : Pts n E parts (numberedR g 0 xs)) (hl : Nat.ble (l * sz) 4096 = true) (hn : Nat.ble 1 (l * sz) = true) (hxs : xs.length = l)
    (k : ∀ p F w', Ext w w' → Own w' p l l e sz (xs.flatMap f) F → Fr w.heap.size F → Lt F w'.heap.size → WL P ops Q rest (mk n (upd E d (.slice p l l))) w') :
    WL P ops Q (⟨some d, .buildSlice T l parts.toArray, ty, pos, after, none⟩ :: rest) (mk n E) w := by
  unfold Pts at hp
  have := Nat.le_of_ble_eq_true hl
  have hf2 := fill_numR hg hf xs 0 [] ((Array.range (l * sz)).map (zs.toArray[· % zs.toArray.size]!)).toList (by simp) (by simp [hxs])
  simp only [List.nil_append, Array.toArray_toList] at hf2
  exact s_bs hT hz (by omega) (by rw [hp]; exact hf2) (by rw [rows_length hf, hxs]) hn k
/-- a field of an element stored -/
theorem s_stof {dst : Option Tmp} {k : Nat} {u : Value} [Inhabited α] (v' : α) (hf : ∀ x, (f x).length = sz) (hd : dst = none) (hT : Sz P T 1) (hx : opd n E x = pt (blk p) (off p + i.toNat * sz + k)) (hy : opd n E y = u) (hu : u.cells = #[u]) (hu1 : u.oneCell' = true) (hs : Own w p m c e sz (xs.flatMap f) F) (h0 : 0 ≤ i) (hi : i < xs.length) (hk : k < sz) (hv : (f (xs.getD i.toNat default)).set k u = f v')
    (kk : ∀ w', Exm F w w' → w'.heap.size = w.heap.size → Own w' p m c e sz ((xs.set i.toNat v').flatMap f) F → WL P ops Q rest (mk n E) w') :
    WL P ops Q (⟨dst, .store T x y, ty, pos, after, none⟩ :: rest) (mk n E) w := by
  have hlen := rows_length hf xs
  have hi2 : i.toNat < xs.length := by omega
  have hmul : i.toNat * sz + sz ≤ xs.length * sz := by rw [← Nat.succ_mul]; exact Nat.mul_le_mul_right _ hi2
  refine s_sto (j := i.toNat * sz + k) hd hT hx hy hu hu1 hs (by omega) (by omega) fun w' h2 h3 h4 => kk w' h2 h3 ?_
  have e : (xs.flatMap f).set (i.toNat * sz + k) u = (xs.set i.toNat v').flatMap f := by
    rw [← flat_set hf xs i.toNat v' hi2, ← hv]
    have hr := row_at hf xs _ _ (get_some h0 hi)
    rw [← hr]
    generalize xs.flatMap f = L at *
    apply List.ext_getElem?
    intro j
    rw [List.getElem?_set]
    have hl1 : (L.take (i.toNat * sz)).length = i.toNat * sz := by rw [List.length_take]; omega
    have hl2 : ((L.drop (i.toNat * sz)).take sz).length = sz := by rw [List.length_take, List.length_drop]; omega
    rcases Nat.lt_or_ge j (i.toNat * sz) with h | h
    · rw [if_neg (by omega), List.append_assoc, List.getElem?_append_left (by omega), List.getElem?_take, if_pos h]
    · rcases Nat.lt_or_ge j (i.toNat * sz + sz) with h5 | h5
      · rw [List.getElem?_append_left (by rw [List.length_append, hl1, List.length_set, hl2]; exact h5), List.getElem?_append_right (by omega), hl1, List.getElem?_set]
        by_cases h6 : k = j - i.toNat * sz
        · subst h6
          rw [if_pos (by omega), if_pos rfl, if_pos (by omega), if_pos (by rw [hl2]; omega)]
        · rw [if_neg (by omega), if_neg h6, List.getElem?_take, if_pos (by omega), List.getElem?_drop]
          congr 1; omega
      · rw [if_neg (by omega), List.getElem?_append_right (by rw [List.length_append, hl1, List.length_set, hl2]; exact h5), List.length_append, hl1, List.length_set, hl2, List.getElem?_drop]
        congr 1; omega
  rw [e] at h4
  exact h4
end steps
end Go.Sx
