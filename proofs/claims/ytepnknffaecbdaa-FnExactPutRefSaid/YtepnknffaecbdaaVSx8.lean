/- Slices of whole numbers: read, made, written out, appended to, stored into. -/
import Derived.Test.YtepnknffaecbdaaVSx7
import Derived.Lib.AppendZerosOnto
namespace Go.Sx
section
variable {w w' : World} {p : Option Addr} {n c sz B : Nat} {e : TypeId} {cells : List Value} {F : List Nat}
theorem Own.n1 {xs : List Int} (h : Own w p n c e 1 (ic xs) F) : n = xs.length := by
  have := h.len; rw [ic_length] at this; omega
theorem Own.nr {α : Type} {f : α → List Value} {xs : List α} (h : Own w p n c e sz (xs.flatMap f) F) (hf : ∀ x, (f x).length = sz) (hz : 0 < sz) : n = xs.length := by
  have h1 := h.len
  have h2 : (xs.flatMap f).length = xs.length * sz := by
    clear h h1
    induction xs with
    | nil => simp
    | cons x xs ih => rw [List.flatMap_cons, List.length_append, ih, hf, List.length_cons, Nat.add_mul]; omega
  rw [h2] at h1
  exact Nat.eq_of_mul_eq_mul_right hz h1.symm
end
section
variable {P : Program} {ops : Array Oper} {Q : Exit → Act → World → Prop} {rest : List Oper} {n d : Nat} {E : Env} {op : Op} {ty T e : TypeId} {pos : String} {after : Array Edge} {w : World} {x y : Operand} {p a : Option Addr} {m c m' c' bytes : Nat} {xs ys : List Int} {B : Nat} {F : List Nat}
theorem made_ints (l : Nat) : (madeCells [.int .i64 0].toArray (l * 1)).toList = ic (List.replicate l 0) := by
  unfold madeCells ic
  apply List.ext_getElem
  · simp
  · intro i h1 h2
    simp [Nat.mod_one]
/-- make([]int, a) -/
theorem s_makei {kl kc : IntKind} {l : Int} (hT : SliceOf P T e 1 bytes) (hz : ZeroV P e [.int .i64 0]) (hl : opd n E x = .int kl l) (hc : opd n E y = .int kc l) (h0 : 0 ≤ l) (hb : l * bytes ≤ 140737488355328) (hm : l ≤ 1099511627776)
    (k : ∀ p F w', Ext w w' → Own w' p l.toNat l.toNat e 1 (ic (List.replicate l.toNat 0)) F → Fr w.heap.size F → Lt F w'.heap.size → WL P ops Q rest (mk n (upd E d (.slice p l.toNat l.toNat))) w') :
    WL P ops Q (⟨some d, .makeSlice T x y, ty, pos, after, none⟩ :: rest) (mk n E) w := by
  obtain ⟨j, rfl⟩ : ∃ j : Nat, l = j := ⟨l.toNat, by omega⟩
  have hjb : j * bytes ≤ 140737488355328 := Int.ofNat_le.1 (by rw [Int.natCast_mul]; exact hb)
  refine s_make (l := j) hT hz hl hc (by omega) (by omega) fun p F w' h1 h2 h3 h4 => ?_
  rw [made_ints] at h2
  exact k p F w' h1 h2 h3 h4
/-- numbers, numbered -/
def numbered : Nat → List Int → List (Nat × Value)
  | _, [] => []
  | i, x :: r => (i, .int .i64 x) :: numbered (i + 1) r
theorem fill_num : ∀ (xs : List Int) (pre zs : List Value), zs.length = xs.length → Instr.fill (fun i => some (i * 1, 1)) (pre ++ zs).toArray (numbered pre.length xs) = some (pre ++ ic xs).toArray
  | [], pre, zs, h => by
    have : zs = [] := List.eq_nil_of_length_eq_zero h
    subst this; simp [numbered, Instr.fill, ic]
  | x :: r, pre, [], h => by simp at h
  | x :: r, pre, z :: zs, h => by
    have ih := fill_num r (pre ++ [(Value.int .i64 x)]) zs (by simpa using h)
    unfold numbered Instr.fill
    have e1 : (Value.int .i64 x).cells = #[.int .i64 x] := rfl
    simp only [e1, Nat.mul_one]
    rw [if_neg (by simp)]
    have e3 : (#[(.int .i64 x : Value)].zipIdx.foldl (fun cs (c, j) => cs.setIfInBounds (pre.length + j) c) (pre ++ z :: zs).toArray) = (pre ++ [(Value.int .i64 x)] ++ zs).toArray := by
      simp
    rw [e3]
    simpa [ic] using ih
theorem s_bsi {l : Nat} {parts : List (Nat × Operand)} (hT : SliceOf P T e 1 bytes) (hz : ZeroV P e [.int .i64 0]) (hp : Pts n E parts (numbered 0 xs)) (hl : Nat.ble l 4096 = true) (hn : Nat.ble 1 l = true) (hxs : xs.length = l)
    (k : ∀ p F w', Ext w w' → Own w' p l l e 1 (ic xs) F → Fr w.heap.size F → Lt F w'.heap.size → WL P ops Q rest (mk n (upd E d (.slice p l l))) w') :
    WL P ops Q (⟨some d, .buildSlice T l parts.toArray, ty, pos, after, none⟩ :: rest) (mk n E) w := by
  unfold Pts at hp
  have := Nat.le_of_ble_eq_true hl
  have hf := fill_num xs [] ((Array.range (l * 1)).map (#[(.int .i64 0 : Value)][· % 1]!)).toList (by simp [hxs])
  simp only [List.nil_append, List.length_nil, Array.toArray_toList] at hf
  exact s_bs hT hz (by omega) (by rw [hp]; exact hf) (by simp [ic, hxs]) (by simpa using hn) k
/-- a slice written out without elements -/
theorem s_bs0 {sz : Nat} (hT : SliceOf P T e sz bytes)
    (k : ∀ p F w', Ext w w' → Own w' p 0 0 e sz [] F → Fr w.heap.size F → Lt F w'.heap.size → WL P ops Q rest (mk n (upd E d (.slice p 0 0))) w') :
    WL P ops Q (⟨some d, .buildSlice T 0 [].toArray, ty, pos, after, none⟩ :: rest) (mk n E) w := by
  obtain ⟨hu, hi⟩ := hT
  obtain ⟨i, h2, h3⟩ := Option.map_eq_some_iff.1 hi
  simp only [Prod.mk.injEq] at h3
  have e1 : Sz P e sz := by unfold Sz; rw [h2]; simp [h3.1]
  have e2 := run_sizeOf e1 w
  refine st (w' := w.alloc (.cells #[] e)) (v := .slice (some ⟨w.heap.size, 0, none⟩) 0 0) (fun dst pos after g => ?_) (k _ [w.heap.size] _ (Exm.alloc _ _) ⟨by simp, .inr ⟨w.heap.size, #[], rfl, rfl, heap_alloc_new w _, Nat.le_refl _, by simp [maxLen], by simp, by simp⟩⟩ (Fr.one (Nat.le_refl _)) (Lt.one (by simp)))
  simp [execOp, eval_mk, Instr.buildSlice, run_underlying hu, e2, Instr.fill, newRow]
  congr 2
  exact Array.eq_empty_of_size_eq_zero (by simp)
/-- append(s, ys...) -/
theorem s_appi (hT : SliceOf P T e 1 bytes) (hz : ZeroV P e [.int .i64 0]) (hx : opd n E x = .slice p m c) (hy : opd n E y = .slice a m' c') (ho : Own w p m c e 1 (ic xs) F) (hs : Sl w a m' c' 1 (ic ys)) (f : Fr B F) (hB : B ≤ w.heap.size)
    (hb : (m + m') * bytes ≤ 140737488355328) (hm : m + m' ≤ 1099511627776)
    (k : ∀ p' c' F' w', Exm F w w' → Own w' p' (xs ++ ys).length c' e 1 (ic (xs ++ ys)) F' → (xs ++ ys).length = m + m' → Grew w F F' → Fr B F' → Lt F' w'.heap.size → WL P ops Q rest (mk n (upd E d (.slice p' (xs ++ ys).length c'))) w') :
    WL P ops Q (⟨some d, .call { callee := .builtin .append, args := [x, y].toArray, argTypes := [T, T].toArray }, ty, pos, after, none⟩ :: rest) (mk n E) w := by
  refine s_app hT ⟨_, hz, rfl⟩ hx hy ho hs ic_one hb (by omega) fun p' c'' F' w' h1 h2 h3 h4 => ?_
  rw [← ic_append] at h2
  have hn := h2.n1
  rw [hn] at h2 ⊢
  exact k p' c'' F' w' h1 h2 hn.symm h3 (h3.fr f hB) h4
/-- ints stored -/
theorem s_stoi {dst : Option Tmp} {i v : Int} (hd : dst = none) (hT : Sz P T 1) (hx : opd n E x = pt (blk p) (off p + i.toNat * 1)) (hy : opd n E y = .int .i64 v) (hs : Own w p m c e 1 (ic xs) F) (h0 : 0 ≤ i) (h1 : i < xs.length)
    (k : ∀ w', Exm F w w' → w'.heap.size = w.heap.size → Own w' p m c e 1 (ic (xs.set i.toNat v)) F → WL P ops Q rest (mk n E) w') :
    WL P ops Q (⟨dst, .store T x y, ty, pos, after, none⟩ :: rest) (mk n E) w := by
  refine s_sto (j := i.toNat) hd hT hx hy rfl rfl hs (by omega) (by rw [ic_length]; omega) fun w' h1 h2 h3 => ?_
  rw [ic_set] at h3
  exact k w' h1 h2 h3
end
end Go.Sx
