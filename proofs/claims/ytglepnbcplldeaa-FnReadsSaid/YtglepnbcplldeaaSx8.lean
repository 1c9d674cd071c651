/- Slices of whole numbers: read, made, written out, appended to, stored into. -/
import Derived.Test.YtglepnbcplldeaaSx7
namespace Go.Sx
section
variable {w w' : World} {p : Option Addr} {n c sz B : Nat} {e : TypeId} {cells : List Value}
theorem Own.some_of (h : Own w p n c e sz cells) (hn : 0 < cells.length) : ∃ g, p = some ⟨g, 0, none⟩ := by
  rcases h.2 with ⟨rfl, rfl, rfl⟩ | ⟨g, cur, rfl, _⟩
  · have := h.1; simp at this; rw [this] at hn; simp at hn
  · exact ⟨g, rfl⟩
theorem Own.blk_ge (h : Own w p n c e sz cells) (hn : 0 < cells.length) (f : Fr B p) : B ≤ blk p := by
  obtain ⟨g, rfl⟩ := h.some_of hn
  exact f _ rfl
theorem Own.blk_lt (h : Own w p n c e sz cells) (hn : 0 < cells.length) (f : Lt p B) : blk p < B := by
  obtain ⟨g, rfl⟩ := h.some_of hn
  exact f _ rfl
theorem Own.n1 {xs : List Int} (h : Own w p n c e 1 (ic xs)) : n = xs.length := by
  have := h.len; rw [ic_length] at this; omega
theorem ap_of {b lo hi : Nat} (f : Fr lo p) (g : Lt p hi) (h : b < lo ∨ hi ≤ b) : Ap p b := by
  rcases h with h | h
  · exact f.ap h
  · exact g.ap h
end
section
variable {P : Program} {ops : Array Oper} {Q : Exit → Act → World → Prop} {rest : List Oper} {n d : Nat} {E : Env} {op : Op} {ty T e : TypeId} {pos : String} {after : Array Edge} {w : World} {x y : Operand} {p a : Option Addr} {m c m' c' bytes : Nat} {xs ys : List Int} {B : Nat}
theorem made_ints (l : Nat) : (madeCells [.int .i64 0].toArray (l * 1)).toList = ic (List.replicate l 0) := by
  unfold madeCells ic
  apply List.ext_getElem
  · simp
  · intro i h1 h2
    simp [Nat.mod_one]
/-- make([]int, a) -/
theorem s_makei {kl kc : IntKind} {l : Int} (hT : SliceOf P T e 1 bytes) (hz : ZeroV P e [.int .i64 0]) (hl : opd n E x = .int kl l) (hc : opd n E y = .int kc l) (h0 : 0 ≤ l) (hb : l * bytes ≤ 140737488355328) (hm : l ≤ 1099511627776)
    (k : ∀ p w', Ext w w' → Own w' p l.toNat l.toNat e 1 (ic (List.replicate l.toNat 0)) → Fr w.heap.size p → Lt p w'.heap.size → WL P ops Q rest (mk n (upd E d (.slice p l.toNat l.toNat))) w') :
    WL P ops Q (⟨some d, .makeSlice T x y, ty, pos, after, none⟩ :: rest) (mk n E) w := by
  obtain ⟨j, rfl⟩ : ∃ j : Nat, l = j := ⟨l.toNat, by omega⟩
  have hjb : j * bytes ≤ 140737488355328 := Int.ofNat_le.1 (by rw [Int.natCast_mul]; exact hb)
  refine s_make (l := j) hT hz hl hc (by omega) (by omega) fun b w' h1 h2 h3 h4 => ?_
  rw [made_ints] at h4
  exact k _ w' h3 h4 (fun a ha => by cases ha; exact h1) (fun a ha => by cases ha; exact h2)
/-- numbers, numbered -/
def numbered : Nat → List Int → List (Nat × Value)
  | _, [] => []
  | i, x :: r => (i, .int .i64 x) :: numbered (i + 1) r
theorem fill_num : ∀ (xs : List Int) (pre zs : List Value), zs.length = xs.length → Instr.fill (fun i => some (i * 1, 1)) (pre ++ zs).toArray (numbered pre.length xs) = some (pre ++ ic xs).toArray
  | [], pre, zs, h => by
    have : zs = [] := List.eq_nil_of_length_eq_zero h
    subst this; simp [numbered, Instr.fill, ic]
  | x :: r, pre, [], h => by simp at h
  | x :: r, pre, z :: zs, h => by
    have ih := fill_num r (pre ++ [(Value.int .i64 x)]) zs (by simpa using h)
    unfold numbered Instr.fill
    have e1 : (Value.int .i64 x).cells = #[.int .i64 x] := rfl
    have e2 : ¬ ((Value.int .i64 x).cells.size ≠ 1 ∨ pre.length * 1 + (Value.int .i64 x).cells.size > (pre ++ z :: zs).toArray.size) := by
      rw [e1]; simp
    simp only [e1, Nat.mul_one] at e2 ⊢
    rw [if_neg (by simp)]
    have e3 : (#[(.int .i64 x : Value)].zipIdx.foldl (fun cs (c, j) => cs.setIfInBounds (pre.length + j) c) (pre ++ z :: zs).toArray) = (pre ++ [(Value.int .i64 x)] ++ zs).toArray := by
      simp
    rw [e3]
    simpa [ic] using ih
theorem s_bsi {l : Nat} {parts : List (Nat × Operand)} (hT : SliceOf P T e 1 bytes) (hz : ZeroV P e [.int .i64 0]) (hp : Pts n E parts (numbered 0 xs)) (hl : Nat.ble l 4096 = true) (hn : Nat.ble 1 l = true) (hxs : xs.length = l)
    (k : ∀ p w', Ext w w' → Own w' p l l e 1 (ic xs) → Fr w.heap.size p → Lt p w'.heap.size → WL P ops Q rest (mk n (upd E d (.slice p l l))) w') :
    WL P ops Q (⟨some d, .buildSlice T l parts.toArray, ty, pos, after, none⟩ :: rest) (mk n E) w := by
  unfold Pts at hp
  have := Nat.le_of_ble_eq_true hl
  have hf := fill_num xs [] ((Array.range (l * 1)).map (#[(.int .i64 0 : Value)][· % 1]!)).toList (by simp [hxs])
  simp only [List.nil_append, List.length_nil, Array.toArray_toList] at hf
  refine s_bs hT hz (by omega) (by rw [hp]; exact hf) (by simp [ic, hxs]) (by simpa using hn) fun b w' h1 h2 h3 h4 => ?_
  exact k _ w' h3 h4 (fun a ha => by cases ha; exact h1) (fun a ha => by cases ha; exact h2)
/-- append(s, ys...) -/
theorem s_appi (hT : SliceOf P T e 1 bytes) (hz : ZeroV P e [.int .i64 0]) (hx : opd n E x = .slice p m c) (hy : opd n E y = .slice a m' c') (ho : Own w p m c e 1 (ic xs)) (hs : Sl w a m' c' 1 (ic ys)) (f : Fr B p) (hB : B ≤ w.heap.size)
    (hb : (m + m') * bytes ≤ 140737488355328) (hm : m + m' ≤ 1099511627776)
    (k : ∀ p' c' w', Exm (match p with | some q => [q.block] | none => []) w w' → Own w' p' (m + m') c' e 1 (ic (xs ++ ys)) → (∀ b, b < w.heap.size → Ap p b → Ap p' b) → Fr B p' → Lt p' w'.heap.size → WL P ops Q rest (mk n (upd E d (.slice p' (m + m') c'))) w') :
    WL P ops Q (⟨some d, .call { callee := .builtin .append, args := [x, y].toArray, argTypes := [T, T].toArray }, ty, pos, after, none⟩ :: rest) (mk n E) w := by
  refine s_app hT (by omega) ⟨_, hz, rfl⟩ hx hy ho hs ic_one hb (by omega) fun p' c'' w' h1 h2 h3 h4 => ?_
  rw [← ic_append] at h2
  exact k p' c'' w' h1 h2 h3 (h4 _ hB f) h2.lt
/-- the blocks an append turns -/
theorem Exm.app {M : List Nat} {w0 w w' : World} (h : Exm M w0 w) (k : Exm (match p with | some q => [q.block] | none => []) w w') (f : Fr B p) (hB : w0.heap.size ≤ B) : Exm M w0 w' := by
  cases p with
  | none => exact h.tr (k.up)
  | some q => exact h.fresh k (Nat.le_trans hB (f q rfl))
theorem Bx.app {b : Nat} {cs : List Value} {w' : World} (h : Bx w b cs T) (k : Exm (match p with | some q => [q.block] | none => []) w w') (ha : Ap p b) : Bx w' b cs T := by
  cases p with
  | none => exact h.ext k
  | some q => exact h.ne k (fun e => ha q rfl e.symm)
/-- two slices have no block in common -/
def Dj (p p2 : Option Addr) : Prop := ∀ a, p = some a → Ap p2 a.block
theorem dj_of {p2 : Option Addr} {lo hi lo2 hi2 : Nat} (f : Fr lo p) (g : Lt p hi) (f2 : Fr lo2 p2) (g2 : Lt p2 hi2) (h : hi ≤ lo2 ∨ hi2 ≤ lo) : Dj p p2 := fun q hq => ap_of f2 g2 (by have := f q hq; have := g q hq; omega)
theorem Own.app {p2 : Option Addr} {sz : Nat} {cells : List Value} {w' : World} (h : Own w p2 m c e sz cells) (k : Exm (match p with | some q => [q.block] | none => []) w w') (hd : Dj p p2) : Own w' p2 m c e sz cells := by
  cases p with
  | none => exact h.ext k
  | some q => exact h.ne k (hd q rfl)
/-- ints stored -/
theorem s_stoi {dst : Option Tmp} {i v : Int} (hd : dst = none) (hT : Sz P T 1) (hx : opd n E x = pt (blk p) (off p + i.toNat * 1)) (hy : opd n E y = .int .i64 v) (hs : Own w p m c e 1 (ic xs)) (h0 : 0 ≤ i) (h1 : i < xs.length)
    (k : ∀ w', Exm [blk p] w w' → w'.heap.size = w.heap.size → Own w' p m c e 1 (ic (xs.set i.toNat v)) → WL P ops Q rest (mk n E) w') :
    WL P ops Q (⟨dst, .store T x y, ty, pos, after, none⟩ :: rest) (mk n E) w := by
  refine s_sto (j := i.toNat) hd hT hx hy rfl rfl hs (by omega) (by rw [ic_length]; omega) fun w' h1 h2 h3 => ?_
  rw [ic_set] at h3
  exact k w' h1 h2 h3
end
end Go.Sx
