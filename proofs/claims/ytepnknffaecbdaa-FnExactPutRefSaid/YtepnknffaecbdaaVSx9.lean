/- Opening slices among a law's arguments. -/
import Derived.Test.YtepnknffaecbdaaVSx8
namespace Go.Sx
open Go.RowKit
section rows
variable {α : Type} {f : α → List Value} {sz : Nat}
theorem rows_length (hf : ∀ x, (f x).length = sz) (xs : List α) : (xs.flatMap f).length = xs.length * sz := by
  induction xs with
  | nil => simp
  | cons x xs ih => rw [List.flatMap_cons, List.length_append, ih, hf, List.length_cons, Nat.add_mul]; omega
theorem rows_get (hf : ∀ x, (f x).length = sz) : ∀ (xs : List α) (j : Nat) (v : Value), (xs.flatMap f)[j]? = some v → ∃ i k x, xs[i]? = some x ∧ j = i * sz + k ∧ k < sz ∧ (f x)[k]? = some v
  | [], j, v, h => by simp at h
  | x :: xs, j, v, h => by
    rw [List.flatMap_cons] at h
    by_cases hj : j < sz
    · rw [List.getElem?_append_left (by rw [hf]; exact hj)] at h
      exact ⟨0, j, x, rfl, by omega, hj, h⟩
    · rw [List.getElem?_append_right (by rw [hf]; omega), hf] at h
      obtain ⟨i, k, y, h1, h2, h3, h4⟩ := rows_get hf xs _ _ h
      exact ⟨i + 1, k, y, by simpa using h1, by rw [Nat.add_mul]; omega, h3, h4⟩
end rows
section opening
variable {H : Type} {enc : TypeId × Value → H} {P : Program} {W : World} {t : TypeId} {cs : List Value}
theorem mapM_len {α β : Type} (f : α → Option β) (l : List α) : ∀ (ys : List β), l.mapM f = some ys → l.length = ys.length := by
  induction l with
  | nil => intro ys h; simp at h; subst h; rfl
  | cons x l ih =>
    intro ys h
    rw [List.mapM_cons] at h
    cases hx : f x with
    | none => rw [hx] at h; cases h
    | some y =>
      rw [hx] at h
      cases hl : l.mapM f with
      | none => rw [hl] at h; cases h
      | some zs =>
        rw [hl] at h
        simp only [Option.bind_eq_bind, Option.bind_some, Option.pure_def, Option.some.injEq] at h
        subst h
        simp [ih zs hl]
theorem cells_at {a : Addr} {n : Nat} {es : List Value} (h : W.cells? 0 a n = some es) {k : Nat} {v : Value} (hv : es[k]? = some v) : W.cell? (a.add k) = some v := by
  unfold World.cells? at h
  rw [if_pos (Nat.zero_le _)] at h
  have key : ∀ (m : Nat) (es : List Value), (List.range' m es.length).mapM (fun i => W.cell? (a.add i)) = some es → ∀ k v, es[k]? = some v → W.cell? (a.add (m + k)) = some v := by
    intro m es
    induction es generalizing m with
    | nil => intro _ k v hv; simp at hv
    | cons x xs ih =>
      intro h k v hv
      rw [List.length_cons, List.range'_succ, List.mapM_cons] at h
      cases hx : W.cell? (a.add m) with
      | none => rw [hx] at h; cases h
      | some y =>
        rw [hx] at h
        cases hm : (List.range' (m + 1) xs.length).mapM (fun i => W.cell? (a.add i)) with
        | none => rw [hm] at h; cases h
        | some ys =>
          rw [hm] at h
          simp only [Option.bind_eq_bind, Option.bind_some, Option.pure_def, Option.some.injEq, List.cons.injEq] at h
          obtain ⟨rfl, rfl⟩ := h
          cases k with
          | zero => simp at hv; subst hv; simpa using hx
          | succ k =>
            have := ih (m + 1) hm k v (by simpa using hv)
            rw [show m + (k + 1) = m + 1 + k by omega]; exact this
  have hl : es.length = n := by
    have := mapM_len _ _ _ h
    simpa using this.symm
  subst hl
  have := key 0 es (by rw [← List.range_eq_range']; exact h) k v hv
  simpa using this
theorem op_rows {α : Type} {e : TypeId} {sz : Nat} (f : α → List Value) (good : α → Prop) (hu : P.underlying t = some (.slice e)) (hsz : P.cellsOf e = sz) (hf : ∀ x, (f x).length = sz) (hop : ∀ es, Tr enc P W e es → ∃ x, es = f x ∧ good x) (h : Tr enc P W t cs) :
    ∃ (p : Option Addr) (c : Nat) (xs : List α), cs = [.slice p xs.length c] ∧ Sl W p xs.length c sz (xs.flatMap f) ∧ (∀ x ∈ xs, good x) := by
  rcases op_slice hu h with rfl | ⟨a, len, cap, rfl, hlc, hcm, hi⟩
  · exact ⟨none, 0, [], rfl, Sl.nil', by simp⟩
  · rw [hsz] at hi
    have hx : ∀ i : Fin len, ∃ x, W.cells? 0 (a.add (i.1 * sz)) sz = some (f x) ∧ good x := fun i => by
      obtain ⟨es, h1, h2⟩ := hi i.1 i.2
      obtain ⟨x, rfl, h3⟩ := hop es h2
      exact ⟨x, h1, h3⟩
    refine ⟨some a, cap, List.ofFn fun i => (hx i).choose, by rw [List.length_ofFn], ?_, fun x hm => ?_⟩
    · rw [List.length_ofFn]
      refine ⟨by rw [rows_length hf, List.length_ofFn], hlc, hcm, fun h => (by cases h), fun b hb j v hv => ?_⟩
      cases hb
      obtain ⟨i, k, x, h1, rfl, _, h4⟩ := rows_get hf _ j v hv
      have hi2 : i < len := by
        have := (List.getElem?_eq_some_iff.1 h1).1
        simpa using this
      rw [List.getElem?_ofFn, dif_pos hi2] at h1
      simp only [Option.some.injEq] at h1
      have h5 := (hx ⟨i, hi2⟩).choose_spec.1
      rw [h1] at h5
      rw [← Addr.add_add]
      exact cells_at h5 h4
    · obtain ⟨i, rfl⟩ := List.mem_ofFn.1 hm
      exact (hx i).choose_spec.2
theorem flat_ic (xs : List Int) : xs.flatMap (fun x => [Value.int .i64 x]) = ic xs := by
  induction xs with
  | nil => rfl
  | cons x xs ih => rw [List.flatMap_cons, ih]; rfl
theorem op_ints {e : TypeId} (hu : P.underlying t = some (.slice e)) (he : P.underlying e = some (.int .i64)) (hsz : P.cellsOf e = 1) (h : Tr enc P W t cs) :
    ∃ (p : Option Addr) (c : Nat) (xs : List Int), cs = [.slice p xs.length c] ∧ Sl W p xs.length c 1 (ic xs) ∧ (∀ x ∈ xs, -9223372036854775808 ≤ x ∧ x ≤ 9223372036854775807) ∧ xs.length ≤ maxLen := by
  obtain ⟨p, c, xs, h1, h2, h3⟩ := op_rows (fun x : Int => [.int .i64 x]) (fun x => -9223372036854775808 ≤ x ∧ x ≤ 9223372036854775807) hu hsz (fun _ => rfl) (fun es h => by
    obtain ⟨x, rfl, hw⟩ := op_int he h
    exact ⟨x, rfl, by simpa [Lit.wf, IntKind.min, IntKind.max, IntKind.signed, IntKind.bits] using hw⟩) h
  rw [flat_ic] at h2
  exact ⟨p, c, xs, h1, h2, h3, Nat.le_trans h2.cap h2.mx⟩
end opening
end Go.Sx
