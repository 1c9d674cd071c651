/- Slices of one's own whose elements own blocks themselves. -/
import Derived.Test.YtepnknffaecbdaaVSxD
namespace Go.Sx
open Go.RowKit
/-- how elements of a kind lie in memory, and what they own -/
structure Kind (α : Type) where
  f : α → List Value
  sz : Nat
  ft : α → List Nat
  own : World → α → Prop
  hf : ∀ x, (f x).length = sz
  h1 : ∀ x, ∀ u ∈ f x, u.oneCell' = true
  hz : 0 < sz
  exm : ∀ {M : List Nat} {w w' : World} {x : α}, own w x → Exm M w w' → Dj M (ft x) → own w' x
  lt : ∀ {w : World} {x : α}, own w x → Lt (ft x) w.heap.size
  nd : ∀ {w : World} {x : α}, own w x → (ft x).Nodup
section
variable {α : Type} {K : Kind α} {w w' : World} {e : TypeId} {p : Option Addr} {xs : List α} {c : Nat} {F : List Nat}
def OwN (K : Kind α) (w : World) (e : TypeId) (p : Option Addr) (xs : List α) (c : Nat) (F : List Nat) : Prop :=
  ∃ F0, Own w p xs.length c e K.sz (xs.flatMap K.f) F0 ∧ (∀ x ∈ xs, K.own w x) ∧ F = F0 ++ xs.flatMap K.ft ∧ F.Nodup
theorem mem_ft {x : α} {b : Nat} (hx : x ∈ xs) (hb : b ∈ K.ft x) : b ∈ xs.flatMap K.ft := List.mem_flatMap.2 ⟨x, hx, hb⟩
theorem OwN.exm {M : List Nat} (h : OwN K w e p xs c F) (k : Exm M w w') (hm : Dj M F) : OwN K w' e p xs c F := by
  obtain ⟨F0, h1, h2, rfl, h4⟩ := h
  exact ⟨F0, h1.exm k fun b hb hf => hm b hb (List.mem_append_left _ hf), fun x hx => K.exm (h2 x hx) k fun b hb hf => hm b hb (List.mem_append_right _ (mem_ft hx hf)), rfl, h4⟩
theorem OwN.ext (h : OwN K w e p xs c F) (k : Ext w w') : OwN K w' e p xs c F := h.exm k dj_nil
theorem OwN.ne {b : Nat} (h : OwN K w e p xs c F) (k : Exm [b] w w') (hb : b ∉ F) : OwN K w' e p xs c F := h.exm k (dj_one hb)
theorem OwN.lt (h : OwN K w e p xs c F) : Lt F w.heap.size := by
  obtain ⟨F0, h1, h2, rfl, h4⟩ := h
  refine h1.lt.app fun b hb => ?_
  obtain ⟨x, hx, hb⟩ := List.mem_flatMap.1 hb
  exact K.lt (h2 x hx) b hb
theorem OwN.nodup (h : OwN K w e p xs c F) : F.Nodup := h.choose_spec.2.2.2
theorem OwN.sl (h : OwN K w e p xs c F) : Sl w p xs.length c K.sz (xs.flatMap K.f) := h.choose_spec.1.sl
theorem OwN.inner (h : OwN K w e p xs c F) : ∀ x ∈ xs, K.own w x := h.choose_spec.2.1
theorem OwN.mx (h : OwN K w e p xs c F) : xs.length ≤ maxLen := h.choose_spec.1.mx
theorem OwN.nil : OwN K w e none [] 0 [] := ⟨[], Own.nil, by simp, by simp, by simp⟩
theorem OwN.ofOwn (h : Own w p 0 0 e K.sz [] F) : OwN K w e p [] 0 F := ⟨F, h, by simp, by simp, h.nodup⟩
/-- elements that own nothing yet -/
theorem OwN.ofZero {z : α} {l : Nat} (h : Own w p l c e K.sz ((List.replicate l z).flatMap K.f) F) (hz : K.own w z) (hf : K.ft z = []) : OwN K w e p (List.replicate l z) c F := by
  have h0 : ((List.replicate l z).flatMap K.ft) = [] := by
    rw [List.flatMap_eq_nil_iff]; intro x hx; rw [(List.mem_replicate.1 hx).2, hf]
  refine ⟨F, by rw [List.length_replicate]; exact h, fun x hx => by rw [(List.mem_replicate.1 hx).2]; exact hz, by rw [h0, List.append_nil], h.nodup⟩
theorem nodup_app {A B : List Nat} (h : (A ++ B).Nodup) : A.Nodup ∧ B.Nodup ∧ Dj A B := by
  rw [List.nodup_append] at h
  exact ⟨h.1, h.2.1, fun b hb hb2 => h.2.2 b hb b hb2 rfl⟩
theorem nodup_of {A B : List Nat} (h1 : A.Nodup) (h2 : B.Nodup) (h : Dj A B) : (A ++ B).Nodup := by
  rw [List.nodup_append]
  exact ⟨h1, h2, fun a ha b hb e => h a ha (e ▸ hb)⟩
theorem flat_get {xs : List α} {i : Nat} {x : α} (h : xs[i]? = some x) (g : α → List Nat) : ∃ A B, xs.flatMap g = A ++ g x ++ B ∧ ∀ y, (xs.set i y).flatMap g = A ++ g y ++ B := by
  induction xs generalizing i with
  | nil => simp at h
  | cons z zs ih =>
    cases i with
    | zero =>
      simp at h; subst h
      exact ⟨[], zs.flatMap g, by simp, fun y => by simp⟩
    | succ i =>
      obtain ⟨A, B, h1, h2⟩ := ih (i := i) (by simpa using h)
      exact ⟨g z ++ A, B, by simp [h1], fun y => by simp [h2, List.append_assoc]⟩
/-- what element i owns has nothing in common with the rest -/
theorem OwN.split {i : Nat} {x : α} (h : OwN K w e p xs c F) (hx : xs[i]? = some x) (j : Nat) (y : α) (hj : xs[j]? = some y) (hij : i ≠ j) : Dj (K.ft x) (K.ft y) := by
  obtain ⟨F0, h1, h2, rfl, h4⟩ := h
  have h5 := (nodup_app h4).2.1
  clear h1 h2 h4
  induction xs generalizing i j with
  | nil => simp at hx
  | cons z zs ih =>
    rw [List.flatMap_cons] at h5
    obtain ⟨a1, a2, a3⟩ := nodup_app h5
    cases i with
    | zero =>
      simp at hx; subst hx
      cases j with
      | zero => omega
      | succ j =>
        simp at hj
        exact fun b hb hb2 => a3 b hb (mem_ft (List.mem_of_getElem? hj) hb2)
    | succ i =>
      cases j with
      | zero =>
        simp at hj hx; subst hj
        exact fun b hb hb2 => a3 b hb2 (mem_ft (List.mem_of_getElem? hx) hb)
      | succ j => exact ih (i := i) (by simpa using hx) j (by simpa using hj) (by omega) a2
theorem OwN.sub {i : Nat} {x : α} (h : OwN K w e p xs c F) (hx : xs[i]? = some x) : ∀ b ∈ K.ft x, b ∈ F := by
  obtain ⟨F0, h1, h2, rfl, h4⟩ := h
  exact fun b hb => List.mem_append_right _ (mem_ft (List.mem_of_getElem? hx) hb)
/-- what an element owns is turned, and the element still lies there as it did -/
theorem OwN.turn {i : Nat} {x x' : α} (h : OwN K w e p xs c F) (hx : xs[i]? = some x) (k : Exm (K.ft x) w w') (ho : K.own w' x') (hf : K.f x' = K.f x) (hft : K.ft x' = K.ft x) : OwN K w' e p (xs.set i x') c F := by
  have hs := h.split hx
  obtain ⟨F0, h1, h2, rfl, h4⟩ := h
  have hi : i < xs.length := (List.getElem?_eq_some_iff.1 hx).1
  obtain ⟨A, B, e1, e2⟩ := flat_get hx K.ft
  obtain ⟨n1, n2, n3⟩ := nodup_app h4
  have hfl : (xs.set i x').flatMap K.f = xs.flatMap K.f := by
    have h5 := flat_set K.hf xs i x' hi
    rw [hf] at h5
    have h6 := flat_set K.hf xs i x hi
    have h7 : xs.set i x = xs := by
      apply List.ext_getElem?
      intro j
      rw [List.getElem?_set]
      split
      · rename_i hij; subst hij; first | (rw [hx]; done) | (rw [hx]; simp [hi])
      · rfl
    rw [← h5, h6, h7]
  refine ⟨F0, ?_, ?_, ?_, ?_⟩
  · rw [List.length_set, hfl]
    exact h1.exm k fun b hb hb2 => n3 b hb2 (mem_ft (List.mem_of_getElem? hx) hb)
  · intro y hy
    obtain ⟨j, hj⟩ := List.mem_iff_getElem?.1 hy
    rw [List.getElem?_set] at hj
    split at hj
    · rename_i hij
      subst hij
      simp [hi] at hj
      subst hj; exact ho
    · rename_i hij
      exact K.exm (h2 y (List.mem_of_getElem? hj)) k (hs j y hj hij)
  · rw [e2, hft, ← e1]
  · exact h4
end
section steps
variable {α : Type} {K : Kind α} {P : Program} {ops : Array Oper} {Q : Exit → Act → World → Prop} {rest : List Oper} {n d : Nat} {E : Env} {op : Op} {ty T T' e : TypeId} {pos : String} {after : Array Edge} {w : World} {x y : Operand} {p a : Option Addr} {m c m' c' bytes : Nat} {xs : List α} {B : Nat} {F : List Nat} {i : Int}
end steps
/-- blocks of levels -/
def Kb (TI : TypeId) : Kind Bk where
  f := brow
  sz := 2
  ft := Bk.F
  own := fun w b => Own w b.p b.lv.length b.c TI 1 (ic b.lv) b.F
  hf := brow_len
  h1 := brow_one
  hz := by decide
  exm := fun h k d => h.exm k d
  lt := fun h => h.lt
  nd := fun h => h.nodup
/-- macroblocks -/
def Km (TB TI : TypeId) : Kind Mk where
  f := mrow
  sz := 2
  ft := Mk.F
  own := fun w b => OwN (Kb TI) w TB b.p b.bs b.c b.F
  hf := mrow_len
  h1 := mrow_one
  hz := by decide
  exm := fun h k d => h.exm k d
  lt := fun h => h.lt
  nd := fun h => h.nodup
/-- rows of a matrix -/
def Kl (TI : TypeId) : Kind Li where
  f := lrow
  sz := 1
  ft := Li.F
  own := fun w b => Own w b.p b.xs.length b.c TI 1 (ic b.xs) b.F
  hf := lrow_len
  h1 := lrow_one
  hz := by decide
  exm := fun h k d => h.exm k d
  lt := fun h => h.lt
  nd := fun h => h.nodup
/-- what they say, wherever they lie -/
def Bk.pl (b : Bk) : Int × List Int := (b.mode, b.lv)
def Mk.pl (m : Mk) : Bool × List (Int × List Int) := (m.eight, m.bs.map Bk.pl)
/-- blocks that can be read -/
def RdBs (w : World) (p : Option Addr) (bs : List Bk) (c : Nat) : Prop := Sl w p bs.length c 2 (bs.flatMap brow) ∧ ∀ b ∈ bs, Sl w b.p b.lv.length b.c 1 (ic b.lv)
theorem RdBs.ext {w w' : World} {p : Option Addr} {bs : List Bk} {c : Nat} (h : RdBs w p bs c) (k : Ext w w') : RdBs w' p bs c := ⟨h.1.ext k, fun b hb => (h.2 b hb).ext k⟩
theorem OwN.rd {w : World} {TI e : TypeId} {p : Option Addr} {bs : List Bk} {c : Nat} {F : List Nat} (h : OwN (Kb TI) w e p bs c F) : RdBs w p bs c := ⟨h.sl, fun b hb => (h.inner b hb).sl⟩
def RdMs (w : World) (p : Option Addr) (ms : List Mk) (c : Nat) : Prop := Sl w p ms.length c 2 (ms.flatMap mrow) ∧ ∀ m ∈ ms, RdBs w m.p m.bs m.c
theorem RdMs.ext {w w' : World} {p : Option Addr} {ms : List Mk} {c : Nat} (h : RdMs w p ms c) (k : Ext w w') : RdMs w' p ms c := ⟨h.1.ext k, fun b hb => (h.2 b hb).ext k⟩
theorem OwN.rdm {w : World} {TB TI e : TypeId} {p : Option Addr} {ms : List Mk} {c : Nat} {F : List Nat} (h : OwN (Km TB TI) w e p ms c F) : RdMs w p ms c := ⟨h.sl, fun m hm => (h.inner m hm).rd⟩
/-- a slice that can be read, with the block that it lies in -/
def Rdf (w : World) (p : Option Addr) (n c sz : Nat) (cells : List Value) (F : List Nat) : Prop := Sl w p n c sz cells ∧ (0 < n → ∀ a, p = some a → a.block ∈ F) ∧ Lt F w.heap.size
section rdf
variable {w w' : World} {p : Option Addr} {n c sz : Nat} {cells : List Value} {F : List Nat} {e : TypeId}
theorem Rdf.exm {M : List Nat} (h : Rdf w p n c sz cells F) (k : Exm M w w') (hm : Dj M F) : Rdf w' p n c sz cells F := by
  obtain ⟨h1, h2, h3⟩ := h
  refine ⟨?_, h2, h3.mono k.size⟩
  rcases Nat.eq_zero_or_pos n with h0 | h0
  · subst h0
    have hl : cells = [] := List.eq_nil_of_length_eq_zero (by have := h1.len; omega)
    subst hl
    exact ⟨h1.len, h1.cap, h1.mx, h1.nil, fun a _ j v hv => by simp at hv⟩
  · exact h1.exm k fun b hb a ha he => hm b hb (he ▸ h2 h0 a ha)
theorem Rdf.ext (h : Rdf w p n c sz cells F) (k : Ext w w') : Rdf w' p n c sz cells F := h.exm k dj_nil
theorem Rdf.ne {b : Nat} (h : Rdf w p n c sz cells F) (k : Exm [b] w w') (hb : b ∉ F) : Rdf w' p n c sz cells F := h.exm k (dj_one hb)
theorem Rdf.lt (h : Rdf w p n c sz cells F) : Lt F w.heap.size := h.2.2
theorem Rdf.sl (h : Rdf w p n c sz cells F) : Sl w p n c sz cells := h.1
theorem Own.rdf (h : Own w p n c e sz cells F) : Rdf w p n c sz cells F := by
  refine ⟨h.sl, fun h0 a ha => ?_, h.lt⟩
  rcases h.2 with ⟨rfl, _⟩ | ⟨g, cur, rfl, rfl, _⟩
  · omega
  · cases ha; simp
theorem cutp_block {p : Option Addr} {c l sz : Nat} {a : Addr} (h : cutp p c l sz = some a) : ∃ b, p = some b ∧ b.block = a.block := by
  unfold cutp at h
  split at h
  · exact ⟨a, h, rfl⟩
  · cases p with
    | none => cases h
    | some b =>
      simp only [Option.map_some, Option.some.injEq] at h
      refine ⟨b, rfl, ?_⟩
      rw [← h]; unfold Addr.add; split <;> rfl
theorem Rdf.cuti {xs : List Int} {l k : Nat} (h : Rdf w p n c 1 (ic xs) F) (h1 : l ≤ k) (h2 : k ≤ n) : Rdf w (cutp p c l 1) ((xs.drop l).take (k - l)).length (c - l) 1 (ic ((xs.drop l).take (k - l))) F := by
  refine ⟨h.1.cuti h1 h2, fun h0 a ha => ?_, h.lt⟩
  obtain ⟨b, hb, he⟩ := cutp_block ha
  rw [List.length_take] at h0
  rw [← he]; exact h.2.1 (by omega) b hb
end rdf
theorem seven {φ : Li → Prop} {a b c d e f g : Li} (h1 : φ a) (h2 : φ b) (h3 : φ c) (h4 : φ d) (h5 : φ e) (h6 : φ f) (h7 : φ g) : ∀ x ∈ [a, b, c, d, e, f, g], φ x := by
  intro x hx
  simp only [List.mem_cons, List.not_mem_nil, or_false] at hx
  rcases hx with rfl | rfl | rfl | rfl | rfl | rfl | rfl <;> assumption
/-- a block among a law's arguments -/
def GoodB (W : World) (b : Bk) : Prop := Sl W b.p b.lv.length b.c 1 (ic b.lv) ∧ b.lv.length ≤ maxLen ∧ (-9223372036854775808 ≤ b.mode ∧ b.mode ≤ 9223372036854775807) ∧ (∀ x ∈ b.lv, -9223372036854775808 ≤ x ∧ x ≤ 9223372036854775807)
def GoodM (W : World) (m : Mk) : Prop := Sl W m.p m.bs.length m.c 2 (m.bs.flatMap brow) ∧ m.bs.length ≤ maxLen ∧ ∀ b ∈ m.bs, GoodB W b
theorem GoodM.rd {W : World} {m : Mk} (h : GoodM W m) : RdBs W m.p m.bs m.c := ⟨h.1, fun b hb => (h.2.2 b hb).1⟩
end Go.Sx
