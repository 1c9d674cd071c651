/- The cursor of a draw: a block of one's own, over bytes that nobody turns. -/
import Derived.Test.YtepnknffaecbdaaVSxA
import Derived.Laws.IdiomStrings
namespace Go.Sx
open Go.RowKit
theorem Sl.kp {w w' : World} {b : Nat} {p : Option Addr} {n c sz : Nat} {cells : List Value} (h : Sl w p n c sz cells) (k : Exm [b] w w') (hb : 0 < n → Ap p b) : Sl w' p n c sz cells := by
  rcases Nat.eq_zero_or_pos n with h0 | h0
  · subst h0
    have hl : cells = [] := List.eq_nil_of_length_eq_zero (by have := h.len; omega)
    subst hl
    exact ⟨h.len, h.cap, h.mx, h.nil, fun a _ j v hv => by simp at hv⟩
  · exact h.ne k (hb h0)
/-- a slice reads the same after a step that turns only blocks from B on, if its own are below -/
theorem Sl.below {w w' : World} {M : List Nat} {B : Nat} {p : Option Addr} {n c sz : Nat} {cells : List Value} (h : Sl w p n c sz cells) (k : Exm M w w') (hM : Fr B M) (hb : 0 < n → ∀ a, p = some a → a.block < B) : Sl w' p n c sz cells := by
  rcases Nat.eq_zero_or_pos n with h0 | h0
  · subst h0
    have hl : cells = [] := List.eq_nil_of_length_eq_zero (by have := h.len; omega)
    subst hl
    exact ⟨h.len, h.cap, h.mx, h.nil, fun a _ j v hv => by simp at hv⟩
  · exact h.exm k fun b e a ha he => by have := hM b e; have := hb h0 a ha; omega
/-- the block of a slice with elements lies below B -/
def Bl (p : Option Addr) (n B : Nat) : Prop := 0 < n → ∀ a, p = some a → a.block < B
def Cu (w : World) (b B T : Nat) : Prop := ∃ p c xs i hh, Bx w b [.slice p (xs : List Int).length c, .int .i64 i, .int .i64 hh] T ∧ Sl w p xs.length c 1 (bc xs) ∧ (∀ x ∈ xs, 0 ≤ x ∧ x ≤ 255) ∧ Bl p xs.length B ∧ B ≤ b ∧ (0 ≤ i ∧ i ≤ xs.length) ∧ xs.length ≤ 1048576
section
variable {w w' : World} {b b' B T : Nat}
theorem Cu.ext (h : Cu w b B T) (k : Ext w w') : Cu w' b B T := by
  obtain ⟨p, c, xs, i, hh, h1, h2, h3⟩ := h
  exact ⟨p, c, xs, i, hh, h1.ext k, h2.ext k, h3⟩
theorem Cu.exm {M : List Nat} (h : Cu w b B T) (k : Exm M w w') (hM : b ∉ M) (f : Fr B M) : Cu w' b B T := by
  obtain ⟨p, c, xs, i, hh, h1, h2, h3, h4, h5⟩ := h
  exact ⟨p, c, xs, i, hh, h1.exm k hM, h2.below k f h4, h3, h4, h5⟩
theorem Cu.ne (h : Cu w b B T) (k : Exm [b'] w w') (hb : b ≠ b' ∧ B ≤ b') : Cu w' b B T := h.exm k (by simpa using hb.1) (Fr.one hb.2)
theorem Cu.lt (h : Cu w b B T) : B ≤ b ∧ b < w.heap.size := by
  obtain ⟨p, c, xs, i, hh, h1, h2, h3, h4, h5, h6, h7⟩ := h
  exact ⟨h5, (Array.getElem?_eq_some_iff.1 h1).1⟩
end
/-- bytes as a text -/
def strOf (xs : List Int) : ByteArray := ⟨(xs.map fun x => UInt8.ofNat x.toNat).toArray⟩
section
variable {P : Program} {ops : Array Oper} {Q : Exit → Act → World → Prop} {rest : List Oper} {n d : Nat} {E : Env} {op : Op} {ty T T' e : TypeId} {pos : String} {after : Array Edge} {w : World} {x y : Operand} {p : Option Addr} {m c bytes : Nat} {xs : List Int}
theorem Own.nb {w : World} {p : Option Addr} {n c : Nat} {e : TypeId} {xs : List Int} {F : List Nat} (h : Own w p n c e 1 (bc xs) F) : n = xs.length := by
  have := h.len; rw [bc_length] at this; omega
variable {F : List Nat} {B : Nat} {a : Option Addr} {m' c' : Nat} {ys : List Int}
end
end Go.Sx
