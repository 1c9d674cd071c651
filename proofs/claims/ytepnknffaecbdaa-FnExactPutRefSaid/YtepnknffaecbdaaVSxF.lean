/- A slice of one's own, cut back to nothing. -/
import Derived.Test.YtepnknffaecbdaaVSxE
namespace Go.Sx
open Go.RowKit
section
variable {E : Env} {i1 i2 i3 i4 i5 i6 i7 i8 i9 i10 i11 i12 i13 i14 i15 : Nat} {v1 v2 v3 v4 v5 v6 v7 v8 v9 v10 v11 v12 v13 v14 v15 : Value}
theorem upd_self9 (h1 : E i1 = v1) (h2 : E i2 = v2) (h3 : E i3 = v3) (h4 : E i4 = v4) (h5 : E i5 = v5) (h6 : E i6 = v6) (h7 : E i7 = v7) (h8 : E i8 = v8) (h9 : E i9 = v9) : E = upd (upd (upd (upd (upd (upd (upd (upd (upd E i1 v1) i2 v2) i3 v3) i4 v4) i5 v5) i6 v6) i7 v7) i8 v8) i9 v9 := by rw [← upd_self8 h1 h2 h3 h4 h5 h6 h7 h8, ← upd_self h9]
theorem upd_self10 (h1 : E i1 = v1) (h2 : E i2 = v2) (h3 : E i3 = v3) (h4 : E i4 = v4) (h5 : E i5 = v5) (h6 : E i6 = v6) (h7 : E i7 = v7) (h8 : E i8 = v8) (h9 : E i9 = v9) (h10 : E i10 = v10) : E = upd (upd (upd (upd (upd (upd (upd (upd (upd (upd E i1 v1) i2 v2) i3 v3) i4 v4) i5 v5) i6 v6) i7 v7) i8 v8) i9 v9) i10 v10 := by rw [← upd_self9 h1 h2 h3 h4 h5 h6 h7 h8 h9, ← upd_self h10]
theorem upd_self11 (h1 : E i1 = v1) (h2 : E i2 = v2) (h3 : E i3 = v3) (h4 : E i4 = v4) (h5 : E i5 = v5) (h6 : E i6 = v6) (h7 : E i7 = v7) (h8 : E i8 = v8) (h9 : E i9 = v9) (h10 : E i10 = v10) (h11 : E i11 = v11) : E = upd (upd (upd (upd (upd (upd (upd (upd (upd (upd (upd E i1 v1) i2 v2) i3 v3) i4 v4) i5 v5) i6 v6) i7 v7) i8 v8) i9 v9) i10 v10) i11 v11 := by rw [← upd_self10 h1 h2 h3 h4 h5 h6 h7 h8 h9 h10, ← upd_self h11]
theorem upd_self12 (h1 : E i1 = v1) (h2 : E i2 = v2) (h3 : E i3 = v3) (h4 : E i4 = v4) (h5 : E i5 = v5) (h6 : E i6 = v6) (h7 : E i7 = v7) (h8 : E i8 = v8) (h9 : E i9 = v9) (h10 : E i10 = v10) (h11 : E i11 = v11) (h12 : E i12 = v12) : E = upd (upd (upd (upd (upd (upd (upd (upd (upd (upd (upd (upd E i1 v1) i2 v2) i3 v3) i4 v4) i5 v5) i6 v6) i7 v7) i8 v8) i9 v9) i10 v10) i11 v11) i12 v12 := by rw [← upd_self11 h1 h2 h3 h4 h5 h6 h7 h8 h9 h10 h11, ← upd_self h12]
theorem upd_self13 (h1 : E i1 = v1) (h2 : E i2 = v2) (h3 : E i3 = v3) (h4 : E i4 = v4) (h5 : E i5 = v5) (h6 : E i6 = v6) (h7 : E i7 = v7) (h8 : E i8 = v8) (h9 : E i9 = v9) (h10 : E i10 = v10) (h11 : E i11 = v11) (h12 : E i12 = v12) (h13 : E i13 = v13) : E = upd (upd (upd (upd (upd (upd (upd (upd (upd (upd (upd (upd (upd E i1 v1) i2 v2) i3 v3) i4 v4) i5 v5) i6 v6) i7 v7) i8 v8) i9 v9) i10 v10) i11 v11) i12 v12) i13 v13 := by rw [← upd_self12 h1 h2 h3 h4 h5 h6 h7 h8 h9 h10 h11 h12, ← upd_self h13]
end
theorem cutp_zero {g c : Nat} : cutp (some ⟨g, 0, none⟩) c 0 1 = some ⟨g, 0, none⟩ := by
  unfold cutp
  split
  · rfl
  · simp [Addr.add]
theorem Own.cut0 {w : World} {p : Option Addr} {n c : Nat} {e : TypeId} {cells : List Value} {F : List Nat} (h : Own w p n c e 1 cells F) : Own w (cutp p c 0 1) 0 (c - 0) e 1 (ic []) F := by
  obtain ⟨h1, h2⟩ := h
  rcases h2 with ⟨rfl, rfl, rfl, h3⟩ | ⟨g, cur, rfl, rfl, hg, hnc, hcm, hcs, htake⟩
  · exact ⟨rfl, .inl ⟨rfl, rfl, rfl, fun _ => rfl⟩⟩
  · refine ⟨rfl, .inr ⟨g, cur, rfl, cutp_zero, hg, Nat.zero_le _, hcm, hcs, by simp [ic]⟩⟩
/-- slices of numbers that can be read -/
def RdL (w : World) (p : Option Addr) (n c : Nat) (ls : List Li) : Prop := Sl w p n c 1 (ls.flatMap lrow) ∧ ∀ x ∈ ls, Sl w x.p x.xs.length x.c 1 (ic x.xs)
theorem RdL.ext {w w' : World} {p : Option Addr} {n c : Nat} {ls : List Li} (h : RdL w p n c ls) (k : Ext w w') : RdL w' p n c ls := ⟨h.1.ext k, fun x hx => (h.2 x hx).ext k⟩
section
variable {P : Program} {n : Nat} {E : Env} {ty T : TypeId} {x hi : Operand}
end
end Go.Sx
