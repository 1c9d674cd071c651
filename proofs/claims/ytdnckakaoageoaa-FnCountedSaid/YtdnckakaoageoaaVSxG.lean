/- Elements of slices of one's own that own blocks: their fields stored. -/
import Derived.Test.YtdnckakaoageoaaVSxF
namespace Go.Sx
open Go.RowKit
section
variable {α : Type} [Inhabited α] {K : Kind α} {P : Program} {ops : Array Oper} {Q : Exit → Act → World → Prop} {rest : List Oper} {n d : Nat} {E : Env} {op : Op} {ty T T' e : TypeId} {pos : String} {after : Array Edge} {w : World} {x y : Operand} {p : Option Addr} {c : Nat} {xs : List α} {F : List Nat} {i : Int}
/-- a field of an element stored -/
theorem s_stofN {dst : Option Tmp} {k : Nat} {u : Value} (v' : α) (hd : dst = none) (hT : Sz P T 1) (hx : opd n E x = pt (blk p) (off p + i.toNat * K.sz + k)) (hy : opd n E y = u) (hu : u.cells = #[u]) (hu1 : u.oneCell' = true) (hs : OwN K w e p xs c F) (h0 : 0 ≤ i) (hi : i < xs.length) (hk : k < K.sz) (hv : (K.f (xs.getD i.toNat default)).set k u = K.f v') (hft : K.ft v' = K.ft (xs.getD i.toNat default)) (hown : ∀ w', K.own w' (xs.getD i.toNat default) → K.own w' v')
    (kk : ∀ w', Exm F w w' → w'.heap.size = w.heap.size → OwN K w' e p (xs.set i.toNat v') c F → WL P ops Q rest (mk n E) w') :
    WL P ops Q (⟨dst, .store T x y, ty, pos, after, none⟩ :: rest) (mk n E) w := by
  obtain ⟨F0, h1, h2, rfl, h4⟩ := id hs
  refine s_stof v' K.hf hd hT hx hy hu hu1 h1 h0 hi hk hv fun w' e1 e2 e3 => ?_
  have hi2 : i.toNat < xs.length := by omega
  have hg := get_some h0 hi
  obtain ⟨n1, n2, n3⟩ := nodup_app h4
  have hex : ∀ z ∈ xs, K.own w' z := fun z hz => K.exm (h2 z hz) e1 fun b hb hb2 => n3 b hb (mem_ft hz hb2)
  obtain ⟨A, B, f1, f2⟩ := flat_get hg K.ft
  refine kk w' (Exm.withinL Exm.rfl' e1 fun b hb => List.mem_append_left _ hb) e2 ⟨F0, by rw [List.length_set]; exact e3, ?_, by rw [f2, hft, ← f1], h4⟩
  intro z hz
  obtain ⟨j, hj⟩ := List.mem_iff_getElem?.1 hz
  rw [List.getElem?_set] at hj
  split at hj
  · rename_i hij
    simp at hj
    rw [← hj]
    exact hown w' (hex _ (List.mem_of_getElem? hg))
  · exact hex _ (List.mem_of_getElem? hj)
end
theorem OwN.sln {α : Type} {K : Kind α} {w : World} {e : TypeId} {p : Option Addr} {xs : List α} {c m : Nat} {F : List Nat} (h : OwN K w e p xs c F) (hm : m = xs.length) : Sl w p m c K.sz (xs.flatMap K.f) := hm ▸ h.sl
/-- a slice of slices of one's own while one element is out for growing -/
def OwH {α : Type} (K : Kind α) (w : World) (e : TypeId) (p : Option Addr) (xs : List α) (c : Nat) (F : List Nat) (r : Nat) : Prop :=
  ∃ F0, Own w p xs.length c e K.sz (xs.flatMap K.f) F0 ∧ (∀ (j : Nat) (y : α), xs[j]? = some y → r ≠ j → K.own w y) ∧ F = F0 ++ xs.flatMap K.ft ∧ F.Nodup ∧ (∀ (i j : Nat) (x y : α), xs[i]? = some x → xs[j]? = some y → i ≠ j → Dj (K.ft x) (K.ft y))
section
variable {α : Type} {K : Kind α} {w w' : World} {e : TypeId} {p : Option Addr} {xs : List α} {c r : Nat} {F : List Nat}
theorem OwH.exm {M : List Nat} (h : OwH K w e p xs c F r) (k : Exm M w w') (hm : Dj M F) : OwH K w' e p xs c F r := by
  obtain ⟨F0, h1, h2, rfl, h4, h5⟩ := h
  exact ⟨F0, h1.exm k fun b hb hf => hm b hb (List.mem_append_left _ hf), fun j y hj hr => K.exm (h2 j y hj hr) k fun b hb hf => hm b hb (List.mem_append_right _ (mem_ft (List.mem_of_getElem? hj) hf)), rfl, h4, h5⟩
theorem OwH.ext (h : OwH K w e p xs c F r) (k : Ext w w') : OwH K w' e p xs c F r := h.exm k dj_nil
theorem OwH.ne {b : Nat} (h : OwH K w e p xs c F r) (k : Exm [b] w w') (hb : b ∉ F) : OwH K w' e p xs c F r := h.exm k (dj_one hb)
theorem OwH.sl (h : OwH K w e p xs c F r) : Sl w p xs.length c K.sz (xs.flatMap K.f) := h.choose_spec.1.sl
theorem OwN.hole {x : α} (h : OwN K w e p xs c F) (hx : xs[r]? = some x) (k : Exm (K.ft x) w w') : OwH K w' e p xs c F r := by
  have hs := fun (i j : Nat) (x y : α) (hi : xs[i]? = some x) (hj : xs[j]? = some y) (hij : i ≠ j) => h.split hi j y hj hij
  obtain ⟨F0, h1, h2, rfl, h4⟩ := h
  obtain ⟨n1, n2, n3⟩ := nodup_app h4
  exact ⟨F0, h1.exm k fun b hb hb2 => n3 b hb2 (mem_ft (List.mem_of_getElem? hx) hb), fun j y hj hr => K.exm (h2 y (List.mem_of_getElem? hj)) k (hs r j x y hx hj hr), rfl, h4, hs⟩
end
section
variable {α : Type} [Inhabited α] {K : Kind α} {P : Program} {ops : Array Oper} {Q : Exit → Act → World → Prop} {rest : List Oper} {n d : Nat} {E : Env} {op : Op} {ty T T' e e0 : TypeId} {pos : String} {after : Array Edge} {w w0 : World} {x y : Operand} {p : Option Addr} {c : Nat} {F : List Nat} {i : Int} {B bytes : Nat}
end
end Go.Sx
