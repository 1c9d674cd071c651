/- Elements of slices of one's own that own blocks: their fields stored. -/
import Derived.Test.YtepnknffaecbdaaVSxF
namespace Go.Sx
open Go.RowKit
section
variable {α : Type} [Inhabited α] {K : Kind α} {P : Program} {ops : Array Oper} {Q : Exit → Act → World → Prop} {rest : List Oper} {n d : Nat} {E : Env} {op : Op} {ty T T' e : TypeId} {pos : String} {after : Array Edge} {w : World} {x y : Operand} {p : Option Addr} {c : Nat} {xs : List α} {F : List Nat} {i : Int}
end
theorem OwN.sln {α : Type} {K : Kind α} {w : World} {e : TypeId} {p : Option Addr} {xs : List α} {c m : Nat} {F : List Nat} (h : OwN K w e p xs c F) (hm : m = xs.length) : Sl w p m c K.sz (xs.flatMap K.f) := hm ▸ h.sl
/-- a slice of slices of one's own while one element is out for growing -/
def OwH {α : Type} (K : Kind α) (w : World) (e : TypeId) (p : Option Addr) (xs : List α) (c : Nat) (F : List Nat) (r : Nat) : Prop :=
  ∃ F0, Own w p xs.length c e K.sz (xs.flatMap K.f) F0 ∧ (∀ (j : Nat) (y : α), xs[j]? = some y → r ≠ j → K.own w y) ∧ F = F0 ++ xs.flatMap K.ft ∧ F.Nodup ∧ (∀ (i j : Nat) (x y : α), xs[i]? = some x → xs[j]? = some y → i ≠ j → Dj (K.ft x) (K.ft y))
section
variable {α : Type} {K : Kind α} {w w' : World} {e : TypeId} {p : Option Addr} {xs : List α} {c r : Nat} {F : List Nat}
theorem OwH.exm {M : List Nat} (h : OwH K w e p xs c F r) (k : Exm M w w') (hm : Dj M F) : OwH K w' e p xs c F r := by
  obtain ⟨F0, h1, h2, rfl, h4, h5⟩ := h
  exact ⟨F0, h1.exm k fun b hb hf => hm b hb (List.mem_append_left _ hf), fun j y hj hr => K.exm (h2 j y hj hr) k fun b hb hf => hm b hb (List.mem_append_right _ (mem_ft (List.mem_of_getElem? hj) hf)), rfl, h4, h5⟩
theorem OwH.ext (h : OwH K w e p xs c F r) (k : Ext w w') : OwH K w' e p xs c F r := h.exm k dj_nil
theorem OwH.ne {b : Nat} (h : OwH K w e p xs c F r) (k : Exm [b] w w') (hb : b ∉ F) : OwH K w' e p xs c F r := h.exm k (dj_one hb)
theorem OwH.sl (h : OwH K w e p xs c F r) : Sl w p xs.length c K.sz (xs.flatMap K.f) := h.choose_spec.1.sl
theorem OwN.hole {x : α} (h : OwN K w e p xs c F) (hx : xs[r]? = some x) (k : Exm (K.ft x) w w') : OwH K w' e p xs c F r := by
  have hs := fun (i j : Nat) (x y : α) (hi : xs[i]? = some x) (hj : xs[j]? = some y) (hij : i ≠ j) => h.split hi j y hj hij
  obtain ⟨F0, h1, h2, rfl, h4⟩ := h
  obtain ⟨n1, n2, n3⟩ := nodup_app h4
  exact ⟨F0, h1.exm k fun b hb hb2 => n3 b hb2 (mem_ft (List.mem_of_getElem? hx) hb), fun j y hj hr => K.exm (h2 y (List.mem_of_getElem? hj)) k (hs r j x y hx hj hr), rfl, h4, hs⟩
end
section
variable {α : Type} [Inhabited α] {K : Kind α} {P : Program} {ops : Array Oper} {Q : Exit → Act → World → Prop} {rest : List Oper} {n d : Nat} {E : Env} {op : Op} {ty T T' e e0 : TypeId} {pos : String} {after : Array Edge} {w w0 : World} {x y : Operand} {p : Option Addr} {c : Nat} {F : List Nat} {i : Int} {B bytes : Nat}
/-- append to an element that is a slice of numbers -/
theorem s_appH {ls : List Li} {a : Option Addr} {m' c' : Nat} {ys : List Int} (hT : SliceOf P T e 1 bytes) (hz : ZeroV P e [.int .i64 0]) (ho : OwN (Kl e) w e0 p ls c F) (h0 : 0 ≤ i) (hi : i < ls.length) (hx : opd n E x = .slice (ls.getD i.toNat default).p (ls.getD i.toNat default).xs.length (ls.getD i.toNat default).c) (hy : opd n E y = .slice a m' c') (hs : Sl w a m' c' 1 (ic ys)) (f : Fr B F) (hB : B ≤ w.heap.size)
    (hb : ((ls.getD i.toNat default).xs.length + m') * bytes ≤ 140737488355328) (hm : (ls.getD i.toNat default).xs.length + m' ≤ 1099511627776)
    (k : ∀ p' c' F' w', Exm F w w' → OwH (Kl e) w' e0 p ls c F i.toNat → Own w' p' ((ls.getD i.toNat default).xs ++ ys).length c' e 1 (ic ((ls.getD i.toNat default).xs ++ ys)) F' → Grew w (ls.getD i.toNat default).F F' → Fr B F' → Lt F' w'.heap.size → Lt F w.heap.size → WL P ops Q rest (mk n (upd E d (.slice p' ((ls.getD i.toNat default).xs ++ ys).length c'))) w') :
    WL P ops Q (⟨some d, .call { callee := .builtin .append, args := [x, y].toArray, argTypes := [T, T].toArray }, ty, pos, after, none⟩ :: rest) (mk n E) w := by
  have hg := get_some h0 hi
  have hsub := ho.sub hg
  refine s_appi hT hz hx hy (ho.inner _ (List.mem_of_getElem? hg)) hs (fun b hb => f b (hsub b hb)) hB hb hm fun p' c'' F' w' h1 h2 h3 h4 h5 h6 => ?_
  exact k p' c'' F' w' (Exm.withinL Exm.rfl' h1 hsub) (ho.hole hg h1) h2 h4 h5 h6 ho.lt
/-- the grown element put back -/
theorem s_stoH {dst : Option Tmp} {ls : List α} {u : Value} {v : α} (hd : dst = none) (hT : Sz P T 1) (hx : opd n E x = pt (blk p) (off p + i.toNat * K.sz)) (hy : opd n E y = u) (hu : u.cells = #[u]) (hu1 : u.oneCell' = true) (hk1 : K.sz = 1) (hfv : K.f v = [u]) (hs : OwH K w e p ls c F i.toNat) (hv : K.own w v) (hg : Grew w0 (K.ft (ls.getD i.toNat default)) (K.ft v)) (hF : Lt F w0.heap.size) (h0 : 0 ≤ i) (hi : i < ls.length)
    (k : ∀ w' F', Exm F w w' → w'.heap.size = w.heap.size → OwN K w' e p (ls.set i.toNat v) c F' → (∀ b ∈ F', b ∈ F ∨ b ∈ K.ft v) → WL P ops Q rest (mk n E) w') :
    WL P ops Q (⟨dst, .store T x y, ty, pos, after, none⟩ :: rest) (mk n E) w := by
  obtain ⟨F0, h1, h2, rfl, h4, h5⟩ := id hs
  have hi2 : i.toNat < ls.length := by omega
  have hget := get_some h0 hi
  have hset : (K.f (ls.getD i.toNat default)).set 0 u = K.f v := by
    have hl := K.hf (ls.getD i.toNat default)
    rw [hk1] at hl
    match hq : K.f (ls.getD i.toNat default), hl with
    | [z], _ => rw [hfv]; rfl
  refine s_stof (k := 0) v K.hf hd hT (by rw [hx]; rfl) hy hu hu1 h1 h0 hi (by rw [hk1]; decide) hset fun w' e1 e2 e3 => ?_
  obtain ⟨A, B, f1, f2⟩ := flat_get hget K.ft
  obtain ⟨n1, n2, n3⟩ := nodup_app h4
  rw [f1] at n2 n3
  obtain ⟨n4, n5, n6⟩ := nodup_app n2
  obtain ⟨n7, n8, n9⟩ := nodup_app n4
  have hvd : ∀ b ∈ K.ft v, b ∈ F0 ++ ls.flatMap K.ft → b ∈ K.ft (ls.getD i.toNat default) := fun b hb hb2 => (hg b hb).resolve_right fun h => by have := hF b hb2; omega
  have hv' : K.own w' v := K.exm hv e1 fun b hb hb2 => by
    have h6 := hvd b hb2 (List.mem_append_left _ hb)
    exact n3 b hb (List.mem_append.2 (.inl (List.mem_append.2 (.inr h6))))
  refine k w' (F0 ++ (ls.set i.toNat v).flatMap K.ft) (Exm.withinL Exm.rfl' e1 fun b hb => List.mem_append_left _ hb) e2 ⟨F0, by rw [List.length_set]; exact e3, ?_, rfl, ?_⟩ ?_
  · intro z hz
    obtain ⟨j, hj⟩ := List.mem_iff_getElem?.1 hz
    rw [List.getElem?_set] at hj
    split at hj
    · simp at hj; rw [← hj]; exact hv'
    · rename_i hij
      exact K.exm (h2 j z hj hij) e1 fun b hb hb2 => n3 b hb (by rw [← f1]; exact mem_ft (List.mem_of_getElem? hj) hb2)
  · rw [f2]
    have hA : ∀ b ∈ K.ft v, b ∈ A → False := fun b hb hb2 => by
      have h6 := hvd b hb (by rw [f1]; simp [hb2])
      exact n9 b hb2 h6
    have hB : ∀ b ∈ K.ft v, b ∈ B → False := fun b hb hb2 => by
      have h6 := hvd b hb (by rw [f1]; simp [hb2])
      exact n6 b (List.mem_append.2 (.inr h6)) hb2
    have h0 : ∀ b ∈ K.ft v, b ∈ F0 → False := fun b hb hb2 => by
      have h6 := hvd b hb (List.mem_append_left _ hb2)
      exact n3 b hb2 (List.mem_append.2 (.inl (List.mem_append.2 (.inr h6))))
    refine nodup_of n1 (nodup_of (nodup_of n7 (K.nd hv) fun b hb hb2 => hA b hb2 hb) n5 (dj_app (fun b hb hb2 => n6 b (List.mem_append_left _ hb) hb2) fun b hb hb2 => hB b hb hb2)) (fun b hb hb2 => ?_)
    simp only [List.mem_append] at hb2
    rcases hb2 with (h | h) | h
    · exact n3 b hb (by simp [h])
    · exact h0 b h hb
    · exact n3 b hb (by simp [h])
  · intro b hb
    rcases List.mem_append.1 hb with h | h
    · exact .inl (List.mem_append_left _ h)
    · rw [f2] at h
      simp only [List.mem_append] at h
      rcases h with (h | h) | h
      · exact .inl (List.mem_append_right _ (by rw [f1]; simp [h]))
      · exact .inr h
      · exact .inl (List.mem_append_right _ (by rw [f1]; simp [h]))
end
end Go.Sx
