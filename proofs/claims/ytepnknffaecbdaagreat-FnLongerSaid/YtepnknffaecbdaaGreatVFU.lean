/- What each function of this part returns, for every argument that meets its premises. -/
import Derived.Test.YtepnknffaecbdaaGreatProg
import Derived.Test.YtepnknffaecbdaaGreatVSxA
import Derived.Test.YtepnknffaecbdaaGreatVTy
import Derived.Test.YtepnknffaecbdaaGreatVPlA
import Derived.Test.YtepnknffaecbdaaGreatVF9
import Derived.Test.YtepnknffaecbdaaGreatVFD
namespace Go.Proofs.YtepnknffaecbdaaGreat
open Go.Sx Go.Pl Go.RowKit
def kA (f : Nat → Nat) (k : Int) : Nat → Int
  | 0 => k
  | i + 1 => kA f k i + 1 + (f i : Int)
theorem kA_congr {f g : Nat → Nat} (k : Int) {n : Nat} (h : ∀ j, j < n → f j = g j) : kA f k n = kA g k n := by
  induction n with
  | zero => rfl
  | succ n ih => simp only [kA]; rw [ih fun j hj => h j (by omega), h n (by omega)]
def bl (bs : List Bk) (j : Nat) : Nat := (bs.getD j default).lv.length
def Mkd (bs : List Bk) (k : Int) : Prop := ∀ j, j < bs.length → (bs.getD j default).mode = kA (bl bs) k j ∧ (bs.getD j default).lv = mkI (kA (bl bs) k j + 1) (bl bs j)
structure MkU (bs L : List Bk) (k : Int) (i : Nat) : Prop where
  len : L.length = bs.length
  same : ∀ j, j < bs.length → bl L j = bl bs j
  done : ∀ j, j < i → (L.getD j default).mode = kA (bl bs) k j ∧ (L.getD j default).lv = mkI (kA (bl bs) k j + 1) (bl bs j)
theorem MkU.start (bs : List Bk) (k : Int) : MkU bs bs k 0 := ⟨rfl, fun _ _ => rfl, fun j hj => by omega⟩
theorem MkU.step {bs L : List Bk} {k : Int} {i n : Nat} (h : MkU bs L k i) (hn : n = i) (hi : i < bs.length) {V : Bk} (hV : V = { (L.getD n default) with mode := kA (bl bs) k i }) {X : Bk} (hX : X = (L.set n V).getD n default) : MkU bs ((L.set n V).set n { X with lv := mkI (kA (bl bs) k i + 1) X.lv.length }) k (i + 1) := by
  subst hn
  have hl : n < L.length := by rw [h.len]; exact hi
  have hl1 : n < (L.set n V).length := by rw [List.length_set]; exact hl
  have hx : X = V := by rw [hX, getD_set1 hl, if_pos rfl]
  have hvl : V.lv.length = bl bs n := by rw [hV]; exact h.same n hi
  refine ⟨by rw [List.length_set, List.length_set]; exact h.len, fun j hj => ?_, fun j hj => ?_⟩
  · unfold bl
    rw [getD_set1 hl1, getD_set1 hl]
    by_cases e : n = j
    · subst e; rw [if_pos rfl]; show (mkI _ _).length = _; rw [mkI_length, hx]; exact hvl
    · rw [if_neg e, if_neg e]; exact h.same j hj
  · rw [getD_set1 hl1, getD_set1 hl]
    by_cases e : n = j
    · subst e; rw [if_pos rfl]
      refine ⟨?_, ?_⟩
      · show X.mode = _; rw [hx, hV]
      · show mkI _ _ = _; rw [hx, hvl]
    · rw [if_neg e, if_neg e]; exact h.done j (by omega)
theorem MkU.small {bs L : List Bk} {k : Int} {i B : Nat} (h : MkU bs L k i) (hb : ∀ b ∈ bs, b.lv.length ≤ B) : ∀ b ∈ L, b.lv.length ≤ B := by
  intro b hx
  obtain ⟨j, hj, rfl⟩ := List.mem_iff_getElem.1 hx
  have hj2 : j < bs.length := by rw [← h.len]; exact hj
  have h1 := h.same j hj2
  have e1 : bl L j = L[j].lv.length := by unfold bl; simp [List.getD, hj]
  have e2 : bl bs j = bs[j].lv.length := by unfold bl; simp [List.getD, hj2]
  have := hb bs[j] (List.getElem_mem hj2)
  omega
theorem MkU.ends {bs L : List Bk} {k : Int} (h : MkU bs L k bs.length) : Mkd L k ∧ kA (bl L) k L.length = kA (bl bs) k bs.length ∧ L.length = bs.length := by
  refine ⟨fun j hj => ?_, ?_, h.len⟩
  · rw [h.len] at hj
    have h1 := h.done j hj
    rw [kA_congr k (f := bl L) (g := bl bs) (n := j) fun i hi => h.same i (by omega), h.same j hj]
    exact h1
  · rw [h.len]; exact kA_congr k fun j hj => h.same j hj

end Go.Proofs.YtepnknffaecbdaaGreat
