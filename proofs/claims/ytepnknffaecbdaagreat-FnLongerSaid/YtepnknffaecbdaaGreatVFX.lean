/- What each function of this part returns, for every argument that meets its premises. -/
import Derived.Test.YtepnknffaecbdaaGreatProg
import Derived.Test.YtepnknffaecbdaaGreatVSxA
import Derived.Test.YtepnknffaecbdaaGreatVTy
import Derived.Test.YtepnknffaecbdaaGreatVPlA
import Derived.Test.YtepnknffaecbdaaGreatVF9
import Derived.Test.YtepnknffaecbdaaGreatVFD
import Derived.Test.YtepnknffaecbdaaGreatVFF
import Derived.Test.YtepnknffaecbdaaGreatVFJ
import Derived.Test.YtepnknffaecbdaaGreatVFU
namespace Go.Proofs.YtepnknffaecbdaaGreat
open Go.Sx Go.Pl Go.RowKit
def kG (g : Nat → Int → Int) (k : Int) : Nat → Int
  | 0 => k
  | i + 1 => g i (kG g k i)
theorem kG_congr {g h : Nat → Int → Int} (k : Int) {n : Nat} (e : ∀ j, j < n → ∀ x, g j x = h j x) : kG g k n = kG h k n := by
  induction n with
  | zero => rfl
  | succ n ih => simp only [kG]; rw [ih fun j hj => e j (by omega), e n (by omega)]
def gM (ms : List Mk) (j : Nat) (x : Int) : Int := kA (bl (ms.getD j default).bs) (x + 1) (ms.getD j default).bs.length
def MkdM (ms : List Mk) (k : Int) : Prop := ∀ j, j < ms.length → (ms.getD j default).eight = decide (kG (gM ms) k j % 3 = 0) ∧ Mkd (ms.getD j default).bs (kG (gM ms) k j + 1)
def sameB (bs us : List Bk) : Prop := bs.length = us.length ∧ ∀ j, j < us.length → bl bs j = bl us j
structure MuM (ms L : List Mk) (k : Int) (i : Nat) : Prop where
  len : L.length = ms.length
  same : ∀ j, j < ms.length → sameB (L.getD j default).bs (ms.getD j default).bs
  done : ∀ j, j < i → (L.getD j default).eight = decide (kG (gM ms) k j % 3 = 0) ∧ Mkd (L.getD j default).bs (kG (gM ms) k j + 1)
theorem sameB_gM {ms L : List Mk} {j : Nat} (h : sameB (L.getD j default).bs (ms.getD j default).bs) (x : Int) : gM L j x = gM ms j x := by
  unfold gM; rw [h.1]; exact kA_congr _ h.2
theorem MuM.start (ms : List Mk) (k : Int) : MuM ms ms k 0 := ⟨rfl, fun _ _ => ⟨rfl, fun _ _ => rfl⟩, fun j hj => by omega⟩
theorem MuM.step {ms L : List Mk} {k : Int} {i n : Nat} (h : MuM ms L k i) (hn : n = i) (hi : i < ms.length) {V : Mk} (hV : V = { (L.getD n default) with eight := decide (kG (gM ms) k i % 3 = 0) }) {X : Mk} (hX : X = (L.set n V).getD n default) {bs : List Bk} (hm : Mkd bs (kG (gM ms) k i + 1)) (hs : sameB bs X.bs) : MuM ms ((L.set n V).set n { X with bs := bs }) k (i + 1) := by
  subst hn
  have hl : n < L.length := by rw [h.len]; exact hi
  have hl1 : n < (L.set n V).length := by rw [List.length_set]; exact hl
  have hx : X = V := by rw [hX, getD_set1 hl, if_pos rfl]
  have hb : X.bs = (L.getD n default).bs := by rw [hx, hV]
  have h0 := h.same n hi
  refine ⟨by rw [List.length_set, List.length_set]; exact h.len, fun j hj => ?_, fun j hj => ?_⟩
  · rw [getD_set1 hl1, getD_set1 hl]
    by_cases e : n = j
    · subst e; rw [if_pos rfl]
      show sameB bs _
      rw [hb] at hs
      exact ⟨hs.1.trans h0.1, fun j hj2 => (hs.2 j (by rw [h0.1]; exact hj2)).trans (h0.2 j hj2)⟩
    · rw [if_neg e, if_neg e]; exact h.same j hj
  · rw [getD_set1 hl1, getD_set1 hl]
    by_cases e : n = j
    · subst e; rw [if_pos rfl]
      refine ⟨?_, hm⟩
      show X.eight = _; rw [hx, hV]
    · rw [if_neg e, if_neg e]; exact h.done j (by omega)
theorem MuM.ends {ms L : List Mk} {k : Int} (h : MuM ms L k ms.length) : MkdM L k ∧ kG (gM L) k L.length = kG (gM ms) k ms.length ∧ L.length = ms.length := by
  refine ⟨fun j hj => ?_, ?_, h.len⟩
  · rw [h.len] at hj
    have h1 := h.done j hj
    rw [kG_congr k (g := gM L) (h := gM ms) (n := j) fun i hi x => sameB_gM (h.same i (by omega)) x]
    exact h1
  · rw [h.len]; exact kG_congr k fun j hj x => sameB_gM (h.same j hj) x
theorem mk_small {B : Nat} {bs us : List Bk} (h : sameB bs us) (hb : us.length ≤ B ∧ ∀ b ∈ us, b.lv.length ≤ B) : bs.length ≤ B ∧ ∀ b ∈ bs, b.lv.length ≤ B := by
  refine ⟨by rw [h.1]; exact hb.1, fun b hx => ?_⟩
  obtain ⟨j, hj, rfl⟩ := List.mem_iff_getElem.1 hx
  have hj2 : j < us.length := by rw [← h.1]; exact hj
  have h1 := h.2 j hj2
  have e1 : bl bs j = bs[j].lv.length := by unfold bl; simp [List.getD, hj]
  have e2 : bl us j = us[j].lv.length := by unfold bl; simp [List.getD, hj2]
  have := hb.2 us[j] (List.getElem_mem hj2)
  omega
theorem MuM.small {B : Nat} {ms L : List Mk} {k : Int} {i : Nat} (h : MuM ms L k i) (hb : ∀ m ∈ ms, smallM B m) : ∀ m ∈ L, smallM B m := by
  intro m hx
  obtain ⟨j, hj, rfl⟩ := List.mem_iff_getElem.1 hx
  have hj2 : j < ms.length := by rw [← h.len]; exact hj
  have h1 := h.same j hj2
  have e1 : L.getD j default = L[j] := by simp [List.getD, hj]
  have e2 : ms.getD j default = ms[j] := by simp [List.getD, hj2]
  rw [e1, e2] at h1
  exact mk_small h1 (hb ms[j] (List.getElem_mem hj2))
theorem pr_small {s : ByteArray} {ms : List Mk} (h : ms.map Mk.pl = prM s) : ms.length ≤ 16 ∧ (∀ m ∈ ms, smallM 1048576 m) ∧ (∀ m ∈ ms, smallM 1099511627776 m) := by
  obtain ⟨h1, h2⟩ := prM_ms s
  have h3 : ∀ m ∈ ms, m.bs.length ≤ 4 ∧ ∀ b ∈ m.bs, b.lv.length ≤ 64 := fun m hm => by
    have h4 := h2 (Mk.pl m) (by rw [← h]; exact List.mem_map_of_mem hm)
    refine ⟨?_, fun b hb => ?_⟩
    · have h5 : (m.bs.map Bk.pl).length ≤ 4 := h4.1
      rw [List.length_map] at h5; exact h5
    · exact h4.2 (Bk.pl b) (List.mem_map_of_mem hb)
  refine ⟨by rw [← h, List.length_map] at h1; exact h1, fun m hm => ⟨by have := (h3 m hm).1; omega, fun b hb => by have := (h3 m hm).2 b hb; omega⟩, fun m hm => ⟨by have := (h3 m hm).1; omega, fun b hb => by have := (h3 m hm).2 b hb; omega⟩⟩

end Go.Proofs.YtepnknffaecbdaaGreat
