/- Plain: bits read in parts. -/
import Derived.Test.YtdnckakaoageoaaPl2
namespace Go.Pl
theorem zc_ge {s : ByteArray} {a : Int} {n f : Nat} (hr : 0 ≤ a ∧ a + n ≤ 8 * s.size) (hf : n ≤ f) (h : bitsOf s a n = 0) : n ≤ zc s a f := by
  induction n generalizing a f with
  | zero => omega
  | succ n ih =>
    rw [bitsOf_first] at h
    have hb := bitAt_in0 (s := s) (i := a) (by omega)
    have hp := two_pow_pos n
    have h2 := bitsOf_range s (a + 1) n
    obtain ⟨g, rfl⟩ : ∃ g, f = g + 1 := ⟨f - 1, by omega⟩
    by_cases hx : bitAt s a = 0
    · rw [hx, show max (0 : Int) 0 = 0 from rfl, Int.zero_mul] at h
      have := ih (a := a + 1) (f := g) (by omega) (by omega) (by omega)
      simp only [zc, if_pos hx]; omega
    · have h1 : bitAt s a = 1 := by omega
      rw [h1, show max (1 : Int) 0 = 1 from rfl, Int.one_mul] at h
      omega
theorem rb_part {s : ByteArray} {a n k : Int} (h : rbOk s a n) (hk : 0 ≤ k ∧ k ≤ n) : rbOk s a k ∧ rbOk s (rbAt s a k) (n - k) ∧ rbAt s (rbAt s a k) (n - k) = rbAt s a n ∧ rbV s a k * 2 ^ (n - k).toNat + rbV s (rbAt s a k) (n - k) = rbV s a n ∧ remOf s a - remOf s (rbAt s a n) = n ∧ (rbV s a n = 0 → n ≤ zerosOf s a) := by
  obtain ⟨h1, h2, h3⟩ := id h
  have hl := remOf_in h1
  have e1 : rbOk s a k := ⟨h1, by omega, by omega⟩
  have e2 : rbAt s a k = a + k := by unfold rbAt; rw [if_pos e1]
  have e3 : rbOk s (a + k) (n - k) := ⟨by omega, by omega, by rw [remOf_in (by omega)]; omega⟩
  have e4 : rbAt s a n = a + n := by unfold rbAt; rw [if_pos h]
  have e5 : rbV s a n = bitsOf s a n.toNat := by unfold rbV; rw [if_pos h]
  have e6 : rbV s a k = bitsOf s a k.toNat := by unfold rbV; rw [if_pos e1]
  have e7 : rbV s (a + k) (n - k) = bitsOf s (a + k) (n - k).toNat := by unfold rbV; rw [if_pos e3]
  refine ⟨e1, by rw [e2]; exact e3, ?_, ?_, ?_, ?_⟩
  · rw [e2, e4]; unfold rbAt; rw [if_pos e3]; omega
  · rw [e2, e5, e6, e7, show n.toNat = k.toNat + (n - k).toNat by omega, bitsOf_add, show a + (k.toNat : Int) = a + k by omega]
  · rw [e4, hl, remOf_in (by omega)]; omega
  · intro h0
    have := zc_ge (s := s) (a := a) (n := n.toNat) (f := (remOf s a).toNat) (by omega) (by omega) (by rw [← e5]; exact h0)
    unfold zerosOf; omega
theorem rb_top {s : ByteArray} {a n : Int} : 0 ≤ rbV s a n ∧ rbV s a n < 4294967296 := by
  unfold rbV; split
  · rename_i h
    obtain ⟨_, _, _⟩ := h
    have := bitsOf_range s a n.toNat; have := bitsOf_lt s a n.toNat 32 (by omega); omega
  · omega
end Go.Pl
