/- Plain numbers: numbers read are none below 0; pairs read one by one. -/
import Derived.Test.YtdnckakaoageoaaPlE
namespace Go.Pl
theorem zc_bit {s : ByteArray} : ∀ (f : Nat) (a : Int), zc s a f < f → bitAt s (a + zc s a f) ≠ 0
  | 0, _, h => by omega
  | f + 1, a, h => by
    by_cases hb : bitAt s a = 0
    · have h1 := zc_step (f := f + 1) hb (by omega)
      rw [show f + 1 - 1 = f by omega] at h1
      rw [h1] at h ⊢
      have := zc_bit (s := s) f (a + 1) (by omega)
      rwa [show a + ((zc s (a + 1) f + 1 : Nat) : Int) = a + 1 + (zc s (a + 1) f : Nat) by omega]
    · rw [zc_stop (.inl hb)]; simpa using hb
theorem ueE_ok {s : ByteArray} {a : Int} (h : ueE s a = 0) : ueOk s a := by
  unfold ueE at h
  split at h
  · omega
  · next h1 =>
    split at h
    · next h2 => exact ⟨by omega, h2⟩
    · omega
theorem ueV_range {s : ByteArray} {a : Int} (h : ueE s a = 0) : 0 ≤ ueV s a ∧ ueV s a ≤ 2147483647 := by
  have hk := ueE_ok h
  obtain ⟨h1, h2, h3, h4⟩ := id hk
  have hz := zerosOf_range s a
  have hr := remOf_in h2
  unfold ueV; rw [if_pos hk]
  obtain ⟨z, hzz⟩ : ∃ z : Nat, zerosOf s a = z := ⟨(zerosOf s a).toNat, by omega⟩
  have hzc : zc s a (remOf s a).toNat = z := by unfold zerosOf at hzz; omega
  have hb := zc_bit (s := s) (remOf s a).toNat a (by omega)
  rw [hzc] at hb
  have hb0 := bitAt_in0 (s := s) (i := a + z) (by omega)
  rw [hzz] at h1 h4 ⊢
  rw [show (2 * (z : Int) + 1).toNat = z + (z + 1) by omega, bitsOf_add, bitsOf_first]
  have e1 := bitsOf_range s a z
  have e2 := bitsOf_range s (a + z + 1) z
  have e3 := two_pow_pos (z + 1)
  have e4 := two_pow_pos z
  have e5 := Int.mul_nonneg e1.1 (Int.le_of_lt e3)
  rw [show max (bitAt s (a + z)) 0 = 1 by omega, Int.one_mul]
  have e6 := bitsOf_range s a (z + (z + 1))
  rw [bitsOf_add, bitsOf_first, show max (bitAt s (a + z)) 0 = 1 by omega, Int.one_mul] at e6
  have e7 := two_pow_le (n := z + (z + 1)) (m := 31) (by omega)
  have e8 : (2 : Int) ^ 31 = 2147483648 := rfl
  omega
theorem fnV_range (s : ByteArray) (f : Fs) (chk : Int → Int) : 0 ≤ fnV s f chk ∧ fnV s f chk ≤ 2147483647 := by
  unfold fnV
  split
  · omega
  · split
    · omega
    · next h =>
      split
      · omega
      · exact ueV_range (Classical.not_not.1 h)
theorem kLt_le {m x : Int} (h : kLt m x = 0) : x < m := by unfold kLt unl at h; split at h <;> omega
theorem fnV_lt {s : ByteArray} {f : Fs} {m : Int} : fnV s f (kLt m) = 0 ∨ fnV s f (kLt m) < m := by
  unfold fnV
  split
  · exact .inl rfl
  · split
    · exact .inl rfl
    · split
      · exact .inl rfl
      · next h => exact .inr (kLt_le (Classical.not_not.1 h))
theorem lvIt_stop {s : ByteArray} {N : Int} {v : Lv} {k : Nat} (h : (lvIt s N v k).f.code ≠ 0) : ∀ m : Nat, lvIt s N v (k + m) = lvIt s N v k
  | 0 => rfl
  | m + 1 => by
    have ih := lvIt_stop h m
    show lvIt s N v (k + m + 1) = _
    rw [lvIt, ih, if_pos h]
theorem lvIt_next {s : ByteArray} {N : Int} {v : Lv} {k : Nat} (h : (lvIt s N v k).f.code = 0) : lvIt s N v (k + 1) = lvStep s N (lvIt s N v k) := by
  rw [lvIt, if_neg (fun h2 => h2 h)]
theorem levelOf_range {n : Int} (h : 0 ≤ n ∧ n ≤ 2147483647) : -2147483648 ≤ levelOf n ∧ levelOf n ≤ 2147483648 := by
  unfold levelOf; split
  · omega
  · split <;> omega
theorem lvL_range (s : ByteArray) (N : Int) (v : Lv) : -2147483648 ≤ lvL s N v ∧ lvL s N v ≤ 2147483648 := levelOf_range (fnV_range s (lvF1 s N v) kLv)
/-- the state of levels as they are read -/
def lvOk (N : Int) (v : Lv) : Prop := 0 ≤ v.p ∧ v.p ≤ N ∧ (v.l.length : Int) = N
theorem lvP_range {s : ByteArray} {N : Int} {v : Lv} (h : lvOk N v) : v.p ≤ lvP s N v ∧ lvP s N v ≤ N := by
  obtain ⟨h1, h2, h3⟩ := h
  have a := fnV_range s v.f (kLt (N - v.p))
  have b := fnV_lt (s := s) (f := v.f) (m := N - v.p)
  unfold lvP; omega
end Go.Pl
