/- What each function of this part returns, for every argument that meets its premises. -/
import Derived.Test.YtdnckakaoageoaaF8
namespace Go.Proofs.Ytdnckakaoageoaa
open Go.Sx Go.Pl Go.RowKit

theorem slice_len {p : Option Addr} {n m c : Nat} (h : m = n) : Value.slice p n c = .slice p m c := by rw [h]
theorem uet_yes {k : Nat} {s : ByteArray} (hs : s = packs (bitsl (k : Int) 9 ++ List.replicate 7 0)) (h1 : ueE s 0 = 0) (h2 : ueAt s 0 ≤ 9) : ueEnt k = (ueAt s 0, ueV s 0) := by
  subst hs; unfold ueEnt; rw [if_pos ⟨h1, h2⟩]
theorem uet_no {k : Nat} {s : ByteArray} (hs : s = packs (bitsl (k : Int) 9 ++ List.replicate 7 0)) (h : ¬ (ueE s 0 = 0 ∧ ueAt s 0 ≤ 9)) : ueEnt k = (0, 0) := by
  subst hs; unfold ueEnt; rw [if_neg h]

theorem ue_small {n : Nat} (h : n ≤ 30) : 1 ≤ ueSize n ∧ ueSize n ≤ 9 ∧ ((n : Int) + 1) * 2 ^ (9 - ueSize n).toNat + 2 ^ (9 - ueSize n).toNat ≤ 512 := by
  have h1 := ueSize_small ⟨n, by omega⟩
  refine ⟨h1.1, h1.2.1, ?_⟩
  have h2 := h1.2.2
  have e : (((n + 1) * 2 ^ (9 - ueSize (n : Int)).toNat + 2 ^ (9 - ueSize (n : Int)).toNat : Nat) : Int) ≤ 512 := Int.ofNat_le.2 h2
  simpa using e
theorem nat_idx (n k e : Nat) : (((n : Int) + 1) * 2 ^ e + (k : Int)).toNat = (n + 1) * 2 ^ e + k := by
  have : (((n + 1) * 2 ^ e + k : Nat) : Int) = ((n : Int) + 1) * 2 ^ e + k := by simp
  omega
theorem ue_stop {n : Nat} (h : n ≤ 31) : ueSize n ≤ 9 ↔ n ≤ 30 := by
  rcases Nat.lt_or_ge n 31 with h1 | h1
  · have := ue_small (n := n) (by omega); omega
  · obtain rfl : n = 31 := by omega
    have := ueSize_31
    constructor
    · intro h2; rw [show ((31 : Nat) : Int) = 31 from rfl, this] at h2; omega
    · intro h2; omega

end Go.Proofs.Ytdnckakaoageoaa
