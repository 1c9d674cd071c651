/- Plain numbers and lists, with no program in sight. -/
import Derived.Test.YtnehdmcilmlchaaVPlW
/- Plain numbers: headers read are right; headers' bits. -/
namespace Go.Pl
end Go.Pl

/- Plain numbers: bits put, texts ended. -/
namespace Go.Pl
/-- bits put -/
def putOk (b : List Int) (n w : Int) : Prop := (0 ≤ w ∧ w ≤ 32) ∧ 0 ≤ n ∧ n / 2 ^ w.toNat = 0 ∧ (b.length : Int) + w ≤ 200000
instance (b : List Int) (n w : Int) : Decidable (putOk b n w) := by unfold putOk; infer_instance
end Go.Pl

/- Plain numbers: numbers by the table are numbers bit by bit. -/
namespace Go.Pl
/-- equal bits give equal first bits -/
theorem bitsOf_head {s s' : ByteArray} {a a' : Int} {n m : Nat} (h : bitsOf s a (n + m) = bitsOf s' a' (n + m)) : bitsOf s a n = bitsOf s' a' n := by
  rw [← bitsOf_div s a n m, h, bitsOf_div]
theorem bitsOf_bit {s s' : ByteArray} {a a' : Int} {N j : Nat} (h : bitsOf s a N = bitsOf s' a' N) (hj : j < N) : max (bitAt s (a + j)) 0 = max (bitAt s' (a' + j)) 0 := by
  obtain ⟨m, rfl⟩ : ∃ m, N = (j + 1) + m := ⟨N - (j + 1), by omega⟩
  have h1 := bitsOf_head h
  have h2 := bitsOf_head (s := s) (s' := s') (a := a) (a' := a') (n := j) (m := 1 + m) (by rw [show j + (1 + m) = j + 1 + m by omega]; exact h)
  simp only [bitsOf] at h1
  omega
theorem zc_is {s : ByteArray} {z f : Nat} {a : Int} (h0 : ∀ j : Nat, j < z → bitAt s (a + j) = 0) (h1 : bitAt s (a + z) ≠ 0) (hf : z < f) : zc s a f = z := by
  induction z generalizing a f with
  | zero => exact zc_stop (.inl (by simpa using h1))
  | succ z ih =>
    have e := h0 0 (by omega)
    have e1 : ∀ j : Nat, j < z → bitAt s (a + 1 + j) = 0 := fun j hj => by
      have := h0 (j + 1) (by omega); rw [← this]; congr 1; omega
    have e2 : bitAt s (a + 1 + z) ≠ 0 := fun h2 => h1 (by rw [← h2]; congr 1; omega)
    rw [zc_step (by simpa using e) (by omega), ih e1 e2 (by omega)]
theorem zc_was {s : ByteArray} {z f : Nat} {a : Int} (h : zc s a f = z) (hf : z < f) : (∀ j : Nat, j < z → bitAt s (a + j) = 0) ∧ bitAt s (a + z) ≠ 0 := by
  induction z generalizing a f with
  | zero =>
    refine ⟨fun j hj => by omega, ?_⟩
    obtain ⟨g, rfl⟩ : ∃ g, f = g + 1 := ⟨f - 1, by omega⟩
    simp only [zc] at h
    intro h2
    rw [show a + ((0 : Nat) : Int) = a by omega] at h2
    rw [if_pos h2] at h; omega
  | succ z ih =>
    obtain ⟨g, rfl⟩ : ∃ g, f = g + 1 := ⟨f - 1, by omega⟩
    simp only [zc] at h
    by_cases hb : bitAt s a = 0
    · rw [if_pos hb] at h
      have h3 := ih (a := a + 1) (f := g) (by omega) (by omega)
      refine ⟨fun j hj => ?_, ?_⟩
      · cases j with
        | zero => simpa using hb
        | succ j => have := h3.1 j (by omega); rw [← this]; congr 1; omega
      · intro h4; apply h3.2; rw [← h4]; congr 1; omega
    · rw [if_neg hb] at h; omega
/-- a number that lies in nine bits lies so wherever they are -/
theorem ue_same {s s' : ByteArray} {a a' : Int} (ha : 0 ≤ a ∧ a ≤ 8 * s.size) (ha' : 0 ≤ a' ∧ a' + 9 ≤ 8 * s'.size) (h : bitsOf s a 9 = bitsOf s' a' 9) (hE : ueE s' a' = 0) (hL : ueAt s' a' ≤ a' + 9) :
    (a + (ueAt s' a' - a') ≤ 8 * s.size → ueE s a = 0 ∧ ueV s a = ueV s' a' ∧ ueAt s a = a + (ueAt s' a' - a')) ∧ (8 * s.size < a + (ueAt s' a' - a') → ueE s a = 1) ∧ 1 ≤ ueAt s' a' - a' := by
  have hr' : remOf s' a' = 8 * s'.size - a' := remOf_in (by omega)
  have hr : remOf s a = 8 * s.size - a := remOf_in ha
  have hz' := zerosOf_range s' a'
  have hok : ueOk s' a' := by
    unfold ueE at hE
    by_cases h1 : 15 < zerosOf s' a'
    · rw [if_pos h1] at hE; omega
    · rw [if_neg h1] at hE
      by_cases h2 : rbOk s' a' (2 * zerosOf s' a' + 1)
      · exact ⟨by omega, h2⟩
      · rw [if_neg h2] at hE; omega
  have hA : ueAt s' a' = a' + (2 * zerosOf s' a' + 1) := by unfold ueAt; rw [if_pos hok]
  obtain ⟨z, hz⟩ : ∃ z : Nat, zerosOf s' a' = z := ⟨(zerosOf s' a').toNat, by omega⟩
  have hz4 : z ≤ 4 := by omega
  have hw := zc_was (s := s') (a := a') (z := z) (f := (remOf s' a').toNat) (by unfold zerosOf at hz; omega) (by omega)
  have hone : bitAt s' (a' + z) = 1 := by
    have := bitAt_in0 (s := s') (i := a' + z) (by omega)
    have := hw.2; omega
  have hb1 : bitAt s (a + z) = 1 := by
    have h1 := bitsOf_bit (j := z) h (by omega)
    rw [hone] at h1; omega
  have hin : a + z < 8 * s.size := by
    rcases Int.lt_or_le (a + z) (8 * s.size) with h1 | h1
    · exact h1
    · rw [bitAt_out (.inr h1)] at hb1; omega
  have hb0 : ∀ j : Nat, j < z → bitAt s (a + j) = 0 := by
    intro j hj
    have h1 := bitsOf_bit (j := j) h (by omega)
    rw [hw.1 j hj] at h1
    have h2 := bitAt_in0 (s := s) (i := a + j) (by omega)
    omega
  have hzs : zerosOf s a = z := by
    unfold zerosOf
    rw [zc_is hb0 (by omega) (by omega)]
  rw [hA, hz]
  refine ⟨fun hfit => ?_, fun hno => ?_, by omega⟩
  · have hrb : rbOk s a (2 * zerosOf s a + 1) := ⟨ha, by omega, by omega⟩
    have hok2 : ueOk s a := ⟨by omega, hrb⟩
    refine ⟨?_, ?_, ?_⟩
    · unfold ueE; rw [if_neg (by omega), if_pos hrb]
    · unfold ueV; rw [if_pos hok2, if_pos hok, hzs, hz]
      have e : (2 * (z : Int) + 1).toNat = 2 * z + 1 := by omega
      rw [e]
      obtain ⟨m, hm⟩ : ∃ m, 9 = (2 * z + 1) + m := ⟨9 - (2 * z + 1), by omega⟩
      rw [hm] at h
      rw [bitsOf_head h]
    · unfold ueAt; rw [if_pos hok2, hzs]; omega
  · have hrb : ¬ rbOk s a (2 * zerosOf s a + 1) := fun h1 => by have := h1.2.2; omega
    unfold ueE; rw [if_neg (by omega), if_neg hrb]
/-- the nine bits of a table's place -/
theorem bits9 {i : Nat} (hi : i < 512) : (packs (bitsl i 9 ++ List.replicate 7 0)).size = 2 ∧ bitsOf (packs (bitsl i 9 ++ List.replicate 7 0)) 0 9 = i := by
  have hb : isBits (bitsl i 9 ++ List.replicate 7 0) := isBits_app.2 ⟨bitsl_bits _ _, fun x hx => .inl (List.eq_of_mem_replicate hx)⟩
  have hl : (bitsl (i : Int) 9 ++ List.replicate 7 (0 : Int)).length = 16 := by rw [List.length_append, bitsl_length, List.length_replicate]
  refine ⟨by rw [packs_size, hl], ?_⟩
  have h1 := bitsOf_packs hb 0 9 (by rw [hl]; decide)
  rw [show ((0 : Nat) : Int) = 0 from rfl, List.drop_zero, List.take_append_of_le_length (by rw [bitsl_length]; decide), List.take_of_length_le (by rw [bitsl_length]; decide), numl_bitsl] at h1
  rw [h1]; omega
theorem ueTab_get {i : Nat} (hi : i < 512) : ueTab.getD i default = ueEnt i := by simp [ueTab, List.getD, hi]
theorem fu_read {s : ByteArray} {c : Ca} (h : caOk s c) : fuV s c ueTab = ueV s (placeOf s c) ∧ fuE s c ueTab = ueE s (placeOf s c) ∧ placeOf s (fuC s c ueTab) = ueAt s (placeOf s c) := by
  have hi := place_in h
  rw [place_of h]
  have hb := bitsOf_range s (8 * c.pos - c.hv) 9
  rw [show (2 : Int) ^ 9 = 512 from rfl] at hb
  have hix : fuIx s c < 512 := by unfold fuIx; omega
  have hic : ((fuIx s c : Nat) : Int) = bitsOf s (8 * c.pos - c.hv) 9 := by unfold fuIx; omega
  by_cases hh : fuHit s c ueTab
  · have hg := ueTab_get hix
    obtain ⟨hsz, h9⟩ := bits9 hix
    have hen : ueE (packs (bitsl (fuIx s c) 9 ++ List.replicate 7 0)) 0 = 0 ∧ ueAt (packs (bitsl (fuIx s c) 9 ++ List.replicate 7 0)) 0 ≤ 9 := Classical.byContradiction fun hn => by
      have h2 := hh.2.1; rw [hg] at h2; unfold ueEnt at h2; rw [if_neg hn] at h2; exact absurd h2 (by decide)
    have e1 : (ueTab.getD (fuIx s c) default).1 = ueAt (packs (bitsl (fuIx s c) 9 ++ List.replicate 7 0)) 0 := by rw [hg]; unfold ueEnt; rw [if_pos hen]
    have e2 : (ueTab.getD (fuIx s c) default).2 = ueV (packs (bitsl (fuIx s c) 9 ++ List.replicate 7 0)) 0 := by rw [hg]; unfold ueEnt; rw [if_pos hen]
    have hs := ue_same (s := s) (a := 8 * c.pos - c.hv) (a' := 0) hi (by omega) (by rw [h9, hic]) hen.1 (by omega)
    by_cases hf : 8 * c.pos - c.hv + (ueTab.getD (fuIx s c) default).1 > 8 * s.size
    · have hE1 := hs.2.1 (by omega)
      have hE : fuE s c ueTab = 1 := by unfold fuE; rw [if_neg (fun h2 => h2 h), if_pos hh, if_pos hf]
      have hne : ueE s (8 * c.pos - c.hv) ≠ 0 := by omega
      refine ⟨?_, by omega, ?_⟩
      · unfold fuV; rw [if_neg (by omega), ueV_no hne]
      · unfold fuC; rw [if_neg (by omega), ueAt_no hne, place_of h]
    · have hE : fuE s c ueTab = 0 := by unfold fuE; rw [if_neg (fun h2 => h2 h), if_pos hh, if_neg hf]
      have h3 := hs.1 (by omega)
      refine ⟨?_, by omega, ?_⟩
      · unfold fuV; rw [if_pos hE, if_pos hh, e2, h3.2.1]
      · unfold fuC fuAt; rw [if_pos hE, if_pos hh]
        have hse := settled_ok (s := s) (a := 8 * c.pos - c.hv + (ueTab.getD (fuIx s c) default).1) (by omega)
        rw [place_of hse.1, hse.2.1, h3.2.2, e1]; omega
  · have hE : fuE s c ueTab = ueE s (8 * c.pos - c.hv) := by unfold fuE; rw [if_neg (fun h2 => h2 h), if_neg hh]
    refine ⟨?_, hE, ?_⟩
    · unfold fuV; rw [hE, if_neg hh]; split
      · rfl
      · next h1 => rw [ueV_no h1]
    · unfold fuC fuAt; rw [hE, if_neg hh]; split
      · have hse := settled_ok (ueAt_in hi |>.imp (fun h1 => Int.le_trans hi.1 h1) id)
        rw [place_of hse.1, hse.2.1]
      · next h1 => rw [place_of h, ueAt_no h1]
end Go.Pl
