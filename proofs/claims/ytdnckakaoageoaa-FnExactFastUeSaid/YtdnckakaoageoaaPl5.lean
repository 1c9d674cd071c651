/- Plain: what caches yield. -/
import Derived.Test.YtdnckakaoageoaaPl4
namespace Go.Pl
theorem okN_ready {s : ByteArray} {c : Ca} {n : Int} (h : okN s c n) : okN s (readyOf s c n) n := ⟨ready_ok h.1, h.2⟩
theorem sk_ok {s : ByteArray} {c : Ca} {n : Int} (h : skOk s c n) : caOk s (skC s c n) ∧ 8 * (skC s c n).pos - (skC s c n).hv = 8 * c.pos - c.hv + n := by
  obtain ⟨⟨h1, h2⟩, h3⟩ := id h
  have hr := ready_ok (n := n) h1
  have hp := ready_place s c n
  have e : skC s c n = ⟨(readyOf s c n).pos, (readyOf s c n).word % 2 ^ ((readyOf s c n).hv - n).toNat, (readyOf s c n).hv - n⟩ := by unfold skC; rw [if_pos h]
  rw [e]
  generalize readyOf s c n = d at *
  obtain ⟨a1, a2, a3, a4, a5, a6⟩ := hr
  refine ⟨⟨a1, a2, ?_, ?_, ?_, ?_⟩, ?_⟩
  · show 0 ≤ d.hv - n; omega
  · show d.hv - n ≤ 56; omega
  · show d.hv - n ≤ 8 * d.pos; omega
  · show d.word % 2 ^ (d.hv - n).toNat = bitsOf s (8 * d.pos - (d.hv - n)) (d.hv - n).toNat
    have e2 : d.hv.toNat = n.toNat + (d.hv - n).toNat := by omega
    rw [a6]; conv => lhs; rw [e2, bitsOf_mod]
    congr 1; omega
  · show 8 * d.pos - (d.hv - n) = _; omega
theorem sk_iff {s : ByteArray} {c : Ca} {n : Int} (h : okN s c n) : skOk s c n ↔ rbOk s (8 * c.pos - c.hv) n := by
  obtain ⟨h1, h2⟩ := id h
  have hr := ready_ok (n := n) h1
  have hp := ready_place s c n
  have hf := ready_full (n := n) h1 h2.2
  obtain ⟨a1, a2, a3, a4, a5, a6⟩ := hr
  obtain ⟨b1, b2, b3, b4, b5, b6⟩ := id h1
  have hl : remOf s (8 * c.pos - c.hv) = 8 * s.size - (8 * c.pos - c.hv) := remOf_in (by omega)
  constructor
  · rintro ⟨_, h3⟩
    exact ⟨by omega, by omega, by omega⟩
  · rintro ⟨_, _, h3⟩
    refine ⟨h, ?_⟩
    rcases Int.lt_or_le (readyOf s c n).hv n with hx | hx
    · have := hf hx; omega
    · exact hx
theorem settled_ok {s : ByteArray} {a : Int} (h : 0 ≤ a ∧ a ≤ 8 * s.size) : caOk s (settledAt s a) ∧ 8 * (settledAt s a).pos - (settledAt s a).hv = a ∧ (settledAt s a).hv < 8 := by
  unfold settledAt
  refine ⟨⟨?_, ?_, ?_, ?_, ?_, ?_⟩, ?_, ?_⟩
  · show 0 ≤ (a + 7) / 8; omega
  · show (a + 7) / 8 ≤ _; omega
  · show 0 ≤ 8 * ((a + 7) / 8) - a; omega
  · show 8 * ((a + 7) / 8) - a ≤ 56; omega
  · show 8 * ((a + 7) / 8) - a ≤ 8 * ((a + 7) / 8); omega
  · show bitsOf s a _ = bitsOf s (8 * ((a + 7) / 8) - (8 * ((a + 7) / 8) - a)) _
    congr 1; omega
  · show 8 * ((a + 7) / 8) - (8 * ((a + 7) / 8) - a) = a; omega
  · show 8 * ((a + 7) / 8) - a < 8; omega
theorem place_of {s : ByteArray} {c : Ca} (h : caOk s c) : placeOf s c = 8 * c.pos - c.hv := by unfold placeOf; rw [if_pos h]
theorem place_in {s : ByteArray} {c : Ca} (h : caOk s c) : 0 ≤ 8 * c.pos - c.hv ∧ 8 * c.pos - c.hv ≤ 8 * s.size := by obtain ⟨_, _, _, _, _, _⟩ := h; omega
theorem new_ok (s : ByteArray) : caOk s ⟨0, 0, 0⟩ := by
  refine ⟨?_, ?_, ?_, ?_, ?_, ?_⟩ <;> simp [bitsOf]
theorem sk_keep {s : ByteArray} {c : Ca} {n : Int} (h : caOk s c) : caOk s (skC s c n) := by
  by_cases h1 : skOk s c n
  · exact (sk_ok h1).1
  · unfold skC; rw [if_neg h1]; split
    · exact ready_ok h
    · exact h
theorem refill_keep {s : ByteArray} {c : Ca} (h : caOk s c) : caOk s (refillOf s c) ∧ 8 * (refillOf s c).pos - (refillOf s c).hv = 8 * c.pos - c.hv := by
  unfold refillOf; rw [if_pos h]; exact ⟨rf_ok 7 h, rf_place s c 7⟩
/-- taking bits -/
def tkOk (s : ByteArray) (c : Ca) (n : Int) : Prop := skOk s (peekC s c n) n
instance (s : ByteArray) (c : Ca) (n : Int) : Decidable (tkOk s c n) := by unfold tkOk; infer_instance
def tkC (s : ByteArray) (c : Ca) (n : Int) : Ca := if tkOk s c n then skC s (peekC s c n) n else peekC s c n
def tkV (s : ByteArray) (c : Ca) (n : Int) : Int := if tkOk s c n then peekV s c n else 0
theorem tk_no {s : ByteArray} {c : Ca} {n : Int} (h : ¬ okN s c n) : ¬ tkOk s c n ∧ tkC s c n = c := by
  have e : peekC s c n = c := by unfold peekC; rw [if_neg h]
  have h1 : ¬ tkOk s c n := by unfold tkOk; rw [e]; exact fun h2 => h h2.1
  exact ⟨h1, by unfold tkC; rw [if_neg h1, e]⟩
theorem tk_iff {s : ByteArray} {c : Ca} {n : Int} (h : okN s c n) : tkOk s c n ↔ rbOk s (8 * c.pos - c.hv) n := by
  have e : peekC s c n = readyOf s c n := by unfold peekC; rw [if_pos h]
  unfold tkOk; rw [e, sk_iff (okN_ready h), ready_place]
theorem tk_keep {s : ByteArray} {c : Ca} {n : Int} (h : okN s c n) : caOk s (tkC s c n) := by
  have e : peekC s c n = readyOf s c n := by unfold peekC; rw [if_pos h]
  unfold tkC; rw [e]; split
  · exact sk_keep (ready_ok h.1)
  · exact ready_ok h.1
theorem tk_yes {s : ByteArray} {c : Ca} {n : Int} (h : tkOk s c n) : okN s c n ∧ 8 * (tkC s c n).pos - (tkC s c n).hv = 8 * c.pos - c.hv + n ∧ tkV s c n = bitsOf s (8 * c.pos - c.hv) n.toNat := by
  have h0 : okN s c n := Classical.byContradiction fun hx => (tk_no hx).1 h
  have e : peekC s c n = readyOf s c n := by unfold peekC; rw [if_pos h0]
  refine ⟨h0, ?_, ?_⟩
  · unfold tkC; rw [if_pos h]
    unfold tkOk at h
    rw [(sk_ok h).2, e, ready_place]
  · unfold tkV peekV; rw [if_pos h, if_pos h0]
theorem sz_in {l n : Int} (h : ¬ szOf l n < 0) : szOf l n = l - n ∧ n ≤ l := by
  unfold szOf at *; split at h <;> simp_all <;> omega
end Go.Pl
