/- What each function of this part returns, for every argument that meets its premises. -/
import Derived.Test.YtdnckakaoageoaaF5
import Derived.Test.YtdnckakaoageoaaPlX
namespace Go.Proofs.Ytdnckakaoageoaa
open Go.Sx Go.Pl Go.RowKit

/-- spec.CacheNew -/
theorem s_cacheNew (s : ByteArray) (w : World) :
    Calls Try.prog 66 [.string s].toArray w (Ret w (.agg [.string s, .int .i64 (Ca.mk 0 0 0).pos, .int .i64 (Ca.mk 0 0 0).word, .int .i64 (Ca.mk 0 0 0).hv].toArray)) := by
  have L : Exm [] w w := Exm.rfl'
  refine enter (n := 5) Try.func66 rfl rfl rfl ?_
  refine wp_seq ?_
  refine c_reg ?_
  refine s_alloc zr64 ?_
  intro b1 w2 lob1 hib1 l3 B1
  have z_l3 := l3.size
  have L := L.tr l3.up
  refine c_end ?_
  refine n_then ?_
  refine wp_seq ?_
  refine c_reg ?_
  refine s0 (x_move (v := .string _) rfl) ?_
  refine s0 (x_build (cs := [.string _, .int .i64 0, .int .i64 0, .int .i64 0]) bd64 (pts_cons (v := .string _) rfl pts_nil) rfl) ?_
  refine s_storeAg rfl sz64 rfl rfl B1 rfl rfl rfl ?_
  intro w4 l5 el5 B1
  have z_l5 := l5.size
  have L := L.fresh l5 (by omega)
  refine c_end ?_
  refine n_then ?_
  refine wp_ret ?_
  refine f_retc rfl rfl ag64 B1 rfl ?_
  exact ⟨rfl, L⟩

theorem ca_of (s : ByteArray) (p w h : Int) (hs : s.size ≤ 16) : ∃ (s' : ByteArray) (c : Ca), Value.agg [.string s, .int .i64 p, .int .i64 w, .int .i64 h].toArray = .agg [.string s', .int .i64 c.pos, .int .i64 c.word, .int .i64 c.hv].toArray ∧ s'.size ≤ 16 := ⟨s, ⟨p, w, h⟩, rfl, hs⟩

theorem tk_yes' {s : ByteArray} {c : Ca} {n : Int} (h : tkOk s c n) : Ending.returned (.tuple [.agg [.string s, .int .i64 (skC s (peekC s c n) n).pos, .int .i64 (skC s (peekC s c n) n).word, .int .i64 (skC s (peekC s c n) n).hv].toArray, .int .i64 (peekV s c n), .bool true].toArray) = .returned (.tuple [.agg [.string s, .int .i64 (tkC s c n).pos, .int .i64 (tkC s c n).word, .int .i64 (tkC s c n).hv].toArray, .int .i64 (tkV s c n), .bool (decide (tkOk s c n))].toArray) := by simp only [tkC, tkV, if_pos h, decide_eq_true h]
theorem tk_no' {s : ByteArray} {c : Ca} {n : Int} (h : ¬ tkOk s c n) : Ending.returned (.tuple [.agg [.string s, .int .i64 (peekC s c n).pos, .int .i64 (peekC s c n).word, .int .i64 (peekC s c n).hv].toArray, .int .i64 0, .bool false].toArray) = .returned (.tuple [.agg [.string s, .int .i64 (tkC s c n).pos, .int .i64 (tkC s c n).word, .int .i64 (tkC s c n).hv].toArray, .int .i64 (tkV s c n), .bool (decide (tkOk s c n))].toArray) := by simp only [tkC, tkV, if_neg h, decide_eq_false h]

theorem place_tk {s : ByteArray} {c : Ca} {n : Int} (hk : okN s c n) (h : tkOk s c n) : placeOf s (tkC s c n) = placeOf s c + n := by
  rw [place_of (tk_keep hk), place_of hk.1, (tk_yes h).2.1]
theorem peek_keep {s : ByteArray} {c : Ca} {n : Int} (hk : okN s c n) : caOk s (peekC s c n) ∧ placeOf s (peekC s c n) = placeOf s c := by
  have e : peekC s c n = readyOf s c n := by unfold peekC; rw [if_pos hk]
  have h := ready_ok (n := n) hk.1
  rw [e]; exact ⟨h, by rw [place_of h, place_of hk.1, ready_place]⟩
theorem place_refill {s : ByteArray} {c : Ca} (h : caOk s c) : placeOf s (refillOf s c) = placeOf s c := by
  rw [place_of (refill_keep h).1, place_of h, (refill_keep h).2]
theorem settle_ok {s : ByteArray} {c : Ca} (h : caOk s c) : caOk s (settleOf s c) ∧ placeOf s (settleOf s c) = placeOf s c ∧ (settleOf s c).hv < 8 := by
  have h1 := settled_ok (place_in h)
  have e : settleOf s c = settledAt s (8 * c.pos - c.hv) := by unfold settleOf; rw [if_pos h]
  rw [e]; exact ⟨h1.1, by rw [place_of h1.1, place_of h, h1.2.1], h1.2.2⟩
theorem sk_refill {s : ByteArray} {c : Ca} {n : Int} (hk : okN s c n) : skOk s (refillOf s c) n ↔ tkOk s c n := by
  have h := refill_keep hk.1
  rw [tk_iff hk, sk_iff ⟨h.1, hk.2⟩, h.2]
theorem place_sk {s : ByteArray} {c : Ca} {n : Int} (hk : okN s c n) (h : tkOk s c n) : caOk s (skC s (refillOf s c) n) ∧ placeOf s (skC s (refillOf s c) n) = placeOf s c + n := by
  have h1 := (sk_refill hk).2 h
  have h2 := sk_ok h1
  refine ⟨h2.1, ?_⟩
  rw [place_of h2.1, h2.2, (refill_keep hk.1).2, place_of hk.1]
theorem settle_same {s : ByteArray} {c d : Ca} (hc : caOk s c) (hd : caOk s d) (h : placeOf s c = placeOf s d) : settleOf s c = settleOf s d := by
  rw [place_of hc, place_of hd] at h
  unfold settleOf; rw [if_pos hc, if_pos hd, h]
theorem tk_vals {s : ByteArray} {c : Ca} {n : Int} (h : tkOk s c n) : tkV s c n = rbV s (placeOf s c) n ∧ peekV s c n = tkV s c n := by
  have hk := (tk_yes h).1
  have hr := (tk_iff hk).1 h
  rw [← place_of hk.1] at hr
  refine ⟨?_, by unfold tkV; rw [if_pos h]⟩
  rw [(tk_yes h).2.2]; unfold rbV; rw [if_pos hr, place_of hk.1]
theorem tk_rb {s : ByteArray} {c : Ca} {n : Int} (hk : okN s c n) : tkOk s c n ↔ rbOk s (placeOf s c) n := by
  rw [tk_iff hk, place_of hk.1]

end Go.Proofs.Ytdnckakaoageoaa
