/- What each function of this part returns, for every argument that meets its premises. -/
import Derived.Test.YtfmmkacopgecpaaF5
import Derived.Test.YtfmmkacopgecpaaPl5
namespace Go.Proofs.Ytfmmkacopgecpaa
open Go.Sx Go.Pl Go.RowKit
theorem cl92 : Callable Try.prog 92 := callable Try.func92 (by kernel_rfl) rfl
theorem cl93 : Callable Try.prog 93 := callable Try.func93 (by kernel_rfl) rfl
/-- impl.CacheNew -/
theorem i_cacheNew (s : ByteArray) (w : World) :
    Calls Try.prog 23 [.string s].toArray w (Ret w (.agg [.string s, .int .i64 (Ca.mk 0 0 0).pos, .int .i64 (Ca.mk 0 0 0).word, .int .i64 (Ca.mk 0 0 0).hv].toArray)) := by
  have L : Exm [] w w := Exm.rfl'
  refine enter (n := 5) Try.func23 rfl rfl rfl ?_
  refine wp_seq ?_
  refine c_reg ?_
  refine s_alloc zr31 ?_
  intro b1 w2 lob1 hib1 l3 B1
  have z_l3 := l3.size
  have L := L.tr l3.up
  refine c_end ?_
  refine n_then ?_
  refine wp_seq ?_
  refine c_reg ?_
  refine s0 (x_move (v := .string _) rfl) ?_
  refine s0 (x_build (cs := [.string _, .int .i64 0, .int .i64 0, .int .i64 0]) bd31 (pts_cons (v := .string _) rfl pts_nil) rfl) ?_
  refine s_storeAg rfl sz31 rfl rfl B1 rfl rfl rfl ?_
  intro w4 l5 el5 B1
  have z_l5 := l5.size
  have L := L.fresh l5 (by omega)
  refine c_end ?_
  refine n_then ?_
  refine wp_ret ?_
  refine f_retc rfl rfl ag31 B1 rfl ?_
  exact ⟨rfl, L⟩

theorem ca_of (s : ByteArray) (p w h : Int) (hs : s.size ≤ 16) : ∃ (s' : ByteArray) (c : Ca), Value.agg [.string s, .int .i64 p, .int .i64 w, .int .i64 h].toArray = .agg [.string s', .int .i64 c.pos, .int .i64 c.word, .int .i64 c.hv].toArray ∧ s'.size ≤ 16 := ⟨s, ⟨p, w, h⟩, rfl, hs⟩

theorem tk_yes' {s : ByteArray} {c : Ca} {n : Int} (h : tkOk s c n) : Ending.returned (.tuple [.agg [.string s, .int .i64 (skC s (peekC s c n) n).pos, .int .i64 (skC s (peekC s c n) n).word, .int .i64 (skC s (peekC s c n) n).hv].toArray, .int .i64 (peekV s c n), .bool true].toArray) = .returned (.tuple [.agg [.string s, .int .i64 (tkC s c n).pos, .int .i64 (tkC s c n).word, .int .i64 (tkC s c n).hv].toArray, .int .i64 (tkV s c n), .bool (decide (tkOk s c n))].toArray) := by simp only [tkC, tkV, if_pos h, decide_eq_true h]
theorem tk_no' {s : ByteArray} {c : Ca} {n : Int} (h : ¬ tkOk s c n) : Ending.returned (.tuple [.agg [.string s, .int .i64 (peekC s c n).pos, .int .i64 (peekC s c n).word, .int .i64 (peekC s c n).hv].toArray, .int .i64 0, .bool false].toArray) = .returned (.tuple [.agg [.string s, .int .i64 (tkC s c n).pos, .int .i64 (tkC s c n).word, .int .i64 (tkC s c n).hv].toArray, .int .i64 (tkV s c n), .bool (decide (tkOk s c n))].toArray) := by simp only [tkC, tkV, if_neg h, decide_eq_false h]

/-- impl.TakeBits -/
theorem i_takeBits (s : ByteArray) (c : Ca) (n : Int) (w : World) (hs : s.size ≤ 1048576) :
    Calls Try.prog 26 [.agg [.string s, .int .i64 (c).pos, .int .i64 (c).word, .int .i64 (c).hv].toArray, .int .i64 n].toArray w (Ret w (.tuple [.agg [.string s, .int .i64 (tkC s c n).pos, .int .i64 (tkC s c n).word, .int .i64 (tkC s c n).hv].toArray, .int .i64 (tkV s c n), .bool (decide (tkOk s c n))].toArray)) := by
  have L : Exm [] w w := Exm.rfl'
  refine enter (n := 27) Try.func26 rfl rfl rfl ?_
  refine wp_seq ?_
  refine c_reg ?_
  refine s_box rfl rfl ?_
  intro b1 w2 lob1 hib1 l3 B1
  have z_l3 := l3.size
  have L := L.tr l3.up
  refine s_alloc zr31 ?_
  intro b4 w5 lob4 hib4 l6 B4
  have z_l6 := l6.size
  have L := L.tr l6.up
  have B1 := B1.ext l6
  refine s0 (x_assign (v := .int _ _) rfl) ?_
  refine s0 (x_assign (v := .bool _) rfl) ?_
  refine c_end ?_
  refine n_then ?_
  refine wp_seq ?_
  refine c_reg ?_
  refine st (x_loadAgB ag31 rfl B1 rfl) ?_
  refine s0 (x_move (v := .int _ _) rfl) ?_
  refine sr (zcall cl92 rfl) (i_peek _ c _ _ (by omega)) ?_
  intro w7 l8
  have z_l8 := l8.size
  have L := L.tr l8.up
  have B1 := B1.ext l8
  have B4 := B4.ext l8
  refine s0 (x_move (v := .tuple _) rfl) ?_
  refine s0 (x_extract rfl rfl) ?_
  refine s0 (x_extract rfl rfl) ?_
  refine s_storeAg rfl sz31 rfl rfl B1 rfl rfl rfl ?_
  intro w9 l10 el10 B1
  have z_l10 := l10.size
  have L := L.fresh l10 (by omega)
  have B4 := B4.ne l10 (by omega)
  refine s0 (x_assign (v := .int _ _) rfl) ?_
  refine c_end ?_
  refine n_then ?_
  refine wp_seq ?_
  refine c_reg ?_
  refine st (x_loadAgB ag31 rfl B1 rfl) ?_
  refine s0 (x_move (v := .int _ _) rfl) ?_
  refine sr (zcall cl93 rfl) (i_skip _ (peekC s c n) _ _ (by omega)) ?_
  intro w11 l12
  have z_l12 := l12.size
  have L := L.tr l12.up
  have B1 := B1.ext l12
  have B4 := B4.ext l12
  refine s0 (x_move (v := .tuple _) rfl) ?_
  refine s0 (x_extract rfl rfl) ?_
  refine sb (x_extract rfl rfl) (fun h21 => ?_) (fun h21 => ?_)
  · refine s_alloc zr31 ?_
    intro b13 w14 lob13 hib13 l15 B13
    have z_l15 := l15.size
    have L := L.tr l15.up
    have B1 := B1.ext l15
    have B4 := B4.ext l15
    refine s_storeAg rfl sz31 rfl rfl B13 rfl rfl rfl ?_
    intro w16 l17 el17 B13
    have z_l17 := l17.size
    have L := L.fresh l17 (by omega)
    have B1 := B1.ne l17 (by omega)
    have B4 := B4.ne l17 (by omega)
    refine s0 (x_assign (v := .bool _) rfl) ?_
    refine c_end ?_
    refine n_then ?_
    refine wp_seq ?_
    refine wp_seq ?_
    refine c_reg ?_
    refine s0 (x_move (v := .bool _) rfl) ?_
    refine s0 (x_not rfl) ?_
    refine c_end ?_
    refine n_then ?_
    refine c_false rfl ?_
    refine c_skipn ?_
    refine n_then ?_
    refine wp_seq ?_
    refine c_reg ?_
    refine st (x_loadAgB ag31 rfl B13 rfl) ?_
    refine s0 (x_move (v := .int _ _) rfl) ?_
    refine s_storeAg rfl sz31 rfl rfl B4 rfl rfl rfl ?_
    intro w18 l19 el19 B4
    have z_l19 := l19.size
    have L := L.fresh l19 (by omega)
    have B1 := B1.ne l19 (by omega)
    have B13 := B13.ne l19 (by omega)
    refine s0 (x_assign (v := .int _ _) rfl) ?_
    refine s0 (x_assign (v := .bool _) rfl) ?_
    refine c_end ?_
    refine n_then ?_
    refine wp_ret ?_
    refine f_rets3 rfl (ro_cell rfl ag31 B4 rfl) (ro_tmp rfl) (ro_tmp rfl) ?_
    exact ⟨tk_yes' h21, L⟩
  · refine s_alloc zr31 ?_
    intro b20 w21 lob20 hib20 l22 B20
    have z_l22 := l22.size
    have L := L.tr l22.up
    have B1 := B1.ext l22
    have B4 := B4.ext l22
    refine s_storeAg rfl sz31 rfl rfl B20 rfl rfl rfl ?_
    intro w23 l24 el24 B20
    have z_l24 := l24.size
    have L := L.fresh l24 (by omega)
    have B1 := B1.ne l24 (by omega)
    have B4 := B4.ne l24 (by omega)
    refine s0 (x_assign (v := .bool _) rfl) ?_
    refine c_end ?_
    refine n_then ?_
    refine wp_seq ?_
    refine wp_seq ?_
    refine c_reg ?_
    refine s0 (x_move (v := .bool _) rfl) ?_
    refine s0 (x_not rfl) ?_
    refine c_end ?_
    refine n_then ?_
    refine c_true rfl ?_
    refine wp_seq ?_
    refine c_reg ?_
    refine st (x_loadAgB ag31 rfl B1 rfl) ?_
    refine s_storeAg rfl sz31 rfl rfl B4 rfl rfl rfl ?_
    intro w25 l26 el26 B4
    have z_l26 := l26.size
    have L := L.fresh l26 (by omega)
    have B1 := B1.ne l26 (by omega)
    have B20 := B20.ne l26 (by omega)
    refine s0 (x_assign (v := .int _ _) rfl) ?_
    refine s0 (x_assign (v := .bool _) rfl) ?_
    refine c_end ?_
    refine n_then ?_
    refine wp_ret (r_then ?_)
    refine f_rets3 rfl (ro_cell rfl ag31 B4 rfl) (ro_tmp rfl) (ro_tmp rfl) ?_
    exact ⟨tk_no' h21, L⟩

theorem place_tk {s : ByteArray} {c : Ca} {n : Int} (hk : okN s c n) (h : tkOk s c n) : placeOf s (tkC s c n) = placeOf s c + n := by
  rw [place_of (tk_keep hk), place_of hk.1, (tk_yes h).2.1]
theorem peek_keep {s : ByteArray} {c : Ca} {n : Int} (hk : okN s c n) : caOk s (peekC s c n) ∧ placeOf s (peekC s c n) = placeOf s c := by
  have e : peekC s c n = readyOf s c n := by unfold peekC; rw [if_pos hk]
  have h := ready_ok (n := n) hk.1
  rw [e]; exact ⟨h, by rw [place_of h, place_of hk.1, ready_place]⟩
theorem place_refill {s : ByteArray} {c : Ca} (h : caOk s c) : placeOf s (refillOf s c) = placeOf s c := by
  rw [place_of (refill_keep h).1, place_of h, (refill_keep h).2]
theorem settle_ok {s : ByteArray} {c : Ca} (h : caOk s c) : caOk s (settleOf s c) ∧ placeOf s (settleOf s c) = placeOf s c ∧ (settleOf s c).hv < 8 := by
  have h1 := settled_ok (place_in h)
  have e : settleOf s c = settledAt s (8 * c.pos - c.hv) := by unfold settleOf; rw [if_pos h]
  rw [e]; exact ⟨h1.1, by rw [place_of h1.1, place_of h, h1.2.1], h1.2.2⟩
theorem sk_refill {s : ByteArray} {c : Ca} {n : Int} (hk : okN s c n) : skOk s (refillOf s c) n ↔ tkOk s c n := by
  have h := refill_keep hk.1
  rw [tk_iff hk, sk_iff ⟨h.1, hk.2⟩, h.2]
theorem place_sk {s : ByteArray} {c : Ca} {n : Int} (hk : okN s c n) (h : tkOk s c n) : caOk s (skC s (refillOf s c) n) ∧ placeOf s (skC s (refillOf s c) n) = placeOf s c + n := by
  have h1 := (sk_refill hk).2 h
  have h2 := sk_ok h1
  refine ⟨h2.1, ?_⟩
  rw [place_of h2.1, h2.2, (refill_keep hk.1).2, place_of hk.1]
theorem settle_same {s : ByteArray} {c d : Ca} (hc : caOk s c) (hd : caOk s d) (h : placeOf s c = placeOf s d) : settleOf s c = settleOf s d := by
  rw [place_of hc, place_of hd] at h
  unfold settleOf; rw [if_pos hc, if_pos hd, h]
theorem tk_vals {s : ByteArray} {c : Ca} {n : Int} (h : tkOk s c n) : tkV s c n = rbV s (placeOf s c) n ∧ peekV s c n = tkV s c n := by
  have hk := (tk_yes h).1
  have hr := (tk_iff hk).1 h
  rw [← place_of hk.1] at hr
  refine ⟨?_, by unfold tkV; rw [if_pos h]⟩
  rw [(tk_yes h).2.2]; unfold rbV; rw [if_pos hr, place_of hk.1]
theorem tk_rb {s : ByteArray} {c : Ca} {n : Int} (hk : okN s c n) : tkOk s c n ↔ rbOk s (placeOf s c) n := by
  rw [tk_iff hk, place_of hk.1]

end Go.Proofs.Ytfmmkacopgecpaa
