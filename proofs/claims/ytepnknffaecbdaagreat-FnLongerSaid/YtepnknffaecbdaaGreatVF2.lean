/- What each function of this part returns, for every argument that meets its premises. -/
import Derived.Test.YtepnknffaecbdaaGreatProg
import Derived.Test.YtepnknffaecbdaaGreatVSxA
import Derived.Test.YtepnknffaecbdaaGreatVTy
import Derived.Test.YtepnknffaecbdaaGreatVPlA
import Derived.Test.YtepnknffaecbdaaGreatVF1
namespace Go.Proofs.YtepnknffaecbdaaGreat
open Go.Sx Go.Pl Go.RowKit
theorem i_readerOk (s : ByteArray) (a : Int) (w : World) (hs : s.size ≤ 1048576) :
    Calls Tryz.prog 159 [.agg [.string s, .int .i64 a].toArray].toArray w (Ret w (.bool (decide (0 ≤ a ∧ a ≤ 8 * s.size)))) := by
 have L : Exm [] w w := Exm.rfl'
 refine enter (n := 10) Tryz.func159 rfl rfl rfl ?_
 refine wp_seq (c_reg (s_box rfl rfl ?_))
 intro b1 w2 lob1 hib1 l3 B1
 have z_l3 := l3.size; have L := L.tr l3.up
 refine s0 (x_assign (v := .bool _) rfl) (c_end (n_then (wp_seq (c_reg (s0 (x_fieldAddr fa79_1 rfl) (st (x_loadB sc3 rfl B1 rfl) (s0 (x_fieldAddr fa79_0 rfl) (st (x_loadB sc9 rfl B1 rfl) (s0 (x_len un9 rfl) (s0 (x_mul rfl rfl (by omega)) ?_))))))))))
 refine sr (zcall cl77 rfl) (i_within _ _ _ _) ?_
 intro w4 l5
 have z_l5 := l5.size; have L := L.tr l5.up
 refine s0 (x_assign (v := .bool _) rfl) (c_end (n_then (wp_ret (f_ret rfl rfl ?_))))
 exact ⟨rfl, L⟩

theorem i_left (s : ByteArray) (a : Int) (w : World) (hs : s.size ≤ 1048576) :
    Calls Tryz.prog 103 [.agg [.string s, .int .i64 a].toArray].toArray w (Ret w (.int .i64 (remOf s a))) := by
 have L : Exm [] w w := Exm.rfl'
 refine enter (n := 13) Tryz.func103 rfl rfl rfl ?_
 refine wp_seq (c_reg (s_box rfl rfl ?_))
 intro b1 w2 lob1 hib1 l3 B1
 have z_l3 := l3.size; have L := L.tr l3.up
 refine s0 (xaI rfl) (c_end (n_then (wp_seq (wp_seq (c_reg (st (x_loadAgB ag79 rfl B1 rfl) ?_))))))
 refine srb (zcall cl159 rfl) (i_readerOk _ _ _ (by omega)) (fun h4 w4 l5 => ?_) (fun h4 w4 l5 => ?_)
 ·have z_l5 := l5.size
  have L := L.tr l5.up; have B1 := B1.ext l5
  refine s0 (x_not rfl) (c_end (n_then (c_false rfl (c_skipn (n_then (wp_seq (c_reg (s0 (x_fieldAddr fa79_0 rfl) (st (x_loadB sc9 rfl B1 rfl) (s0 (x_len un9 rfl) (s0 (x_mul rfl rfl (by omega)) (s0 (x_fieldAddr fa79_1 rfl) (st (x_loadB sc3 rfl B1 rfl) ?_)))))))))))))
  refine s0 (x_sub rfl rfl (by omega)) (s0 (xaI rfl) (c_end (n_then (wp_ret (f_ret rfl rfl ?_)))))
  exact ⟨ret_int (by unfold remOf; rw [if_pos (by omega)]), L⟩
 ·have z_l5 := l5.size
  have L := L.tr l5.up
  refine s0 (x_not rfl) (c_end (n_then (c_true rfl (wp_seq (c_reg (s0 (xaI rfl) (c_end (n_then ?_))))))))
  refine wp_ret (r_then ?_)
  refine f_ret rfl rfl ?_
  exact ⟨ret_int (by unfold remOf; rw [if_neg (by omega)]), L⟩

theorem rb_yes {s : ByteArray} {a n : Int} (h : rbOk s a n) : Ending.returned (.tuple [.agg [.string s, .int .i64 (a + n)].toArray, .int .i64 (bitsOf s a n.toNat), .bool true].toArray) = .returned (.tuple [.agg [.string s, .int .i64 (rbAt s a n)].toArray, .int .i64 (rbV s a n), .bool (decide (rbOk s a n))].toArray) := by simp only [rbAt, rbV, if_pos h, decide_eq_true h]
theorem rb_no {s : ByteArray} {a n : Int} (h : ¬ rbOk s a n) : Ending.returned (.tuple [.agg [.string s, .int .i64 a].toArray, .int .i64 0, .bool false].toArray) = .returned (.tuple [.agg [.string s, .int .i64 (rbAt s a n)].toArray, .int .i64 (rbV s a n), .bool (decide (rbOk s a n))].toArray) := by simp only [rbAt, rbV, if_neg h, decide_eq_false h]

theorem i_readBits (s : ByteArray) (a n : Int) (w : World) (hs : s.size ≤ 1048576) :
    Calls Tryz.prog 101 [.agg [.string s, .int .i64 a].toArray, .int .i64 n].toArray w (Ret w (.tuple [.agg [.string s, .int .i64 (rbAt s a n)].toArray, .int .i64 (rbV s a n), .bool (decide (rbOk s a n))].toArray)) := by
 have L : Exm [] w w := Exm.rfl'
 refine enter (n := 35) Tryz.func101 rfl rfl rfl ?_
 refine wp_seq (c_reg (s_box rfl rfl ?_))
 intro b1 w2 lob1 hib1 l3 B1
 have z_l3 := l3.size; have L := L.tr l3.up
 refine s_alloc zr79 ?_
 intro b4 w5 lob4 hib4 l6 B4
 have z_l6 := l6.size; have L := L.tr l6.up; have B1 := B1.ext l6
 refine s0 (xaI rfl) (s0 (x_assign (v := .bool _) rfl) (c_end (n_then (wp_seq (wp_seq (c_reg (st (x_loadAgB ag79 rfl B1 rfl) ?_)))))))
 refine srb (zcall cl159 rfl) (i_readerOk _ _ _ (by omega)) (fun h8 w7 l8 => ?_) (fun h8 w7 l8 => ?_)
 ·have z_l8 := l8.size
  have L := L.tr l8.up; have B1 := B1.ext l8; have B4 := B4.ext l8
  refine s0 (x_not rfl) (s0 (x_move (v := .bool _) rfl) (gt rfl rfl rfl rfl (s0 (xmI rfl) (gt rfl rfl rfl rfl ?_))))
  refine srb (zcall cl77 rfl) (i_within _ _ _ _) (fun h12 w9 l10 => ?_) (fun h12 w9 l10 => ?_)
  ·have z_l10 := l10.size
   have L := L.tr l10.up; have B1 := B1.ext l10; have B4 := B4.ext l10
   refine gt rfl rfl rfl rfl (s0 (x_not rfl) (s0 (x_pickf (v := .bool _) rfl rfl) (s0 (x_move (v := .bool _) rfl) (gt rfl rfl rfl rfl (st (x_loadAgB ag79 rfl B1 rfl) (gt rfl rfl rfl rfl ?_))))))
   refine sr (zcall cl103 rfl) (i_left _ _ _ (by omega)) ?_
   intro w11 l12
   have z_l12 := l12.size; have L := L.tr l12.up; have B1 := B1.ext l12; have B4 := B4.ext l12
   refine gt rfl rfl rfl rfl (s0 (xmI rfl) (gt rfl rfl rfl rfl ?_))
   refine sb (x_lss rfl rfl) (fun h19 => ?_) (fun h19 => ?_)
   ·refine s0 (x_pickf (v := .bool _) rfl rfl) (c_end (n_then (c_true rfl (wp_seq (c_reg (st (x_loadAgB ag79 rfl B1 rfl) (s_storeAg rfl sz79 rfl rfl B4 rfl rfl rfl ?_)))))))
    intro w13 l14 el14 B4
    have z_l14 := l14.size; have L := L.fresh l14 (by omega); have B1 := B1.ne l14 (by omega)
    refine s0 (xaI rfl) (s0 (x_assign (v := .bool _) rfl) (c_end (n_then ?_)))
    refine wp_ret (r_then ?_)
    refine f_rets3 rfl (ro_cell rfl ag79 B4 rfl) (ro_tmp rfl) (ro_tmp rfl) ?_
    exact ⟨rb_no (by rintro ⟨_, _, _⟩; omega), L⟩
   ·refine s0 (x_pickf (v := .bool _) rfl rfl) (c_end (n_then (c_false rfl (c_skipn (n_then (wp_seq ?_))))))
    have hb := remOf_in h8
    refine c_plan (fun wq => Exm [b4] w11 wq) 16 (.cons (0, 2) (.cons (1, 1) (.cons (2, 2) (.cons (3, 1) (.cons (4, 2) (.cons (5, 2) (.cons (6, 2) (.cons (7, 2) (.cons (8, 1) (.cons (9, 2) (.cons (10, 1) (.cons (11, 2) (.cons (12, 0) (.cons (13, 0) (.cons (14, 2) (.cons (15, 2) .nil)))))))))))))))) (by kernel_rfl) (by kernel_rfl) (Exm.drew _) ?_
    obtain ⟨w15, hwd⟩ : ∃ x, x = w11.drew := ⟨_, rfl⟩
    have l16 : Ext w11 w15 := by rw [hwd]; exact Exm.drew _
    rw [← hwd]; clear hwd
    have Lq : Exm [b4] w11 w15 := l16.up; have qB1 := B1; have z_l16 := l16.size; have L := L.tr l16.up; have B1 := B1.ext l16; have B4 := B4.ext l16
    refine p0 rfl (x_fieldAddr fa79_0 rfl) ?_
    refine ps rfl (fun wq hwq => x_loadB sc9 rfl (qB1.ne hwq (by omega)) rfl) ?_
    refine p0 rfl (x_fieldAddr fa79_1 rfl) ?_
    refine ps rfl (fun wq hwq => x_loadB sc3 rfl (qB1.ne hwq (by omega)) rfl) ?_
    refine p0 rfl (xmI rfl) (p0 rfl (x_add rfl rfl (by omega)) ?_)
    refine p0 rfl (x_build (cs := [.string _, .int _ _]) bd79 (pts_cons (v := .string _) rfl (pts_cons (v := .int _ _) rfl pts_nil)) rfl) ?_
    refine p0 rfl (x_fieldAddr fa79_0 rfl) ?_
    refine ps rfl (fun wq hwq => x_loadB sc9 rfl (qB1.ne hwq (by omega)) rfl) ?_
    refine p0 rfl (x_fieldAddr fa79_1 rfl) ?_
    refine ps rfl (fun wq hwq => x_loadB sc3 rfl (qB1.ne hwq (by omega)) rfl) ?_
    refine p0 rfl (xmI rfl) (pu rfl ?_)
    refine sr (zcall cl104 rfl) (i_bits _ _ _ _ (by omega) (by omega) (by omega)) ?_
    intro w17 l18
    have z_l18 := l18.size; have L := L.tr l18.up; have Lq := Lq.tr l18.up; have B1 := B1.ext l18; have B4 := B4.ext l18
    refine c_end ⟨rfl, fun h hS => Lq, ?_⟩
    refine pu rfl (s_storeAg rfl sz79 rfl rfl B4 rfl rfl rfl ?_)
    intro w19 l20 el20 B4
    have z_l20 := l20.size; have L := L.fresh l20 (by omega); have Lq := Lq.within l20 (by simp)
    have B1 := B1.ne l20 (by omega)
    refine c_end ⟨rfl, fun h hS => Lq, ?_⟩
    refine p0 rfl (xaI rfl) (p0 rfl (x_assign (v := .bool _) rfl) ?_)
    refine p_nil (np_normal ?_)
    refine n_then (wp_ret (f_rets3 rfl (ro_cell rfl ag79 B4 rfl) (ro_tmp rfl) (ro_tmp rfl) ?_))
    exact ⟨rb_yes ⟨h8, h12, by omega⟩, L⟩
  ·have z_l10 := l10.size
   have L := L.tr l10.up; have B1 := B1.ext l10; have B4 := B4.ext l10
   refine gt rfl rfl rfl rfl (s0 (x_not rfl) (s0 (x_pickf (v := .bool _) rfl rfl) (s0 (x_move (v := .bool _) rfl) (gf rfl rfl rfl rfl (gf rfl rfl rfl rfl (gf rfl rfl rfl rfl (gf rfl rfl rfl rfl (s0 (x_pickt (v := .bool _) rfl rfl) (c_end (n_then (c_true rfl (wp_seq (c_reg ?_)))))))))))))
   refine st (x_loadAgB ag79 rfl B1 rfl) (s_storeAg rfl sz79 rfl rfl B4 rfl rfl rfl ?_)
   intro w21 l22 el22 B4
   have z_l22 := l22.size; have L := L.fresh l22 (by omega); have B1 := B1.ne l22 (by omega)
   refine s0 (xaI rfl) (s0 (x_assign (v := .bool _) rfl) (c_end (n_then ?_)))
   refine wp_ret (r_then ?_)
   refine f_rets3 rfl (ro_cell rfl ag79 B4 rfl) (ro_tmp rfl) (ro_tmp rfl) ?_
   exact ⟨rb_no (by rintro ⟨_, _, _⟩; omega), L⟩
 ·have z_l8 := l8.size
  have L := L.tr l8.up; have B1 := B1.ext l8; have B4 := B4.ext l8
  refine s0 (x_not rfl) (s0 (x_move (v := .bool _) rfl) (gf rfl rfl rfl rfl (gf rfl rfl rfl rfl (gf rfl rfl rfl rfl (s0 (x_pickt (v := .bool _) rfl rfl) (s0 (x_move (v := .bool _) rfl) (gf rfl rfl rfl rfl (gf rfl rfl rfl rfl (gf rfl rfl rfl rfl (gf rfl rfl rfl rfl (s0 (x_pickt (v := .bool _) rfl rfl) (c_end (n_then ?_)))))))))))))
  refine c_true rfl (wp_seq (c_reg (st (x_loadAgB ag79 rfl B1 rfl) (s_storeAg rfl sz79 rfl rfl B4 rfl rfl rfl ?_))))
  intro w23 l24 el24 B4
  have z_l24 := l24.size; have L := L.fresh l24 (by omega); have B1 := B1.ne l24 (by omega)
  refine s0 (xaI rfl) (s0 (x_assign (v := .bool _) rfl) (c_end (n_then ?_)))
  refine wp_ret (r_then ?_)
  refine f_rets3 rfl (ro_cell rfl ag79 B4 rfl) (ro_tmp rfl) (ro_tmp rfl) ?_
  exact ⟨rb_no (by rintro ⟨_, _, _⟩; omega), L⟩

theorem i_zeros (s : ByteArray) (a : Int) (w : World) (hs : s.size ≤ 1048576) :
    Calls Tryz.prog 202 [.agg [.string s, .int .i64 a].toArray].toArray w (Ret w (.int .i64 (zerosOf s a))) := by
 have hl := remOf_range s a; have L : Exm [] w w := Exm.rfl'
 refine enter (n := 18) Tryz.func202 rfl rfl rfl ?_
 refine wp_seq (c_reg (s_box rfl rfl ?_))
 intro b1 w2 lob1 hib1 l3 B1
 have z_l3 := l3.size; have L := L.tr l3.up
 refine s0 (xaI rfl) (c_end (n_then (wp_seq (wp_seq (c_reg (st (x_loadAgB ag79 rfl B1 rfl) ?_))))))
 refine srb (zcall cl159 rfl) (i_readerOk _ _ _ (by omega)) (fun h5 w4 l5 => ?_) (fun h5 w4 l5 => ?_)
 ·have z_l5 := l5.size
  have L := L.tr l5.up; have B1 := B1.ext l5
  refine s0 (x_not rfl) (c_end (n_then (c_false rfl (c_skipn (n_then (wp_seq ?_))))))
  have hb := remOf_in h5
  refine c_reg (s0 (xaI rfl) (c_end (n_then (wp_seq (wp_block ?_)))))
  refine c_loop (γ := Nat) (fun k => (remOf s a).toNat - k) (fun (k : Nat) E wl => ∃ E0, E = upd (upd E0 1 (pt b1 0)) 3 (.int .i64 (k : Int)) ∧ (Exm [] w wl) ∧ (w4.heap.size ≤ wl.heap.size) ∧ (Bx wl b1 [.string s, .int .i64 a] 79) ∧ ((k : Int) ≤ remOf s a) ∧ (zerosOf s a = k + zc s (a + k) ((remOf s a).toNat - k))) 0 ⟨_, upd_self2 rfl rfl, L, (by omega), B1, (by omega), (by simp [zerosOf])⟩ ?_
  rintro k E wl6 ⟨E0, rfl, L, Lz, B1, hk, hz⟩
  have Lz0 := L.size
  refine wp_seq (wp_seq (c_reg (s0 (x_fieldAddr fa79_0 rfl) (st (x_loadB sc9 rfl B1 rfl) (s0 (x_fieldAddr fa79_1 rfl) (st (x_loadB sc3 rfl B1 rfl) (s0 (xmI rfl) (s0 (x_add rfl rfl (by omega)) ?_))))))))
  refine sr (zcall cl162 rfl) (i_bitAt _ _ _ (by omega)) ?_
  intro w7 l8
  have z_l8 := l8.size; have L := L.tr l8.up; have B1 := B1.ext l8
  refine sb (x_eql rfl rfl) (fun h14 => ?_) (fun h14 => ?_)
  ·refine c_end (n_then (c_true rfl (c_skipn (n_then (wp_block (c_reg (s0 (xmI rfl) (s0 (x_add rfl rfl (by omega)) (s0 (xaI rfl) (c_end (n_block ?_)))))))))))
   have hin : (k : Int) < remOf s a := by apply Classical.byContradiction; intro hc; rw [bitAt_out (by omega)] at h14; omega
   have hz2 := zc_step (s := s) (a := a + k) (f := (remOf s a).toNat - k) h14 (by omega)
   have hz3 : zc s (a + (k + 1 : Nat)) ((remOf s a).toNat - (k + 1)) = zc s (a + k + 1) ((remOf s a).toNat - k - 1) := by congr 1; omega
   exact c_round (g' := k + 1) (by omega) ⟨_, upd_self2 rfl (vint (by omega)), L, (by omega), B1, (by omega), (by omega)⟩
  ·refine c_end (n_then (c_false rfl ?_))
   refine wp_exit (e_then (e_then (e_here ?_)))
   refine n_then (wp_seq (c_reg (s0 (xmI rfl) (s0 (xaI rfl) (c_end (n_then (wp_ret (f_ret rfl rfl ?_))))))))
   exact ⟨ret_int (by rw [hz, zc_stop (Or.inl h14)]; omega), L⟩
 ·have z_l5 := l5.size
  have L := L.tr l5.up
  refine s0 (x_not rfl) (c_end (n_then (c_true rfl (wp_seq (c_reg (s0 (xaI rfl) (c_end (n_then ?_))))))))
  refine wp_ret (r_then ?_)
  refine f_ret rfl rfl ?_
  exact ⟨ret_int (by unfold zerosOf remOf; rw [if_neg (by omega)]; rfl), L⟩

theorem ue_code {s : ByteArray} {a : Int} (h : 15 < zerosOf s a) : Ending.returned (.tuple [.agg [.string s, .int .i64 a].toArray, .int .i64 0, .int .i64 4].toArray) = .returned (.tuple [.agg [.string s, .int .i64 (ueAt s a)].toArray, .int .i64 (ueV s a), .int .i64 (ueE s a)].toArray) := by
  have h1 : ¬ ueOk s a := by rintro ⟨_, _⟩; omega
  simp only [ueAt, ueV, ueE, if_neg h1, if_pos h]
theorem ue_short {s : ByteArray} {a : Int} (h : ¬ 15 < zerosOf s a) (h2 : ¬ rbOk s a (2 * zerosOf s a + 1)) : Ending.returned (.tuple [.agg [.string s, .int .i64 a].toArray, .int .i64 0, .int .i64 1].toArray) = .returned (.tuple [.agg [.string s, .int .i64 (ueAt s a)].toArray, .int .i64 (ueV s a), .int .i64 (ueE s a)].toArray) := by
  have h1 : ¬ ueOk s a := by rintro ⟨_, _⟩; contradiction
  simp only [ueAt, ueV, ueE, if_neg h1, if_neg h, if_neg h2]
theorem ue_yes {s : ByteArray} {a : Int} (h : ¬ 15 < zerosOf s a) (h2 : rbOk s a (2 * zerosOf s a + 1)) : Ending.returned (.tuple [.agg [.string s, .int .i64 (rbAt s a (2 * zerosOf s a + 1))].toArray, .int .i64 (rbV s a (2 * zerosOf s a + 1) - 1), .int .i64 0].toArray) = .returned (.tuple [.agg [.string s, .int .i64 (ueAt s a)].toArray, .int .i64 (ueV s a), .int .i64 (ueE s a)].toArray) := by
  have h1 : ueOk s a := ⟨by omega, h2⟩
  simp only [ueAt, ueV, ueE, rbAt, rbV, if_pos h1, if_neg h, if_pos h2]
theorem rbV_range (s : ByteArray) (a n : Int) : 0 ≤ rbV s a n ∧ rbV s a n < 4294967296 := by
  unfold rbV; split
  · rename_i h
    obtain ⟨_, _, _⟩ := h
    have := bitsOf_range s a n.toNat; have := bitsOf_lt s a n.toNat 32 (by omega); omega
  · omega

theorem i_ue (s : ByteArray) (a : Int) (w : World) (hs : s.size ≤ 1048576) :
    Calls Tryz.prog 158 [.agg [.string s, .int .i64 a].toArray].toArray w (Ret w (.tuple [.agg [.string s, .int .i64 (ueAt s a)].toArray, .int .i64 (ueV s a), .int .i64 (ueE s a)].toArray)) := by
 have hz := zerosOf_range s a; have hl := remOf_range s a; have L : Exm [] w w := Exm.rfl'
 refine enter (n := 29) Tryz.func158 rfl rfl rfl ?_
 refine wp_seq (c_reg (s_box rfl rfl ?_))
 intro b1 w2 lob1 hib1 l3 B1
 have z_l3 := l3.size; have L := L.tr l3.up
 refine s_alloc zr79 ?_
 intro b4 w5 lob4 hib4 l6 B4
 have z_l6 := l6.size; have L := L.tr l6.up; have B1 := B1.ext l6
 refine s0 (xaI rfl) (s0 (xaI rfl) (c_end (n_then (wp_seq (c_reg (st (x_loadAgB ag79 rfl B1 rfl) ?_))))))
 refine sr (zcall cl202 rfl) (i_zeros _ _ _ (by omega)) ?_
 intro w7 l8
 have z_l8 := l8.size; have L := L.tr l8.up; have B1 := B1.ext l8; have B4 := B4.ext l8
 refine s0 (xaI rfl) (c_end (n_then (wp_seq (wp_seq (c_reg (s0 (xmI rfl) ?_))))))
 refine sb (x_gtr rfl rfl) (fun h12 => ?_) (fun h12 => ?_)
 ·refine c_end (n_then (c_true rfl (wp_seq (c_reg (st (x_loadAgB ag79 rfl B1 rfl) (s_storeAg rfl sz79 rfl rfl B4 rfl rfl rfl ?_))))))
  intro w9 l10 el10 B4
  have z_l10 := l10.size; have L := L.fresh l10 (by omega); have B1 := B1.ne l10 (by omega)
  refine s0 (xaI rfl) (s0 (xaI rfl) (c_end (n_then ?_)))
  refine wp_ret (r_then ?_)
  refine f_rets3 rfl (ro_cell rfl ag79 B4 rfl) (ro_tmp rfl) (ro_tmp rfl) ?_
  exact ⟨ue_code (by omega), L⟩
 ·refine c_end (n_then (c_false rfl (c_skipn (n_then (wp_seq (c_reg (st (x_loadAgB ag79 rfl B1 rfl) (s0 (xmI rfl) (s0 (x_mul rfl rfl (by omega)) (s0 (x_add rfl rfl (by omega)) ?_))))))))))
  refine sr (zcall cl101 rfl) (i_readBits _ _ _ _ (by omega)) ?_
  intro w11 l12
  have z_l12 := l12.size; have L := L.tr l12.up; have B1 := B1.ext l12; have B4 := B4.ext l12
  refine s0 (x_move (v := .tuple _) rfl) (s0 (x_extract rfl rfl) (s0 (x_extract rfl rfl) ?_))
  refine sb (x_extract rfl rfl) (fun h22 => ?_) (fun h22 => ?_)
  ·refine s_alloc zr79 ?_
   intro b13 w14 lob13 hib13 l15 B13
   have z_l15 := l15.size; have L := L.tr l15.up; have B1 := B1.ext l15; have B4 := B4.ext l15
   refine s_storeAg rfl sz79 rfl rfl B13 rfl rfl rfl ?_
   intro w16 l17 el17 B13
   have z_l17 := l17.size; have L := L.fresh l17 (by omega); have B1 := B1.ne l17 (by omega); have B4 := B4.ne l17 (by omega)
   refine s0 (xaI rfl) (s0 (x_assign (v := .bool _) rfl) (c_end (n_then (wp_seq (wp_seq (c_reg (s0 (x_move (v := .bool _) rfl) (s0 (x_not rfl) (c_end (n_then (c_false rfl (c_skipn (n_then ?_)))))))))))))
   refine wp_seq ?_
   have hv := rbV_range s a (2 * zerosOf s a + 1)
   refine c_reg (st (x_loadAgB ag79 rfl B13 rfl) (s0 (xmI rfl) (s0 (x_sub rfl rfl (by omega)) (s_storeAg rfl sz79 rfl rfl B4 rfl rfl rfl ?_))))
   intro w18 l19 el19 B4
   have z_l19 := l19.size; have L := L.fresh l19 (by omega); have B1 := B1.ne l19 (by omega); have B13 := B13.ne l19 (by omega)
   refine s0 (xaI rfl) (s0 (xaI rfl) (c_end (n_then (wp_ret (f_rets3 rfl (ro_cell rfl ag79 B4 rfl) (ro_tmp rfl) (ro_tmp rfl) ?_)))))
   exact ⟨ue_yes (by omega) h22, L⟩
  ·refine s_alloc zr79 ?_
   intro b20 w21 lob20 hib20 l22 B20
   have z_l22 := l22.size; have L := L.tr l22.up; have B1 := B1.ext l22; have B4 := B4.ext l22
   refine s_storeAg rfl sz79 rfl rfl B20 rfl rfl rfl ?_
   intro w23 l24 el24 B20
   have z_l24 := l24.size; have L := L.fresh l24 (by omega); have B1 := B1.ne l24 (by omega); have B4 := B4.ne l24 (by omega)
   refine s0 (xaI rfl) (s0 (x_assign (v := .bool _) rfl) (c_end (n_then (wp_seq (wp_seq (c_reg (s0 (x_move (v := .bool _) rfl) (s0 (x_not rfl) (c_end (n_then (c_true rfl (wp_seq (c_reg ?_)))))))))))))
   refine st (x_loadAgB ag79 rfl B1 rfl) (s_storeAg rfl sz79 rfl rfl B4 rfl rfl rfl ?_)
   intro w25 l26 el26 B4
   have z_l26 := l26.size; have L := L.fresh l26 (by omega); have B1 := B1.ne l26 (by omega); have B20 := B20.ne l26 (by omega)
   refine s0 (xaI rfl) (s0 (xaI rfl) (c_end (n_then ?_)))
   refine wp_ret (r_then ?_)
   refine f_rets3 rfl (ro_cell rfl ag79 B4 rfl) (ro_tmp rfl) (ro_tmp rfl) ?_
   exact ⟨ue_short (by omega) h22, L⟩

theorem i_stop (s : ByteArray) (a : Int) (w : World) (hs : s.size ≤ 1048576) :
    Calls Tryz.prog 44 [.agg [.string s, .int .i64 a].toArray].toArray w (Ret w (.int .i64 (stopOf s a))) := by
 have hl := remOf_range s a; have L : Exm [] w w := Exm.rfl'
 refine enter (n := 24) Tryz.func44 rfl rfl rfl ?_
 refine wp_seq (c_reg (s_box rfl rfl ?_))
 intro b1 w2 lob1 hib1 l3 B1
 have z_l3 := l3.size; have L := L.tr l3.up
 refine s0 (xaI rfl) (c_end (n_then (wp_seq (c_reg (st (x_loadAgB ag79 rfl B1 rfl) ?_)))))
 refine sr (zcall cl103 rfl) (i_left _ _ _ (by omega)) ?_
 intro w4 l5
 have z_l5 := l5.size; have L := L.tr l5.up; have B1 := B1.ext l5
 refine s0 (xaI rfl) (c_end (n_then (wp_seq (wp_block (wp_seq (c_reg (s0 (xmI rfl) ?_)))))))
 refine sb (x_eql rfl rfl) (fun h8 => ?_) (fun h8 => ?_)
 ·refine s0 (x_assign (v := .bool _) rfl) (c_end (n_then (c_true rfl (wp_seq (c_reg (s0 (xaI rfl) (c_end (n_then ?_))))))))
  refine wp_ret (r_block (r_then ?_))
  refine f_ret rfl rfl ?_
  exact ⟨ret_int (by unfold stopOf; rw [if_pos h8]), L⟩
 ·refine s0 (x_assign (v := .bool _) rfl) (c_end (n_then (c_false rfl (wp_seq ?_))))
  have hb := remOf_pos s a (by omega)
  refine c_plan (fun wq => Exm [] w4 wq) 15 (.cons (0, 2) (.cons (1, 2) (.cons (2, 2) (.cons (3, 2) (.cons (4, 1) (.cons (5, 2) (.cons (6, 1) (.cons (7, 2) (.cons (9, 2) (.cons (10, 2) (.cons (11, 2) (.cons (8, 0) (.cons (12, 2) (.cons (13, 2) (.cons (14, 2) .nil))))))))))))))) (by kernel_rfl) (by kernel_rfl) (Exm.drew _) ?_
  obtain ⟨w6, hwd⟩ : ∃ x, x = w4.drew := ⟨_, rfl⟩
  have l7 : Ext w4 w6 := by rw [hwd]; exact Exm.drew _
  rw [← hwd]; clear hwd
  have Lq : Exm [] w4 w6 := l7.up; have qB1 := B1; have z_l7 := l7.size; have L := L.tr l7.up
  refine p0 rfl (xmI rfl) ?_
  refine pb rfl (x_leq rfl rfl) (fun h11 => ?_) (fun h11 => ?_)
  ·refine p0 rfl (x_move (v := .bool _) rfl) (p0g rfl rfl rfl rfl rfl (x_fieldAddr fa79_0 rfl) ?_)
   refine psg rfl rfl rfl rfl rfl (fun wq hwq => x_loadB sc9 rfl (qB1.ext hwq) rfl) ?_
   refine p0g rfl rfl rfl rfl rfl (x_fieldAddr fa79_1 rfl) ?_
   refine psg rfl rfl rfl rfl rfl (fun wq hwq => x_loadB sc3 rfl (qB1.ext hwq) rfl) ?_
   refine p0g rfl rfl rfl rfl rfl (xmI rfl) (p0g rfl rfl rfl rfl rfl (xmI rfl) (p0g rfl rfl rfl rfl rfl (x_sub rfl rfl (by omega)) ?_))
   refine p0g rfl rfl rfl rfl rfl (x_shl rfl rfl (by omega) (by have := two_pow_le (n := (remOf s a - 1).toNat) (m := 7) (by omega); have := two_pow_pos (remOf s a - 1).toNat; omega)) ?_
   refine pu rfl (gt rfl rfl rfl rfl ?_)
   refine sr (zcall cl104 rfl) (i_bits _ _ _ _ (by omega) (by omega) (by omega)) ?_
   intro w8 l9
   have z_l9 := l9.size; have L := L.tr l9.up; have Lq := Lq.tr l9.up
   refine c_end ⟨rfl, fun h hS => Lq, ?_⟩
   refine pbg rfl rfl rfl rfl rfl (x_eql rfl rfl) (fun h22 => ?_) (fun h22 => ?_)
   ·refine p0 rfl (x_pickt (v := .bool _) rfl rfl) (p0 rfl (x_assign (v := .bool _) rfl) ?_)
    refine p_nil (np_normal ?_)
    refine n_then (c_true rfl (wp_seq (c_reg (s0 (xaI rfl) (c_end (n_then ?_))))))
    refine wp_ret (r_block (r_then ?_))
    refine f_ret rfl rfl ?_
    exact ⟨ret_int (by unfold stopOf; rw [if_neg h8, if_pos ⟨h11, by rw [h22]; omega⟩]), L⟩
   ·refine p0 rfl (x_pickt (v := .bool _) rfl rfl) (p0 rfl (x_assign (v := .bool _) rfl) ?_)
    refine p_nil (np_normal ?_)
    refine n_then (c_false rfl (c_skipn (n_block (n_then (wp_seq (c_reg (s0 (xaI rfl) (c_end (n_then (wp_ret (f_ret rfl rfl ?_)))))))))))
    exact ⟨ret_int (by unfold stopOf; rw [if_neg h8, if_neg (fun h => h22 (by rw [h.2]; omega))]), L⟩
  ·refine p0 rfl (x_move (v := .bool _) rfl) (pf rfl rfl rfl rfl rfl (pf1 rfl rfl rfl rfl rfl (pf rfl rfl rfl rfl rfl (pf1 rfl rfl rfl rfl rfl (pf rfl rfl rfl rfl rfl (pf rfl rfl rfl rfl rfl (pf rfl rfl rfl rfl rfl (pf rfl rfl rfl rfl rfl (pu rfl (gf rfl rfl rfl rfl ?_))))))))))
   refine c_end ⟨rfl, fun h hS => Lq, ?_⟩
   refine pf rfl rfl rfl rfl rfl (p0 rfl (x_pickf (v := .bool _) rfl rfl) (p0 rfl (x_assign (v := .bool _) rfl) ?_))
   refine p_nil (np_normal ?_)
   refine n_then (c_false rfl (c_skipn (n_block (n_then (wp_seq (c_reg (s0 (xaI rfl) (c_end (n_then (wp_ret (f_ret rfl rfl ?_)))))))))))
   exact ⟨ret_int (by unfold stopOf; rw [if_neg h8, if_neg (by omega)]), L⟩

end Go.Proofs.YtepnknffaecbdaaGreat
