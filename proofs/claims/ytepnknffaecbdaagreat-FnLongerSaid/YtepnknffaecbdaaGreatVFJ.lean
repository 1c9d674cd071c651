/- What each function of this part returns, for every argument that meets its premises. -/
import Derived.Test.YtepnknffaecbdaaGreatProg
import Derived.Test.YtepnknffaecbdaaGreatVSxA
import Derived.Test.YtepnknffaecbdaaGreatVTy
import Derived.Test.YtepnknffaecbdaaGreatVPlA
import Derived.Test.YtepnknffaecbdaaGreatVF1
import Derived.Test.YtepnknffaecbdaaGreatVF4
import Derived.Test.YtepnknffaecbdaaGreatVF7
import Derived.Test.YtepnknffaecbdaaGreatVF8
import Derived.Test.YtepnknffaecbdaaGreatVF9
import Derived.Test.YtepnknffaecbdaaGreatVFB
import Derived.Test.YtepnknffaecbdaaGreatVFD
namespace Go.Proofs.YtepnknffaecbdaaGreat
open Go.Sx Go.Pl Go.RowKit
theorem s_flag_t (w : World) :
    Calls Tryz.prog 88 [.bool true].toArray w (Ret w (.int .i64 (flag true))) := by
 have L : Exm [] w w := Exm.rfl'
 refine enter (n := 4) Tryz.func88 rfl rfl rfl ?_
 refine wp_seq (c_reg (s0 (xaI rfl) (c_end (n_then (wp_seq (wp_seq (c_reg (s0 (x_move (v := .bool _) rfl) (c_end (n_then (c_true rfl (wp_seq (c_reg ?_)))))))))))))
 refine s0 (xaI rfl) (c_end (n_then ?_))
 refine wp_ret (r_then ?_)
 refine f_ret rfl rfl ?_
 exact ⟨rfl, L⟩

theorem s_flag_f (w : World) :
    Calls Tryz.prog 88 [.bool false].toArray w (Ret w (.int .i64 (flag false))) := by
 have L : Exm [] w w := Exm.rfl'
 refine enter (n := 4) Tryz.func88 rfl rfl rfl ?_
 refine wp_seq (c_reg (s0 (xaI rfl) (c_end (n_then (wp_seq (wp_seq (c_reg (s0 (x_move (v := .bool _) rfl) (c_end (n_then (c_false rfl (c_skipn (n_then ?_)))))))))))))
 refine wp_seq (c_reg (s0 (xaI rfl) (c_end (n_then (wp_ret (f_ret rfl rfl ?_))))))
 exact ⟨rfl, L⟩

theorem s_flag (e : Bool) (w : World) : Calls Tryz.prog 88 [.bool e].toArray w (Ret w (.int .i64 (flag e))) := by
  cases e
  · exact s_flag_f w
  · exact s_flag_t w

theorem i_shape_t (w : World) :
    Calls Tryz.prog 74 [.bool true].toArray w (Ret w (.tuple [.int .i64 (manyOf true), .int .i64 (side true)].toArray)) := by
 have L : Exm [] w w := Exm.rfl'
 refine enter (n := 5) Tryz.func74 rfl rfl rfl ?_
 refine wp_seq (c_reg (s0 (xaI rfl) (s0 (xaI rfl) (c_end (n_then (wp_seq (wp_seq (c_reg (s0 (x_move (v := .bool _) rfl) (c_end (n_then (c_true rfl (wp_seq ?_)))))))))))))
 refine c_reg (s0 (xaI rfl) (s0 (xaI rfl) (c_end (n_then ?_))))
 refine wp_ret (r_then ?_)
 refine f_rets2 rfl (ro_tmp rfl) (ro_tmp rfl) ?_
 exact ⟨rfl, L⟩

theorem i_shape_f (w : World) :
    Calls Tryz.prog 74 [.bool false].toArray w (Ret w (.tuple [.int .i64 (manyOf false), .int .i64 (side false)].toArray)) := by
 have L : Exm [] w w := Exm.rfl'
 refine enter (n := 5) Tryz.func74 rfl rfl rfl ?_
 refine wp_seq (c_reg (s0 (xaI rfl) (s0 (xaI rfl) (c_end (n_then (wp_seq (wp_seq (c_reg (s0 (x_move (v := .bool _) rfl) (c_end (n_then (c_false rfl (c_skipn ?_)))))))))))))
 refine n_then (wp_seq (c_reg (s0 (xaI rfl) (s0 (xaI rfl) (c_end (n_then (wp_ret (f_rets2 rfl (ro_tmp rfl) (ro_tmp rfl) ?_))))))))
 exact ⟨rfl, L⟩

theorem i_shape (e : Bool) (w : World) : Calls Tryz.prog 74 [.bool e].toArray w (Ret w (.tuple [.int .i64 (manyOf e), .int .i64 (side e)].toArray)) := by
  cases e
  · exact i_shape_f w
  · exact i_shape_t w

theorem s_side_t (w : World) :
    Calls Tryz.prog 49 [.bool true].toArray w (Ret w (.int .i64 (side true))) := by
 have L : Exm [] w w := Exm.rfl'
 refine enter (n := 4) Tryz.func49 rfl rfl rfl ?_
 refine wp_seq (c_reg (s0 (xaI rfl) (c_end (n_then (wp_seq (wp_seq (c_reg (s0 (x_move (v := .bool _) rfl) (c_end (n_then (c_true rfl (wp_seq (c_reg ?_)))))))))))))
 refine s0 (xaI rfl) (c_end (n_then ?_))
 refine wp_ret (r_then ?_)
 refine f_ret rfl rfl ?_
 exact ⟨rfl, L⟩

theorem s_side_f (w : World) :
    Calls Tryz.prog 49 [.bool false].toArray w (Ret w (.int .i64 (side false))) := by
 have L : Exm [] w w := Exm.rfl'
 refine enter (n := 4) Tryz.func49 rfl rfl rfl ?_
 refine wp_seq (c_reg (s0 (xaI rfl) (c_end (n_then (wp_seq (wp_seq (c_reg (s0 (x_move (v := .bool _) rfl) (c_end (n_then (c_false rfl (c_skipn (n_then ?_)))))))))))))
 refine wp_seq (c_reg (s0 (xaI rfl) (c_end (n_then (wp_ret (f_ret rfl rfl ?_))))))
 exact ⟨rfl, L⟩

theorem s_side (e : Bool) (w : World) : Calls Tryz.prog 49 [.bool e].toArray w (Ret w (.int .i64 (side e))) := by
  cases e
  · exact s_side_f w
  · exact s_side_t w

theorem s_ueBits (n : Int) (w : World) :
    Calls Tryz.prog 87 [.int .i64 n].toArray w (RetP w fun v w' => ∃ p c F, v = .slice p (ueBits n).length c ∧ Own w' p (ueBits n).length c 3 1 (ic (ueBits n)) F ∧ Fr w.heap.size F) := by
 have L : Exm [] w w := Exm.rfl'
 refine enter (n := 18) Tryz.func87 rfl rfl rfl ?_
 refine wp_seq (c_reg (s0 (xaS rfl) (c_end (n_then (wp_seq (wp_seq (c_reg (s0 (xmI rfl) ?_))))))))
 refine srb (zcall cl85 rfl) (s_l1In _ _ _ _) (fun h5 w1 l2 => ?_) (fun h5 w1 l2 => ?_)
 ·have z_l2 := l2.size
  have L := L.tr l2.up
  refine s0 (x_not rfl) (c_end (n_then (c_false rfl (c_skipn (n_then (wp_seq (c_reg (s0 (xmI rfl) ?_))))))))
  refine sr (zcall cl154 rfl) (s_l6Zeros _ _ (by omega)) ?_
  intro w3 l4
  have z_l4 := l4.size; have L := L.tr l4.up
  refine s0 (xaI rfl) (c_end (n_then (wp_seq ?_)))
  have hz := lz_range h5; have hbi := bitsIn_len (n + 1) (lz n + 1)
  refine c_plan (fun wq => Exm [] w3 wq) 9 (.cons (0, 2) (.cons (2, 2) (.cons (3, 2) (.cons (4, 2) (.cons (5, 2) (.fork 1 6 (.cons (6, 0) (.cons (7, 0) (.cons (8, 2) .nil))) (.cons (1, 0) (.cons (7, 0) (.cons (8, 2) .nil))))))))) (by kernel_rfl) (by kernel_rfl) (Exm.drew _) ?_
  obtain ⟨w5, hwd⟩ : ∃ x, x = w3.drew := ⟨_, rfl⟩
  have l6 : Ext w3 w5 := by rw [hwd]; exact Exm.drew _
  rw [← hwd]; clear hwd
  have Lq : Exm [] w3 w5 := l6.up; have z_l6 := l6.size; have L := L.tr l6.up
  refine p0 rfl (xmI rfl) (p0 rfl (xmI rfl) (p0 rfl (x_add rfl rfl (by omega)) (p0 rfl (xmI rfl) (p0 rfl (x_add rfl rfl (by omega)) ?_))))
  refine pfork ?_ ?_
  ·refine pu rfl (s_makei so24 zr3 rfl rfl (by omega) (by omega) (by omega) ?_)
   intro p11 F11 w7 l8 o11 f11 g11
   have z_l8 := l8.size; have L := L.tr l8.up; have Lq := Lq.tr l8.up; have hn11 := o11.n1
   refine c_end ⟨rfl, fun h hS => Lq, ?_⟩
   refine pu rfl ?_
   refine sp (zcall cl86 rfl) (s_bitsIn _ _ _ (by omega) (by omega)) ?_
   rintro v16 w9 l10 ⟨p16, c16, F16, rfl, o16, f16⟩
   have z_l10 := l10.size; have L := L.tr l10.up; have Lq := Lq.tr l10.up; have o11 := o11.ext l10; have g16 := o16.lt
   refine c_end ⟨rfl, fun h hS => Lq, ?_⟩
   refine pu rfl (s_appi (B := w5.heap.size) so24 zr3 rfl rfl (xs := _) o11 o16.sl f11 (by omega) (by omega) (by omega) ?_)
   intro p17 c17 F17 w11 l12 o17 hn17 k17 f17 g17
   have z_l12 := l12.size; have L := L.freshL l12 f11 (by omega); have Lq := Lq.freshL l12 f11 (by omega); have d16_17 : Dj F16 F17 := k17.dj (by first|assumption|exact Dj.symm (by assumption)|exact dj_of f16 g16 f11 g11 (by omega)) g16 (by omega)
   have o16 := o16.exm l12 (by first|assumption|exact Dj.symm (by assumption)|exact dj_of f11 g11 f16 g16 (by omega))
   refine c_end ⟨rfl, fun h hS => Lq, ?_⟩
   refine p0 rfl (xaS rfl) ?_
   refine p_nil (np_normal ?_)
   refine n_then (wp_ret (f_ret rfl rfl ?_))
   have hue := ueBits_zeros h5
   exact ⟨_, rfl, L, _, _, _, slice_len (congrArg List.length hue.symm).symm, own_eq hue.symm o17, f17.mono (by omega)⟩
  ·refine pu rfl ?_
   refine sp (zcall cl86 rfl) (s_bitsIn _ _ _ (by omega) (by omega)) ?_
   rintro v16 w13 l14 ⟨p16, c16, F16, rfl, o16, f16⟩
   have z_l14 := l14.size; have L := L.tr l14.up; have Lq := Lq.tr l14.up; have g16 := o16.lt
   refine c_end ⟨rfl, fun h hS => Lq, ?_⟩
   refine pu rfl (s_makei so24 zr3 rfl rfl (by omega) (by omega) (by omega) ?_)
   intro p11 F11 w15 l16 o11 f11 g11
   have z_l16 := l16.size; have L := L.tr l16.up; have Lq := Lq.tr l16.up; have o16 := o16.ext l16; have hn11 := o11.n1
   refine c_end ⟨rfl, fun h hS => Lq, ?_⟩
   refine pu rfl (s_appi (B := w13.heap.size) so24 zr3 rfl rfl (xs := _) o11 o16.sl f11 (by omega) (by omega) (by omega) ?_)
   intro p17 c17 F17 w17 l18 o17 hn17 k17 f17 g17
   have z_l18 := l18.size; have L := L.freshL l18 f11 (by omega); have Lq := Lq.freshL l18 f11 (by omega); have d16_17 : Dj F16 F17 := k17.dj (by first|assumption|exact Dj.symm (by assumption)|exact dj_of f16 g16 f11 g11 (by omega)) g16 (by omega)
   have o16 := o16.exm l18 (by first|assumption|exact Dj.symm (by assumption)|exact dj_of f11 g11 f16 g16 (by omega))
   refine c_end ⟨rfl, fun h hS => Lq, ?_⟩
   refine p0 rfl (xaS rfl) ?_
   refine p_nil (np_normal ?_)
   refine n_then (wp_ret (f_ret rfl rfl ?_))
   have hue := ueBits_zeros h5
   exact ⟨_, rfl, L, _, _, _, slice_len (congrArg List.length hue.symm).symm, own_eq hue.symm o17, f17.mono (by omega)⟩
 ·have z_l2 := l2.size
  have L := L.tr l2.up
  refine s0 (x_not rfl) (c_end (n_then (c_true rfl (wp_seq (c_reg (s_bs0 so24 ?_))))))
  intro p7 F7 w19 l20 o7 f7 g7
  have o7 : Own w19 p7 0 0 3 1 (ic []) F7 := o7; have z_l20 := l20.size; have L := L.tr l20.up
  refine s0 (xaS rfl) (c_end (n_then ?_))
  refine wp_ret (r_then ?_)
  refine f_ret rfl rfl ?_
  rw [ueBits_no h5]
  exact ⟨_, rfl, L, _, _, _, rfl, o7, f7.mono (by omega)⟩

theorem s_headerBits (a b q : Int) (y z : Bool) (p : Option Addr) (xs : List Int) (c : Nat) (w : World) (hp : Sl w p xs.length c 1 (ic xs)) (hl : xs.length ≤ 1099511627776) :
    Calls Tryz.prog 38 [.agg [.int .i64 a, .int .i64 b, .int .i64 q, .bool y, .bool z, .slice p xs.length c].toArray].toArray w (RetP w fun v w' => ∃ p c F, v = .slice p (headBits a b q y z xs).length c ∧ Own w' p (headBits a b q y z xs).length c 3 1 (ic (headBits a b q y z xs)) F ∧ Fr w.heap.size F) := by
 have L : Exm [] w w := Exm.rfl'
 refine enter (n := 54) Tryz.func38 rfl rfl rfl ?_
 refine wp_seq (c_reg (s_box rfl rfl ?_))
 intro b1 w2 lob1 hib1 l3 B1
 have z_l3 := l3.size; have L := L.tr l3.up
 refine s0 (xaS rfl) (c_end (n_then (wp_seq (wp_seq (c_reg (st (x_loadAgB ag26 rfl B1 rfl) ?_))))))
 refine srb (zcall cl28 rfl) (s_headerOk _ _ _ _ _ _ _ _ _ (hp.ext L) (by omega)) (fun h6 w4 l5 => ?_) (fun h6 w4 l5 => ?_)
 ·have z_l5 := l5.size
  have L := L.tr l5.up; have B1 := B1.ext l5
  refine s0 (x_not rfl) (c_end (n_then (c_false rfl (c_skipn (n_then (wp_seq ?_))))))
  obtain ⟨⟨hW, hH, _, _⟩, hQ, hC⟩ := id h6
  have hx6 := hC.2.1; have hl1 := (bitsIn_len 183 8).1; have hl2 := ueBits_le (a / 8 - 1); have hl3 := ueBits_le (b / 8 - 1); have hl4 := (bitsIn_len q 6).1
  refine c_reg ?_
  refine sp (zcall cl86 rfl) (s_bitsIn _ _ _ (by omega) (by omega)) ?_
  rintro v9 w6 l7 ⟨p9, c9, F9, rfl, o9, f9⟩
  have z_l7 := l7.size; have L := L.tr l7.up; have B1 := B1.ext l7; have g9 := o9.lt
  refine s0 (xaS rfl) (c_end (n_then (wp_seq (c_reg (s0 (xmS rfl) (s0 (x_fieldAddr fa26_0 rfl) (st (x_loadB sc3 rfl B1 rfl) (s0 (x_quo rfl rfl (by omega) (by omega)) (s0 (x_sub rfl rfl (by omega)) ?_)))))))))
  refine sp (zcall cl87 rfl) (s_ueBits _ _) ?_
  rintro v15 w8 l9 ⟨p15, c15, F15, rfl, o15, f15⟩
  have z_l9 := l9.size; have L := L.tr l9.up; have B1 := B1.ext l9; have o9 := o9.ext l9; have g15 := o15.lt
  refine s_appi (B := w4.heap.size) so24 zr3 rfl rfl (xs := _) o9 o15.sl f9 (by omega) (by omega) (by omega) ?_
  intro p16 c16 F16 w10 l11 o16 hn16 k16 f16 g16
  have ab1_16 : b1 ∉ F16 := k16.nin (by first|assumption|exact nin_of f9 g9 (by omega)) (by omega)
  have B1 := B1.exm l11 (by first|assumption|exact nin_of f9 g9 (by omega))
  have z_l11 := l11.size; have L := L.freshL l11 f9 (by omega); have d15_16 : Dj F15 F16 := k16.dj (by first|assumption|exact Dj.symm (by assumption)|exact dj_of f15 g15 f9 g9 (by omega)) g15 (by omega)
  have o15 := o15.exm l11 (by first|assumption|exact Dj.symm (by assumption)|exact dj_of f9 g9 f15 g15 (by omega))
  refine s0 (xaS rfl) (c_end (n_then (wp_seq (c_reg (s0 (xmS rfl) (s0 (x_fieldAddr fa26_1 rfl) (st (x_loadB sc3 rfl B1 rfl) (s0 (x_quo rfl rfl (by omega) (by omega)) (s0 (x_sub rfl rfl (by omega)) ?_)))))))))
  refine sp (zcall cl87 rfl) (s_ueBits _ _) ?_
  rintro v22 w12 l13 ⟨p22, c22, F22, rfl, o22, f22⟩
  have z_l13 := l13.size; have L := L.tr l13.up; have B1 := B1.ext l13; have o15 := o15.ext l13; have o16 := o16.ext l13; have g22 := o22.lt
  refine s_appi (B := w4.heap.size) so24 zr3 rfl rfl (xs := _) o16 o22.sl f16 (by omega) (by omega) (by omega) ?_
  intro p23 c23 F23 w14 l15 o23 hn23 k23 f23 g23
  have ab1_23 : b1 ∉ F23 := k23.nin (by first|assumption|exact nin_of f16 g16 (by omega)) (by omega)
  have B1 := B1.exm l15 (by first|assumption|exact nin_of f16 g16 (by omega))
  have z_l15 := l15.size; have L := L.freshL l15 f16 (by omega); have d15_23 : Dj F15 F23 := k23.dj (by first|assumption|exact Dj.symm (by assumption)|exact dj_of f15 g15 f16 g16 (by omega)) g15 (by omega)
  have o15 := o15.exm l15 (by first|assumption|exact Dj.symm (by assumption)|exact dj_of f16 g16 f15 g15 (by omega))
  have d22_23 : Dj F22 F23 := k23.dj (by first|assumption|exact Dj.symm (by assumption)|exact dj_of f22 g22 f16 g16 (by omega)) g22 (by omega)
  have o22 := o22.exm l15 (by first|assumption|exact Dj.symm (by assumption)|exact dj_of f16 g16 f22 g22 (by omega))
  refine s0 (xaS rfl) (c_end (n_then (wp_seq (c_reg (s0 (xmS rfl) (s0 (x_fieldAddr fa26_2 rfl) (st (x_loadB sc3 rfl B1 rfl) ?_)))))))
  refine sp (zcall cl86 rfl) (s_bitsIn _ _ _ (by omega) (by omega)) ?_
  rintro v27 w16 l17 ⟨p27, c27, F27, rfl, o27, f27⟩
  have z_l17 := l17.size; have L := L.tr l17.up; have B1 := B1.ext l17; have o15 := o15.ext l17; have o22 := o22.ext l17; have o23 := o23.ext l17; have g27 := o27.lt
  refine s_appi (B := w4.heap.size) so24 zr3 rfl rfl (xs := _) o23 o27.sl f23 (by omega) (by omega) (by omega) ?_
  intro p28 c28 F28 w18 l19 o28 hn28 k28 f28 g28
  have ab1_28 : b1 ∉ F28 := k28.nin (by first|assumption|exact nin_of f23 g23 (by omega)) (by omega)
  have B1 := B1.exm l19 (by first|assumption|exact nin_of f23 g23 (by omega))
  have z_l19 := l19.size; have L := L.freshL l19 f23 (by omega); have d15_28 : Dj F15 F28 := k28.dj (by first|assumption|exact Dj.symm (by assumption)|exact dj_of f15 g15 f23 g23 (by omega)) g15 (by omega)
  have o15 := o15.exm l19 (by first|assumption|exact Dj.symm (by assumption)|exact dj_of f23 g23 f15 g15 (by omega))
  have d22_28 : Dj F22 F28 := k28.dj (by first|assumption|exact Dj.symm (by assumption)|exact dj_of f22 g22 f23 g23 (by omega)) g22 (by omega)
  have o22 := o22.exm l19 (by first|assumption|exact Dj.symm (by assumption)|exact dj_of f23 g23 f22 g22 (by omega))
  have d27_28 : Dj F27 F28 := k28.dj (by first|assumption|exact Dj.symm (by assumption)|exact dj_of f27 g27 f23 g23 (by omega)) g27 (by omega)
  have o27 := o27.exm l19 (by first|assumption|exact Dj.symm (by assumption)|exact dj_of f23 g23 f27 g27 (by omega))
  refine s0 (xaS rfl) (c_end (n_then (wp_seq ?_)))
  refine c_plan (fun wq => Exm [] w18 wq) 8 (.cons (0, 2) (.cons (1, 2) (.cons (2, 1) (.cons (4, 2) (.cons (5, 1) (.cons (3, 0) (.cons (6, 0) (.cons (7, 0) (.cons (8, 0) (.cons (9, 0) .nil)))))))))) (by kernel_rfl) (by kernel_rfl) (Exm.drew _) ?_
  obtain ⟨w20, hwd⟩ : ∃ x, x = w18.drew := ⟨_, rfl⟩
  have l21 : Ext w18 w20 := by rw [hwd]; exact Exm.drew _
  rw [← hwd]; clear hwd
  have Lq : Exm [] w18 w20 := l21.up; have qB1 := B1; have z_l21 := l21.size; have L := L.tr l21.up; have B1 := B1.ext l21; have o15 := o15.ext l21; have o22 := o22.ext l21; have o27 := o27.ext l21; have o28 := o28.ext l21
  refine p0 rfl (xmS rfl) (p0 rfl (x_fieldAddr fa26_3 rfl) ?_)
  refine ps rfl (fun wq hwq => x_loadB sc4 rfl (qB1.ext hwq) rfl) ?_
  refine p0 rfl (x_fieldAddr fa26_4 rfl) ?_
  refine ps rfl (fun wq hwq => x_loadB sc4 rfl (qB1.ext hwq) rfl) ?_
  refine pu rfl ?_
  refine sr (zcall cl88 rfl) (s_flag _ _) ?_
  intro w22 l23
  have z_l23 := l23.size; have L := L.tr l23.up; have Lq := Lq.tr l23.up; have B1 := B1.ext l23; have o15 := o15.ext l23; have o22 := o22.ext l23; have o27 := o27.ext l23; have o28 := o28.ext l23
  refine c_end ⟨rfl, fun h hS => Lq, ?_⟩
  refine pu rfl ?_
  refine sr (zcall cl88 rfl) (s_flag _ _) ?_
  intro w24 l25
  have z_l25 := l25.size; have L := L.tr l25.up; have Lq := Lq.tr l25.up; have B1 := B1.ext l25; have o15 := o15.ext l25; have o22 := o22.ext l25; have o27 := o27.ext l25; have o28 := o28.ext l25
  refine c_end ⟨rfl, fun h hS => Lq, ?_⟩
  refine pu rfl ?_
  refine s_bsi (xs := [_, _]) so24 zr3 (pts_cons rfl (pts_cons rfl pts_nil)) rfl rfl rfl ?_
  intro p36 F36 w26 l27 o36 f36 g36
  have z_l27 := l27.size; have L := L.tr l27.up; have Lq := Lq.tr l27.up; have B1 := B1.ext l27; have o15 := o15.ext l27; have o22 := o22.ext l27; have o27 := o27.ext l27; have o28 := o28.ext l27; have hn36 := o36.n1
  refine c_end ⟨rfl, fun h hS => Lq, ?_⟩
  refine pu rfl (s_appi (B := w4.heap.size) so24 zr3 rfl rfl (xs := _) o28 o36.sl f28 (by omega) (by omega) (by omega) ?_)
  intro p37 c37 F37 w28 l29 o37 hn37 k37 f37 g37
  have ab1_37 : b1 ∉ F37 := k37.nin (by first|assumption|exact nin_of f28 g28 (by omega)) (by omega)
  have B1 := B1.exm l29 (by first|assumption|exact nin_of f28 g28 (by omega))
  have z_l29 := l29.size; have L := L.freshL l29 f28 (by omega); have d15_37 : Dj F15 F37 := k37.dj (by first|assumption|exact Dj.symm (by assumption)|exact dj_of f15 g15 f28 g28 (by omega)) g15 (by omega)
  have o15 := o15.exm l29 (by first|assumption|exact Dj.symm (by assumption)|exact dj_of f28 g28 f15 g15 (by omega))
  have d22_37 : Dj F22 F37 := k37.dj (by first|assumption|exact Dj.symm (by assumption)|exact dj_of f22 g22 f28 g28 (by omega)) g22 (by omega)
  have o22 := o22.exm l29 (by first|assumption|exact Dj.symm (by assumption)|exact dj_of f28 g28 f22 g22 (by omega))
  have d27_37 : Dj F27 F37 := k37.dj (by first|assumption|exact Dj.symm (by assumption)|exact dj_of f27 g27 f28 g28 (by omega)) g27 (by omega)
  have o27 := o27.exm l29 (by first|assumption|exact Dj.symm (by assumption)|exact dj_of f28 g28 f27 g27 (by omega))
  have d36_37 : Dj F36 F37 := k37.dj (by first|assumption|exact Dj.symm (by assumption)|exact dj_of f36 g36 f28 g28 (by omega)) g36 (by omega)
  have o36 := o36.exm l29 (by first|assumption|exact Dj.symm (by assumption)|exact dj_of f28 g28 f36 g36 (by omega))
  refine c_end ⟨rfl, fun h hS => absurd h (by decide), ?_⟩
  refine pu rfl (s0 (xaS rfl) ?_)
  refine c_end ⟨rfl, fun h hS => absurd h (by decide), ?_⟩
  refine p_nil (np_normal ?_)
  refine n_then (wp_seq (wp_seq (c_reg (s0 (xaI rfl) (c_end (n_then (wp_block ?_)))))))
  refine c_loop (γ := Nat) (fun k => xs.length - k) (fun (k : Nat) E wl => ∃ E0 pz3 cz3 Fz3, E = upd (upd (upd E0 1 (pt b1 0)) 3 (.slice pz3 ((headA a b q y z ++ fieldsOf xs k).length) cz3)) 4 (.int .i64 (k : Int)) ∧ (Exm [] w wl) ∧ (w28.heap.size ≤ wl.heap.size) ∧ (Bx wl b1 [.int .i64 a, .int .i64 b, .int .i64 q, .bool y, .bool z, .slice p xs.length c] 26) ∧ (Own wl pz3 ((headA a b q y z ++ fieldsOf xs k).length) cz3 3 1 (ic (headA a b q y z ++ fieldsOf xs k)) Fz3) ∧ (Fr (w4.heap.size) Fz3) ∧ (Lt Fz3 wl.heap.size) ∧ (b1 ∉ Fz3) ∧ ((k : Int) ≤ xs.length)) 0 ⟨_, _, _, _, upd_self3 rfl (slice_len (by rw [fieldsOf_zero, List.append_nil]; rfl)) rfl, L, (by omega), B1, (by rw [fieldsOf_zero, List.append_nil]; exact o37), (f37.mono (by omega)), (g37.mono (by omega)), (by first|assumption|exact nin_of f37 g37 (by omega)), (by omega)⟩ ?_
  rintro k E wl30 ⟨E0, pz3, cz3, Fz3, rfl, L, Lz, B1, oz3, fz3, gz3, ab1_z3, hk⟩
  have Lz0 := L.size; have hA := headA_len a b q y z; have hfl := fieldsOf_len xs k
  have hlen : (headA a b q y z ++ fieldsOf xs k).length ≤ 200 + 48 * k := by rw [List.length_append]; omega
  refine wp_seq (wp_seq (c_reg (s0 (xmI rfl) (s0 (x_fieldAddr fa26_5 rfl) (st (x_loadB sc24 rfl B1 rfl) (s0 (x_lensl un24 rfl) ?_))))))
  refine sb (x_lss rfl rfl) (fun h42 => ?_) (fun h42 => ?_)
  ·refine c_end (n_then (c_true rfl (c_skipn (n_then (wp_seq (wp_block ?_))))))
   have hbi := (bitsIn_len (xs.getD ((k : Int)).toNat 0) 3).1; have hca := codeOk_at hC ((k : Int)).toNat
   refine c_reg (s0 (xmS rfl) (s0 (x_fieldAddr fa26_5 rfl) (st (x_loadB sc24 rfl B1 rfl) (s0 (xmI rfl) (s0 (x_idx so24 rfl rfl hp (by decide) (by omega) (by omega)) (st (x_ldi sc3 rfl (hp.ext L) (by omega) (by omega)) ?_))))))
   refine sp (zcall cl86 rfl) (s_bitsIn _ _ _ (by omega) (by omega)) ?_
   rintro v51 w31 l32 ⟨p51, c51, F51, rfl, o51, f51⟩
   have z_l32 := l32.size; have L := L.tr l32.up; have B1 := B1.ext l32; have oz3 := oz3.ext l32; have g51 := o51.lt
   refine s_appi (B := w4.heap.size) so24 zr3 rfl rfl (xs := _) oz3 o51.sl fz3 (by omega) (by omega) (by omega) ?_
   intro p52 c52 F52 w33 l34 o52 hn52 k52 f52 g52
   have ab1_52 : b1 ∉ F52 := k52.nin (by first|assumption|exact nin_of fz3 gz3 (by omega)) (by omega)
   have B1 := B1.exm l34 (by first|assumption|exact nin_of fz3 gz3 (by omega))
   have z_l34 := l34.size; have L := L.freshL l34 fz3 (by omega); have d51_52 : Dj F51 F52 := k52.dj (by first|assumption|exact Dj.symm (by assumption)|exact dj_of f51 g51 fz3 gz3 (by omega)) g51 (by omega)
   have o51 := o51.exm l34 (by first|assumption|exact Dj.symm (by assumption)|exact dj_of fz3 gz3 f51 g51 (by omega))
   refine s0 (xaS rfl) (c_end (n_block (n_then (c_reg (s0 (xmI rfl) (s0 (x_add rfl rfl (by omega)) (s0 (xaI rfl) (c_end ?_))))))))
   exact c_round (g' := k + 1) (by omega) ⟨_, _, _, _, upd_self3 rfl (slice_len (by rw [fieldsOf_succ (by omega), Int.toNat_natCast, List.append_assoc])) (vint (by omega)), L, (by omega), B1, (by rw [fieldsOf_succ (by omega), ← List.append_assoc]; rw [Int.toNat_natCast] at o52; exact o52), (f52.mono (by omega)), (g52.mono (by omega)), (by first|assumption|exact nin_of f52 g52 (by omega)), (by omega)⟩
  ·refine c_end (n_then (c_false rfl ?_))
   refine wp_exit (e_then (e_then (e_here ?_)))
   refine n_then (wp_seq (c_reg (s0 (xmS rfl) (s0 (xaS rfl) (c_end (n_then (wp_ret (f_ret rfl rfl ?_))))))))
   rw [headBits_yes h6 (k := k) (by omega)]
   exact ⟨_, rfl, L, _, _, _, rfl, oz3, fz3.mono (by omega)⟩
 ·have z_l5 := l5.size
  have L := L.tr l5.up
  refine s0 (x_not rfl) (c_end (n_then (c_true rfl (wp_seq (c_reg (s_bs0 so24 ?_))))))
  intro p8 F8 w35 l36 o8 f8 g8
  have o8 : Own w35 p8 0 0 3 1 (ic []) F8 := o8; have z_l36 := l36.size; have L := L.tr l36.up
  refine s0 (xaS rfl) (c_end (n_then ?_))
  refine wp_ret (r_then ?_)
  refine f_ret rfl rfl ?_
  rw [headBits_no h6]
  exact ⟨_, rfl, L, _, _, _, rfl, o8, f8.mono (by omega)⟩

theorem g_indexFB (fk : FuncId) (caps : List Value) (φ : Bk → Prop) [DecidablePred φ] (p : Option Addr) (bs : List Bk) (c : Nat) (w : World) (hc : Callable Tryz.prog fk) (hk : ∀ b ∈ bs, ∀ w', Exm [] w w' → Calls Tryz.prog fk ([Value.agg (brow b).toArray] ++ caps).toArray w' (Ret w' (.bool (decide (φ b))))) (hp : RdBs w p bs c) (hl : bs.length ≤ 1099511627776) :
    Calls Tryz.prog 188 [.slice p bs.length c, .func (.func fk) #[] caps.toArray].toArray w (RetP w fun v w' => ∃ r : Int, v = .int .i64 r ∧ (0 ≤ r ↔ ∃ j : Nat, j < bs.length ∧ φ (bs.getD j default))) := by
 have L : Exm [] w w := Exm.rfl'
 refine enter (n := 19) Tryz.func188 rfl rfl rfl ?_
 refine wp_seq (c_reg (s0 (xaI rfl) (c_end (n_then (wp_seq (wp_seq (c_reg (s0 (xmS rfl) (s0 (x_lensl un32 rfl) (s0 (xmI rfl) (c_end (n_then (wp_block ?_)))))))))))))
 refine c_loop (γ := Nat) (fun k => bs.length - k) (fun (k : Nat) E wl => ∃ E0, E = upd (upd (upd (upd E0 0 (.slice p bs.length c)) 1 (.func (.func fk) #[] caps.toArray)) 7 (.int .i64 bs.length)) 8 (.int .i64 (k : Int)) ∧ (Exm [] w wl) ∧ ((k : Int) ≤ bs.length) ∧ (∀ j : Nat, j < k → ¬ φ (bs.getD j default))) 0 ⟨_, upd_self4 rfl rfl rfl rfl, L, (by omega), (by intro j hj; omega)⟩ ?_
 rintro k E wl1 ⟨E0, rfl, L, hk2, hall⟩
 have Lz0 := L.size
 refine wp_seq (c_reg ?_)
 refine sb (x_lss rfl rfl) (fun h9 => ?_) (fun h9 => ?_)
 ·refine c_end (n_then (wp_seq (c_true rfl (c_skipn (n_then (wp_seq (wp_block (wp_seq (c_reg (s0 (xmI rfl) (s0 (xaI rfl) (c_end (n_then ?_)))))))))))))
  refine wp_seq (c_reg (s0 (x_move (v := .func _ _ _) rfl) (s0 (xmS rfl) (s0 (xmI rfl) (s0 (x_idx so32 rfl rfl hp.1 (by decide) (by omega) (by omega)) (st (x_ldr brow_len ag71 rfl (hp.1.ext L) (by omega) (by omega)) ?_))))))
  refine srb (zcallv (caps := caps) hc rfl rfl) (hk _ (getD_mem (by omega) (by omega)) _ L) (fun h16 w2 l3 => ?_) (fun h16 w2 l3 => ?_)
  ·have z_l3 := l3.size
   have L := L.tr l3.up
   refine c_end (n_then (c_true rfl (wp_seq (c_reg (s0 (xmI rfl) (s0 (xaI rfl) (c_end (n_then ?_))))))))
   refine wp_ret (r_block (r_then (r_then (r_block (r_then ?_)))))
   refine f_ret rfl rfl ?_
   exact ⟨_, rfl, L, _, rfl, ⟨fun _ => ⟨k, by omega, by simpa using h16⟩, fun _ => by omega⟩⟩
  ·have z_l3 := l3.size
   have L := L.tr l3.up
   refine c_end (n_then (c_false rfl (c_skipn (n_block (n_then (c_reg (s0 (x_add rfl rfl (by omega)) (s0 (xmI rfl) (c_end ?_)))))))))
   exact c_round (g' := k + 1) (by omega) ⟨_, upd_self4 rfl rfl rfl (vint (by omega)), L, (by omega), (upto_succ' hall (by simpa using h16))⟩
 ·refine c_end (n_then (wp_seq (c_false rfl ?_)))
  refine wp_exit (e_then (e_then (e_here ?_)))
  refine n_then (wp_seq (c_reg (s0 (xaI rfl) (c_end (n_then (wp_ret (f_ret rfl rfl ?_)))))))
  exact ⟨_, rfl, L, _, rfl, ⟨fun h => by omega, fun ⟨j, hj, h⟩ => absurd h (hall j (by omega))⟩⟩

theorem g_containsFB (fk : FuncId) (caps : List Value) (φ : Bk → Prop) [DecidablePred φ] (p : Option Addr) (bs : List Bk) (c : Nat) (w : World) (hc : Callable Tryz.prog fk) (hk : ∀ b ∈ bs, ∀ w', Exm [] w w' → Calls Tryz.prog fk ([Value.agg (brow b).toArray] ++ caps).toArray w' (Ret w' (.bool (decide (φ b))))) (hp : RdBs w p bs c) (hl : bs.length ≤ 1099511627776) :
    Calls Tryz.prog 135 [.slice p bs.length c, .func (.func fk) #[] caps.toArray].toArray w (RetP w fun v w' => ∃ r : Bool, v = .bool r ∧ (r = true ↔ ∃ j : Nat, j < bs.length ∧ φ (bs.getD j default))) := by
 have L : Exm [] w w := Exm.rfl'
 refine enter (n := 9) Tryz.func135 rfl rfl rfl ?_
 refine wp_seq (c_reg (s0 (x_assign (v := .bool _) rfl) (c_end (n_then (wp_seq (c_reg (s0 (xmS rfl) (s0 (x_move (v := .func _ _ _) rfl) ?_))))))))
 refine sp (zcall cl188 rfl) (g_indexFB _ _ φ _ _ _ _ hc (fun b hb w9 L9 => hk b hb w9 (L.tr L9)) (hp.ext L) (by omega)) ?_
 rintro v7 w1 l2 ⟨r7, rfl, hr7⟩
 have z_l2 := l2.size; have L := L.tr l2.up
 refine s0 (x_geq rfl rfl) (s0 (x_assign (v := .bool _) rfl) (c_end (n_then (wp_ret (f_ret rfl rfl ?_)))))
 exact ⟨_, rfl, L, _, rfl, by rw [decide_eq_true_iff]; exact hr7⟩

theorem i_mbOk1 (k : Bk) (bl bn : Nat) (lp : Option Addr) (xs : List Int) (lc : Nat) (n : Int) (w : World) (hB : Bx w bl [.slice lp xs.length lc] 24) (hN : Bx w bn [.int .i64 n] 3) (hx : Sl w lp xs.length lc 1 (ic xs)) (hv : Sl w k.p k.lv.length k.c 1 (ic k.lv)) (hl : xs.length ≤ 1099511627776) (hl2 : k.lv.length ≤ 1099511627776) :
    Calls Tryz.prog 136 [.agg [.int .i64 k.mode, .slice k.p k.lv.length k.c].toArray, pt bl 0, pt bn 0].toArray w (Ret w (.bool (decide (¬ blockOk k.mode k.lv xs n)))) := by
 have L : Exm [] w w := Exm.rfl'
 refine enter (n := 10) Tryz.func136 rfl rfl rfl ?_
 refine wp_seq (c_reg (s_box rfl rfl ?_))
 intro b1 w2 lob1 hib1 l3 B1
 have z_l3 := l3.size; have L := L.tr l3.up; have hB := hB.ext l3; have hN := hN.ext l3
 refine s0 (x_assign (v := .bool _) rfl) (c_end (n_then (wp_seq (c_reg (st (x_loadAgB ag71 rfl B1 rfl) (st (x_loadB sc24 rfl hB rfl) (st (x_loadB sc3 rfl hN rfl) ?_)))))))
 refine sr (zcall cl137 rfl) (i_blockOk _ _ _ _ _ _ _ _ _ (hx.ext L) (by omega) (hv.ext L) (by omega)) ?_
 intro w4 l5
 have z_l5 := l5.size; have L := L.tr l5.up; have hB := hB.ext l5; have hN := hN.ext l5
 refine s0 (x_not rfl) (s0 (x_assign (v := .bool _) rfl) (c_end (n_then (wp_ret (f_ret rfl rfl ?_)))))
 exact ⟨ret_val (show Value.bool (!decide (blockOk k.mode k.lv xs n)) = .bool (decide (¬ blockOk k.mode k.lv xs n)) by simp), L⟩

theorem i_mbOk (e : Bool) (p : Option Addr) (bs : List Bk) (c : Nat) (r : Option Addr) (xs : List Int) (d : Nat) (w : World) (hp : RdBs w p bs c) (hx : Sl w r xs.length d 1 (ic xs)) (hl : bs.length ≤ 1099511627776) (hb : ∀ b ∈ bs, b.lv.length ≤ 1099511627776) (hl2 : xs.length ≤ 1099511627776) :
    Calls Tryz.prog 72 [.agg [.bool e, .slice p bs.length c].toArray, .slice r xs.length d].toArray w (Ret w (.bool (decide (mbOk e (bs.map Bk.pl) xs)))) := by
 have L : Exm [] w w := Exm.rfl'
 refine enter (n := 25) Tryz.func72 rfl rfl rfl ?_
 refine wp_seq (c_reg (s_box rfl rfl ?_))
 intro b1 w2 lob1 hib1 l3 B1
 have z_l3 := l3.size; have L := L.tr l3.up
 refine s_box rfl rfl ?_
 intro b4 w5 lob4 hib4 l6 B4
 have z_l6 := l6.size; have L := L.tr l6.up; have B1 := B1.ext l6
 refine s0 (x_assign (v := .bool _) rfl) (c_end (n_then (wp_seq (c_reg (s0 (x_fieldAddr fa34_0 rfl) (st (x_loadB sc4 rfl B1 rfl) ?_))))))
 refine sr (zcall cl74 rfl) (i_shape _ _) ?_
 intro w7 l8
 have z_l8 := l8.size; have L := L.tr l8.up; have B1 := B1.ext l8; have B4 := B4.ext l8
 refine s0 (x_move (v := .tuple _) rfl) (s0 (x_extract rfl rfl) (s0 (x_extract rfl rfl) (s_alloc zr3 ?_)))
 intro b9 w10 lob9 hib9 l11 B9
 have z_l11 := l11.size; have L := L.tr l11.up; have B1 := B1.ext l11; have B4 := B4.ext l11
 refine s0 (xaI rfl) ?_
 refine s_store (v := .int _ _) (cs' := [_]) rfl sz3 rfl rfl rfl rfl B9 rfl rfl ?_
 intro w12 l13 el13 B9
 have z_l13 := l13.size; have L := L.fresh l13 (by omega); have B1 := B1.ne l13 (by omega); have B4 := B4.ne l13 (by omega)
 refine c_end (n_then (wp_seq (c_reg (s0 (x_fieldAddr fa34_1 rfl) (st (x_loadB sc32 rfl B1 rfl) (s0 (x_lensl un32 rfl) (s0 (xmI rfl) ?_)))))))
 refine sb (x_eql rfl rfl) (fun h17 => ?_) (fun h17 => ?_)
 ·refine s0 (x_move (v := .bool _) rfl) (gt rfl rfl rfl rfl (s0 (x_fieldAddr fa34_1 rfl) (gt rfl rfl rfl rfl (st (x_loadB sc32 rfl B1 rfl) (gt rfl rfl rfl rfl (s0 (x_makeFunc rfl) (gt rfl rfl rfl rfl ?_)))))))
  refine sp (zcall cl135 rfl) (g_containsFB _ _ (fun k => ¬ blockOk k.mode k.lv xs (side e)) _ _ _ _ cl136 (fun k hk w9 L9 => i_mbOk1 k _ _ _ _ _ _ w9 (B4.ext L9) (B9.ext L9) ((hx.ext L).ext L9) (((hp.ext L).2 k hk).ext L9) (by omega) (hb k hk)) (hp.ext L) (by omega)) ?_
  rintro v22 w14 l15 ⟨r22, rfl, hr22⟩
  have z_l15 := l15.size; have L := L.tr l15.up
  refine gt rfl rfl rfl rfl (s0 (x_not rfl) (s0 (x_pickt (v := .bool _) rfl rfl) (s0 (x_assign (v := .bool _) rfl) (c_end (n_then (wp_ret (f_ret rfl rfl ?_)))))))
  have hm : mbOk e (bs.map Bk.pl) xs ↔ ¬ r22 = true := by rw [hr22, mb_iff]; exact ⟨fun h ⟨j, hj, h2⟩ => h2 (h.2 j hj), fun h => ⟨h17, fun j hj => Classical.not_not.1 fun h2 => h ⟨j, hj, h2⟩⟩⟩
  exact ⟨ret_val (show Value.bool (!r22) = .bool (decide (mbOk e (bs.map Bk.pl) xs)) by cases r22 <;> simp [hm]), L⟩
 ·refine s0 (x_move (v := .bool _) rfl) (gf rfl rfl rfl rfl (gf rfl rfl rfl rfl (gf rfl rfl rfl rfl (gf rfl rfl rfl rfl (gf rfl rfl rfl rfl (s0 (x_pickf (v := .bool _) rfl rfl) (s0 (x_assign (v := .bool _) rfl) (c_end (n_then (wp_ret (f_ret rfl rfl ?_)))))))))))
  exact ⟨ret_f (fun h => h17 (mb_iff.1 h).1), L⟩

theorem s_mbOk (e : Bool) (p : Option Addr) (bs : List Bk) (c : Nat) (r : Option Addr) (xs : List Int) (d : Nat) (w : World) (hp : RdBs w p bs c) (hx : Sl w r xs.length d 1 (ic xs)) (hl : bs.length ≤ 1099511627776) (hb : ∀ b ∈ bs, b.lv.length ≤ 1099511627776) (hl2 : xs.length ≤ 1099511627776) :
    Calls Tryz.prog 29 [.agg [.bool e, .slice p bs.length c].toArray, .slice r xs.length d].toArray w (Ret w (.bool (decide (mbOk e (bs.map Bk.pl) xs)))) := by
 have L : Exm [] w w := Exm.rfl'
 refine enter (n := 34) Tryz.func29 rfl rfl rfl ?_
 refine wp_seq (c_reg (s_box rfl rfl ?_))
 intro b1 w2 lob1 hib1 l3 B1
 have z_l3 := l3.size; have L := L.tr l3.up
 refine s0 (x_assign (v := .bool _) rfl) (c_end (n_then (wp_seq (c_reg (s0 (x_fieldAddr fa34_0 rfl) (st (x_loadB sc4 rfl B1 rfl) ?_))))))
 refine sr (zcall cl49 rfl) (s_side _ _) ?_
 intro w4 l5
 have z_l5 := l5.size; have L := L.tr l5.up; have B1 := B1.ext l5
 refine s0 (xaI rfl) (c_end (n_then (wp_seq (wp_seq ?_))))
 have hs4 := side_in e
 refine c_reg (s0 (xaI rfl) (c_end (n_then (wp_block ?_))))
 refine c_loop (γ := Nat) (fun k => bs.length - k) (fun (k : Nat) E wl => ∃ E0, E = upd (upd (upd (upd E0 1 (.slice r xs.length d)) 2 (pt b1 0)) 5 (.int .i64 (side e))) 6 (.int .i64 (k : Int)) ∧ (Exm [] w wl) ∧ (w4.heap.size ≤ wl.heap.size) ∧ (Bx wl b1 [.bool e, .slice p bs.length c] 34) ∧ ((k : Int) ≤ bs.length) ∧ (∀ j : Nat, j < k → blockOk (bs.getD j default).mode (bs.getD j default).lv xs (side e))) 0 ⟨_, upd_self4 rfl rfl rfl rfl, L, (by omega), B1, (by omega), (by intro j hj; omega)⟩ ?_
 rintro k E wl6 ⟨E0, rfl, L, Lz, B1, hk, hall⟩
 have Lz0 := L.size
 refine wp_seq (wp_seq (c_reg (s0 (xmI rfl) (s0 (x_fieldAddr fa34_1 rfl) (st (x_loadB sc32 rfl B1 rfl) (s0 (x_lensl un32 rfl) ?_))))))
 refine sb (x_lss rfl rfl) (fun h14 => ?_) (fun h14 => ?_)
 ·refine c_end (n_then (c_true rfl (c_skipn (n_then (wp_seq (wp_block (wp_seq ?_)))))))
  have hbk := hb _ (getD_mem (xs := bs) (i := (k : Int)) (by omega) (by omega))
  refine c_reg (s0 (x_fieldAddr fa34_1 rfl) (st (x_loadB sc32 rfl B1 rfl) (s0 (xmI rfl) (s0 (x_idx so32 rfl rfl hp.1 (by decide) (by omega) (by omega)) (st (x_ldr brow_len ag71 rfl (hp.1.ext L) (by omega) (by omega)) (s0 (xmS rfl) (s0 (xmI rfl) ?_)))))))
  refine srb (zcall cl68 rfl) (s_blockOk _ _ _ _ _ _ _ _ _ (hx.ext L) (by omega) ((hp.2 _ (getD_mem (by omega) (by omega))).ext L) (by omega)) (fun h24 w7 l8 => ?_) (fun h24 w7 l8 => ?_)
  ·have z_l8 := l8.size
   have L := L.tr l8.up; have B1 := B1.ext l8
   refine s0 (x_not rfl) (c_end (n_then (c_false rfl (c_skipn (n_block (n_then (c_reg (s0 (xmI rfl) (s0 (x_add rfl rfl (by omega)) (s0 (xaI rfl) (c_end ?_)))))))))))
   exact c_round (g' := k + 1) (by omega) ⟨_, upd_self4 rfl rfl rfl (vint (by omega)), L, (by omega), B1, (by omega), (upto_succ' hall (by simpa using h24))⟩
  ·have z_l8 := l8.size
   have L := L.tr l8.up
   refine s0 (x_not rfl) (c_end (n_then (c_true rfl (wp_seq (c_reg (s0 (x_assign (v := .bool _) rfl) (c_end (n_then ?_))))))))
   refine wp_ret (r_block (r_then (r_then (r_block (r_then ?_)))))
   refine f_ret rfl rfl ?_
   exact ⟨ret_f (fun h => h24 (by simpa using (mb_iff.1 h).2 k (by omega))), L⟩
 ·refine c_end (n_then (c_false rfl ?_))
  refine wp_exit (e_then (e_then (e_here ?_)))
  refine n_then (wp_seq ?_)
  have hs4 := side_in e; have hme := many_eq e
  refine c_plan (fun wq => Exm [] wl6 wq) 9 (.cons (0, 2) (.cons (1, 1) (.cons (2, 2) (.cons (3, 2) (.cons (4, 2) (.cons (5, 2) (.cons (6, 2) (.cons (7, 2) (.cons (8, 2) .nil))))))))) (by kernel_rfl) (by kernel_rfl) (Exm.drew _) ?_
  obtain ⟨w9, hwd⟩ : ∃ x, x = wl6.drew := ⟨_, rfl⟩
  have l10 : Ext wl6 w9 := by rw [hwd]; exact Exm.drew _
  rw [← hwd]; clear hwd
  have Lq : Exm [] wl6 w9 := l10.up; have qB1 := B1; have z_l10 := l10.size; have L := L.tr l10.up
  refine p0 rfl (x_fieldAddr fa34_1 rfl) ?_
  refine ps rfl (fun wq hwq => x_loadB sc32 rfl (qB1.ext hwq) rfl) ?_
  refine p0 rfl (x_lensl un32 rfl) (p0 rfl (xmI rfl) (p0 rfl (xmI rfl) ?_))
  refine p0 rfl (x_mul rfl rfl (by rcases hs4 with h | h <;> rw [h] <;> decide)) ?_
  refine p0 rfl (x_quo rfl rfl (by omega) (by rcases hs4 with h | h <;> rw [h] <;> decide)) ?_
  refine p0 rfl (x_eql rfl rfl) (p0 rfl (x_assign (v := .bool _) rfl) ?_)
  refine p_nil (np_normal ?_)
  refine n_then (wp_ret (f_ret rfl rfl ?_))
  exact ⟨ret_dec2 ⟨fun h => mb_iff.2 ⟨by rw [← many_eq]; exact h, fun j hj => hall j (by omega)⟩, fun h => by rw [many_eq]; exact (mb_iff.1 h).1⟩, L⟩

theorem s_pairsOf (p : Option Addr) (xs : List Int) (c : Nat) (w : World) (hp : Sl w p xs.length c 1 (ic xs)) (hl : xs.length ≤ 1099511627776) :
    Calls Tryz.prog 155 [.slice p xs.length c].toArray w (RetP w fun v w' => ∃ p c F, v = .slice p (pairsOf xs).length c ∧ Own w' p (pairsOf xs).length c 166 2 ((pairsOf xs).flatMap erow) F ∧ Fr w.heap.size F) := by
 have L : Exm [] w w := Exm.rfl'
 refine enter (n := 34) Tryz.func155 rfl rfl rfl ?_
 refine wp_seq (c_reg (s0 (xaS rfl) (c_end (n_then (wp_seq (c_reg (s_bs0 so163 ?_)))))))
 intro p6 F6 w1 l2 o6 f6 g6
 have o6 : Own w1 p6 0 0 166 2 (([] : List _).flatMap erow) F6 := o6; have z_l2 := l2.size; have L := L.tr l2.up
 refine s0 (xaS rfl) (c_end (n_then (wp_seq (c_reg (s0 (xaI rfl) (c_end (n_then (wp_seq (wp_seq (c_reg (s0 (xaI rfl) (c_end (n_then ?_)))))))))))))
 refine wp_block ?_
 refine c_loop (γ := Nat) (fun k => xs.length - k) (fun (k : Nat) E wl => ∃ E0 pz3 cz3 Fz3, E = upd (upd (upd (upd E0 0 (.slice p xs.length c)) 3 (.slice pz3 (((prS xs k).1).length) cz3)) 4 (.int .i64 (prS xs k).2)) 5 (.int .i64 (k : Int)) ∧ (Exm [] w wl) ∧ (w1.heap.size ≤ wl.heap.size) ∧ (Own wl pz3 (((prS xs k).1).length) cz3 166 2 (((prS xs k).1).flatMap erow) Fz3) ∧ (Fr (w.heap.size) Fz3) ∧ (Lt Fz3 wl.heap.size) ∧ ((k : Int) ≤ xs.length) ∧ (0 < k → levelsOk xs)) 0 ⟨_, _, _, _, upd_self4 rfl rfl rfl rfl, L, (by omega), o6, (f6.mono (by omega)), (g6.mono (by omega)), (by omega), (fun h => absurd h (by omega))⟩ ?_
 rintro k E wl3 ⟨E0, pz3, cz3, Fz3, rfl, L, Lz, oz3, fz3, gz3, hk, hlv⟩
 have Lz0 := L.size; have hpr := prS_range xs k
 refine wp_seq (wp_seq (c_reg (s0 (xmI rfl) (s0 (xmS rfl) (s0 (x_lensl un24 rfl) ?_)))))
 refine sb (x_lss rfl rfl) (fun h10 => ?_) (fun h10 => ?_)
 ·refine s0 (x_move (v := .bool _) rfl) (gt rfl rfl rfl rfl (s0 (xmS rfl) (gt rfl rfl rfl rfl ?_)))
  refine srb (zcall cl133 rfl) (s_levelsOk _ _ _ _ (hp.ext L) (by omega)) (fun h13 w4 l5 => ?_) (fun h13 w4 l5 => ?_)
  ·have z_l5 := l5.size
   have L := L.tr l5.up; have oz3 := oz3.ext l5
   refine s0 (x_pickt (v := .bool _) rfl rfl) (c_end (n_then (c_true rfl (c_skipn (n_then (wp_seq (wp_block (wp_seq (wp_seq (c_reg (s0 (xmS rfl) (s0 (xmI rfl) (s0 (x_idx so24 rfl rfl hp (by decide) (by omega) (by omega)) ?_)))))))))))))
   refine st (x_ldi sc3 rfl (hp.ext L) (by omega) (by omega)) ?_
   refine sb (x_eql rfl rfl) (fun h21 => ?_) (fun h21 => ?_)
   ·refine c_end (n_then (c_true rfl (wp_seq (c_reg (s0 (xmI rfl) (s0 (x_add rfl rfl (by omega)) (s0 (xaI rfl) (c_end (n_then ?_)))))))))
    refine wp_exit (e_then (e_here ?_))
    refine n_then (c_reg (s0 (xmI rfl) (s0 (x_add rfl rfl (by omega)) (s0 (xaI rfl) (c_end ?_)))))
    rw [Int.toNat_natCast] at h21
    try rw [Int.toNat_natCast] at o32
    exact c_round (g' := k + 1) (by omega) ⟨_, _, _, _, upd_self4 rfl (by first | (rw [← (prS_zero h21).1]; rfl) | (rw [← (prS_more h21).1]; exact slice_len (by simp only [List.length_append, List.length_cons, List.length_nil]))) (by first | exact vint (prS_zero h21).2 | exact vint (prS_more h21).2) (vint (by omega)), L, (by omega), (by first | (rw [← (prS_zero h21).1]; exact oz3) | (rw [← (prS_more h21).1]; exact o32)), (fz3.mono (by omega)), (gz3.mono (by omega)), (by omega), (fun _ => h13)⟩
   ·refine c_end (n_then (c_false rfl (c_skipn (n_then (wp_seq (c_reg (s0 (xmS rfl) (s0 (xmI rfl) (s0 (xmS rfl) (s0 (xmI rfl) (s0 (x_idx so24 rfl rfl hp (by decide) (by omega) (by omega)) (st (x_ldi sc3 rfl (hp.ext L) (by omega) (by omega)) ?_))))))))))))
    refine s0 (x_build (cs := [.int _ _, .int _ _]) bd166 (pts_cons (v := .int _ _) rfl (pts_cons (v := .int _ _) rfl pts_nil)) rfl) ?_
    refine s_bsr (g := fun x => .agg (erow x).toArray) (xs := [(_, _)]) (fun _ => rfl) erow_len so163 zr166 (pts_cons rfl pts_nil) rfl rfl rfl ?_
    intro p31 F31 w6 l7 o31 f31 g31
    have z_l7 := l7.size; have L := L.tr l7.up; have oz3 := oz3.ext l7; have hn31 := o31.nr erow_len (by decide)
    refine s_appr (B := w.heap.size) (f := erow) erow_len erow_one (by decide) so163 zr166 rfl rfl rfl oz3 o31.sl fz3 (by omega) (by omega) (by omega) ?_
    intro p32 c32 F32 w8 l9 o32 hn32 k32 f32 g32
    have z_l9 := l9.size; have L := L.freshL l9 fz3 (by omega); have d31_32 : Dj F31 F32 := k32.dj (by first|assumption|exact Dj.symm (by assumption)|exact dj_of f31 g31 fz3 gz3 (by omega)) g31 (by omega)
    have o31 := o31.exm l9 (by first|assumption|exact Dj.symm (by assumption)|exact dj_of fz3 gz3 f31 g31 (by omega))
    refine s0 (xaS rfl) (c_end (n_then (c_reg (s0 (xaI rfl) (c_end (n_block (n_then (c_reg (s0 (xmI rfl) (s0 (x_add rfl rfl (by omega)) (s0 (xaI rfl) (c_end ?_))))))))))))
    rw [Int.toNat_natCast] at h21
    try rw [Int.toNat_natCast] at o32
    exact c_round (g' := k + 1) (by omega) ⟨_, _, _, _, upd_self4 rfl (by first | (rw [← (prS_zero h21).1]; rfl) | (rw [← (prS_more h21).1]; exact slice_len (by simp only [List.length_append, List.length_cons, List.length_nil]))) (by first | exact vint (prS_zero h21).2 | exact vint (prS_more h21).2) (vint (by omega)), L, (by omega), (by first | (rw [← (prS_zero h21).1]; exact oz3) | (rw [← (prS_more h21).1]; exact o32)), (f32.mono (by omega)), (g32.mono (by omega)), (by omega), (fun _ => h13)⟩
  ·have z_l5 := l5.size
   have L := L.tr l5.up; have oz3 := oz3.ext l5
   refine s0 (x_pickt (v := .bool _) rfl rfl) (c_end (n_then (c_false rfl ?_)))
   refine wp_exit (e_then (e_then (e_here ?_)))
   refine n_then (wp_seq (c_reg (s0 (xmS rfl) (s0 (xaS rfl) (c_end (n_then (wp_ret (f_ret rfl rfl ?_))))))))
   rw [pairs_end hlv (.inr h13)]
   exact ⟨_, rfl, L, _, _, _, rfl, oz3, fz3.mono (by omega)⟩
 ·refine s0 (x_move (v := .bool _) rfl) (gf rfl rfl rfl rfl (gf rfl rfl rfl rfl (s0 (x_pickf (v := .bool _) rfl rfl) (c_end (n_then (c_false rfl ?_))))))
  refine wp_exit (e_then (e_then (e_here ?_)))
  refine n_then (wp_seq (c_reg (s0 (xmS rfl) (s0 (xaS rfl) (c_end (n_then (wp_ret (f_ret rfl rfl ?_))))))))
  rw [pairs_end hlv (.inl (by omega))]
  exact ⟨_, rfl, L, _, _, _, rfl, oz3, fz3.mono (by omega)⟩

theorem s_numOfLevel (v : Int) (w : World) (hv : -1073741824 ≤ v ∧ v ≤ 1073741824) :
    Calls Tryz.prog 156 [.int .i64 v].toArray w (Ret w (.int .i64 (numOf v))) := by
 have L : Exm [] w w := Exm.rfl'
 refine enter (n := 13) Tryz.func156 rfl rfl rfl ?_
 refine wp_seq (c_reg (s0 (xaI rfl) (c_end (n_then (wp_seq (wp_seq (c_reg (s0 (xmI rfl) ?_))))))))
 refine sb (x_gtr rfl rfl) (fun h4 => ?_) (fun h4 => ?_)
 ·refine c_end (n_then (c_true rfl (wp_seq (c_reg (s0 (xmI rfl) (s0 (x_mul rfl rfl (by omega)) (s0 (x_sub rfl rfl (by omega)) (s0 (xaI rfl) (c_end (n_then ?_))))))))))
  refine wp_ret (r_then ?_)
  refine f_ret rfl rfl ?_
  exact ⟨ret_int (by unfold numOf; rw [if_pos h4]), L⟩
 ·refine c_end (n_then (c_false rfl (c_skipn (n_then (wp_seq (wp_seq (c_reg (s0 (xmI rfl) ?_))))))))
  refine sb (x_lss rfl rfl) (fun h9 => ?_) (fun h9 => ?_)
  ·refine c_end (n_then (c_true rfl (wp_seq (c_reg (s0 (xmI rfl) (s0 (x_mul rfl rfl (by omega)) (s0 (x_sub rfl rfl (by omega)) (s0 (xaI rfl) (c_end (n_then ?_))))))))))
   refine wp_ret (r_then ?_)
   refine f_ret rfl rfl ?_
   exact ⟨ret_int (by unfold numOf; rw [if_neg h4, if_pos h9]), L⟩
  ·refine c_end (n_then (c_false rfl (c_skipn (n_then (wp_seq (c_reg (s0 (xaI rfl) (c_end (n_then (wp_ret (f_ret rfl rfl ?_)))))))))))
   exact ⟨ret_int (by unfold numOf; rw [if_neg h4, if_neg h9]), L⟩

end Go.Proofs.YtepnknffaecbdaaGreat
