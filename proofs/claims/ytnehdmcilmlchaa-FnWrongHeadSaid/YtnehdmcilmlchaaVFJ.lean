/- What each function of this part returns, for every argument that meets its premises. -/
import Derived.Test.YtnehdmcilmlchaaProg
import Derived.Test.YtnehdmcilmlchaaVSxF
import Derived.Test.YtnehdmcilmlchaaVPlY
import Derived.Test.YtnehdmcilmlchaaVF1
import Derived.Test.YtnehdmcilmlchaaVF4
import Derived.Test.YtnehdmcilmlchaaVF7
import Derived.Test.YtnehdmcilmlchaaVF8
import Derived.Test.YtnehdmcilmlchaaVF9
namespace Go.Proofs.Ytnehdmcilmlchaa
open Go.Sx Go.Pl Go.RowKit
theorem ag42FJ : Ag Try.prog 42 6 := ⟨⟨_, Try.underlying42⟩, by kernel_rfl⟩
theorem cl129FJ : Callable Try.prog 129 := callable Try.func129 (by kernel_rfl) rfl
theorem cl172FJ : Callable Try.prog 172 := callable Try.func172 (by kernel_rfl) rfl
theorem cl203FJ : Callable Try.prog 203 := callable Try.func203 (by kernel_rfl) rfl
theorem cl204FJ : Callable Try.prog 204 := callable Try.func204 (by kernel_rfl) rfl
theorem cl235FJ : Callable Try.prog 235 := callable Try.func235 (by kernel_rfl) rfl
theorem cl95FJ : Callable Try.prog 95 := callable Try.func95 (by kernel_rfl) rfl
theorem fa42_0FJ : FieldAt Try.prog 42 0 0 := ⟨_, _, Try.underlying42, rfl, rfl, ⟨0, by unfold Sz; kernel_rfl⟩⟩
theorem fa42_1FJ : FieldAt Try.prog 42 1 1 := ⟨_, _, Try.underlying42, rfl, rfl, ⟨0, by unfold Sz; kernel_rfl⟩⟩
theorem fa42_2FJ : FieldAt Try.prog 42 2 2 := ⟨_, _, Try.underlying42, rfl, rfl, ⟨0, by unfold Sz; kernel_rfl⟩⟩
theorem fa42_3FJ : FieldAt Try.prog 42 3 3 := ⟨_, _, Try.underlying42, rfl, rfl, ⟨0, by unfold Sz; kernel_rfl⟩⟩
theorem fa42_4FJ : FieldAt Try.prog 42 4 4 := ⟨_, _, Try.underlying42, rfl, rfl, ⟨0, by unfold Sz; kernel_rfl⟩⟩
theorem fa42_5FJ : FieldAt Try.prog 42 5 5 := ⟨_, _, Try.underlying42, rfl, rfl, ⟨0, by unfold Sz; kernel_rfl⟩⟩
theorem sc3FJ : Sc Try.prog 3 := ⟨(.int .i64), by kernel_rfl, trivial⟩
theorem sc4FJ : Sc Try.prog 4 := ⟨.bool, by kernel_rfl, trivial⟩
theorem sc40FJ : Sc Try.prog 40 := ⟨(.slice 3), by kernel_rfl, trivial⟩
theorem so40FJ : SliceOf Try.prog 40 3 1 8 := ⟨by kernel_rfl, by kernel_rfl⟩
theorem un40FJ : Try.prog.underlying 40 = some (.slice 3) := by kernel_rfl
theorem zr3FJ : ZeroV Try.prog 3 [.int .i64 0] := by unfold ZeroV; kernel_rfl
/-- spec.l22Flag -/
theorem s_flag_t (w : World) :
    Calls Try.prog 129 [.bool true].toArray w (Ret w (.int .i64 (flag true))) := by
  have L : Exm [] w w := Exm.rfl'
  refine enter (n := 4) Try.func129 rfl rfl rfl ?_
  refine wp_seq ?_
  refine c_reg ?_
  refine s0 (x_assign (v := .int _ _) rfl) ?_
  refine c_end ?_
  refine n_then ?_
  refine wp_seq ?_
  refine wp_seq ?_
  refine c_reg ?_
  refine s0 (x_move (v := .bool _) rfl) ?_
  refine c_end ?_
  refine n_then ?_
  refine c_true rfl ?_
  refine wp_seq ?_
  refine c_reg ?_
  refine s0 (x_assign (v := .int _ _) rfl) ?_
  refine c_end ?_
  refine n_then ?_
  refine wp_ret (r_then ?_)
  refine f_ret rfl rfl ?_
  exact ⟨rfl, L⟩

/-- spec.l22Flag -/
theorem s_flag_f (w : World) :
    Calls Try.prog 129 [.bool false].toArray w (Ret w (.int .i64 (flag false))) := by
  have L : Exm [] w w := Exm.rfl'
  refine enter (n := 4) Try.func129 rfl rfl rfl ?_
  refine wp_seq ?_
  refine c_reg ?_
  refine s0 (x_assign (v := .int _ _) rfl) ?_
  refine c_end ?_
  refine n_then ?_
  refine wp_seq ?_
  refine wp_seq ?_
  refine c_reg ?_
  refine s0 (x_move (v := .bool _) rfl) ?_
  refine c_end ?_
  refine n_then ?_
  refine c_false rfl ?_
  refine c_skipn ?_
  refine n_then ?_
  refine wp_seq ?_
  refine c_reg ?_
  refine s0 (x_assign (v := .int _ _) rfl) ?_
  refine c_end ?_
  refine n_then ?_
  refine wp_ret ?_
  refine f_ret rfl rfl ?_
  exact ⟨rfl, L⟩

theorem s_flag (e : Bool) (w : World) : Calls Try.prog 129 [.bool e].toArray w (Ret w (.int .i64 (flag e))) := by
  cases e
  · exact s_flag_f w
  · exact s_flag_t w

/-- spec.UeBits -/
theorem s_ueBits (n : Int) (w : World) :
    Calls Try.prog 172 [.int .i64 n].toArray w (RetP w fun v w' => ∃ p c F, v = .slice p (ueBits n).length c ∧ Own w' p (ueBits n).length c 3 1 (ic (ueBits n)) F ∧ Fr w.heap.size F) := by
  have L : Exm [] w w := Exm.rfl'
  refine enter (n := 18) Try.func172 rfl rfl rfl ?_
  refine wp_seq ?_
  refine c_reg ?_
  refine s0 (x_assign (v := .slice _ _ _) rfl) ?_
  refine c_end ?_
  refine n_then ?_
  refine wp_seq ?_
  refine wp_seq ?_
  refine c_reg ?_
  refine s0 (x_move (v := .int _ _) rfl) ?_
  refine srb (zcall cl95FJ rfl) (s_l1In _ _ _ _) (fun h5 w1 l2 => ?_) (fun h5 w1 l2 => ?_)
  · have z_l2 := l2.size
    have L := L.tr l2.up
    refine s0 (x_not rfl) ?_
    refine c_end ?_
    refine n_then ?_
    refine c_false rfl ?_
    refine c_skipn ?_
    refine n_then ?_
    refine wp_seq ?_
    refine c_reg ?_
    refine s0 (x_move (v := .int _ _) rfl) ?_
    refine sr (zcall cl235FJ rfl) (s_l6Zeros _ _ (by omega)) ?_
    intro w3 l4
    have z_l4 := l4.size
    have L := L.tr l4.up
    refine s0 (x_assign (v := .int _ _) rfl) ?_
    refine c_end ?_
    refine n_then ?_
    refine wp_seq ?_
    have hz := lz_range h5
    have hbi := bitsIn_len (n + 1) (lz n + 1)
    refine c_plan (fun wq => Exm [] w3 wq) 9 (.cons (0, 2) (.cons (2, 2) (.cons (3, 2) (.cons (4, 2) (.cons (5, 2) (.fork 1 6 (.cons (6, 0) (.cons (7, 0) (.cons (8, 2) .nil))) (.cons (1, 0) (.cons (7, 0) (.cons (8, 2) .nil))))))))) (by kernel_rfl) (by kernel_rfl) (Exm.drew _) ?_
    obtain ⟨w5, hwd⟩ : ∃ x, x = w3.drew := ⟨_, rfl⟩
    have l6 : Ext w3 w5 := by rw [hwd]; exact Exm.drew _
    rw [← hwd]; clear hwd
    have Lq : Exm [] w3 w5 := l6.up
    have qL := L
    have z_l6 := l6.size
    have L := L.tr l6.up
    refine p0 rfl (x_move (v := .int _ _) rfl) ?_
    refine p0 rfl (x_move (v := .int _ _) rfl) ?_
    refine p0 rfl (x_add rfl rfl (by omega)) ?_
    refine p0 rfl (x_move (v := .int _ _) rfl) ?_
    refine p0 rfl (x_add rfl rfl (by omega)) ?_
    refine pfork ?_ ?_
    · refine pu rfl ?_ (by rintro ⟨_, _, h, _⟩; cases h)
      refine s_makei so40FJ zr3FJ rfl rfl (by omega) (by omega) (by omega) ?_
      intro p11 F11 w7 l8 o11 f11 g11
      have z_l8 := l8.size
      have L := L.tr l8.up
      have Lq := Lq.tr l8.up
      have hn11 := o11.n1
      refine c_end ⟨rfl, fun h hS => Lq, ?_⟩
      refine pu rfl ?_ (by rintro ⟨_, _, h, _⟩; cases h)
      refine sp (zcall cl204FJ rfl) (s_bitsIn _ _ _ (by omega) (by omega)) ?_
      rintro v16 w9 l10 ⟨p16, c16, F16, rfl, o16, f16⟩
      have z_l10 := l10.size
      have L := L.tr l10.up
      have Lq := Lq.tr l10.up
      have o11 := o11.ext l10
      have g16 := o16.lt
      refine c_end ⟨rfl, fun h hS => Lq, ?_⟩
      refine pu rfl ?_ (by rintro ⟨_, _, h, _⟩; cases h)
      refine s_appi (B := w5.heap.size) so40FJ zr3FJ rfl rfl (xs := _) o11 o16.sl f11 (by omega) (by omega) (by omega) ?_
      intro p17 c17 F17 w11 l12 o17 hn17 k17 f17 g17
      have z_l12 := l12.size
      have L := L.freshL l12 f11 (by omega)
      have Lq := Lq.freshL l12 f11 (by omega)
      have d16_17 : Dj F16 F17 := k17.dj (by first | assumption | exact Dj.symm (by assumption) | exact dj_of f16 g16 f11 g11 (by omega)) g16 (by omega)
      have o16 := o16.exm l12 (by first | assumption | exact Dj.symm (by assumption) | exact dj_of f11 g11 f16 g16 (by omega))
      refine c_end ⟨rfl, fun h hS => Lq, ?_⟩
      refine p0 rfl (x_assign (v := .slice _ _ _) rfl) ?_
      refine p_nil (np_normal ?_)
      refine n_then ?_
      refine wp_ret ?_
      refine f_ret rfl rfl ?_
      have hue := ueBits_zeros h5
      exact ⟨_, rfl, L, _, _, _, slice_len (congrArg List.length hue.symm).symm, own_eq hue.symm o17, f17.mono (by omega)⟩
    · refine pu rfl ?_ (by rintro ⟨_, _, h, _⟩; cases h)
      refine sp (zcall cl204FJ rfl) (s_bitsIn _ _ _ (by omega) (by omega)) ?_
      rintro v16 w13 l14 ⟨p16, c16, F16, rfl, o16, f16⟩
      have z_l14 := l14.size
      have L := L.tr l14.up
      have Lq := Lq.tr l14.up
      have g16 := o16.lt
      refine c_end ⟨rfl, fun h hS => Lq, ?_⟩
      refine pu rfl ?_ (by rintro ⟨_, _, h, _⟩; cases h)
      refine s_makei so40FJ zr3FJ rfl rfl (by omega) (by omega) (by omega) ?_
      intro p11 F11 w15 l16 o11 f11 g11
      have z_l16 := l16.size
      have L := L.tr l16.up
      have Lq := Lq.tr l16.up
      have o16 := o16.ext l16
      have hn11 := o11.n1
      refine c_end ⟨rfl, fun h hS => Lq, ?_⟩
      refine pu rfl ?_ (by rintro ⟨_, _, h, _⟩; cases h)
      refine s_appi (B := w13.heap.size) so40FJ zr3FJ rfl rfl (xs := _) o11 o16.sl f11 (by omega) (by omega) (by omega) ?_
      intro p17 c17 F17 w17 l18 o17 hn17 k17 f17 g17
      have z_l18 := l18.size
      have L := L.freshL l18 f11 (by omega)
      have Lq := Lq.freshL l18 f11 (by omega)
      have d16_17 : Dj F16 F17 := k17.dj (by first | assumption | exact Dj.symm (by assumption) | exact dj_of f16 g16 f11 g11 (by omega)) g16 (by omega)
      have o16 := o16.exm l18 (by first | assumption | exact Dj.symm (by assumption) | exact dj_of f11 g11 f16 g16 (by omega))
      refine c_end ⟨rfl, fun h hS => Lq, ?_⟩
      refine p0 rfl (x_assign (v := .slice _ _ _) rfl) ?_
      refine p_nil (np_normal ?_)
      refine n_then ?_
      refine wp_ret ?_
      refine f_ret rfl rfl ?_
      have hue := ueBits_zeros h5
      exact ⟨_, rfl, L, _, _, _, slice_len (congrArg List.length hue.symm).symm, own_eq hue.symm o17, f17.mono (by omega)⟩
  · have z_l2 := l2.size
    have L := L.tr l2.up
    refine s0 (x_not rfl) ?_
    refine c_end ?_
    refine n_then ?_
    refine c_true rfl ?_
    refine wp_seq ?_
    refine c_reg ?_
    refine s_bs0 so40FJ ?_
    intro p7 F7 w19 l20 o7 f7 g7
    have o7 : Own w19 p7 0 0 3 1 (ic []) F7 := o7
    have z_l20 := l20.size
    have L := L.tr l20.up
    refine s0 (x_assign (v := .slice _ _ _) rfl) ?_
    refine c_end ?_
    refine n_then ?_
    refine wp_ret (r_then ?_)
    refine f_ret rfl rfl ?_
    rw [ueBits_no h5]
    exact ⟨_, rfl, L, _, _, _, rfl, o7, f7.mono (by omega)⟩

/-- spec.HeaderBits -/
theorem s_headerBits (a b q : Int) (y z : Bool) (p : Option Addr) (xs : List Int) (c : Nat) (w : World) (hp : Sl w p xs.length c 1 (ic xs)) (hl : xs.length ≤ 1099511627776) :
    Calls Try.prog 146 [.agg [.int .i64 a, .int .i64 b, .int .i64 q, .bool y, .bool z, .slice p xs.length c].toArray].toArray w (RetP w fun v w' => ∃ p c F, v = .slice p (headBits a b q y z xs).length c ∧ Own w' p (headBits a b q y z xs).length c 3 1 (ic (headBits a b q y z xs)) F ∧ Fr w.heap.size F) := by
  have L : Exm [] w w := Exm.rfl'
  refine enter (n := 54) Try.func146 rfl rfl rfl ?_
  refine wp_seq ?_
  refine c_reg ?_
  refine s_box rfl rfl ?_
  intro b1 w2 lob1 hib1 l3 B1
  have z_l3 := l3.size
  have L := L.tr l3.up
  refine s0 (x_assign (v := .slice _ _ _) rfl) ?_
  refine c_end ?_
  refine n_then ?_
  refine wp_seq ?_
  refine wp_seq ?_
  refine c_reg ?_
  refine st (x_loadAgB ag42FJ rfl B1 rfl) ?_
  refine srb (zcall cl203FJ rfl) (s_headerOk _ _ _ _ _ _ _ _ _ (hp.ext L) (by omega)) (fun h6 w4 l5 => ?_) (fun h6 w4 l5 => ?_)
  · have z_l5 := l5.size
    have L := L.tr l5.up
    have B1 := B1.ext l5
    refine s0 (x_not rfl) ?_
    refine c_end ?_
    refine n_then ?_
    refine c_false rfl ?_
    refine c_skipn ?_
    refine n_then ?_
    refine wp_seq ?_
    obtain ⟨⟨hW, hH, _, _⟩, hQ, hC⟩ := id h6
    have hx6 := hC.2.1
    have hl1 := (bitsIn_len 183 8).1
    have hl2 := ueBits_le (a / 8 - 1)
    have hl3 := ueBits_le (b / 8 - 1)
    have hl4 := (bitsIn_len q 6).1
    refine c_reg ?_
    refine sp (zcall cl204FJ rfl) (s_bitsIn _ _ _ (by omega) (by omega)) ?_
    rintro v9 w6 l7 ⟨p9, c9, F9, rfl, o9, f9⟩
    have z_l7 := l7.size
    have L := L.tr l7.up
    have B1 := B1.ext l7
    have g9 := o9.lt
    refine s0 (x_assign (v := .slice _ _ _) rfl) ?_
    refine c_end ?_
    refine n_then ?_
    refine wp_seq ?_
    refine c_reg ?_
    refine s0 (x_move (v := .slice _ _ _) rfl) ?_
    refine s0 (x_fieldAddr fa42_0FJ rfl) ?_
    refine st (x_loadB sc3FJ rfl B1 rfl) ?_
    refine s0 (x_quo rfl rfl (by omega) (by omega)) ?_
    refine s0 (x_sub rfl rfl (by omega)) ?_
    refine sp (zcall cl172FJ rfl) (s_ueBits _ _) ?_
    rintro v15 w8 l9 ⟨p15, c15, F15, rfl, o15, f15⟩
    have z_l9 := l9.size
    have L := L.tr l9.up
    have B1 := B1.ext l9
    have o9 := o9.ext l9
    have g15 := o15.lt
    refine s_appi (B := w4.heap.size) so40FJ zr3FJ rfl rfl (xs := _) o9 o15.sl f9 (by omega) (by omega) (by omega) ?_
    intro p16 c16 F16 w10 l11 o16 hn16 k16 f16 g16
    have ab1_16 : b1 ∉ F16 := k16.nin (by first | assumption | exact nin_of f9 g9 (by omega)) (by omega)
    have B1 := B1.exm l11 (by first | assumption | exact nin_of f9 g9 (by omega))
    have z_l11 := l11.size
    have L := L.freshL l11 f9 (by omega)
    have d15_16 : Dj F15 F16 := k16.dj (by first | assumption | exact Dj.symm (by assumption) | exact dj_of f15 g15 f9 g9 (by omega)) g15 (by omega)
    have o15 := o15.exm l11 (by first | assumption | exact Dj.symm (by assumption) | exact dj_of f9 g9 f15 g15 (by omega))
    refine s0 (x_assign (v := .slice _ _ _) rfl) ?_
    refine c_end ?_
    refine n_then ?_
    refine wp_seq ?_
    refine c_reg ?_
    refine s0 (x_move (v := .slice _ _ _) rfl) ?_
    refine s0 (x_fieldAddr fa42_1FJ rfl) ?_
    refine st (x_loadB sc3FJ rfl B1 rfl) ?_
    refine s0 (x_quo rfl rfl (by omega) (by omega)) ?_
    refine s0 (x_sub rfl rfl (by omega)) ?_
    refine sp (zcall cl172FJ rfl) (s_ueBits _ _) ?_
    rintro v22 w12 l13 ⟨p22, c22, F22, rfl, o22, f22⟩
    have z_l13 := l13.size
    have L := L.tr l13.up
    have B1 := B1.ext l13
    have o15 := o15.ext l13
    have o16 := o16.ext l13
    have g22 := o22.lt
    refine s_appi (B := w4.heap.size) so40FJ zr3FJ rfl rfl (xs := _) o16 o22.sl f16 (by omega) (by omega) (by omega) ?_
    intro p23 c23 F23 w14 l15 o23 hn23 k23 f23 g23
    have ab1_23 : b1 ∉ F23 := k23.nin (by first | assumption | exact nin_of f16 g16 (by omega)) (by omega)
    have B1 := B1.exm l15 (by first | assumption | exact nin_of f16 g16 (by omega))
    have z_l15 := l15.size
    have L := L.freshL l15 f16 (by omega)
    have d15_23 : Dj F15 F23 := k23.dj (by first | assumption | exact Dj.symm (by assumption) | exact dj_of f15 g15 f16 g16 (by omega)) g15 (by omega)
    have o15 := o15.exm l15 (by first | assumption | exact Dj.symm (by assumption) | exact dj_of f16 g16 f15 g15 (by omega))
    have d22_23 : Dj F22 F23 := k23.dj (by first | assumption | exact Dj.symm (by assumption) | exact dj_of f22 g22 f16 g16 (by omega)) g22 (by omega)
    have o22 := o22.exm l15 (by first | assumption | exact Dj.symm (by assumption) | exact dj_of f16 g16 f22 g22 (by omega))
    refine s0 (x_assign (v := .slice _ _ _) rfl) ?_
    refine c_end ?_
    refine n_then ?_
    refine wp_seq ?_
    refine c_reg ?_
    refine s0 (x_move (v := .slice _ _ _) rfl) ?_
    refine s0 (x_fieldAddr fa42_2FJ rfl) ?_
    refine st (x_loadB sc3FJ rfl B1 rfl) ?_
    refine sp (zcall cl204FJ rfl) (s_bitsIn _ _ _ (by omega) (by omega)) ?_
    rintro v27 w16 l17 ⟨p27, c27, F27, rfl, o27, f27⟩
    have z_l17 := l17.size
    have L := L.tr l17.up
    have B1 := B1.ext l17
    have o15 := o15.ext l17
    have o22 := o22.ext l17
    have o23 := o23.ext l17
    have g27 := o27.lt
    refine s_appi (B := w4.heap.size) so40FJ zr3FJ rfl rfl (xs := _) o23 o27.sl f23 (by omega) (by omega) (by omega) ?_
    intro p28 c28 F28 w18 l19 o28 hn28 k28 f28 g28
    have ab1_28 : b1 ∉ F28 := k28.nin (by first | assumption | exact nin_of f23 g23 (by omega)) (by omega)
    have B1 := B1.exm l19 (by first | assumption | exact nin_of f23 g23 (by omega))
    have z_l19 := l19.size
    have L := L.freshL l19 f23 (by omega)
    have d15_28 : Dj F15 F28 := k28.dj (by first | assumption | exact Dj.symm (by assumption) | exact dj_of f15 g15 f23 g23 (by omega)) g15 (by omega)
    have o15 := o15.exm l19 (by first | assumption | exact Dj.symm (by assumption) | exact dj_of f23 g23 f15 g15 (by omega))
    have d22_28 : Dj F22 F28 := k28.dj (by first | assumption | exact Dj.symm (by assumption) | exact dj_of f22 g22 f23 g23 (by omega)) g22 (by omega)
    have o22 := o22.exm l19 (by first | assumption | exact Dj.symm (by assumption) | exact dj_of f23 g23 f22 g22 (by omega))
    have d27_28 : Dj F27 F28 := k28.dj (by first | assumption | exact Dj.symm (by assumption) | exact dj_of f27 g27 f23 g23 (by omega)) g27 (by omega)
    have o27 := o27.exm l19 (by first | assumption | exact Dj.symm (by assumption) | exact dj_of f23 g23 f27 g27 (by omega))
    refine s0 (x_assign (v := .slice _ _ _) rfl) ?_
    refine c_end ?_
    refine n_then ?_
    refine wp_seq ?_
    refine c_plan (fun wq => Exm [] w18 wq) 8 (.cons (0, 2) (.cons (1, 2) (.cons (2, 1) (.cons (4, 2) (.cons (5, 1) (.cons (3, 0) (.cons (6, 0) (.cons (7, 0) (.cons (8, 0) (.cons (9, 0) .nil)))))))))) (by kernel_rfl) (by kernel_rfl) (Exm.drew _) ?_
    obtain ⟨w20, hwd⟩ : ∃ x, x = w18.drew := ⟨_, rfl⟩
    have l21 : Ext w18 w20 := by rw [hwd]; exact Exm.drew _
    rw [← hwd]; clear hwd
    have Lq : Exm [] w18 w20 := l21.up
    have qB1 := B1
    have qo15 := o15
    have qo22 := o22
    have qo27 := o27
    have qo28 := o28
    have qL := L
    have z_l21 := l21.size
    have L := L.tr l21.up
    have B1 := B1.ext l21
    have o15 := o15.ext l21
    have o22 := o22.ext l21
    have o27 := o27.ext l21
    have o28 := o28.ext l21
    refine p0 rfl (x_move (v := .slice _ _ _) rfl) ?_
    refine p0 rfl (x_fieldAddr fa42_3FJ rfl) ?_
    refine ps rfl (fun wq hwq => x_loadB sc4FJ rfl (qB1.ext hwq) rfl) ?_
    refine p0 rfl (x_fieldAddr fa42_4FJ rfl) ?_
    refine ps rfl (fun wq hwq => x_loadB sc4FJ rfl (qB1.ext hwq) rfl) ?_
    refine pu rfl ?_ (by rintro ⟨_, _, h, _⟩; cases h)
    refine sr (zcall cl129FJ rfl) (s_flag _ _) ?_
    intro w22 l23
    have z_l23 := l23.size
    have L := L.tr l23.up
    have Lq := Lq.tr l23.up
    have B1 := B1.ext l23
    have o15 := o15.ext l23
    have o22 := o22.ext l23
    have o27 := o27.ext l23
    have o28 := o28.ext l23
    refine c_end ⟨rfl, fun h hS => Lq, ?_⟩
    refine pu rfl ?_ (by rintro ⟨_, _, h, _⟩; cases h)
    refine sr (zcall cl129FJ rfl) (s_flag _ _) ?_
    intro w24 l25
    have z_l25 := l25.size
    have L := L.tr l25.up
    have Lq := Lq.tr l25.up
    have B1 := B1.ext l25
    have o15 := o15.ext l25
    have o22 := o22.ext l25
    have o27 := o27.ext l25
    have o28 := o28.ext l25
    refine c_end ⟨rfl, fun h hS => Lq, ?_⟩
    refine pu rfl ?_ (by rintro ⟨_, _, h, _⟩; cases h)
    refine s_bsi (xs := [_, _]) so40FJ zr3FJ (pts_cons rfl (pts_cons rfl pts_nil)) rfl rfl rfl ?_
    intro p36 F36 w26 l27 o36 f36 g36
    have z_l27 := l27.size
    have L := L.tr l27.up
    have Lq := Lq.tr l27.up
    have B1 := B1.ext l27
    have o15 := o15.ext l27
    have o22 := o22.ext l27
    have o27 := o27.ext l27
    have o28 := o28.ext l27
    have hn36 := o36.n1
    refine c_end ⟨rfl, fun h hS => Lq, ?_⟩
    refine pu rfl ?_ (by rintro ⟨_, _, h, _⟩; cases h)
    refine s_appi (B := w4.heap.size) so40FJ zr3FJ rfl rfl (xs := _) o28 o36.sl f28 (by omega) (by omega) (by omega) ?_
    intro p37 c37 F37 w28 l29 o37 hn37 k37 f37 g37
    have ab1_37 : b1 ∉ F37 := k37.nin (by first | assumption | exact nin_of f28 g28 (by omega)) (by omega)
    have B1 := B1.exm l29 (by first | assumption | exact nin_of f28 g28 (by omega))
    have z_l29 := l29.size
    have L := L.freshL l29 f28 (by omega)
    have d15_37 : Dj F15 F37 := k37.dj (by first | assumption | exact Dj.symm (by assumption) | exact dj_of f15 g15 f28 g28 (by omega)) g15 (by omega)
    have o15 := o15.exm l29 (by first | assumption | exact Dj.symm (by assumption) | exact dj_of f28 g28 f15 g15 (by omega))
    have d22_37 : Dj F22 F37 := k37.dj (by first | assumption | exact Dj.symm (by assumption) | exact dj_of f22 g22 f28 g28 (by omega)) g22 (by omega)
    have o22 := o22.exm l29 (by first | assumption | exact Dj.symm (by assumption) | exact dj_of f28 g28 f22 g22 (by omega))
    have d27_37 : Dj F27 F37 := k37.dj (by first | assumption | exact Dj.symm (by assumption) | exact dj_of f27 g27 f28 g28 (by omega)) g27 (by omega)
    have o27 := o27.exm l29 (by first | assumption | exact Dj.symm (by assumption) | exact dj_of f28 g28 f27 g27 (by omega))
    have d36_37 : Dj F36 F37 := k37.dj (by first | assumption | exact Dj.symm (by assumption) | exact dj_of f36 g36 f28 g28 (by omega)) g36 (by omega)
    have o36 := o36.exm l29 (by first | assumption | exact Dj.symm (by assumption) | exact dj_of f28 g28 f36 g36 (by omega))
    refine c_end ⟨rfl, fun h hS => absurd h (by decide), ?_⟩
    refine pu rfl ?_ (by rintro ⟨_, _, h, _⟩; cases h)
    refine s0 (x_assign (v := .slice _ _ _) rfl) ?_
    refine c_end ⟨rfl, fun h hS => absurd h (by decide), ?_⟩
    refine p_nil (np_normal ?_)
    refine n_then ?_
    refine wp_seq ?_
    refine wp_seq ?_
    refine c_reg ?_
    refine s0 (x_assign (v := .int _ _) rfl) ?_
    refine c_end ?_
    refine n_then ?_
    refine wp_block ?_
    refine c_loop (γ := Nat) (fun k => xs.length - k) (fun (k : Nat) E wl => ∃ E0 pz3 cz3 Fz3, E = upd (upd (upd E0 1 (pt b1 0)) 3 (.slice pz3 ((headA a b q y z ++ fieldsOf xs k).length) cz3)) 4 (.int .i64 (k : Int)) ∧ (Exm [] w wl) ∧ (w28.heap.size ≤ wl.heap.size) ∧ (Bx wl b1 [.int .i64 a, .int .i64 b, .int .i64 q, .bool y, .bool z, .slice p xs.length c] 42) ∧ (Own wl pz3 ((headA a b q y z ++ fieldsOf xs k).length) cz3 3 1 (ic (headA a b q y z ++ fieldsOf xs k)) Fz3) ∧ (Fr (w4.heap.size) Fz3) ∧ (Lt Fz3 wl.heap.size) ∧ (b1 ∉ Fz3) ∧ ((k : Int) ≤ xs.length)) 0 ⟨_, _, _, _, upd_self3 rfl (slice_len (by rw [fieldsOf_zero, List.append_nil]; rfl)) rfl, L, (by omega), B1, (by rw [fieldsOf_zero, List.append_nil]; exact o37), (f37.mono (by omega)), (g37.mono (by omega)), (by first | assumption | exact nin_of f37 g37 (by omega)), (by omega)⟩ ?_
    rintro k E wl30 ⟨E0, pz3, cz3, Fz3, rfl, L, Lz, B1, oz3, fz3, gz3, ab1_z3, hk⟩
    have Lz0 := L.size
    have hA := headA_len a b q y z
    have hfl := fieldsOf_len xs k
    have hlen : (headA a b q y z ++ fieldsOf xs k).length ≤ 200 + 48 * k := by rw [List.length_append]; omega
    refine wp_seq ?_
    refine wp_seq ?_
    refine c_reg ?_
    refine s0 (x_move (v := .int _ _) rfl) ?_
    refine s0 (x_fieldAddr fa42_5FJ rfl) ?_
    refine st (x_loadB sc40FJ rfl B1 rfl) ?_
    refine s0 (x_lensl un40FJ rfl) ?_
    refine sb (x_lss rfl rfl) (fun h42 => ?_) (fun h42 => ?_)
    · refine c_end ?_
      refine n_then ?_
      refine c_true rfl ?_
      refine c_skipn ?_
      refine n_then ?_
      refine wp_seq ?_
      refine wp_block ?_
      have hbi := (bitsIn_len (xs.getD ((k : Int)).toNat 0) 3).1
      have hca := codeOk_at hC ((k : Int)).toNat
      refine c_reg ?_
      refine s0 (x_move (v := .slice _ _ _) rfl) ?_
      refine s0 (x_fieldAddr fa42_5FJ rfl) ?_
      refine st (x_loadB sc40FJ rfl B1 rfl) ?_
      refine s0 (x_move (v := .int _ _) rfl) ?_
      refine s0 (x_idx so40FJ rfl rfl hp (by decide) (by omega) (by omega)) ?_
      refine st (x_ldi sc3FJ rfl (hp.ext L) (by omega) (by omega)) ?_
      refine sp (zcall cl204FJ rfl) (s_bitsIn _ _ _ (by omega) (by omega)) ?_
      rintro v51 w31 l32 ⟨p51, c51, F51, rfl, o51, f51⟩
      have z_l32 := l32.size
      have L := L.tr l32.up
      have B1 := B1.ext l32
      have oz3 := oz3.ext l32
      have g51 := o51.lt
      refine s_appi (B := w4.heap.size) so40FJ zr3FJ rfl rfl (xs := _) oz3 o51.sl fz3 (by omega) (by omega) (by omega) ?_
      intro p52 c52 F52 w33 l34 o52 hn52 k52 f52 g52
      have ab1_52 : b1 ∉ F52 := k52.nin (by first | assumption | exact nin_of fz3 gz3 (by omega)) (by omega)
      have B1 := B1.exm l34 (by first | assumption | exact nin_of fz3 gz3 (by omega))
      have z_l34 := l34.size
      have L := L.freshL l34 fz3 (by omega)
      have d51_52 : Dj F51 F52 := k52.dj (by first | assumption | exact Dj.symm (by assumption) | exact dj_of f51 g51 fz3 gz3 (by omega)) g51 (by omega)
      have o51 := o51.exm l34 (by first | assumption | exact Dj.symm (by assumption) | exact dj_of fz3 gz3 f51 g51 (by omega))
      refine s0 (x_assign (v := .slice _ _ _) rfl) ?_
      refine c_end ?_
      refine n_block ?_
      refine n_then ?_
      refine c_reg ?_
      refine s0 (x_move (v := .int _ _) rfl) ?_
      refine s0 (x_add rfl rfl (by omega)) ?_
      refine s0 (x_assign (v := .int _ _) rfl) ?_
      refine c_end ?_
      exact c_round (g' := k + 1) (by omega) ⟨_, _, _, _, upd_self3 rfl (slice_len (by rw [fieldsOf_succ (by omega), Int.toNat_natCast, List.append_assoc])) (vint (by omega)), L, (by omega), B1, (by rw [fieldsOf_succ (by omega), ← List.append_assoc]; rw [Int.toNat_natCast] at o52; exact o52), (f52.mono (by omega)), (g52.mono (by omega)), (by first | assumption | exact nin_of f52 g52 (by omega)), (by omega)⟩
    · refine c_end ?_
      refine n_then ?_
      refine c_false rfl ?_
      refine wp_exit (e_then (e_then (e_here ?_)))
      refine n_then ?_
      refine wp_seq ?_
      refine c_reg ?_
      refine s0 (x_move (v := .slice _ _ _) rfl) ?_
      refine s0 (x_assign (v := .slice _ _ _) rfl) ?_
      refine c_end ?_
      refine n_then ?_
      refine wp_ret ?_
      refine f_ret rfl rfl ?_
      rw [headBits_yes h6 (k := k) (by omega)]
      exact ⟨_, rfl, L, _, _, _, rfl, oz3, fz3.mono (by omega)⟩
  · have z_l5 := l5.size
    have L := L.tr l5.up
    have B1 := B1.ext l5
    refine s0 (x_not rfl) ?_
    refine c_end ?_
    refine n_then ?_
    refine c_true rfl ?_
    refine wp_seq ?_
    refine c_reg ?_
    refine s_bs0 so40FJ ?_
    intro p8 F8 w35 l36 o8 f8 g8
    have o8 : Own w35 p8 0 0 3 1 (ic []) F8 := o8
    have z_l36 := l36.size
    have L := L.tr l36.up
    have B1 := B1.ext l36
    refine s0 (x_assign (v := .slice _ _ _) rfl) ?_
    refine c_end ?_
    refine n_then ?_
    refine wp_ret (r_then ?_)
    refine f_ret rfl rfl ?_
    rw [headBits_no h6]
    exact ⟨_, rfl, L, _, _, _, rfl, o8, f8.mono (by omega)⟩

end Go.Proofs.Ytnehdmcilmlchaa
