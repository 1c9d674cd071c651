/- What each function of this part returns, for every argument that meets its premises. -/
import Derived.Test.YtnehdmcilmlchaaProg
import Derived.Test.YtnehdmcilmlchaaVSxF
import Derived.Test.YtnehdmcilmlchaaVPlY
import Derived.Test.YtnehdmcilmlchaaVF1
import Derived.Test.YtnehdmcilmlchaaVF7
import Derived.Test.YtnehdmcilmlchaaVF8
import Derived.Test.YtnehdmcilmlchaaVF9
import Derived.Test.YtnehdmcilmlchaaVFC
namespace Go.Proofs.Ytnehdmcilmlchaa
open Go.Sx Go.Pl Go.RowKit
theorem cl204FJ : Callable Try.prog 204 := callable Try.func204 (by kernel_rfl) rfl
theorem cl235FJ : Callable Try.prog 235 := callable Try.func235 (by kernel_rfl) rfl
theorem cl95FJ : Callable Try.prog 95 := callable Try.func95 (by kernel_rfl) rfl
theorem so40FJ : SliceOf Try.prog 40 3 1 8 := ⟨by kernel_rfl, by kernel_rfl⟩
theorem zr3FJ : ZeroV Try.prog 3 [.int .i64 0] := by unfold ZeroV; kernel_rfl
/-- spec.UeBits -/
theorem s_ueBits (n : Int) (w : World) :
    Calls Try.prog 172 [.int .i64 n].toArray w (RetP w fun v w' => ∃ p c F, v = .slice p (ueBits n).length c ∧ Own w' p (ueBits n).length c 3 1 (ic (ueBits n)) F ∧ Fr w.heap.size F) := by
  have L : Exm [] w w := Exm.rfl'
  refine enter (n := 18) Try.func172 rfl rfl rfl ?_
  refine wp_seq ?_
  refine c_reg ?_
  refine s0 (x_assign (v := .slice _ _ _) rfl) ?_
  refine c_end ?_
  refine n_then ?_
  refine wp_seq ?_
  refine wp_seq ?_
  refine c_reg ?_
  refine s0 (x_move (v := .int _ _) rfl) ?_
  refine srb (zcall cl95FJ rfl) (s_l1In _ _ _ _) (fun h5 w1 l2 => ?_) (fun h5 w1 l2 => ?_)
  · have z_l2 := l2.size
    have L := L.tr l2.up
    refine s0 (x_not rfl) ?_
    refine c_end ?_
    refine n_then ?_
    refine c_false rfl ?_
    refine c_skipn ?_
    refine n_then ?_
    refine wp_seq ?_
    refine c_reg ?_
    refine s0 (x_move (v := .int _ _) rfl) ?_
    refine sr (zcall cl235FJ rfl) (s_l6Zeros _ _ (by omega)) ?_
    intro w3 l4
    have z_l4 := l4.size
    have L := L.tr l4.up
    refine s0 (x_assign (v := .int _ _) rfl) ?_
    refine c_end ?_
    refine n_then ?_
    refine wp_seq ?_
    have hz := lz_range h5
    have hbi := bitsIn_len (n + 1) (lz n + 1)
    refine c_plan (fun wq => Exm [] w3 wq) 9 (.cons (0, 2) (.cons (2, 2) (.cons (3, 2) (.cons (4, 2) (.cons (5, 2) (.fork 1 6 (.cons (6, 0) (.cons (7, 0) (.cons (8, 2) .nil))) (.cons (1, 0) (.cons (7, 0) (.cons (8, 2) .nil))))))))) (by kernel_rfl) (by kernel_rfl) (Exm.drew _) ?_
    obtain ⟨w5, hwd⟩ : ∃ x, x = w3.drew := ⟨_, rfl⟩
    have l6 : Ext w3 w5 := by rw [hwd]; exact Exm.drew _
    rw [← hwd]; clear hwd
    have Lq : Exm [] w3 w5 := l6.up
    have qL := L
    have z_l6 := l6.size
    have L := L.tr l6.up
    refine p0 rfl (x_move (v := .int _ _) rfl) ?_
    refine p0 rfl (x_move (v := .int _ _) rfl) ?_
    refine p0 rfl (x_add rfl rfl (by omega)) ?_
    refine p0 rfl (x_move (v := .int _ _) rfl) ?_
    refine p0 rfl (x_add rfl rfl (by omega)) ?_
    refine pfork ?_ ?_
    · refine pu rfl ?_ (by rintro ⟨_, _, h, _⟩; cases h)
      refine s_makei so40FJ zr3FJ rfl rfl (by omega) (by omega) (by omega) ?_
      intro p11 F11 w7 l8 o11 f11 g11
      have z_l8 := l8.size
      have L := L.tr l8.up
      have Lq := Lq.tr l8.up
      have hn11 := o11.n1
      refine c_end ⟨rfl, fun h hS => Lq, ?_⟩
      refine pu rfl ?_ (by rintro ⟨_, _, h, _⟩; cases h)
      refine sp (zcall cl204FJ rfl) (s_bitsIn _ _ _ (by omega) (by omega)) ?_
      rintro v16 w9 l10 ⟨p16, c16, F16, rfl, o16, f16⟩
      have z_l10 := l10.size
      have L := L.tr l10.up
      have Lq := Lq.tr l10.up
      have o11 := o11.ext l10
      have g16 := o16.lt
      refine c_end ⟨rfl, fun h hS => Lq, ?_⟩
      refine pu rfl ?_ (by rintro ⟨_, _, h, _⟩; cases h)
      refine s_appi (B := w5.heap.size) so40FJ zr3FJ rfl rfl (xs := _) o11 o16.sl f11 (by omega) (by omega) (by omega) ?_
      intro p17 c17 F17 w11 l12 o17 hn17 k17 f17 g17
      have z_l12 := l12.size
      have L := L.freshL l12 f11 (by omega)
      have Lq := Lq.freshL l12 f11 (by omega)
      have d16_17 : Dj F16 F17 := k17.dj (by first | assumption | exact Dj.symm (by assumption) | exact dj_of f16 g16 f11 g11 (by omega)) g16 (by omega)
      have o16 := o16.exm l12 (by first | assumption | exact Dj.symm (by assumption) | exact dj_of f11 g11 f16 g16 (by omega))
      refine c_end ⟨rfl, fun h hS => Lq, ?_⟩
      refine p0 rfl (x_assign (v := .slice _ _ _) rfl) ?_
      refine p_nil (np_normal ?_)
      refine n_then ?_
      refine wp_ret ?_
      refine f_ret rfl rfl ?_
      have hue := ueBits_zeros h5
      exact ⟨_, rfl, L, _, _, _, slice_len (congrArg List.length hue.symm).symm, own_eq hue.symm o17, f17.mono (by omega)⟩
    · refine pu rfl ?_ (by rintro ⟨_, _, h, _⟩; cases h)
      refine sp (zcall cl204FJ rfl) (s_bitsIn _ _ _ (by omega) (by omega)) ?_
      rintro v16 w13 l14 ⟨p16, c16, F16, rfl, o16, f16⟩
      have z_l14 := l14.size
      have L := L.tr l14.up
      have Lq := Lq.tr l14.up
      have g16 := o16.lt
      refine c_end ⟨rfl, fun h hS => Lq, ?_⟩
      refine pu rfl ?_ (by rintro ⟨_, _, h, _⟩; cases h)
      refine s_makei so40FJ zr3FJ rfl rfl (by omega) (by omega) (by omega) ?_
      intro p11 F11 w15 l16 o11 f11 g11
      have z_l16 := l16.size
      have L := L.tr l16.up
      have Lq := Lq.tr l16.up
      have o16 := o16.ext l16
      have hn11 := o11.n1
      refine c_end ⟨rfl, fun h hS => Lq, ?_⟩
      refine pu rfl ?_ (by rintro ⟨_, _, h, _⟩; cases h)
      refine s_appi (B := w13.heap.size) so40FJ zr3FJ rfl rfl (xs := _) o11 o16.sl f11 (by omega) (by omega) (by omega) ?_
      intro p17 c17 F17 w17 l18 o17 hn17 k17 f17 g17
      have z_l18 := l18.size
      have L := L.freshL l18 f11 (by omega)
      have Lq := Lq.freshL l18 f11 (by omega)
      have d16_17 : Dj F16 F17 := k17.dj (by first | assumption | exact Dj.symm (by assumption) | exact dj_of f16 g16 f11 g11 (by omega)) g16 (by omega)
      have o16 := o16.exm l18 (by first | assumption | exact Dj.symm (by assumption) | exact dj_of f11 g11 f16 g16 (by omega))
      refine c_end ⟨rfl, fun h hS => Lq, ?_⟩
      refine p0 rfl (x_assign (v := .slice _ _ _) rfl) ?_
      refine p_nil (np_normal ?_)
      refine n_then ?_
      refine wp_ret ?_
      refine f_ret rfl rfl ?_
      have hue := ueBits_zeros h5
      exact ⟨_, rfl, L, _, _, _, slice_len (congrArg List.length hue.symm).symm, own_eq hue.symm o17, f17.mono (by omega)⟩
  · have z_l2 := l2.size
    have L := L.tr l2.up
    refine s0 (x_not rfl) ?_
    refine c_end ?_
    refine n_then ?_
    refine c_true rfl ?_
    refine wp_seq ?_
    refine c_reg ?_
    refine s_bs0 so40FJ ?_
    intro p7 F7 w19 l20 o7 f7 g7
    have o7 : Own w19 p7 0 0 3 1 (ic []) F7 := o7
    have z_l20 := l20.size
    have L := L.tr l20.up
    refine s0 (x_assign (v := .slice _ _ _) rfl) ?_
    refine c_end ?_
    refine n_then ?_
    refine wp_ret (r_then ?_)
    refine f_ret rfl rfl ?_
    rw [ueBits_no h5]
    exact ⟨_, rfl, L, _, _, _, rfl, o7, f7.mono (by omega)⟩

end Go.Proofs.Ytnehdmcilmlchaa
