/- What each function of this part returns, for every argument that meets its premises. -/
import Derived.Test.YtepnknffaecbdaaGreatProg
import Derived.Test.YtepnknffaecbdaaGreatVSxA
import Derived.Test.YtepnknffaecbdaaGreatVTy
import Derived.Test.YtepnknffaecbdaaGreatVPlA
import Derived.Test.YtepnknffaecbdaaGreatVFH
import Derived.Test.YtepnknffaecbdaaGreatVHI
namespace Go.Proofs.YtepnknffaecbdaaGreat
open Go.Sx Go.Pl Go.RowKit
set_option maxHeartbeats 4000000 in
theorem l_fnRefDecode (s : ByteArray) (w : World) (hs : s.size ≤ 9223372036854775807) :
    Calls Tryz.prog 6 [.string s].toArray w (Ret w (.bool true)) := by
 have L : Exm [] w w := Exm.rfl'
 refine enter (n := 66) Tryz.func6 rfl rfl rfl ?_
 refine wp_seq (c_reg (s0 (x_assign (v := .bool _) rfl) (c_end (n_then (wp_seq (wp_seq (c_reg (s0 (x_move (v := .string _) rfl) (s0 (x_len un9 rfl) ?_)))))))))
 refine sb (x_gtr rfl rfl) (fun h13 => ?_) (fun h13 => ?_)
 ·refine c_end (n_then (c_true rfl (wp_seq (c_reg (s0 (x_assign (v := .bool _) rfl) (c_end (n_then ?_)))))))
  refine wp_ret (r_then ?_)
  refine f_ret rfl rfl ?_
  exact ⟨rfl, L⟩
 ·refine c_end (n_then (c_false rfl (c_skipn (n_then (wp_seq ?_)))))
  have hs2 : s.size ≤ 1048576 := by omega
  have hbx := rdX_len s
  refine c_reg (s0 (x_move (v := .string _) rfl) ?_)
  refine sp (zcall cl25 rfl) (s_refDecode _ _ (by omega)) ?_
  rintro v16 w1 l2 ⟨p16, c16, F16, rfl, o16, f16⟩
  have z_l2 := l2.size; have L := L.tr l2.up; have g16 := o16.lt
  refine s0 (x_move (v := .tuple _) rfl) (s0 (x_extract rfl rfl) (s0 (x_extract rfl rfl) (s_alloc zr36 ?_)))
  intro b3 w4 lob3 hib3 l5 B3
  have z_l5 := l5.size; have L := L.tr l5.up; have o16 := o16.ext l5
  refine s_storeAg rfl sz36 rfl rfl B3 rfl rfl rfl ?_
  intro w6 l7 el7 B3
  have z_l7 := l7.size; have L := L.fresh l7 (by omega); have o16 := o16.ne l7 (by first|assumption|exact nin_of f16 g16 (by omega))
  refine s0 (xaI rfl) (c_end (n_then (wp_seq (c_reg (s0 (x_move (v := .string _) rfl) ?_)))))
  refine sp (zcall cl16 rfl) (i_refDecode _ _ (by omega)) ?_
  rintro v21 w8 l9 ⟨p21, c21, F21, rfl, o21, f21⟩
  have z_l9 := l9.size; have L := L.tr l9.up; have B3 := B3.ext l9; have o16 := o16.ext l9; have g21 := o21.lt
  refine s0 (x_move (v := .tuple _) rfl) (s0 (x_extract rfl rfl) (s0 (x_extract rfl rfl) (s_alloc zr36 ?_)))
  intro b10 w11 lob10 hib10 l12 B10
  have z_l12 := l12.size; have L := L.tr l12.up; have B3 := B3.ext l12; have o16 := o16.ext l12; have o21 := o21.ext l12
  refine s_storeAg rfl sz36 rfl rfl B10 rfl rfl rfl ?_
  intro w13 l14 el14 B10
  have z_l14 := l14.size; have L := L.fresh l14 (by omega); have B3 := B3.ne l14 (by omega); have o16 := o16.ne l14 (by first|assumption|exact nin_of f16 g16 (by omega))
  have o21 := o21.ne l14 (by first|assumption|exact nin_of f21 g21 (by omega))
  refine s0 (xaI rfl) (c_end (n_then (wp_seq (wp_seq (c_reg (st (x_loadAgB ag36 rfl B10 rfl) (st (x_loadAgB ag36 rfl B3 rfl) ?_)))))))
  refine srb (zcall cl20 rfl) (l_eqFrame _ _ _ _ _ _ _ _ _ _ _ _ _ o21.sl o16.sl (by omega)) (fun h26 w15 l16 => ?_) (fun h26 w15 l16 => ?_)
  ·have z_l16 := l16.size
   have L := L.tr l16.up; have B3 := B3.ext l16; have B10 := B10.ext l16; have o16 := o16.ext l16; have o21 := o21.ext l16
   refine s0 (x_not rfl) (s0 (x_move (v := .bool _) rfl) (gt rfl rfl rfl rfl (s0 (xmI rfl) (gt rfl rfl rfl rfl (s0 (xmI rfl) (gt rfl rfl rfl rfl ?_))))))
   refine sb (x_neq rfl rfl) (fun h31 => ?_) (fun h31 => ?_)
   ·exact absurd rfl h31
   ·refine s0 (x_pickf (v := .bool _) rfl rfl) (c_end (n_then (c_false rfl (c_skipn (n_then (wp_seq (c_reg (s0 (xaI rfl) (c_end (n_then (wp_seq (c_reg (st (x_loadAgB ag36 rfl B10 rfl) ?_)))))))))))))
    refine s0 (xmI rfl) ?_
    refine spm (zcall cl23 rfl) (l_markFrame _ _ _ _ _ _ _ _ _ o21 (by omega) (by omega)) ?_
    rintro v35 w17 l18 ⟨rfl, o21⟩
    have z_l18 := l18.size; have L := L.freshL l18 f21 (by omega); have B3 := B3.exm l18 (by first|assumption|exact nin_of f21 g21 (by omega))
    have B10 := B10.exm l18 (by first|assumption|exact nin_of f21 g21 (by omega))
    have o16 := o16.exm l18 (by first|assumption|exact Dj.symm (by assumption)|exact dj_of f21 g21 f16 g16 (by omega))
    refine s0 (xaI rfl) (c_end (n_then (wp_seq (c_reg (s0 (xaI rfl) (c_end (n_then (wp_seq (c_reg (st (x_loadAgB ag36 rfl B10 rfl) (s0 (xmI rfl) ?_)))))))))))
    refine sr (zcall cl24 rfl) (l_heldFrame _ _ _ _ _ _ _ o21.sl (by omega) (by omega)) ?_
    intro w19 l20
    have z_l20 := l20.size; have L := L.tr l20.up; have B3 := B3.ext l20; have B10 := B10.ext l20; have o16 := o16.ext l20; have o21 := o21.ext l20
    refine s0 (xaI rfl) (c_end (n_then (wp_seq (wp_seq (c_reg (s0 (xmI rfl) ?_))))))
    refine sb (x_lss rfl rfl) (fun h40 => ?_) (fun h40 => ?_)
    ·omega
    ·refine c_end (n_then (c_false rfl (c_skipn (n_then (wp_seq (wp_seq (c_reg (s0 (xmI rfl) (s0 (xmI rfl) ?_)))))))))
     refine sb (x_neq rfl rfl) (fun h43 => ?_) (fun h43 => ?_)
     ·exact absurd rfl h43
     ·refine c_end (n_then (c_false rfl (c_skipn (n_then (wp_seq (c_reg (s0 (x_move (v := .string _) rfl) ?_)))))))
      refine sp (zcall cl16 rfl) (i_refDecode _ _ (by omega)) ?_
      rintro v46 w21 l22 ⟨p46, c46, F46, rfl, o46, f46⟩
      have z_l22 := l22.size; have L := L.tr l22.up; have B3 := B3.ext l22; have B10 := B10.ext l22; have o16 := o16.ext l22; have o21 := o21.ext l22; have g46 := o46.lt
      refine s0 (x_move (v := .tuple _) rfl) (s0 (x_extract rfl rfl) (s0 (x_extract rfl rfl) (s_alloc zr36 ?_)))
      intro b23 w24 lob23 hib23 l25 B23
      have z_l25 := l25.size; have L := L.tr l25.up; have B3 := B3.ext l25; have B10 := B10.ext l25; have o16 := o16.ext l25; have o21 := o21.ext l25; have o46 := o46.ext l25
      refine s_storeAg rfl sz36 rfl rfl B23 rfl rfl rfl ?_
      intro w26 l27 el27 B23
      have z_l27 := l27.size; have L := L.fresh l27 (by omega); have B3 := B3.ne l27 (by omega); have B10 := B10.ne l27 (by omega); have o16 := o16.ne l27 (by first|assumption|exact nin_of f16 g16 (by omega))
      have o21 := o21.ne l27 (by first|assumption|exact nin_of f21 g21 (by omega))
      have o46 := o46.ne l27 (by first|assumption|exact nin_of f46 g46 (by omega))
      refine s0 (xaI rfl) (c_end (n_then (wp_seq (wp_seq (c_reg (st (x_loadAgB ag36 rfl B23 rfl) (st (x_loadAgB ag36 rfl B3 rfl) ?_)))))))
      refine srb (zcall cl20 rfl) (l_eqFrame _ _ _ _ _ _ _ _ _ _ _ _ _ o46.sl o16.sl (by omega)) (fun h51 w28 l29 => ?_) (fun h51 w28 l29 => ?_)
      ·have z_l29 := l29.size
       have L := L.tr l29.up; have B10 := B10.ext l29; have o21 := o21.ext l29
       refine s0 (x_not rfl) (s0 (x_move (v := .bool _) rfl) (gt rfl rfl rfl rfl (s0 (xmI rfl) (gt rfl rfl rfl rfl (s0 (xmI rfl) (gt rfl rfl rfl rfl ?_))))))
       refine sb (x_neq rfl rfl) (fun h56 => ?_) (fun h56 => ?_)
       ·exact absurd rfl h56
       ·refine s0 (x_pickf (v := .bool _) rfl rfl) (c_end (n_then (c_false rfl (c_skipn (n_then (wp_seq (c_reg (s0 (xaI rfl) (c_end (n_then (wp_seq (c_reg (st (x_loadAgB ag36 rfl B10 rfl) ?_)))))))))))))
        refine s0 (xmI rfl) ?_
        refine sr (zcall cl24 rfl) (l_heldFrame _ _ _ _ _ _ _ o21.sl (by omega) (by omega)) ?_
        intro w30 l31
        have z_l31 := l31.size; have L := L.tr l31.up
        refine s0 (xaI rfl) (c_end (n_then (wp_seq (wp_seq (c_reg (s0 (xmI rfl) ?_))))))
        refine sb (x_lss rfl rfl) (fun h62 => ?_) (fun h62 => ?_)
        ·omega
        ·refine c_end (n_then (c_false rfl (c_skipn (n_then (wp_seq (wp_seq (c_reg (s0 (xmI rfl) (s0 (xmI rfl) ?_)))))))))
         refine sb (x_neq rfl rfl) (fun h65 => ?_) (fun h65 => ?_)
         ·exact absurd rfl h65
         ·refine c_end (n_then (c_false rfl (c_skipn (n_then (wp_seq (c_reg (s0 (x_assign (v := .bool _) rfl) (c_end (n_then (wp_ret (f_ret rfl rfl ?_)))))))))))
          exact ⟨rfl, L⟩
      ·exact (h51 (by simp)).elim
  ·exact (h26 (by simp)).elim

end Go.Proofs.YtepnknffaecbdaaGreat
