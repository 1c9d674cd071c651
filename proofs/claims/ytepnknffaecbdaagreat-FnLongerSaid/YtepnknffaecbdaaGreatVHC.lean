/- What each function of this part returns, for every argument that meets its premises. -/
import Derived.Test.YtepnknffaecbdaaGreatProg
import Derived.Test.YtepnknffaecbdaaGreatVSxA
import Derived.Test.YtepnknffaecbdaaGreatVTy
import Derived.Test.YtepnknffaecbdaaGreatVPlA
import Derived.Test.YtepnknffaecbdaaGreatVF1
import Derived.Test.YtepnknffaecbdaaGreatVF4
import Derived.Test.YtepnknffaecbdaaGreatVFB
import Derived.Test.YtepnknffaecbdaaGreatVFY
import Derived.Test.YtepnknffaecbdaaGreatVFZ
import Derived.Test.YtepnknffaecbdaaGreatVHE
namespace Go.Proofs.YtepnknffaecbdaaGreat
open Go.Sx Go.Pl Go.RowKit
theorem i_residual (W H q : Int) (y z : Bool) (pA : Option Addr) (nA cA : Nat) (p : Option Addr) (xs : List Int) (c : Nat) (w : World) (hp : Sl w p xs.length c 1 (ic xs)) (hl : xs.length ≤ 1099511627776) :
    Calls Tryz.prog 75 [.agg [.int .i64 W, .int .i64 H, .int .i64 q, .bool y, .bool z, .slice pA nA cA].toArray, .slice p xs.length c].toArray w (RetP w fun v w' => ∃ p c F, v = .slice p (residual q y xs).length c ∧ Own w' p (residual q y xs).length c 3 1 (ic (residual q y xs)) F ∧ Fr w.heap.size F) := by
 obtain ⟨Y, hY, rfl⟩ : ∃ (Y : Prop) (_ : Decidable Y), y = decide Y := ⟨y = true, inferInstance, by simp⟩
 have L : Exm [] w w := Exm.rfl'
 refine enter (n := 34) Tryz.func75 rfl rfl rfl ?_
 refine wp_seq (c_reg (s_box rfl rfl ?_))
 intro b1 w2 lob1 hib1 l3 B1
 have z_l3 := l3.size; have L := L.tr l3.up
 refine s0 (xaS rfl) (c_end (n_then (wp_seq (wp_seq (c_reg (s0 (xmS rfl) ?_))))))
 refine srb (zcall cl138 rfl) (i_levelsOk _ _ _ _ (hp.ext L) (by omega)) (fun h7 w4 l5 => ?_) (fun h7 w4 l5 => ?_)
 ·have z_l5 := l5.size
  have L := L.tr l5.up; have B1 := B1.ext l5
  refine s0 (x_not rfl) (s0 (x_move (v := .bool _) rfl) (gt rfl rfl rfl rfl (s0 (x_fieldAddr fa26_2 rfl) (gt rfl rfl rfl rfl (st (x_loadB sc3 rfl B1 rfl) (gt rfl rfl rfl rfl ?_))))))
  refine srb (zcall cl77 rfl) (i_within _ _ _ _) (fun h12 w6 l7 => ?_) (fun h12 w6 l7 => ?_)
  ·have z_l7 := l7.size
   have L := L.tr l7.up; have B1 := B1.ext l7
   refine gt rfl rfl rfl rfl (s0 (x_not rfl) (s0 (x_pickf (v := .bool _) rfl rfl) (c_end (n_then (c_false rfl (c_skipn (n_then (wp_seq ?_))))))))
   have hq : 0 ≤ q ∧ q ≤ 51 := h12; have hlz := levels_size h7; have hpl := placed_len h7; have hsl := scaled_len (placed_ok h7) hq; have hg4 := prodG_le mAt (scaled (placed xs) q) 4; have hg8 := prodG_le hEnt (scaled (placed xs) q) 8
   refine c_reg (s0 (xmS rfl) ?_)
   refine sp (zcall cl139 rfl) (i_placed _ _ _ _ (hp.ext L) (by omega)) ?_
   rintro v16 w8 l9 ⟨p16, c16, F16, rfl, o16, f16⟩
   have z_l9 := l9.size; have L := L.tr l9.up; have B1 := B1.ext l9; have g16 := o16.lt
   refine s0 (xaS rfl) (c_end (n_then (wp_seq (wp_seq (c_reg (s0 (x_fieldAddr fa26_3 rfl) ?_))))))
   refine sbl (x_loadB sc4 rfl B1 rfl) (fun h18 => ?_) (fun h18 => ?_)
   ·refine c_end (n_then (c_true rfl (wp_seq (c_reg (s0 (xmS rfl) (s0 (xaS rfl) (c_end (n_then ?_))))))))
    refine wp_ret (r_then ?_)
    refine f_ret rfl rfl ?_
    rw [show residual q (decide Y) xs = placed xs from by unfold residual; rw [if_pos ⟨h7, hq⟩, if_pos (decide_eq_true h18)]]
    exact ⟨_, rfl, L, _, _, _, rfl, o16, f16.mono (by omega)⟩
   ·refine c_end (n_then (c_false rfl (c_skipn (n_then (wp_seq (c_reg (s0 (xmS rfl) (s0 (x_fieldAddr fa26_2 rfl) (st (x_loadB sc3 rfl B1 rfl) ?_)))))))))
    refine sp (zcall cl140 rfl) (i_scaled _ _ _ _ _ o16.sl (by omega)) ?_
    rintro v23 w10 l11 ⟨p23, c23, F23, rfl, o23, f23⟩
    have z_l11 := l11.size; have L := L.tr l11.up; have g23 := o23.lt
    refine s0 (xaS rfl) (c_end (n_then (wp_seq (wp_seq (c_reg (s0 (xmS rfl) (s0 (x_lensl un24 rfl) ?_)))))))
    refine sr (zcall cl76 rfl) (i_sizeOf _ _) ?_
    intro w12 l13
    have z_l13 := l13.size; have L := L.tr l13.up; have o23 := o23.ext l13
    refine sb (x_eql rfl rfl) (fun h27 => ?_) (fun h27 => ?_)
    ·refine c_end (n_then (c_true rfl (wp_seq ?_)))
     have hle : xs.length = 16 := by unfold sideOf at h27; omega
     refine c_reg (s0 (xmS rfl) ?_)
     refine sp (zcall cl142 rfl) (i_inv4 _ _ _ _ o23.sl (by omega)) ?_
     rintro v29 w14 l15 ⟨p29, c29, F29, rfl, o29, f29⟩
     have z_l15 := l15.size; have L := L.tr l15.up; have g29 := o29.lt
     refine sp (zcall cl141 rfl) (i_rounded _ _ _ _ o29.sl (by omega)) ?_
     rintro v30 w16 l17 ⟨p30, c30, F30, rfl, o30, f30⟩
     have z_l17 := l17.size; have L := L.tr l17.up; have g30 := o30.lt
     refine s0 (xaS rfl) (c_end (n_then ?_))
     refine wp_ret (r_then ?_)
     refine f_ret rfl rfl ?_
     rw [show residual q (decide Y) xs = rounded (prodG mAt (scaled (placed xs) q) 4) from by unfold residual; rw [if_pos ⟨h7, hq⟩, if_neg (by simpa using h18), if_pos hle]]
     exact ⟨_, rfl, L, _, _, _, rfl, o30, f30.mono (by omega)⟩
    ·refine c_end (n_then (c_false rfl (c_skipn (n_then (wp_seq ?_)))))
     have hle : ¬ xs.length = 16 := fun h => h27 (by unfold sideOf; rw [if_pos (by omega)])
     refine c_reg (s0 (xmS rfl) ?_)
     refine sp (zcall cl143 rfl) (i_inv8 _ _ _ _ o23.sl (by omega)) ?_
     rintro v32 w18 l19 ⟨p32, c32, F32, rfl, o32, f32⟩
     have z_l19 := l19.size; have L := L.tr l19.up; have g32 := o32.lt
     refine sp (zcall cl141 rfl) (i_rounded _ _ _ _ o32.sl (by omega)) ?_
     rintro v33 w20 l21 ⟨p33, c33, F33, rfl, o33, f33⟩
     have z_l21 := l21.size; have L := L.tr l21.up; have g33 := o33.lt
     refine s0 (xaS rfl) (c_end (n_then (wp_ret (f_ret rfl rfl ?_))))
     rw [show residual q (decide Y) xs = rounded (prodG hEnt (scaled (placed xs) q) 8) from by unfold residual; rw [if_pos ⟨h7, hq⟩, if_neg (by simpa using h18), if_neg hle]]
     exact ⟨_, rfl, L, _, _, _, rfl, o33, f33.mono (by omega)⟩
  ·have z_l7 := l7.size
   have L := L.tr l7.up
   refine gt rfl rfl rfl rfl (s0 (x_not rfl) (s0 (x_pickf (v := .bool _) rfl rfl) (c_end (n_then (c_true rfl (wp_seq (c_reg (s0 (xaS rfl) (c_end (n_then ?_))))))))))
   refine wp_ret (r_then ?_)
   refine f_ret rfl rfl ?_
   rw [residual_no (fun h => h12 h.2)]
   exact ⟨_, rfl, L, none, 0, [], rfl, Own.nil, Fr.no⟩
 ·have z_l5 := l5.size
  have L := L.tr l5.up
  refine s0 (x_not rfl) (s0 (x_move (v := .bool _) rfl) (gf rfl rfl rfl rfl (gf rfl rfl rfl rfl (gf rfl rfl rfl rfl (gf rfl rfl rfl rfl (s0 (x_pickt (v := .bool _) rfl rfl) (c_end (n_then (c_true rfl (wp_seq (c_reg (s0 (xaS rfl) (c_end ?_)))))))))))))
  refine n_then ?_
  refine wp_ret (r_then ?_)
  refine f_ret rfl rfl ?_
  rw [residual_no (fun h => h7 h.1)]
  exact ⟨_, rfl, L, none, 0, [], rfl, Own.nil, Fr.no⟩

end Go.Proofs.YtepnknffaecbdaaGreat
