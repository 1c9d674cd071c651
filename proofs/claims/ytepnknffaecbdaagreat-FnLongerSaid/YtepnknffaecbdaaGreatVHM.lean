/- What each function of this part returns, for every argument that meets its premises. -/
import Derived.Test.YtepnknffaecbdaaGreatProg
import Derived.Test.YtepnknffaecbdaaGreatVSxA
import Derived.Test.YtepnknffaecbdaaGreatVTy
import Derived.Test.YtepnknffaecbdaaGreatVPlA
import Derived.Test.YtepnknffaecbdaaGreatVF5
import Derived.Test.YtepnknffaecbdaaGreatVFN
import Derived.Test.YtepnknffaecbdaaGreatVFW
import Derived.Test.YtepnknffaecbdaaGreatVHI
import Derived.Test.YtepnknffaecbdaaGreatVHK
namespace Go.Proofs.YtepnknffaecbdaaGreat
open Go.Sx Go.Pl Go.RowKit
set_option maxHeartbeats 4000000 in
theorem l_fnLonger (p : Option Addr) (xs : List Int) (c : Nat) (B : Nat) (w : World) (hp : Sl w p xs.length c 1 (bc xs)) (hr : ∀ x ∈ xs, 0 ≤ x ∧ x ≤ 255) (hpB : Bl p xs.length B) (hB : B ≤ w.heap.size) :
    Calls Tryz.prog 4 [.slice p xs.length c].toArray w (Ret w (.bool true)) := by
 have L : Exm [] w w := Exm.rfl'
 refine enter (n := 40) Tryz.func4 rfl rfl rfl ?_
 refine wp_seq (c_reg (s0 (x_assign (v := .bool _) rfl) (c_end (n_then (wp_seq (wp_seq (c_reg (s0 (xmS rfl) ?_))))))))
 refine srb (zcall cl7 rfl) (l_big _ _ _ _) (fun h10 w1 l2 => ?_) (fun h10 w1 l2 => ?_)
 ·have z_l2 := l2.size
  have L := L.tr l2.up
  refine c_end (n_then (c_true rfl (wp_seq (c_reg (s0 (x_assign (v := .bool _) rfl) (c_end (n_then ?_)))))))
  refine wp_ret (r_then ?_)
  refine f_ret rfl rfl ?_
  exact ⟨rfl, L⟩
 ·have z_l2 := l2.size
  have L := L.tr l2.up
  refine c_end (n_then (c_false rfl (c_skipn (n_then (wp_seq ?_)))))
  have hl : xs.length ≤ 1048576 := by omega
  refine c_reg (s0 (xmS rfl) ?_)
  refine sp (zcall cl13 rfl) (s_drawStreamOk _ _ _ _ _ (hp.ext L) hr hpB (by omega) (by omega)) ?_
  rintro v12 w3 l4 ⟨za12, zb12, zq12, zy12, zz12, p12, xs12, c12, F12, p12m, ms12, c12m, F12m, rfl, o12, f12, o12m, f12m, hn12, hx12, hb12⟩
  have z_l4 := l4.size; have L := L.tr l4.up; have g12 := o12.lt; have g12m := o12m.lt
  refine sr (zcall cl12 rfl) (s_unparse _ _ _ _ _ _ _ _ _ _ _ _ o12.sl o12m.rdm (by omega) (by omega) (fun m hm => ⟨by have := (hb12 m hm).1; omega, fun u hu => by have := (hb12 m hm).2 u hu; omega⟩)) ?_
  intro w5 l6
  have z_l6 := l6.size; have L := L.tr l6.up; have o12 := o12.ext l6; have o12m := o12m.ext l6
  refine s0 (x_assign (v := .string _) rfl) (c_end (n_then (wp_seq (wp_seq ?_))))
  have hus := unp_size za12 zb12 zq12 zy12 zz12 xs12 (ms12.map Mk.pl)
  refine c_reg (s0 (x_move (v := .string _) rfl) ?_)
  refine sb (x_eqls rfl rfl) (fun h15 => ?_) (fun h15 => ?_)
  ·refine c_end (n_then (c_true rfl (wp_seq (c_reg (s0 (x_assign (v := .bool _) rfl) (c_end (n_then ?_)))))))
   refine wp_ret (r_then ?_)
   refine f_ret rfl rfl ?_
   exact ⟨rfl, L⟩
  ·refine c_end (n_then (c_false rfl (c_skipn (n_then (wp_seq (c_reg (s0 (x_move (v := .string _) rfl) (s0 (xmS rfl) ?_))))))))
   refine sp (zcall cl15 rfl) (l_at _ _ _ _ _ (hp.ext L) hr (by omega) (by omega)) ?_
   rintro v19 w7 l8 ⟨x19, rfl, hx19⟩
   have z_l8 := l8.size; have L := L.tr l8.up; have o12 := o12.ext l8; have o12m := o12m.ext l8
   refine s0 (x_convk us3 un5 rfl) ?_
   refine s_bsb (xs := [_]) so22 zr5 (pts_cons rfl pts_nil) rfl rfl rfl ?_
   intro p21 F21 w9 l10 o21 f21 g21
   have z_l10 := l10.size; have L := L.tr l10.up; have o12 := o12.ext l10; have o12m := o12m.ext l10; have hn21 := o21.nb
   refine st (x_tostr un22 un5 un9 rfl o21.sl (by intro x hx; simp only [List.mem_cons, List.not_mem_nil, or_false] at hx; subst hx; rw [wrap_u8]; omega)) ?_
   refine s0 (x_adds rfl rfl (by rw [strOf_size]; simp only [List.length_cons, List.length_nil]; omega)) ?_
   refine sp (zcall cl14 rfl) (i_parse _ _ (by rw [ByteArray.size_append, strOf_size]; simp only [List.length_cons, List.length_nil]; omega)) ?_
   rintro v24 w11 l12 ⟨p24, c24, F24, p24m, ms24, c24m, F24m, rfl, o24, f24, o24m, f24m, dj24, hm24⟩
   have z_l12 := l12.size; have L := L.tr l12.up; have o12 := o12.ext l12; have o12m := o12m.ext l12; have o21 := o21.ext l12; have g24 := o24.lt; have g24m := o24m.lt
   refine s0 (x_move (v := .tuple _) rfl) (s0 (x_extract rfl rfl) (s0 (x_extract rfl rfl) (s0 (x_extract rfl rfl) (s_alloc zr29 ?_))))
   intro b13 w14 lob13 hib13 l15 B13
   have z_l15 := l15.size; have L := L.tr l15.up; have o12 := o12.ext l15; have o12m := o12m.ext l15; have o21 := o21.ext l15; have o24 := o24.ext l15; have o24m := o24m.ext l15
   refine s_storeAg rfl sz29 rfl rfl B13 rfl rfl rfl ?_
   intro w16 l17 el17 B13
   have z_l17 := l17.size; have L := L.fresh l17 (by omega); have o12 := o12.ne l17 (by first|assumption|exact nin_of f12 g12 (by omega))
   have o12m := o12m.ne l17 (by first|assumption|exact nin_of f12m g12m (by omega))
   have o21 := o21.ne l17 (by first|assumption|exact nin_of f21 g21 (by omega))
   have o24 := o24.ne l17 (by first|assumption|exact nin_of f24 g24 (by omega))
   have o24m := o24m.ne l17 (by first|assumption|exact nin_of f24m g24m (by omega))
   refine s0 (xaI rfl) (s0 (xaI rfl) (c_end (n_then (wp_seq (c_reg (s0 (x_move (v := .string _) rfl) ?_))))))
   refine s0 (x_adds rfl rfl (by show ByteArray.size _ + 1 ≤ _; omega)) ?_
   refine sp (zcall cl16 rfl) (i_refDecode _ _ (by rw [ByteArray.size_append]; show ByteArray.size _ + 1 ≤ _; omega)) ?_
   rintro v31 w18 l19 ⟨p31, c31, F31, rfl, o31, f31⟩
   have z_l19 := l19.size; have L := L.tr l19.up; have B13 := B13.ext l19; have o12 := o12.ext l19; have o12m := o12m.ext l19; have o21 := o21.ext l19; have o24 := o24.ext l19; have o24m := o24m.ext l19; have g31 := o31.lt
   refine s0 (x_move (v := .tuple _) rfl) (s0 (x_extract rfl rfl) (s0 (x_extract rfl rfl) (s_alloc zr36 ?_)))
   intro b20 w21 lob20 hib20 l22 B20
   have z_l22 := l22.size; have L := L.tr l22.up; have B13 := B13.ext l22; have o12 := o12.ext l22; have o12m := o12m.ext l22; have o21 := o21.ext l22; have o24 := o24.ext l22; have o24m := o24m.ext l22; have o31 := o31.ext l22
   refine s_storeAg rfl sz36 rfl rfl B20 rfl rfl rfl ?_
   intro w23 l24 el24 B20
   have z_l24 := l24.size; have L := L.fresh l24 (by omega); have B13 := B13.ne l24 (by omega); have o12 := o12.ne l24 (by first|assumption|exact nin_of f12 g12 (by omega))
   have o12m := o12m.ne l24 (by first|assumption|exact nin_of f12m g12m (by omega))
   have o21 := o21.ne l24 (by first|assumption|exact nin_of f21 g21 (by omega))
   have o24 := o24.ne l24 (by first|assumption|exact nin_of f24 g24 (by omega))
   have o24m := o24m.ne l24 (by first|assumption|exact nin_of f24m g24m (by omega))
   have o31 := o31.ne l24 (by first|assumption|exact nin_of f31 g31 (by omega))
   refine s0 (xaI rfl) (c_end (n_then (wp_seq ?_)))
   have hb19 : 0 ≤ IntKind.u8.wrap x19 ∧ IntKind.u8.wrap x19 ≤ 255 := by rw [wrap_u8]; omega
   have hp1 := pr_longer (y := zy12) (z := zz12) h15 hb19; have hp2 := pr_longer (v := 0) (y := zy12) (z := zz12) h15 (by decide)
   refine c_reg (s0 (xmI rfl) ?_)
   refine sb (x_eql rfl rfl) (fun h35 => ?_) (fun h35 => ?_)
   ·refine s0 (x_move (v := .bool _) rfl) (gt rfl rfl rfl rfl (s0 (xmI rfl) (gt rfl rfl rfl rfl (s0 (x_eql rfl rfl) (s0 (x_pickt (v := .bool _) rfl rfl) (s0 (x_assign (v := .bool _) rfl) (c_end (n_then (wp_ret (f_ret rfl rfl ?_))))))))))
    exact ⟨ret_bt hp2, L⟩
   ·exact absurd hp1 h35

end Go.Proofs.YtepnknffaecbdaaGreat
