/- What each function of this part returns, for every argument that meets its premises. -/
import Derived.Test.YtepnknffaecbdaaGreatProg
import Derived.Test.YtepnknffaecbdaaGreatVSxA
import Derived.Test.YtepnknffaecbdaaGreatVTy
import Derived.Test.YtepnknffaecbdaaGreatVPlA
import Derived.Test.YtepnknffaecbdaaGreatVF5
namespace Go.Proofs.YtepnknffaecbdaaGreat
open Go.Sx Go.Pl Go.RowKit
theorem s_l8Lens (b B : Nat) (w : World) (hcu : Cu w b B 104) :
    Calls Tryz.prog 185 [pt b 0].toArray w (RetM [b] w fun v w' => (∃ p n xs c F, v = .slice p n c ∧ Own w' p n c 3 1 (ic xs) F ∧ Fr w.heap.size F ∧ n = xs.length ∧ n = 6) ∧ Cu w' b B 104) := by
 have hcb := hcu.lt; have L : Exm [b] w w := Exm.rfl'
 refine enter (n := 48) Tryz.func185 rfl rfl rfl ?_
 refine wp_seq (c_reg (s0 (xaS rfl) (c_end (n_then (wp_seq (c_reg (s_bs0 so24 ?_)))))))
 intro p7 F7 w1 l2 o7 f7 g7
 have o7 : Own w1 p7 0 0 3 1 (ic []) F7 := o7; have z_l2 := l2.size; have L := L.tr l2.up; have hcu := hcu.ext l2
 refine s_bsi (xs := [_, _, _, _, _, _]) so24 zr3 (pts_cons rfl (pts_cons rfl (pts_cons rfl (pts_cons rfl (pts_cons rfl (pts_cons rfl pts_nil)))))) rfl rfl rfl ?_
 intro p8 F8 w3 l4 o8 f8 g8
 have z_l4 := l4.size; have L := L.tr l4.up; have hcu := hcu.ext l4; have o7 := o7.ext l4; have hn8 := o8.n1
 refine s_bsi (xs := [_, _, _, _, _, _]) so24 zr3 (pts_cons rfl (pts_cons rfl (pts_cons rfl (pts_cons rfl (pts_cons rfl (pts_cons rfl pts_nil)))))) rfl rfl rfl ?_
 intro p9 F9 w5 l6 o9 f9 g9
 have z_l6 := l6.size; have L := L.tr l6.up; have hcu := hcu.ext l6; have o7 := o7.ext l6; have o8 := o8.ext l6; have hn9 := o9.n1
 refine s_bsi (xs := [_, _, _, _, _, _]) so24 zr3 (pts_cons rfl (pts_cons rfl (pts_cons rfl (pts_cons rfl (pts_cons rfl (pts_cons rfl pts_nil)))))) rfl rfl rfl ?_
 intro p10 F10 w7 l8 o10 f10 g10
 have z_l8 := l8.size; have L := L.tr l8.up; have hcu := hcu.ext l8; have o7 := o7.ext l8; have o8 := o8.ext l8; have o9 := o9.ext l8; have hn10 := o10.n1
 refine s_bsi (xs := [_, _, _, _, _, _]) so24 zr3 (pts_cons rfl (pts_cons rfl (pts_cons rfl (pts_cons rfl (pts_cons rfl (pts_cons rfl pts_nil)))))) rfl rfl rfl ?_
 intro p11 F11 w9 l10 o11 f11 g11
 have z_l10 := l10.size; have L := L.tr l10.up; have hcu := hcu.ext l10; have o7 := o7.ext l10; have o8 := o8.ext l10; have o9 := o9.ext l10; have o10 := o10.ext l10; have hn11 := o11.n1
 refine s_bsi (xs := [_, _, _, _, _, _]) so24 zr3 (pts_cons rfl (pts_cons rfl (pts_cons rfl (pts_cons rfl (pts_cons rfl (pts_cons rfl pts_nil)))))) rfl rfl rfl ?_
 intro p12 F12 w11 l12 o12 f12 g12
 have z_l12 := l12.size; have L := L.tr l12.up; have hcu := hcu.ext l12; have o7 := o7.ext l12; have o8 := o8.ext l12; have o9 := o9.ext l12; have o10 := o10.ext l12; have o11 := o11.ext l12; have hn12 := o12.n1
 refine s_bsi (xs := [_, _, _, _, _, _]) so24 zr3 (pts_cons rfl (pts_cons rfl (pts_cons rfl (pts_cons rfl (pts_cons rfl (pts_cons rfl pts_nil)))))) rfl rfl rfl ?_
 intro p13 F13 w13 l14 o13 f13 g13
 have z_l14 := l14.size; have L := L.tr l14.up; have hcu := hcu.ext l14; have o7 := o7.ext l14; have o8 := o8.ext l14; have o9 := o9.ext l14; have o10 := o10.ext l14; have o11 := o11.ext l14; have o12 := o12.ext l14; have hn13 := o13.n1
 refine s_bsi (xs := [_, _, _, _, _, _]) so24 zr3 (pts_cons rfl (pts_cons rfl (pts_cons rfl (pts_cons rfl (pts_cons rfl (pts_cons rfl pts_nil)))))) rfl rfl rfl ?_
 intro p14 F14 w15 l16 o14 f14 g14
 have z_l16 := l16.size; have L := L.tr l16.up; have hcu := hcu.ext l16; have o7 := o7.ext l16; have o8 := o8.ext l16; have o9 := o9.ext l16; have o10 := o10.ext l16; have o11 := o11.ext l16; have o12 := o12.ext l16; have o13 := o13.ext l16; have hn14 := o14.n1
 refine s_bsr (g := fun x : Li => .slice x.p x.xs.length x.c) (xs := [⟨p8, [1, 2, 3, 4, 5, 5], 6, F8⟩, ⟨p9, [3, 3, 3, 3, 2, 2], 6, F9⟩, ⟨p10, [2, 2, 2, 3, 4, 4], 6, F10⟩, ⟨p11, [1, 1, 0, 0, 0, 0], 6, F11⟩, ⟨p12, [0, 2, 2, 2, 2, 0], 6, F12⟩, ⟨p13, [5, 5, 4, 3, 2, 1], 6, F13⟩, ⟨p14, [4, 4, 4, 4, 2, 1], 6, F14⟩]) (fun _ => rfl) lrow_len so187 zr24 (pts_cons rfl (pts_cons rfl (pts_cons rfl (pts_cons rfl (pts_cons rfl (pts_cons rfl (pts_cons rfl pts_nil))))))) rfl rfl rfl ?_
 intro p15 F15 w17 l18 o15 f15 g15
 have z_l18 := l18.size; have L := L.tr l18.up; have hcu := hcu.ext l18; have o7 := o7.ext l18; have o8 := o8.ext l18; have o9 := o9.ext l18; have o10 := o10.ext l18; have o11 := o11.ext l18; have o12 := o12.ext l18; have o13 := o13.ext l18; have o14 := o14.ext l18; have hn15 := o15.nr lrow_len (by decide)
 refine s0 (x_move (v := .pointer _) rfl) ?_
 refine spm (zcall cl63 rfl) (s_below b _ _ _ hcu) ?_
 rintro v17 w19 l20 ⟨⟨x17, rfl, hx17⟩, hcu⟩
 have z_l20 := l20.size; have L := L.within l20 (by simp)
 have o7 := o7.ne l20 (by first|assumption|exact nin_of f7 g7 (by omega))
 have o8 := o8.ne l20 (by first|assumption|exact nin_of f8 g8 (by omega))
 have o9 := o9.ne l20 (by first|assumption|exact nin_of f9 g9 (by omega))
 have o10 := o10.ne l20 (by first|assumption|exact nin_of f10 g10 (by omega))
 have o11 := o11.ne l20 (by first|assumption|exact nin_of f11 g11 (by omega))
 have o12 := o12.ne l20 (by first|assumption|exact nin_of f12 g12 (by omega))
 have o13 := o13.ne l20 (by first|assumption|exact nin_of f13 g13 (by omega))
 have o14 := o14.ne l20 (by first|assumption|exact nin_of f14 g14 (by omega))
 have o15 := o15.ne l20 (by first|assumption|exact nin_of f15 g15 (by omega))
 refine s0 (x_idx so187 rfl rfl o15.sl (by decide) (by omega) (by omega)) (st (x_ldf (k := 0) lrow_len sc24 rfl o15.sl (by omega) (by omega) (by decide) rfl) ?_)
 refine s_appi (B := w.heap.size) so24 zr3 rfl rfl (xs := _) o7 (seven (φ := fun x : Li => Sl _ x.p x.xs.length x.c 1 (ic x.xs)) o8.sl o9.sl o10.sl o11.sl o12.sl o13.sl o14.sl _ (getD_mem (by  omega) (by  omega))) f7 (by have hq : _ = 6 := seven (φ := fun x : Li => x.xs.length = 6) rfl rfl rfl rfl rfl rfl rfl  _ (getD_mem (xs := ([⟨p8, [1, 2, 3, 4, 5, 5], 6, F8⟩, ⟨p9, [3, 3, 3, 3, 2, 2], 6, F9⟩, ⟨p10, [2, 2, 2, 3, 4, 4], 6, F10⟩, ⟨p11, [1, 1, 0, 0, 0, 0], 6, F11⟩, ⟨p12, [0, 2, 2, 2, 2, 0], 6, F12⟩, ⟨p13, [5, 5, 4, 3, 2, 1], 6, F13⟩, ⟨p14, [4, 4, 4, 4, 2, 1], 6, F14⟩] : List Li)) (i := x17) (by  omega) (by  omega)); omega) (by have hq : _ = 6 := seven (φ := fun x : Li => x.xs.length = 6) rfl rfl rfl rfl rfl rfl rfl  _ (getD_mem (xs := ([⟨p8, [1, 2, 3, 4, 5, 5], 6, F8⟩, ⟨p9, [3, 3, 3, 3, 2, 2], 6, F9⟩, ⟨p10, [2, 2, 2, 3, 4, 4], 6, F10⟩, ⟨p11, [1, 1, 0, 0, 0, 0], 6, F11⟩, ⟨p12, [0, 2, 2, 2, 2, 0], 6, F12⟩, ⟨p13, [5, 5, 4, 3, 2, 1], 6, F13⟩, ⟨p14, [4, 4, 4, 4, 2, 1], 6, F14⟩] : List Li)) (i := x17) (by  omega) (by  omega)); omega) (by have hq : _ = 6 := seven (φ := fun x : Li => x.xs.length = 6) rfl rfl rfl rfl rfl rfl rfl  _ (getD_mem (xs := ([⟨p8, [1, 2, 3, 4, 5, 5], 6, F8⟩, ⟨p9, [3, 3, 3, 3, 2, 2], 6, F9⟩, ⟨p10, [2, 2, 2, 3, 4, 4], 6, F10⟩, ⟨p11, [1, 1, 0, 0, 0, 0], 6, F11⟩, ⟨p12, [0, 2, 2, 2, 2, 0], 6, F12⟩, ⟨p13, [5, 5, 4, 3, 2, 1], 6, F13⟩, ⟨p14, [4, 4, 4, 4, 2, 1], 6, F14⟩] : List Li)) (i := x17) (by  omega) (by  omega)); omega) ?_
 intro p20 c20 F20 w21 l22 o20 hn20 k20 f20 g20
 have Bb_20 := hcu.exm l22 (by first|assumption|exact nin_of f7 g7 (by omega)) (f7.mono (by omega))
 have ab_20 : b ∉ F20 := k20.nin (by first|assumption|exact nin_of f7 g7 (by omega)) (by omega)
 have hcu := Bb_20; have z_l22 := l22.size; have L := L.freshL l22 f7 (by omega); have d8_20 : Dj F8 F20 := k20.dj (by first|assumption|exact Dj.symm (by assumption)|exact dj_of f8 g8 f7 g7 (by omega)) g8 (by omega)
 have o8 := o8.exm l22 (by first|assumption|exact Dj.symm (by assumption)|exact dj_of f7 g7 f8 g8 (by omega))
 have d9_20 : Dj F9 F20 := k20.dj (by first|assumption|exact Dj.symm (by assumption)|exact dj_of f9 g9 f7 g7 (by omega)) g9 (by omega)
 have o9 := o9.exm l22 (by first|assumption|exact Dj.symm (by assumption)|exact dj_of f7 g7 f9 g9 (by omega))
 have d10_20 : Dj F10 F20 := k20.dj (by first|assumption|exact Dj.symm (by assumption)|exact dj_of f10 g10 f7 g7 (by omega)) g10 (by omega)
 have o10 := o10.exm l22 (by first|assumption|exact Dj.symm (by assumption)|exact dj_of f7 g7 f10 g10 (by omega))
 have d11_20 : Dj F11 F20 := k20.dj (by first|assumption|exact Dj.symm (by assumption)|exact dj_of f11 g11 f7 g7 (by omega)) g11 (by omega)
 have o11 := o11.exm l22 (by first|assumption|exact Dj.symm (by assumption)|exact dj_of f7 g7 f11 g11 (by omega))
 have d12_20 : Dj F12 F20 := k20.dj (by first|assumption|exact Dj.symm (by assumption)|exact dj_of f12 g12 f7 g7 (by omega)) g12 (by omega)
 have o12 := o12.exm l22 (by first|assumption|exact Dj.symm (by assumption)|exact dj_of f7 g7 f12 g12 (by omega))
 have d13_20 : Dj F13 F20 := k20.dj (by first|assumption|exact Dj.symm (by assumption)|exact dj_of f13 g13 f7 g7 (by omega)) g13 (by omega)
 have o13 := o13.exm l22 (by first|assumption|exact Dj.symm (by assumption)|exact dj_of f7 g7 f13 g13 (by omega))
 have d14_20 : Dj F14 F20 := k20.dj (by first|assumption|exact Dj.symm (by assumption)|exact dj_of f14 g14 f7 g7 (by omega)) g14 (by omega)
 have o14 := o14.exm l22 (by first|assumption|exact Dj.symm (by assumption)|exact dj_of f7 g7 f14 g14 (by omega))
 have d15_20 : Dj F15 F20 := k20.dj (by first|assumption|exact Dj.symm (by assumption)|exact dj_of f15 g15 f7 g7 (by omega)) g15 (by omega)
 have o15 := o15.exm l22 (by first|assumption|exact Dj.symm (by assumption)|exact dj_of f7 g7 f15 g15 (by omega))
 refine s0 (xaS rfl) (c_end (n_then (wp_seq (wp_seq ?_))))
 have hq : _ = 6 := seven (φ := fun x : Li => x.xs.length = 6) rfl rfl rfl rfl rfl rfl rfl  _ (getD_mem (xs := ([⟨p8, [1, 2, 3, 4, 5, 5], 6, F8⟩, ⟨p9, [3, 3, 3, 3, 2, 2], 6, F9⟩, ⟨p10, [2, 2, 2, 3, 4, 4], 6, F10⟩, ⟨p11, [1, 1, 0, 0, 0, 0], 6, F11⟩, ⟨p12, [0, 2, 2, 2, 2, 0], 6, F12⟩, ⟨p13, [5, 5, 4, 3, 2, 1], 6, F13⟩, ⟨p14, [4, 4, 4, 4, 2, 1], 6, F14⟩] : List Li)) (i := x17) (by  omega) (by  omega))
 refine c_reg (s0 (xmS rfl) (s0 (x_lensl un24 rfl) ?_))
 refine sb (x_eql rfl rfl) (fun h23 => ?_) (fun h23 => ?_)
 ·refine s0 (x_move (v := .bool _) rfl) (gt rfl rfl rfl rfl (s0 (x_move (v := .pointer _) rfl) (gt rfl rfl rfl rfl ?_)))
  refine spm (zcall cl184 rfl) (s_once b _ _ _ hcu) ?_
  rintro v26 w23 l24 ⟨⟨x26, rfl⟩, hcu⟩
  have z_l24 := l24.size; have L := L.within l24 (by simp)
  have o8 := o8.ne l24 (by first|assumption|exact nin_of f8 g8 (by omega))
  have o9 := o9.ne l24 (by first|assumption|exact nin_of f9 g9 (by omega))
  have o10 := o10.ne l24 (by first|assumption|exact nin_of f10 g10 (by omega))
  have o11 := o11.ne l24 (by first|assumption|exact nin_of f11 g11 (by omega))
  have o12 := o12.ne l24 (by first|assumption|exact nin_of f12 g12 (by omega))
  have o13 := o13.ne l24 (by first|assumption|exact nin_of f13 g13 (by omega))
  have o14 := o14.ne l24 (by first|assumption|exact nin_of f14 g14 (by omega))
  have o15 := o15.ne l24 (by first|assumption|exact nin_of f15 g15 (by omega))
  have o20 := o20.ne l24 (by first|assumption|exact nin_of f20 g20 (by omega))
  by_cases h26 : x26 = true
  ·subst h26
   refine s0 (x_pickt (v := .bool _) rfl rfl) (c_end (n_then (c_true rfl (wp_seq (c_reg (s0 (x_move (v := .pointer _) rfl) ?_))))))
   refine spm (zcall cl63 rfl) (s_below b _ _ _ hcu) ?_
   rintro v29 w25 l26 ⟨⟨x29, rfl, hx29⟩, hcu⟩
   have z_l26 := l26.size; have L := L.within l26 (by simp)
   have o8 := o8.ne l26 (by first|assumption|exact nin_of f8 g8 (by omega))
   have o9 := o9.ne l26 (by first|assumption|exact nin_of f9 g9 (by omega))
   have o10 := o10.ne l26 (by first|assumption|exact nin_of f10 g10 (by omega))
   have o11 := o11.ne l26 (by first|assumption|exact nin_of f11 g11 (by omega))
   have o12 := o12.ne l26 (by first|assumption|exact nin_of f12 g12 (by omega))
   have o13 := o13.ne l26 (by first|assumption|exact nin_of f13 g13 (by omega))
   have o14 := o14.ne l26 (by first|assumption|exact nin_of f14 g14 (by omega))
   have o15 := o15.ne l26 (by first|assumption|exact nin_of f15 g15 (by omega))
   have o20 := o20.ne l26 (by first|assumption|exact nin_of f20 g20 (by omega))
   refine s0 (xaI rfl) (c_end (n_then (wp_seq (c_reg (s0 (x_move (v := .pointer _) rfl) ?_)))))
   refine spm (zcall cl63 rfl) (s_below b _ _ _ hcu) ?_
   rintro v31 w27 l28 ⟨⟨x31, rfl, hx31⟩, hcu⟩
   have z_l28 := l28.size; have L := L.within l28 (by simp)
   have o8 := o8.ne l28 (by first|assumption|exact nin_of f8 g8 (by omega))
   have o9 := o9.ne l28 (by first|assumption|exact nin_of f9 g9 (by omega))
   have o10 := o10.ne l28 (by first|assumption|exact nin_of f10 g10 (by omega))
   have o11 := o11.ne l28 (by first|assumption|exact nin_of f11 g11 (by omega))
   have o12 := o12.ne l28 (by first|assumption|exact nin_of f12 g12 (by omega))
   have o13 := o13.ne l28 (by first|assumption|exact nin_of f13 g13 (by omega))
   have o14 := o14.ne l28 (by first|assumption|exact nin_of f14 g14 (by omega))
   have o15 := o15.ne l28 (by first|assumption|exact nin_of f15 g15 (by omega))
   have o20 := o20.ne l28 (by first|assumption|exact nin_of f20 g20 (by omega))
   refine s0 (xaI rfl) (c_end (n_then (wp_seq (c_reg (s0 (xmS rfl) (s0 (xmI rfl) (s0 (x_idx so24 rfl rfl o20.sl (by decide) (by omega) (by omega)) (st (x_ldi sc3 rfl o20.sl (by omega) (by omega)) (s0 (xaI rfl) (c_end (n_then (wp_seq (c_reg ?_)))))))))))))
   refine s0 (xmS rfl) (s0 (xmI rfl) (s0 (xmS rfl) (s0 (xmI rfl) (s0 (x_idx so24 rfl rfl o20.sl (by decide) (by omega) (by omega)) (st (x_ldi sc3 rfl o20.sl (by omega) (by omega)) (s0 (x_idx so24 rfl rfl o20.sl (by decide) (by omega) (by omega)) (s_stoi rfl sz3 rfl rfl o20 (by omega) (by omega) ?_)))))))
   intro w29 l30 el30 o20
   have z_l30 := l30.size; have L := L.freshL l30 f20 (by omega); have hcu := hcu.exm l30 (by first|assumption|exact nin_of f20 g20 (by omega)) (f20.mono (by omega))
   have o8 := o8.exm l30 (by first|assumption|exact Dj.symm (by assumption)|exact dj_of f20 g20 f8 g8 (by omega))
   have o9 := o9.exm l30 (by first|assumption|exact Dj.symm (by assumption)|exact dj_of f20 g20 f9 g9 (by omega))
   have o10 := o10.exm l30 (by first|assumption|exact Dj.symm (by assumption)|exact dj_of f20 g20 f10 g10 (by omega))
   have o11 := o11.exm l30 (by first|assumption|exact Dj.symm (by assumption)|exact dj_of f20 g20 f11 g11 (by omega))
   have o12 := o12.exm l30 (by first|assumption|exact Dj.symm (by assumption)|exact dj_of f20 g20 f12 g12 (by omega))
   have o13 := o13.exm l30 (by first|assumption|exact Dj.symm (by assumption)|exact dj_of f20 g20 f13 g13 (by omega))
   have o14 := o14.exm l30 (by first|assumption|exact Dj.symm (by assumption)|exact dj_of f20 g20 f14 g14 (by omega))
   have o15 := o15.exm l30 (by first|assumption|exact Dj.symm (by assumption)|exact dj_of f20 g20 f15 g15 (by omega))
   have hnl30 := o20.n1
   refine c_end (n_then (c_reg (s0 (xmS rfl) (s0 (xmI rfl) (s0 (xmI rfl) (s0 (x_idx so24 rfl rfl o20.sl (by decide) (by omega) (by omega)) (s_stoi rfl sz3 rfl rfl o20 (by omega) (by omega) ?_)))))))
   intro w31 l32 el32 o20
   have z_l32 := l32.size; have L := L.freshL l32 f20 (by omega); have hcu := hcu.exm l32 (by first|assumption|exact nin_of f20 g20 (by omega)) (f20.mono (by omega))
   have o8 := o8.exm l32 (by first|assumption|exact Dj.symm (by assumption)|exact dj_of f20 g20 f8 g8 (by omega))
   have o9 := o9.exm l32 (by first|assumption|exact Dj.symm (by assumption)|exact dj_of f20 g20 f9 g9 (by omega))
   have o10 := o10.exm l32 (by first|assumption|exact Dj.symm (by assumption)|exact dj_of f20 g20 f10 g10 (by omega))
   have o11 := o11.exm l32 (by first|assumption|exact Dj.symm (by assumption)|exact dj_of f20 g20 f11 g11 (by omega))
   have o12 := o12.exm l32 (by first|assumption|exact Dj.symm (by assumption)|exact dj_of f20 g20 f12 g12 (by omega))
   have o13 := o13.exm l32 (by first|assumption|exact Dj.symm (by assumption)|exact dj_of f20 g20 f13 g13 (by omega))
   have o14 := o14.exm l32 (by first|assumption|exact Dj.symm (by assumption)|exact dj_of f20 g20 f14 g14 (by omega))
   have o15 := o15.exm l32 (by first|assumption|exact Dj.symm (by assumption)|exact dj_of f20 g20 f15 g15 (by omega))
   have hnl32 := o20.n1
   refine c_end (n_then (wp_seq (c_reg (s0 (xmS rfl) (s0 (xaS rfl) (c_end (n_then (wp_ret (f_ret rfl rfl ?_)))))))))
   exact ⟨_, rfl, L, ⟨_, _, _, _, _, rfl, o20, f20.mono (by omega), o20.n1, by omega⟩, hcu⟩
  ·obtain rfl := Bool.eq_false_iff.2 h26
   refine s0 (x_pickt (v := .bool _) rfl rfl) (c_end (n_then (c_false rfl (c_skipn (n_then (wp_seq (c_reg (s0 (xmS rfl) (s0 (xaS rfl) (c_end (n_then (wp_ret (f_ret rfl rfl ?_)))))))))))))
   exact ⟨_, rfl, L, ⟨_, _, _, _, _, rfl, o20, f20.mono (by omega), o20.n1, by omega⟩, hcu⟩
 ·refine s0 (x_move (v := .bool _) rfl) (gf rfl rfl rfl rfl (gf rfl rfl rfl rfl (s0 (x_pickf (v := .bool _) rfl rfl) (c_end (n_then (c_false rfl (c_skipn (n_then (wp_seq (c_reg (s0 (xmS rfl) (s0 (xaS rfl) (c_end ?_)))))))))))))
  refine n_then (wp_ret (f_ret rfl rfl ?_))
  exact ⟨_, rfl, L, ⟨_, _, _, _, _, rfl, o20, f20.mono (by omega), o20.n1, by omega⟩, hcu⟩

theorem s_l8Any (b B : Nat) (w : World) (hcu : Cu w b B 104) :
    Calls Tryz.prog 130 [pt b 0].toArray w (RetM [b] w fun v w' => (∃ p n xs c F, v = .slice p n c ∧ Rdf w' p n c 1 (ic xs) F ∧ Fr w.heap.size F ∧ n = xs.length ∧ n ≤ 6) ∧ Cu w' b B 104) := by
 have hcb := hcu.lt; have L : Exm [b] w w := Exm.rfl'
 refine enter (n := 22) Tryz.func130 rfl rfl rfl ?_
 refine wp_seq (c_reg (s0 (xaS rfl) (c_end (n_then (wp_seq (c_reg (s0 (x_move (v := .pointer _) rfl) ?_)))))))
 refine spm (zcall cl185 rfl) (s_l8Lens b _ _ hcu) ?_
 rintro v5 w1 l2 ⟨⟨p5, n5, xs5, c5, F5, rfl, o5, f5, rfl, hx5⟩, hcu⟩
 have z_l2 := l2.size; have L := L.within l2 (by simp)
 have g5 := o5.lt
 refine s0 (xaS rfl) (c_end (n_then (wp_seq (wp_seq (c_reg (s0 (x_move (v := .pointer _) rfl) ?_))))))
 refine spm (zcall cl63 rfl) (s_below b _ _ _ hcu) ?_
 rintro v7 w3 l4 ⟨⟨x7, rfl, hx7⟩, hcu⟩
 have z_l4 := l4.size; have L := L.within l4 (by simp)
 have o5 := o5.ne l4 (by first|assumption|exact nin_of f5 g5 (by omega))
 refine c_end (n_then (wp_block (wp_seq (c_reg ?_))))
 refine sb (x_eql rfl rfl) (fun h9 => ?_) (fun h9 => ?_)
 ·refine s0 (x_assign (v := .bool _) rfl) (c_end (n_then (c_true rfl (c_reg (s0 (xmS rfl) (s0 (x_move (v := .pointer _) rfl) ?_))))))
  refine spm (zcall cl63 rfl) (s_below b _ _ _ hcu) ?_
  rintro v12 w5 l6 ⟨⟨x12, rfl, hx12⟩, hcu⟩
  have z_l6 := l6.size; have L := L.within l6 (by simp)
  have o5 := o5.ne l6 (by first|assumption|exact nin_of f5 g5 (by omega))
  refine s0 (x_move (v := .pointer _) rfl) ?_
  refine s_bsi (xs := [_, _, _, _, _]) so24 zr3 (pts_cons rfl (pts_cons rfl (pts_cons rfl (pts_cons rfl (pts_cons rfl pts_nil))))) rfl rfl rfl ?_
  intro p14 F14 w7 l8 o14 f14 g14
  have z_l8 := l8.size; have L := L.tr l8.up; have hcu := hcu.ext l8; have o5 := o5.ext l8; have hn14 := o14.n1
  refine spm (zcall cl129 rfl) (s_pick b _ _ _ _ _ _ hcu _ o14 (by first|assumption|exact nin_of f14 g14 (by omega)) (by omega)) ?_
  rintro v15 w9 l10 ⟨⟨x15, rfl, hx15⟩, hcu⟩
  have z_l10 := l10.size; have L := L.within l10 (by simp)
  have o5 := o5.ne l10 (by first|assumption|exact nin_of f5 g5 (by omega))
  have o14 := o14.ne l10 (by first|assumption|exact nin_of f14 g14 (by omega))
  refine s0 (x_idx so24 rfl rfl o5.sl (by decide) (by omega) (by omega)) (s_stoi rfl sz3 rfl rfl o5 (by omega) (by omega) ?_)
  intro w11 l12 el12 o5
  have z_l12 := l12.size; have L := L.freshL l12 f5 (by omega); have hcu := hcu.exm l12 (by first|assumption|exact nin_of f5 g5 (by omega)) (f5.mono (by omega))
  have o14 := o14.exm l12 (by first|assumption|exact Dj.symm (by assumption)|exact dj_of f5 g5 f14 g14 (by omega))
  have hnl12 := o5.n1
  refine c_end (n_block (n_then (wp_seq (c_reg (s0 (xmS rfl) (s0 (xaS rfl) (c_end (n_then (wp_ret (f_ret rfl rfl ?_))))))))))
  exact ⟨_, rfl, L, ⟨_, _, _, _, _, rfl, o5.rdf, f5.mono (by omega), o5.n1, by omega⟩, hcu⟩
 ·refine s0 (x_assign (v := .bool _) rfl) (c_end (n_then (c_false rfl (wp_seq (c_reg ?_)))))
  refine sb (x_eql rfl rfl) (fun h18 => ?_) (fun h18 => ?_)
  ·refine s0 (x_assign (v := .bool _) rfl) (c_end (n_then (c_true rfl (wp_seq (c_reg (s0 (xmS rfl) (s0 (x_cuthr so24 o5.sl.r (by omega) rfl rfl (by omega) (by omega)) (s0 (xaS rfl) (c_end (n_then ?_))))))))))
   refine wp_ret (r_block (r_then ?_))
   refine f_ret rfl rfl ?_
   exact ⟨_, rfl, L, ⟨_, _, _, _, _, rfl, o5.rdf.cuti (by omega) (by omega), f5.mono (by omega), rfl, by rw [List.length_take]; omega⟩, hcu⟩
  ·refine s0 (x_assign (v := .bool _) rfl) (c_end (n_then (c_false rfl (c_skipn (n_block (n_then (wp_seq (c_reg (s0 (xmS rfl) (s0 (xaS rfl) (c_end (n_then (wp_ret ?_)))))))))))))
   refine f_ret rfl rfl ?_
   exact ⟨_, rfl, L, ⟨_, _, _, _, _, rfl, o5.rdf, f5.mono (by omega), o5.n1, by omega⟩, hcu⟩

end Go.Proofs.YtepnknffaecbdaaGreat
