/- What each function of this part returns, for every argument that meets its premises. -/
import Derived.Test.YtepnknffaecbdaaGreatProg
import Derived.Test.YtepnknffaecbdaaGreatVSxA
import Derived.Test.YtepnknffaecbdaaGreatVPlA
import Derived.Test.YtepnknffaecbdaaGreatVF7
import Derived.Test.YtepnknffaecbdaaGreatVFF
import Derived.Test.YtepnknffaecbdaaGreatVFH
import Derived.Test.YtepnknffaecbdaaGreatVFX
import Derived.Test.YtepnknffaecbdaaGreatVH8
import Derived.Test.YtepnknffaecbdaaGreatVH9
import Derived.Test.YtepnknffaecbdaaGreatVHG
namespace Go.Proofs.YtepnknffaecbdaaGreat
open Go.Sx Go.Pl Go.RowKit
theorem ag29HH : Ag Tryz.prog 29 7 := ⟨⟨_, Tryz.underlying29⟩, by kernel_rfl⟩
theorem ag36HH : Ag Tryz.prog 36 3 := ⟨⟨_, Tryz.underlying36⟩, by kernel_rfl⟩
theorem ag48HH : Ag Tryz.prog 48 7 := ⟨⟨_, Tryz.underlying48⟩, by kernel_rfl⟩
theorem cl10HH : Callable Tryz.prog 10 := callable Tryz.func10 (by kernel_rfl) rfl
theorem cl17HH : Callable Tryz.prog 17 := callable Tryz.func17 (by kernel_rfl) rfl
theorem cl18HH : Callable Tryz.prog 18 := callable Tryz.func18 (by kernel_rfl) rfl
theorem cl19HH : Callable Tryz.prog 19 := callable Tryz.func19 (by kernel_rfl) rfl
theorem cl20HH : Callable Tryz.prog 20 := callable Tryz.func20 (by kernel_rfl) rfl
theorem cl21HH : Callable Tryz.prog 21 := callable Tryz.func21 (by kernel_rfl) rfl
theorem cl22HH : Callable Tryz.prog 22 := callable Tryz.func22 (by kernel_rfl) rfl
theorem cl23HH : Callable Tryz.prog 23 := callable Tryz.func23 (by kernel_rfl) rfl
theorem cl24HH : Callable Tryz.prog 24 := callable Tryz.func24 (by kernel_rfl) rfl
theorem sz29HH : Sz Tryz.prog 29 7 := by unfold Sz; kernel_rfl
theorem sz36HH : Sz Tryz.prog 36 3 := by unfold Sz; kernel_rfl
theorem zr29HH : ZeroV Tryz.prog 29 [.int .i64 0, .int .i64 0, .int .i64 0, .bool false, .bool false, .slice none 0 0, .slice none 0 0] := by unfold ZeroV; kernel_rfl
theorem zr36HH : ZeroV Tryz.prog 36 [.int .i64 0, .int .i64 0, .slice none 0 0] := by unfold ZeroV; kernel_rfl
set_option maxHeartbeats 4000000 in
/-- laws.FnExactBuildRef -/
theorem l_fnBuildRef (a b q : Int) (y z : Bool) (r : Option Addr) (xs : List Int) (e : Nat) (p : Option Addr) (ms : List Mk) (c : Nat) (w : World) (hx : Sl w r xs.length e 1 (ic xs)) (hp : RdMs w p ms c) (hl0 : xs.length ≤ 9223372036854775807) (hl : ms.length ≤ 9223372036854775807) (hb : ∀ m ∈ ms, smallM 9223372036854775807 m) :
    Calls Tryz.prog 5 [.agg [.int .i64 a, .int .i64 b, .int .i64 q, .bool y, .bool z, .slice r xs.length e, .slice p ms.length c].toArray].toArray w (Ret w (.bool true)) := by
 have L : Exm [] w w := Exm.rfl'
 refine enter (n := 69) Tryz.func5 rfl rfl rfl ?_
 refine wp_seq (c_reg (s_box rfl rfl ?_))
 intro b1 w2 lob1 hib1 l3 B1
 have z_l3 := l3.size; have L := L.tr l3.up
 refine s0 (x_assign (v := .bool _) rfl) (c_end (n_then (wp_seq (c_reg (s0 (xaI rfl) (c_end (n_then (wp_seq (c_reg (st (x_loadAgB ag48HH rfl B1 rfl) (s0 (xmI rfl) ?_)))))))))))
 refine sp (zcall cl17HH rfl) (l_szStream _ _ _ _ _ _ _ _ _ _ _ _ _ (hp.ext L) (by omega) (by omega) hb (by omega)) ?_
 rintro v13 w4 l5 ⟨r13, rfl, hr13⟩
 have z_l5 := l5.size; have L := L.tr l5.up; have B1 := B1.ext l5
 refine s0 (xaI rfl) (c_end (n_then (wp_seq (wp_seq (c_reg (s0 (xmI rfl) ?_))))))
 refine sb (x_lss rfl rfl) (fun h15 => ?_) (fun h15 => ?_)
 ·refine c_end (n_then (c_true rfl (wp_seq (c_reg (s0 (x_assign (v := .bool _) rfl) (c_end (n_then ?_)))))))
  refine wp_ret (r_then ?_)
  refine f_ret rfl rfl ?_
  exact ⟨rfl, L⟩
 ·refine c_end (n_then (c_false rfl (c_skipn (n_then (wp_seq ?_)))))
  have hA := hr13.resolve_left (by omega)
  have hbA : ∀ m ∈ ms, smallM 1099511627776 m := fun m hm => ⟨by have := (hA.2.2.2.2 m hm).1; omega, fun b hb3 => by have := (hA.2.2.2.2 m hm).2 b hb3; omega⟩
  have hbS : ∀ m ∈ ms, smallM 1048576 m := fun m hm => hA.2.2.2.2 m hm
  refine c_reg (st (x_loadAgB ag48HH rfl B1 rfl) ?_)
  refine sp (zcall cl19HH rfl) (l_toStreamD _ _ _ _ _ _ _ _ _ _ _ _ (hx.ext L) (hp.ext L) (by omega) (by omega) hbA) ?_
  rintro v17 w6 l7 ⟨p17, c17, F17, p17m, ms17, c17m, F17m, rfl, o17, f17, o17m, f17m, hm17, dj17⟩
  have z_l7 := l7.size; have L := L.tr l7.up; have B1 := B1.ext l7; have hn17 := map_len hm17; have hb17 := mpl_bound hm17 hbA; have hs17 := mpl_bound hm17 hbS; have hbx17 := brX_len a b q y z xs (ms17.map Mk.pl); have g17 := o17.lt; have g17m := o17m.lt
  refine sp (zcall cl18HH rfl) (s_buildRef _ _ _ _ _ _ _ _ _ _ _ _ o17.sl o17m.rdm (by omega) (by omega) hb17) ?_
  rintro v18 w8 l9 ⟨p18, c18, F18, rfl, o18, f18⟩
  have z_l9 := l9.size; have L := L.tr l9.up; have B1 := B1.ext l9; have o17 := o17.ext l9; have o17m := o17m.ext l9; have g18 := o18.lt
  refine s_alloc zr36HH ?_
  intro b10 w11 lob10 hib10 l12 B10
  have z_l12 := l12.size; have L := L.tr l12.up; have B1 := B1.ext l12; have o17 := o17.ext l12; have o17m := o17m.ext l12; have o18 := o18.ext l12
  refine s_storeAg rfl sz36HH rfl rfl B10 rfl rfl rfl ?_
  intro w13 l14 el14 B10
  have z_l14 := l14.size; have L := L.fresh l14 (by omega); have B1 := B1.ne l14 (by omega); have o17 := o17.ne l14 (by first|assumption|exact nin_of f17 g17 (by omega))
  have o17m := o17m.ne l14 (by first|assumption|exact nin_of f17m g17m (by omega))
  have o18 := o18.ne l14 (by first|assumption|exact nin_of f18 g18 (by omega))
  refine c_end (n_then (wp_seq (c_reg (st (x_loadAgB ag48HH rfl B1 rfl) ?_))))
  refine sp (zcall cl19HH rfl) (l_toStreamD _ _ _ _ _ _ _ _ _ _ _ _ (hx.ext L) (hp.ext L) (by omega) (by omega) hbA) ?_
  rintro v20 w15 l16 ⟨p20, c20, F20, p20m, ms20, c20m, F20m, rfl, o20, f20, o20m, f20m, hm20, dj20⟩
  have z_l16 := l16.size; have L := L.tr l16.up; have B1 := B1.ext l16; have B10 := B10.ext l16; have o17 := o17.ext l16; have o17m := o17m.ext l16; have o18 := o18.ext l16; have hn20 := map_len hm20; have hb20 := mpl_bound hm20 hbA; have hs20 := mpl_bound hm20 hbS; have hbx20 := brX_len a b q y z xs (ms20.map Mk.pl); have g20 := o20.lt; have g20m := o20m.lt
  refine s_alloc zr29HH ?_
  intro b17 w18 lob17 hib17 l19 B17
  have z_l19 := l19.size; have L := L.tr l19.up; have B1 := B1.ext l19; have B10 := B10.ext l19; have o17 := o17.ext l19; have o17m := o17m.ext l19; have o18 := o18.ext l19; have o20 := o20.ext l19; have o20m := o20m.ext l19
  refine s_storeAg rfl sz29HH rfl rfl B17 rfl rfl rfl ?_
  intro w20 l21 el21 B17
  have z_l21 := l21.size; have L := L.fresh l21 (by omega); have B1 := B1.ne l21 (by omega); have B10 := B10.ne l21 (by omega); have o17 := o17.ne l21 (by first|assumption|exact nin_of f17 g17 (by omega))
  have o17m := o17m.ne l21 (by first|assumption|exact nin_of f17m g17m (by omega))
  have o18 := o18.ne l21 (by first|assumption|exact nin_of f18 g18 (by omega))
  have o20 := o20.ne l21 (by first|assumption|exact nin_of f20 g20 (by omega))
  have o20m := o20m.ne l21 (by first|assumption|exact nin_of f20m g20m (by omega))
  refine c_end (n_then (wp_seq (c_reg (st (x_loadAgB ag29HH rfl B17 rfl) ?_))))
  refine sp (zcall cl10HH rfl) (i_buildRef _ _ _ _ _ _ _ _ _ _ _ _ o20.sl o20m.rdm (by omega) (by omega) hb20) ?_
  rintro v22 w22 l23 ⟨p22, c22, F22, rfl, o22, f22⟩
  have z_l23 := l23.size; have L := L.tr l23.up; have B1 := B1.ext l23; have B10 := B10.ext l23; have B17 := B17.ext l23; have o17 := o17.ext l23; have o17m := o17m.ext l23; have o18 := o18.ext l23; have o20 := o20.ext l23; have o20m := o20m.ext l23; have g22 := o22.lt
  refine s_alloc zr36HH ?_
  intro b24 w25 lob24 hib24 l26 B24
  have z_l26 := l26.size; have L := L.tr l26.up; have B1 := B1.ext l26; have B10 := B10.ext l26; have B17 := B17.ext l26; have o17 := o17.ext l26; have o17m := o17m.ext l26; have o18 := o18.ext l26; have o20 := o20.ext l26; have o20m := o20m.ext l26; have o22 := o22.ext l26
  refine s_storeAg rfl sz36HH rfl rfl B24 rfl rfl rfl ?_
  intro w27 l28 el28 B24
  have z_l28 := l28.size; have L := L.fresh l28 (by omega); have B1 := B1.ne l28 (by omega); have B10 := B10.ne l28 (by omega); have B17 := B17.ne l28 (by omega); have o17 := o17.ne l28 (by first|assumption|exact nin_of f17 g17 (by omega))
  have o17m := o17m.ne l28 (by first|assumption|exact nin_of f17m g17m (by omega))
  have o18 := o18.ne l28 (by first|assumption|exact nin_of f18 g18 (by omega))
  have o20 := o20.ne l28 (by first|assumption|exact nin_of f20 g20 (by omega))
  have o20m := o20m.ne l28 (by first|assumption|exact nin_of f20m g20m (by omega))
  have o22 := o22.ne l28 (by first|assumption|exact nin_of f22 g22 (by omega))
  refine c_end (n_then (wp_seq (wp_seq (c_reg (st (x_loadAgB ag36HH rfl B24 rfl) (st (x_loadAgB ag36HH rfl B10 rfl) ?_))))))
  refine srb (zcall cl20HH rfl) (l_eqFrame _ _ _ _ _ _ _ _ _ _ _ _ _ o22.sl o18.sl (by omega)) (fun h25 w29 l30 => ?_) (fun h25 w29 l30 => ?_)
  ·have z_l30 := l30.size
   have L := L.tr l30.up; have B1 := B1.ext l30; have B10 := B10.ext l30; have B17 := B17.ext l30; have B24 := B24.ext l30; have o17 := o17.ext l30; have o17m := o17m.ext l30; have o18 := o18.ext l30; have o20 := o20.ext l30; have o20m := o20m.ext l30; have o22 := o22.ext l30
   refine s0 (x_not rfl) (c_end (n_then (c_false rfl (c_skipn (n_then (wp_seq (wp_seq ?_)))))))
   refine c_plan (fun wq => Exm [] w29 wq) 5 (.cons (0, 1) (.cons (1, 1) (.cons (2, 0) (.cons (3, 0) (.cons (4, 2) .nil))))) (by kernel_rfl) (by kernel_rfl) (Exm.drew _) ?_
   obtain ⟨w31, hwd⟩ : ∃ x, x = w29.drew := ⟨_, rfl⟩
   have l32 : Ext w29 w31 := by rw [hwd]; exact Exm.drew _
   rw [← hwd]; clear hwd
   have Lq : Exm [] w29 w31 := l32.up; have qB1 := B1; have qB17 := B17; have z_l32 := l32.size; have L := L.tr l32.up; have B1 := B1.ext l32; have B10 := B10.ext l32; have B17 := B17.ext l32; have B24 := B24.ext l32; have o17 := o17.ext l32; have o17m := o17m.ext l32; have o18 := o18.ext l32; have o20 := o20.ext l32; have o20m := o20m.ext l32; have o22 := o22.ext l32
   refine ps rfl (fun wq hwq => x_loadAgB ag29HH rfl (qB17.ext hwq) rfl) ?_
   refine ps rfl (fun wq hwq => x_loadAgB ag48HH rfl (qB1.ext hwq) rfl) ?_
   refine pu rfl ?_ (by rintro ⟨_, _, h, _⟩; cases h)
   refine sp (zcall cl19HH rfl) (l_toStreamD _ _ _ _ _ _ _ _ _ _ _ _ (hx.ext L) (hp.ext L) (by omega) (by omega) hbA) ?_
   rintro v29 w33 l34 ⟨p29, c29, F29, p29m, ms29, c29m, F29m, rfl, o29, f29, o29m, f29m, hm29, dj29⟩
   have z_l34 := l34.size; have L := L.tr l34.up; have Lq := Lq.tr l34.up; have B1 := B1.ext l34; have B10 := B10.ext l34; have B17 := B17.ext l34; have B24 := B24.ext l34; have o17 := o17.ext l34; have o17m := o17m.ext l34; have o18 := o18.ext l34; have o20 := o20.ext l34; have o20m := o20m.ext l34; have o22 := o22.ext l34; have hn29 := map_len hm29; have hb29 := mpl_bound hm29 hbA; have hs29 := mpl_bound hm29 hbS
   have hbx29 := brX_len a b q y z xs (ms29.map Mk.pl); have g29 := o29.lt; have g29m := o29m.lt
   refine c_end ⟨rfl, fun h hS => Lq, ?_⟩
   refine pu rfl ?_ (by rintro ⟨_, _, h, _⟩; cases h)
   refine srb (zcall cl21HH rfl) (l_eqStream _ _ _ _ _ _ _ _ _ _ _ _ _ _ _ _ _ _ _ _ _ _ _ o20.sl o20m.rdm o29.sl o29m.rdm (by omega) (by omega) hb20) (fun h30 w35 l36 => ?_) (fun h30 w35 l36 => ?_)
   ·have z_l36 := l36.size
    have L := L.tr l36.up; have Lq := Lq.tr l36.up; have B1 := B1.ext l36; have B10 := B10.ext l36; have B17 := B17.ext l36; have B24 := B24.ext l36; have o17 := o17.ext l36; have o17m := o17m.ext l36; have o18 := o18.ext l36; have o20 := o20.ext l36; have o20m := o20m.ext l36; have o22 := o22.ext l36; have o29 := o29.ext l36; have o29m := o29m.ext l36
    refine c_end ⟨rfl, fun h hS => Lq, ?_⟩
    refine p0 rfl (x_not rfl) ?_
    refine p_nil (np_normal ?_)
    refine n_then (c_false rfl (c_skipn (n_then (wp_seq (c_reg (s0 (xaI rfl) (c_end (n_then (wp_seq (c_reg (st (x_loadAgB ag29HH rfl B17 rfl) (s0 (xmI rfl) ?_))))))))))))
    refine spm (zcall cl22HH rfl) (l_markStream _ _ _ _ _ _ _ _ _ _ _ _ _ _ _ _ _ o20 o20m (by first|assumption|exact Dj.symm (by assumption)|exact dj_of f20 g20 f20m g20m (by omega)) (by first | rfl | assumption) (by omega) (by omega) (by assumption) (by omega)) ?_
    rintro v34 w37 l38 ⟨ms34, rfl, o20, o20m, hm34, hn34, hb34, hr34⟩
    have z_l38 := l38.size; have L := L.freshL l38 (fr_app (B := w.heap.size) (f20.mono (by omega)) (f20m.mono (by omega))) (Nat.le_refl _); have B1 := B1.exm l38 (nin_app (by first|assumption|exact nin_of f20 g20 (by omega)) (by first|assumption|exact nin_of f20m g20m (by omega)))
    have B10 := B10.exm l38 (nin_app (by first|assumption|exact nin_of f20 g20 (by omega)) (by first|assumption|exact nin_of f20m g20m (by omega)))
    have B17 := B17.exm l38 (nin_app (by first|assumption|exact nin_of f20 g20 (by omega)) (by first|assumption|exact nin_of f20m g20m (by omega)))
    have B24 := B24.exm l38 (nin_app (by first|assumption|exact nin_of f20 g20 (by omega)) (by first|assumption|exact nin_of f20m g20m (by omega)))
    have o17 := o17.exm l38 (Dj.symm (dj_app' (by first|assumption|exact Dj.symm (by assumption)|exact dj_of f17 g17 f20 g20 (by omega)) (by first|assumption|exact Dj.symm (by assumption)|exact dj_of f17 g17 f20m g20m (by omega))))
    have o17m := o17m.exm l38 (Dj.symm (dj_app' (by first|assumption|exact Dj.symm (by assumption)|exact dj_of f17m g17m f20 g20 (by omega)) (by first|assumption|exact Dj.symm (by assumption)|exact dj_of f17m g17m f20m g20m (by omega))))
    have o18 := o18.exm l38 (Dj.symm (dj_app' (by first|assumption|exact Dj.symm (by assumption)|exact dj_of f18 g18 f20 g20 (by omega)) (by first|assumption|exact Dj.symm (by assumption)|exact dj_of f18 g18 f20m g20m (by omega))))
    have o22 := o22.exm l38 (Dj.symm (dj_app' (by first|assumption|exact Dj.symm (by assumption)|exact dj_of f22 g22 f20 g20 (by omega)) (by first|assumption|exact Dj.symm (by assumption)|exact dj_of f22 g22 f20m g20m (by omega))))
    have o29 := o29.exm l38 (Dj.symm (dj_app' (by first|assumption|exact Dj.symm (by assumption)|exact dj_of f29 g29 f20 g20 (by omega)) (by first|assumption|exact Dj.symm (by assumption)|exact dj_of f29 g29 f20m g20m (by omega))))
    have o29m := o29m.exm l38 (Dj.symm (dj_app' (by first|assumption|exact Dj.symm (by assumption)|exact dj_of f29m g29m f20 g20 (by omega)) (by first|assumption|exact Dj.symm (by assumption)|exact dj_of f29m g29m f20m g20m (by omega))))
    refine s0 (xaI rfl) (c_end (n_then (wp_seq (wp_seq (c_reg (s0 (xmI rfl) ?_))))))
    refine sb (x_lss rfl rfl) (fun h36 => ?_) (fun h36 => ?_)
    ·omega
    ·refine s0 (x_move (v := .bool _) rfl) (gt rfl rfl rfl rfl (st (x_loadAgB ag36HH rfl B24 rfl) (gt rfl rfl rfl rfl (st (x_loadAgB ag36HH rfl B10 rfl) (gt rfl rfl rfl rfl ?_)))))
     refine srb (zcall cl20HH rfl) (l_eqFrame _ _ _ _ _ _ _ _ _ _ _ _ _ o22.sl o18.sl (by omega)) (fun h40 w39 l40 => ?_) (fun h40 w39 l40 => ?_)
     ·have z_l40 := l40.size
      have L := L.tr l40.up; have B1 := B1.ext l40; have B10 := B10.ext l40; have B17 := B17.ext l40; have B24 := B24.ext l40; have o17 := o17.ext l40; have o17m := o17m.ext l40; have o18 := o18.ext l40; have o20 := o20.ext l40; have o20m := o20m.ext l40; have o22 := o22.ext l40; have o29 := o29.ext l40; have o29m := o29m.ext l40
      refine gt rfl rfl rfl rfl (s0 (x_not rfl) (s0 (x_pickf (v := .bool _) rfl rfl) (c_end (n_then (c_false rfl (c_skipn (n_then (wp_seq (c_reg (s0 (xaI rfl) (c_end (n_then (wp_seq ?_)))))))))))))
      refine c_reg (st (x_loadAgB ag36HH rfl B24 rfl) (s0 (xmI rfl) ?_))
      refine spm (zcall cl23HH rfl) (l_markFrame _ _ _ _ _ _ _ _ _ o22 (by omega) (by omega)) ?_
      rintro v45 w41 l42 ⟨rfl, o22⟩
      have z_l42 := l42.size; have L := L.freshL l42 f22 (by omega); have B1 := B1.exm l42 (by first|assumption|exact nin_of f22 g22 (by omega))
      have B10 := B10.exm l42 (by first|assumption|exact nin_of f22 g22 (by omega))
      have B17 := B17.exm l42 (by first|assumption|exact nin_of f22 g22 (by omega))
      have B24 := B24.exm l42 (by first|assumption|exact nin_of f22 g22 (by omega))
      have o17 := o17.exm l42 (by first|assumption|exact Dj.symm (by assumption)|exact dj_of f22 g22 f17 g17 (by omega))
      have o17m := o17m.exm l42 (by first|assumption|exact Dj.symm (by assumption)|exact dj_of f22 g22 f17m g17m (by omega))
      have o18 := o18.exm l42 (by first|assumption|exact Dj.symm (by assumption)|exact dj_of f22 g22 f18 g18 (by omega))
      have o20 := o20.exm l42 (by first|assumption|exact Dj.symm (by assumption)|exact dj_of f22 g22 f20 g20 (by omega))
      have o20m := o20m.exm l42 (by first|assumption|exact Dj.symm (by assumption)|exact dj_of f22 g22 f20m g20m (by omega))
      have o29 := o29.exm l42 (by first|assumption|exact Dj.symm (by assumption)|exact dj_of f22 g22 f29 g29 (by omega))
      have o29m := o29m.exm l42 (by first|assumption|exact Dj.symm (by assumption)|exact dj_of f22 g22 f29m g29m (by omega))
      refine s0 (xaI rfl) (c_end (n_then (wp_seq (c_reg (s0 (xaI rfl) (c_end (n_then (wp_seq (c_reg (st (x_loadAgB ag36HH rfl B24 rfl) (s0 (xmI rfl) ?_)))))))))))
      refine sr (zcall cl24HH rfl) (l_heldFrame _ _ _ _ _ _ _ o22.sl (by omega) (by omega)) ?_
      intro w43 l44
      have z_l44 := l44.size; have L := L.tr l44.up; have B1 := B1.ext l44; have B10 := B10.ext l44; have B17 := B17.ext l44; have B24 := B24.ext l44; have o17 := o17.ext l44; have o17m := o17m.ext l44; have o18 := o18.ext l44; have o20 := o20.ext l44; have o20m := o20m.ext l44; have o22 := o22.ext l44; have o29 := o29.ext l44; have o29m := o29m.ext l44
      refine s0 (xaI rfl) (c_end (n_then (wp_seq (wp_seq (c_reg (s0 (xmI rfl) ?_))))))
      refine sb (x_lss rfl rfl) (fun h50 => ?_) (fun h50 => ?_)
      ·omega
      ·refine c_end (n_then (c_false rfl (c_skipn (n_then (wp_seq (wp_seq (c_reg (s0 (xmI rfl) (s0 (xmI rfl) ?_)))))))))
       refine sb (x_neq rfl rfl) (fun h53 => ?_) (fun h53 => ?_)
       ·exact absurd rfl h53
       ·refine c_end (n_then (c_false rfl (c_skipn (n_then (wp_seq (c_reg (st (x_loadAgB ag48HH rfl B1 rfl) ?_)))))))
        refine sp (zcall cl19HH rfl) (l_toStreamD _ _ _ _ _ _ _ _ _ _ _ _ (hx.ext L) (hp.ext L) (by omega) (by omega) hbA) ?_
        rintro v55 w45 l46 ⟨p55, c55, F55, p55m, ms55, c55m, F55m, rfl, o55, f55, o55m, f55m, hm55, dj55⟩
        have z_l46 := l46.size; have L := L.tr l46.up; have B1 := B1.ext l46; have B10 := B10.ext l46; have B17 := B17.ext l46; have B24 := B24.ext l46; have o17 := o17.ext l46; have o17m := o17m.ext l46; have o18 := o18.ext l46; have o20 := o20.ext l46; have o20m := o20m.ext l46; have o22 := o22.ext l46; have o29 := o29.ext l46; have o29m := o29m.ext l46; have hn55 := map_len hm55; have hb55 := mpl_bound hm55 hbA
        have hs55 := mpl_bound hm55 hbS; have hbx55 := brX_len a b q y z xs (ms55.map Mk.pl); have g55 := o55.lt; have g55m := o55m.lt
        refine sp (zcall cl10HH rfl) (i_buildRef _ _ _ _ _ _ _ _ _ _ _ _ o55.sl o55m.rdm (by omega) (by omega) hb55) ?_
        rintro v56 w47 l48 ⟨p56, c56, F56, rfl, o56, f56⟩
        have z_l48 := l48.size; have L := L.tr l48.up; have B1 := B1.ext l48; have B10 := B10.ext l48; have B17 := B17.ext l48; have B24 := B24.ext l48; have o17 := o17.ext l48; have o17m := o17m.ext l48; have o18 := o18.ext l48; have o20 := o20.ext l48; have o20m := o20m.ext l48; have o22 := o22.ext l48; have o29 := o29.ext l48; have o29m := o29m.ext l48; have o55 := o55.ext l48; have o55m := o55m.ext l48
        have g56 := o56.lt
        refine s_alloc zr36HH ?_
        intro b49 w50 lob49 hib49 l51 B49
        have z_l51 := l51.size; have L := L.tr l51.up; have B1 := B1.ext l51; have B10 := B10.ext l51; have B17 := B17.ext l51; have B24 := B24.ext l51; have o17 := o17.ext l51; have o17m := o17m.ext l51; have o18 := o18.ext l51; have o20 := o20.ext l51; have o20m := o20m.ext l51; have o22 := o22.ext l51; have o29 := o29.ext l51; have o29m := o29m.ext l51; have o55 := o55.ext l51; have o55m := o55m.ext l51
        have o56 := o56.ext l51
        refine s_storeAg rfl sz36HH rfl rfl B49 rfl rfl rfl ?_
        intro w52 l53 el53 B49
        have z_l53 := l53.size; have L := L.fresh l53 (by omega); have B1 := B1.ne l53 (by omega); have B10 := B10.ne l53 (by omega); have B17 := B17.ne l53 (by omega); have B24 := B24.ne l53 (by omega); have o17 := o17.ne l53 (by first|assumption|exact nin_of f17 g17 (by omega))
        have o17m := o17m.ne l53 (by first|assumption|exact nin_of f17m g17m (by omega))
        have o18 := o18.ne l53 (by first|assumption|exact nin_of f18 g18 (by omega))
        have o20 := o20.ne l53 (by first|assumption|exact nin_of f20 g20 (by omega))
        have o20m := o20m.ne l53 (by first|assumption|exact nin_of f20m g20m (by omega))
        have o22 := o22.ne l53 (by first|assumption|exact nin_of f22 g22 (by omega))
        have o29 := o29.ne l53 (by first|assumption|exact nin_of f29 g29 (by omega))
        have o29m := o29m.ne l53 (by first|assumption|exact nin_of f29m g29m (by omega))
        have o55 := o55.ne l53 (by first|assumption|exact nin_of f55 g55 (by omega))
        have o55m := o55m.ne l53 (by first|assumption|exact nin_of f55m g55m (by omega))
        have o56 := o56.ne l53 (by first|assumption|exact nin_of f56 g56 (by omega))
        refine c_end (n_then (wp_seq (wp_seq (c_reg (st (x_loadAgB ag36HH rfl B49 rfl) (st (x_loadAgB ag36HH rfl B10 rfl) ?_))))))
        refine srb (zcall cl20HH rfl) (l_eqFrame _ _ _ _ _ _ _ _ _ _ _ _ _ o56.sl o18.sl (by omega)) (fun h59 w54 l55 => ?_) (fun h59 w54 l55 => ?_)
        ·have z_l55 := l55.size
         have L := L.tr l55.up; have B24 := B24.ext l55; have o22 := o22.ext l55
         refine s0 (x_not rfl) (c_end (n_then (c_false rfl (c_skipn (n_then (wp_seq (c_reg (s0 (xaI rfl) (c_end (n_then (wp_seq (c_reg (st (x_loadAgB ag36HH rfl B24 rfl) ?_)))))))))))))
         refine s0 (xmI rfl) ?_
         refine sr (zcall cl24HH rfl) (l_heldFrame _ _ _ _ _ _ _ o22.sl (by omega) (by omega)) ?_
         intro w56 l57
         have z_l57 := l57.size; have L := L.tr l57.up
         refine s0 (xaI rfl) (c_end (n_then (wp_seq (wp_seq (c_reg (s0 (xmI rfl) ?_))))))
         refine sb (x_lss rfl rfl) (fun h65 => ?_) (fun h65 => ?_)
         ·omega
         ·refine c_end (n_then (c_false rfl (c_skipn (n_then (wp_seq (wp_seq (c_reg (s0 (xmI rfl) (s0 (xmI rfl) ?_)))))))))
          refine sb (x_neq rfl rfl) (fun h68 => ?_) (fun h68 => ?_)
          ·exact absurd rfl h68
          ·refine c_end (n_then (c_false rfl (c_skipn (n_then (wp_seq (c_reg (s0 (x_assign (v := .bool _) rfl) (c_end (n_then (wp_ret (f_ret rfl rfl ?_)))))))))))
           exact ⟨rfl, L⟩
        ·exact (h59 (by simp only [hm55, hm17, and_self])).elim
     ·exact (h40 (by simp only [hm20, hm17, and_self])).elim
   ·exact (h30 ⟨rfl, rfl, rfl, rfl, rfl, rfl, hm20.trans hm29.symm⟩).elim
  ·exact (h25 (by simp only [hm20, hm17, and_self])).elim

end Go.Proofs.YtepnknffaecbdaaGreat
