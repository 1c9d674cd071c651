/- What each function of this part returns, for every argument that meets its premises. -/
import Derived.Test.YtepnknffaecbdaaGreatProg
import Derived.Test.YtepnknffaecbdaaGreatVSxA
import Derived.Test.YtepnknffaecbdaaGreatVTy
import Derived.Test.YtepnknffaecbdaaGreatVPlA
import Derived.Test.YtepnknffaecbdaaGreatVF5
import Derived.Test.YtepnknffaecbdaaGreatVFF
import Derived.Test.YtepnknffaecbdaaGreatVFH
import Derived.Test.YtepnknffaecbdaaGreatVFM
import Derived.Test.YtepnknffaecbdaaGreatVH8
import Derived.Test.YtepnknffaecbdaaGreatVHK
namespace Go.Proofs.YtepnknffaecbdaaGreat
open Go.Sx Go.Pl Go.RowKit
set_option maxHeartbeats 8000000 in
theorem l_fnCausal (p : Option Addr) (xs : List Int) (c : Nat) (B : Nat) (w : World) (hp : Sl w p xs.length c 1 (bc xs)) (hr : ∀ x ∈ xs, 0 ≤ x ∧ x ≤ 255) (hpB : Bl p xs.length B) (hB : B ≤ w.heap.size) :
    Calls Tryz.prog 3 [.slice p xs.length c].toArray w (Ret w (.bool true)) := by
 have L : Exm [] w w := Exm.rfl'
 refine enter (n := 93) Tryz.func3 rfl rfl rfl ?_
 refine wp_seq (c_reg (s0 (x_assign (v := .bool _) rfl) (c_end (n_then (wp_seq (wp_seq (c_reg (s0 (xmS rfl) ?_))))))))
 refine srb (zcall cl7 rfl) (l_big _ _ _ _) (fun h10 w1 l2 => ?_) (fun h10 w1 l2 => ?_)
 ·have z_l2 := l2.size
  have L := L.tr l2.up
  refine c_end (n_then (c_true rfl (wp_seq (c_reg (s0 (x_assign (v := .bool _) rfl) (c_end (n_then ?_)))))))
  refine wp_ret (r_then ?_)
  refine f_ret rfl rfl ?_
  exact ⟨rfl, L⟩
 ·have z_l2 := l2.size
  have L := L.tr l2.up
  refine c_end (n_then (c_false rfl (c_skipn (n_then (wp_seq ?_)))))
  have hl : xs.length ≤ 1048576 := by omega
  refine c_reg (s0 (xmS rfl) ?_)
  refine sp (zcall cl8 rfl) (s_drawBuildRef _ _ _ _ _ (hp.ext L) hr hpB (by omega) (by omega)) ?_
  rintro v12 w3 l4 ⟨za12, zb12, zq12, zy12, zz12, p12, xs12, c12, F12, p12m, ms12, c12m, F12m, rfl, o12, f12, o12m, f12m, hn12, hx12, hb12⟩
  have z_l4 := l4.size; have L := L.tr l4.up; have g12 := o12.lt; have g12m := o12m.lt
  refine s_alloc zr29 ?_
  intro b5 w6 lob5 hib5 l7 B5
  have z_l7 := l7.size; have L := L.tr l7.up; have o12 := o12.ext l7; have o12m := o12m.ext l7
  refine s_storeAg rfl sz29 rfl rfl B5 rfl rfl rfl ?_
  intro w8 l9 el9 B5
  have z_l9 := l9.size; have L := L.fresh l9 (by omega); have o12 := o12.ne l9 (by first|assumption|exact nin_of f12 g12 (by omega))
  have o12m := o12m.ne l9 (by first|assumption|exact nin_of f12m g12m (by omega))
  refine c_end (n_then (wp_seq (c_reg (s0 (x_fieldAddr fa29_0 rfl) (s0 (x_fieldAddr fa26_4 rfl) ?_)))))
  refine s_store (v := .bool _) (cs' := [_, _, _, _, _, _, _]) rfl sz4 rfl rfl rfl rfl B5 rfl rfl ?_
  intro w10 l11 el11 B5
  have z_l11 := l11.size; have L := L.fresh l11 (by omega); have o12 := o12.ne l11 (by first|assumption|exact nin_of f12 g12 (by omega))
  have o12m := o12m.ne l11 (by first|assumption|exact nin_of f12m g12m (by omega))
  refine c_end (n_then (wp_seq (wp_seq ?_)))
  have hbB : ∀ m ∈ ms12, smallM 1099511627776 m := fun m hm => ⟨by have := (hb12 m hm).1; omega, fun u hu => by have := (hb12 m hm).2 u hu; omega⟩
  refine c_reg (st (x_loadAgB ag29 rfl B5 rfl) ?_)
  refine srb (zcall cl9 rfl) (s_streamOk _ _ _ _ _ _ _ _ _ _ _ _ o12.sl o12m.rdm (by omega) (by omega) (by assumption)) (fun h16 w12 l13 => ?_) (fun h16 w12 l13 => ?_)
  ·have z_l13 := l13.size
   have L := L.tr l13.up; have B5 := B5.ext l13; have o12 := o12.ext l13; have o12m := o12m.ext l13
   refine s0 (x_not rfl) (s0 (x_move (v := .bool _) rfl) (gt rfl rfl rfl rfl (s0 (x_fieldAddr fa29_1 rfl) (gt rfl rfl rfl rfl (st (x_loadB sc27 rfl B5 rfl) (gt rfl rfl rfl rfl (s0 (x_lensl un27 rfl) (gt rfl rfl rfl rfl ?_))))))))
   refine sb (x_lss rfl rfl) (fun h22 => ?_) (fun h22 => ?_)
   ·refine s0 (x_pickf (v := .bool _) rfl rfl) (c_end (n_then (c_true rfl (wp_seq (c_reg (s0 (x_assign (v := .bool _) rfl) (c_end (n_then ?_))))))))
    refine wp_ret (r_then ?_)
    refine f_ret rfl rfl ?_
    exact ⟨rfl, L⟩
   ·refine s0 (x_pickf (v := .bool _) rfl rfl) (c_end (n_then (c_false rfl (c_skipn (n_then (wp_seq ?_))))))
    have hl1 : 1 ≤ ms12.length := by omega
    have hok : streamOk za12 zb12 zq12 xs12 (ms12.map Mk.pl) := h16; have hok2 := lf_ok hok hl1; have hso := stream_iff.1 hok; have hsd : sidesOk za12 zb12 := hso.1.1; have hsm := sides_mul hsd
    have hbl : (brX za12 zb12 zq12 zy12 false xs12 (ms12.map Mk.pl)).length ≤ 1099511627776 := by rw [(br_yesF hok).1, bldM_length]; omega
    have hbl2 : (brX za12 zb12 zq12 zy12 false xs12 ((lastFirst ms12).map Mk.pl)).length ≤ 1099511627776 := by rw [(br_yesF hok2).1, bldM_length]; omega
    refine c_reg (st (x_loadAgB ag29 rfl B5 rfl) (s_alloc zr29 ?_))
    intro b14 w15 lob14 hib14 l16 B14
    have z_l16 := l16.size; have L := L.tr l16.up; have B5 := B5.ext l16; have o12 := o12.ext l16; have o12m := o12m.ext l16
    refine s_storeAg rfl sz29 rfl rfl B14 rfl rfl rfl ?_
    intro w17 l18 el18 B14
    have z_l18 := l18.size; have L := L.fresh l18 (by omega); have B5 := B5.ne l18 (by omega); have o12 := o12.ne l18 (by first|assumption|exact nin_of f12 g12 (by omega))
    have o12m := o12m.ne l18 (by first|assumption|exact nin_of f12m g12m (by omega))
    refine c_end (n_then (wp_seq (c_reg (s_bs0 so27 ?_))))
    intro p25 F25 w19 l20 o25 f25 g25
    have o25 : Own w19 p25 0 0 34 2 (([] : List _).flatMap mrow) F25 := o25; have z_l20 := l20.size; have L := L.tr l20.up; have B5 := B5.ext l20; have B14 := B14.ext l20; have o12 := o12.ext l20; have o12m := o12m.ext l20
    refine s0 (x_fieldAddr fa29_1 rfl) (st (x_loadB sc27 rfl B5 rfl) (s_appr (B := w17.heap.size) (f := mrow) mrow_len mrow_one (by decide) so27 zr34 rfl rfl rfl o25 o12m.sl f25 (by omega) (by omega) (by omega) ?_))
    intro p28 c28 F28 w21 l22 o28 hn28 k28 f28 g28
    have ab5_28 : b5 ∉ F28 := k28.nin (by first|assumption|exact nin_of f25 g25 (by omega)) (by omega)
    have B5 := B5.exm l22 (by first|assumption|exact nin_of f25 g25 (by omega))
    have ab14_28 : b14 ∉ F28 := k28.nin (by first|assumption|exact nin_of f25 g25 (by omega)) (by omega)
    have B14 := B14.exm l22 (by first|assumption|exact nin_of f25 g25 (by omega))
    have z_l22 := l22.size; have L := L.freshL l22 f25 (by omega); have d12_28 : Dj F12 F28 := k28.dj (by first|assumption|exact Dj.symm (by assumption)|exact dj_of f12 g12 f25 g25 (by omega)) g12 (by omega)
    have o12 := o12.exm l22 (by first|assumption|exact Dj.symm (by assumption)|exact dj_of f25 g25 f12 g12 (by omega))
    have d12m_28 : Dj F12m F28 := k28.dj (by first|assumption|exact Dj.symm (by assumption)|exact dj_of f12m g12m f25 g25 (by omega)) g12m (by omega)
    have o12m := o12m.exm l22 (by first|assumption|exact Dj.symm (by assumption)|exact dj_of f25 g25 f12m g12m (by omega))
    refine s0 (x_fieldAddr fa29_1 rfl) ?_
    refine s_store (v := .slice _ _ _) (cs' := [_, _, _, _, _, _, _]) rfl sz27 rfl rfl rfl rfl B14 rfl rfl ?_
    intro w23 l24 el24 B14
    have z_l24 := l24.size; have L := L.fresh l24 (by omega); have B5 := B5.ne l24 (by omega); have o12 := o12.ne l24 (by first|assumption|exact nin_of f12 g12 (by omega))
    have o12m := o12m.ne l24 (by first|assumption|exact nin_of f12m g12m (by omega))
    have o28 := o28.ne l24 (by first|assumption|exact nin_of f28 g28 (by omega))
    refine c_end (n_then (wp_seq ?_))
    refine c_plan (fun wq => Exm [] w23 wq) 11 (.cons (0, 2) (.cons (1, 1) (.cons (2, 2) (.cons (3, 1) (.cons (4, 2) (.cons (5, 2) (.cons (6, 2) (.cons (7, 1) (.cons (8, 2) (.cons (9, 1) (.cons (10, 2) (.cons (11, 0) .nil)))))))))))) (by kernel_rfl) (by kernel_rfl) (Exm.drew _) ?_
    obtain ⟨w25, hwd⟩ : ∃ x, x = w23.drew := ⟨_, rfl⟩
    have l26 : Ext w23 w25 := by rw [hwd]; exact Exm.drew _
    rw [← hwd]; clear hwd
    have Lq : Exm [] w23 w25 := l26.up; have qB14 := B14; have qo28 := o28; have z_l26 := l26.size; have L := L.tr l26.up; have B5 := B5.ext l26; have B14 := B14.ext l26; have o12 := o12.ext l26; have o12m := o12m.ext l26; have o28 := o28.ext l26
    refine p0 rfl (x_fieldAddr fa29_1 rfl) ?_
    refine ps rfl (fun wq hwq => x_loadB sc27 rfl (qB14.ext hwq) rfl) ?_
    refine p0 rfl (x_fieldAddr fa29_1 rfl) ?_
    refine ps rfl (fun wq hwq => x_loadB sc27 rfl (qB14.ext hwq) rfl) ?_
    refine p0 rfl (x_lensl un27 rfl) (p0 rfl (x_sub rfl rfl (by omega)) (p0 rfl (x_fieldAddr fa29_1 rfl) ?_))
    refine ps rfl (fun wq hwq => x_loadB sc27 rfl (qB14.ext hwq) rfl) ?_
    refine p0 rfl (x_idx so27 rfl rfl o28.sl (by decide) (by omega) (by omega)) ?_
    refine ps rfl (fun wq hwq => x_ldr mrow_len ag34 rfl (qo28.ext hwq).sl (by omega) (by omega)) ?_
    refine p0 rfl (x_idx so27 rfl rfl o28.sl (by decide) (by omega) (by omega)) (pu rfl (s_stor (v := (ms12.getD (0 : Int).toNat default)) mrow_len mrow_one rfl sz34 rfl rfl (by decide) o28 (by omega) (by omega) ?_))
    intro w27 l28 el28 o28
    have z_l28 := l28.size; have L := L.freshL l28 f28 (by omega); have B5 := B5.exm l28 (by first|assumption|exact nin_of f28 g28 (by omega))
    have B14 := B14.exm l28 (by first|assumption|exact nin_of f28 g28 (by omega))
    have o12 := o12.exm l28 (by first|assumption|exact Dj.symm (by assumption)|exact dj_of f28 g28 f12 g12 (by omega))
    have o12m := o12m.exm l28 (by first|assumption|exact Dj.symm (by assumption)|exact dj_of f28 g28 f12m g12m (by omega))
    have hnl28 := o28.nr mrow_len (by decide)
    refine c_end ⟨rfl, fun h hS => absurd h (by decide), ?_⟩
    refine p_nil (np_normal ?_)
    refine n_then (wp_seq (c_reg (st (x_loadAgB ag29 rfl B5 rfl) ?_)))
    refine sp (zcall cl10 rfl) (i_buildRef _ _ _ _ _ _ _ _ _ _ _ _ o12.sl o12m.rdm (by omega) (by omega) hbB) ?_
    rintro v42 w29 l30 ⟨p42, c42, F42, rfl, o42, f42⟩
    have z_l30 := l30.size; have L := L.tr l30.up; have B5 := B5.ext l30; have B14 := B14.ext l30; have o12 := o12.ext l30; have o12m := o12m.ext l30; have o28 := o28.ext l30; have g42 := o42.lt
    refine s_alloc zr36 ?_
    intro b31 w32 lob31 hib31 l33 B31
    have z_l33 := l33.size; have L := L.tr l33.up; have B5 := B5.ext l33; have B14 := B14.ext l33; have o12 := o12.ext l33; have o12m := o12m.ext l33; have o28 := o28.ext l33; have o42 := o42.ext l33
    refine s_storeAg rfl sz36 rfl rfl B31 rfl rfl rfl ?_
    intro w34 l35 el35 B31
    have z_l35 := l35.size; have L := L.fresh l35 (by omega); have B5 := B5.ne l35 (by omega); have B14 := B14.ne l35 (by omega); have o12 := o12.ne l35 (by first|assumption|exact nin_of f12 g12 (by omega))
    have o12m := o12m.ne l35 (by first|assumption|exact nin_of f12m g12m (by omega))
    have o28 := o28.ne l35 (by first|assumption|exact nin_of f28 g28 (by omega))
    have o42 := o42.ne l35 (by first|assumption|exact nin_of f42 g42 (by omega))
    refine c_end (n_then (wp_seq ?_))
    have o28 := ownN o28 (show _ = (lastFirst ms12).length from (lf_length ms12).symm)
    have B14 := bx_eq (cs' := [.int .i64 za12, .int .i64 zb12, .int .i64 zq12, .bool zy12, .bool false, .slice p12 xs12.length c12, .slice p28 (lastFirst ms12).length c28]) (by rw [lf_length]; rfl) B14
    refine c_reg (st (x_loadAgB ag29 rfl B14 rfl) ?_)
    refine sp (zcall cl10 rfl) (i_buildRef _ _ _ _ _ _ _ _ _ _ _ _ o12.sl (rdms_of o28.sl (lf_mem hl1) (fun m hm => (o12m.2 m hm).rd)) (by omega) (by rw [lf_length]; omega) (fun m hm => hbB m (lf_mem hl1 m hm))) ?_
    rintro v44 w36 l37 ⟨p44, c44, F44, rfl, o44, f44⟩
    have z_l37 := l37.size; have L := L.tr l37.up; have B5 := B5.ext l37; have B14 := B14.ext l37; have B31 := B31.ext l37; have o12 := o12.ext l37; have o12m := o12m.ext l37; have o28 := o28.ext l37; have o42 := o42.ext l37; have g44 := o44.lt
    refine s_alloc zr36 ?_
    intro b38 w39 lob38 hib38 l40 B38
    have z_l40 := l40.size; have L := L.tr l40.up; have B5 := B5.ext l40; have B14 := B14.ext l40; have B31 := B31.ext l40; have o12 := o12.ext l40; have o12m := o12m.ext l40; have o28 := o28.ext l40; have o42 := o42.ext l40; have o44 := o44.ext l40
    refine s_storeAg rfl sz36 rfl rfl B38 rfl rfl rfl ?_
    intro w41 l42 el42 B38
    have z_l42 := l42.size; have L := L.fresh l42 (by omega); have B5 := B5.ne l42 (by omega); have B14 := B14.ne l42 (by omega); have B31 := B31.ne l42 (by omega); have o12 := o12.ne l42 (by first|assumption|exact nin_of f12 g12 (by omega))
    have o12m := o12m.ne l42 (by first|assumption|exact nin_of f12m g12m (by omega))
    have o28 := o28.ne l42 (by first|assumption|exact nin_of f28 g28 (by omega))
    have o42 := o42.ne l42 (by first|assumption|exact nin_of f42 g42 (by omega))
    have o44 := o44.ne l42 (by first|assumption|exact nin_of f44 g44 (by omega))
    refine c_end (n_then (wp_seq (wp_seq (c_reg (st (x_loadAgB ag36 rfl B31 rfl) ?_)))))
    refine srb (zcall cl11 rfl) (s_frameOk _ _ _ _ _ _ _ o42.sl (by omega)) (fun h46 w43 l44 => ?_) (fun h46 w43 l44 => ?_)
    ·have z_l44 := l44.size
     have L := L.tr l44.up; have B5 := B5.ext l44; have B14 := B14.ext l44; have B31 := B31.ext l44; have B38 := B38.ext l44; have o42 := o42.ext l44; have o44 := o44.ext l44
     refine s0 (x_not rfl) (s0 (x_move (v := .bool _) rfl) (gt rfl rfl rfl rfl (st (x_loadAgB ag36 rfl B38 rfl) (gt rfl rfl rfl rfl ?_))))
     refine srb (zcall cl11 rfl) (s_frameOk _ _ _ _ _ _ _ o44.sl (by omega)) (fun h50 w45 l46 => ?_) (fun h50 w45 l46 => ?_)
     ·have z_l46 := l46.size
      have L := L.tr l46.up; have B5 := B5.ext l46; have B14 := B14.ext l46; have B31 := B31.ext l46; have B38 := B38.ext l46; have o42 := o42.ext l46; have o44 := o44.ext l46
      refine gt rfl rfl rfl rfl (s0 (x_not rfl) (s0 (x_pickf (v := .bool _) rfl rfl) (c_end (n_then (c_false rfl (c_skipn (n_then (wp_seq (wp_seq ?_)))))))))
      obtain ⟨ex, ew, eh⟩ := br_yesF (y := zy12) hok
      obtain ⟨fx, fw, fh⟩ := br_yesF (y := zy12) hok2
      rw [ex] at o42
      rw [fx] at o44
      have B31 := bx_eq (cs' := [.int .i64 za12, .int .i64 zb12, .slice p42 (bldM za12 zb12 zq12 zy12 (ms12.map Mk.pl) (ms12.map Mk.pl).length).length c42]) (by rw [ex, ew, eh]) B31
      have B38 := bx_eq (cs' := [.int .i64 za12, .int .i64 zb12, .slice p44 (bldM za12 zb12 zq12 zy12 ((lastFirst ms12).map Mk.pl) ((lastFirst ms12).map Mk.pl).length).length c44]) (by rw [fx, fw, fh]) B38
      have hbx := bldM_length za12 zb12 zq12 zy12 (ms12.map Mk.pl) (ms12.map Mk.pl).length; have hby := bldM_length za12 zb12 zq12 zy12 ((lastFirst ms12).map Mk.pl) ((lastFirst ms12).map Mk.pl).length
      have hWa := hsd.1; have hHb := hsd.2.1
      refine c_reg (s0 (xaI rfl) (c_end (n_then (wp_block ?_))))
      refine c_loop (γ := Nat) (fun i => (za12 * zb12).toNat - i) (fun (i : Nat) E wl => ∃ E0, E = upd (upd (upd E0 5 (pt b31 0)) 6 (pt b38 0)) 7 (.int .i64 (i : Int)) ∧ (Exm [] w wl) ∧ (w45.heap.size ≤ wl.heap.size) ∧ (Bx wl b5 [.int .i64 za12, .int .i64 zb12, .int .i64 zq12, .bool zy12, .bool false, .slice p12 xs12.length c12, .slice p12m ms12.length c12m] 29) ∧ (Bx wl b14 [.int .i64 za12, .int .i64 zb12, .int .i64 zq12, .bool zy12, .bool false, .slice p12 xs12.length c12, .slice p28 (lastFirst ms12).length c28] 29) ∧ (Bx wl b31 [.int .i64 za12, .int .i64 zb12, .slice p42 (bldM za12 zb12 zq12 zy12 (ms12.map Mk.pl) (ms12.map Mk.pl).length).length c42] 36) ∧ (Bx wl b38 [.int .i64 za12, .int .i64 zb12, .slice p44 (bldM za12 zb12 zq12 zy12 ((lastFirst ms12).map Mk.pl) ((lastFirst ms12).map Mk.pl).length).length c44] 36) ∧ (Own wl p42 (bldM za12 zb12 zq12 zy12 (ms12.map Mk.pl) (ms12.map Mk.pl).length).length c42 3 1 (ic (bldM za12 zb12 zq12 zy12 (ms12.map Mk.pl) (ms12.map Mk.pl).length)) F42) ∧ (Own wl p44 (bldM za12 zb12 zq12 zy12 ((lastFirst ms12).map Mk.pl) ((lastFirst ms12).map Mk.pl).length).length c44 3 1 (ic (bldM za12 zb12 zq12 zy12 ((lastFirst ms12).map Mk.pl) ((lastFirst ms12).map Mk.pl).length)) F44) ∧ ((i : Int) ≤ (za12 * zb12).toNat)) 0 ⟨_, upd_self3 rfl rfl rfl, L, (by omega), B5, B14, B31, B38, o42, o44, (by omega)⟩ ?_
      rintro i E wl47 ⟨E0, rfl, L, Lz, B5, B14, B31, B38, o42, o44, hi⟩
      have Lz0 := L.size
      refine wp_seq (wp_seq (c_reg (s0 (xmI rfl) (s0 (x_fieldAddr fa36_2 rfl) (st (x_loadB sc24 rfl B31 rfl) (s0 (x_lensl un24 rfl) ?_))))))
      refine sb (x_lss rfl rfl) (fun h57 => ?_) (fun h57 => ?_)
      ·refine c_end (n_then (c_true rfl (c_skipn (n_then (wp_seq (wp_block (wp_seq ?_)))))))
       refine c_plan (fun wq => Exm [] wl47 wq) 19 (.cons (0, 2) (.cons (1, 2) (.cons (2, 1) (.cons (3, 2) (.cons (4, 2) (.cons (5, 1) (.cons (6, 2) (.cons (7, 2) (.cons (8, 2) (.cons (9, 2) (.cons (10, 2) (.cons (11, 1) (.cons (12, 2) (.cons (13, 2) (.cons (14, 1) (.cons (15, 2) (.cons (16, 2) (.cons (17, 2) (.cons (18, 2) .nil))))))))))))))))))) (by kernel_rfl) (by kernel_rfl) (Exm.drew _) ?_
       obtain ⟨w48, hwd⟩ : ∃ x, x = wl47.drew := ⟨_, rfl⟩
       have l49 : Ext wl47 w48 := by rw [hwd]; exact Exm.drew _
       rw [← hwd]; clear hwd
       have Lq : Exm [] wl47 w48 := l49.up; have qB31 := B31; have qB38 := B38; have qo42 := o42; have qo44 := o44; have z_l49 := l49.size; have L := L.tr l49.up; have B5 := B5.ext l49; have B14 := B14.ext l49; have B31 := B31.ext l49; have B38 := B38.ext l49; have o42 := o42.ext l49; have o44 := o44.ext l49
       refine p0 rfl (xmI rfl) (p0 rfl (x_fieldAddr fa36_0 rfl) ?_)
       refine ps rfl (fun wq hwq => x_loadB sc3 rfl (qB31.ext hwq) rfl) ?_
       refine p0 rfl (x_rem rfl rfl (by omega) (by omega)) (p0 rfl (x_fieldAddr fa36_0 rfl) ?_)
       refine ps rfl (fun wq hwq => x_loadB sc3 rfl (qB31.ext hwq) rfl) ?_
       refine p0 rfl (x_sub rfl rfl (by omega)) ?_
       refine pb rfl (x_geq rfl rfl) (fun h67 => ?_) (fun h67 => ?_)
       ·refine p0 rfl (x_move (v := .bool _) rfl) (p0g rfl rfl rfl rfl rfl (xmI rfl) (p0g rfl rfl rfl rfl rfl (x_fieldAddr fa36_0 rfl) ?_))
        refine psg rfl rfl rfl rfl rfl (fun wq hwq => x_loadB sc3 rfl (qB31.ext hwq) rfl) ?_
        refine p0g rfl rfl rfl rfl rfl (x_quo rfl rfl (by omega) (by omega)) (p0g rfl rfl rfl rfl rfl (x_fieldAddr fa36_1 rfl) ?_)
        refine psg rfl rfl rfl rfl rfl (fun wq hwq => x_loadB sc3 rfl (qB31.ext hwq) rfl) ?_
        refine p0g rfl rfl rfl rfl rfl (x_sub rfl rfl (by omega)) ?_
        refine pbg rfl rfl rfl rfl rfl (x_geq rfl rfl) (fun h76 => ?_) (fun h76 => ?_)
        ·refine p0 rfl (x_pickt (v := .bool _) rfl rfl) (p0 rfl (x_assign (v := .bool _) rfl) ?_)
         refine p_nil (np_normal ?_)
         refine n_then (wp_seq ?_)
         have hcz := fun hp => causal (q := zq12) (y := zy12) (p := i) hsd (by rw [List.length_map]; exact hso.2.1) (by rw [List.length_map]; exact hl1) (by rw [List.length_map, List.length_map, lf_length]) (lf_pre hl1) hp
         refine c_plan (fun wq => Exm [] w48 wq) 15 (.cons (0, 2) (.cons (1, 2) (.cons (2, 2) (.cons (3, 2) (.cons (4, 1) (.cons (5, 2) (.cons (6, 2) (.cons (7, 1) (.cons (8, 2) (.cons (9, 1) (.cons (10, 2) (.cons (11, 2) (.cons (12, 1) (.cons (13, 2) (.cons (14, 2) .nil))))))))))))))) (by kernel_rfl) (by kernel_rfl) (Exm.drew _) ?_
         obtain ⟨w50, hwd⟩ : ∃ x, x = w48.drew := ⟨_, rfl⟩
         have l51 : Ext w48 w50 := by rw [hwd]; exact Exm.drew _
         rw [← hwd]; clear hwd
         have Lq : Exm [] w48 w50 := l51.up; have z_l51 := l51.size; have L := L.tr l51.up; have B5 := B5.ext l51; have B14 := B14.ext l51; have B31 := B31.ext l51; have B38 := B38.ext l51; have o42 := o42.ext l51; have o44 := o44.ext l51
         refine p0 rfl (x_move (v := .bool _) rfl) (p0 rfl (x_not rfl) (p0 rfl (x_move (v := .bool _) rfl) (pf rfl rfl rfl rfl rfl (pf1 rfl rfl rfl rfl rfl (pf rfl rfl rfl rfl rfl (pf rfl rfl rfl rfl rfl (pf1 rfl rfl rfl rfl rfl (pf rfl rfl rfl rfl rfl (pf1 rfl rfl rfl rfl rfl (pf rfl rfl rfl rfl rfl (pf rfl rfl rfl rfl rfl (pf1 rfl rfl rfl rfl rfl (pf rfl rfl rfl rfl rfl ?_)))))))))))))
         refine p0 rfl (x_pickf (v := .bool _) rfl rfl) ?_
         refine p_nil (np_normal ?_)
         refine n_then (c_false rfl (c_skipn (n_block (n_then (c_reg (s0 (xmI rfl) (s0 (x_add rfl rfl (by omega)) (s0 (xaI rfl) (c_end ?_)))))))))
         exact c_round (g' := i + 1) (by omega) ⟨_, upd_self3 rfl rfl (vint (by omega)), L, (by omega), B5, B14, B31, B38, o42, o44, (by omega)⟩
        ·refine p0 rfl (x_pickt (v := .bool _) rfl rfl) (p0 rfl (x_assign (v := .bool _) rfl) ?_)
         refine p_nil (np_normal ?_)
         refine n_then (wp_seq ?_)
         have hcz := fun hp => causal (q := zq12) (y := zy12) (p := i) hsd (by rw [List.length_map]; exact hso.2.1) (by rw [List.length_map]; exact hl1) (by rw [List.length_map, List.length_map, lf_length]) (lf_pre hl1) hp
         refine c_plan (fun wq => Exm [] w48 wq) 15 (.cons (0, 2) (.cons (1, 2) (.cons (2, 2) (.cons (3, 2) (.cons (4, 1) (.cons (5, 2) (.cons (6, 2) (.cons (7, 1) (.cons (8, 2) (.cons (9, 1) (.cons (10, 2) (.cons (11, 2) (.cons (12, 1) (.cons (13, 2) (.cons (14, 2) .nil))))))))))))))) (by kernel_rfl) (by kernel_rfl) (Exm.drew _) ?_
         obtain ⟨w52, hwd⟩ : ∃ x, x = w48.drew := ⟨_, rfl⟩
         have l53 : Ext w48 w52 := by rw [hwd]; exact Exm.drew _
         rw [← hwd]; clear hwd
         have Lq : Exm [] w48 w52 := l53.up; have qB31 := B31; have qB38 := B38; have qo42 := o42; have qo44 := o44; have z_l53 := l53.size; have L := L.tr l53.up; have B5 := B5.ext l53; have B14 := B14.ext l53; have B31 := B31.ext l53; have B38 := B38.ext l53; have o42 := o42.ext l53; have o44 := o44.ext l53
         refine p0 rfl (x_move (v := .bool _) rfl) (p0 rfl (x_not rfl) (p0 rfl (x_move (v := .bool _) rfl) (p0g rfl rfl rfl rfl rfl (x_fieldAddr fa36_2 rfl) ?_)))
         refine psg rfl rfl rfl rfl rfl (fun wq hwq => x_loadB sc24 rfl (qB31.ext hwq) rfl) ?_
         refine p0g rfl rfl rfl rfl rfl (xmI rfl) (p0g rfl rfl rfl rfl rfl (x_idx so24 rfl rfl o42.sl (by decide) (by omega) (by omega)) ?_)
         refine psg rfl rfl rfl rfl rfl (fun wq hwq => x_ldi sc3 rfl (qo42.ext hwq).sl (by omega) (by omega)) ?_
         refine p0g rfl rfl rfl rfl rfl (x_fieldAddr fa36_2 rfl) ?_
         refine psg rfl rfl rfl rfl rfl (fun wq hwq => x_loadB sc24 rfl (qB38.ext hwq) rfl) ?_
         refine p0g rfl rfl rfl rfl rfl (xmI rfl) (p0g rfl rfl rfl rfl rfl (x_idx so24 rfl rfl o44.sl (by decide) (by omega) (by omega)) ?_)
         refine psg rfl rfl rfl rfl rfl (fun wq hwq => x_ldi sc3 rfl (qo44.ext hwq).sl (by omega) (by omega)) ?_
         refine pbg rfl rfl rfl rfl rfl (x_neq rfl rfl) (fun h91 => ?_) (fun h91 => ?_)
         ·exact absurd (hcz (by omega)) h91
         ·refine p0 rfl (x_pickt (v := .bool _) rfl rfl) ?_
          refine p_nil (np_normal ?_)
          refine n_then (c_false rfl (c_skipn (n_block (n_then (c_reg (s0 (xmI rfl) (s0 (x_add rfl rfl (by omega)) (s0 (xaI rfl) (c_end ?_)))))))))
          exact c_round (g' := i + 1) (by omega) ⟨_, upd_self3 rfl rfl (vint (by omega)), L, (by omega), B5, B14, B31, B38, o42, o44, (by omega)⟩
       ·refine p0 rfl (x_move (v := .bool _) rfl) (pf rfl rfl rfl rfl rfl (pf rfl rfl rfl rfl rfl (pf1 rfl rfl rfl rfl rfl (pf rfl rfl rfl rfl rfl (pf rfl rfl rfl rfl rfl (pf1 rfl rfl rfl rfl rfl (pf rfl rfl rfl rfl rfl (pf rfl rfl rfl rfl rfl (p0 rfl (x_pickf (v := .bool _) rfl rfl) (p0 rfl (x_assign (v := .bool _) rfl) ?_))))))))))
        refine p_nil (np_normal ?_)
        refine n_then (wp_seq ?_)
        have hcz := fun hp => causal (q := zq12) (y := zy12) (p := i) hsd (by rw [List.length_map]; exact hso.2.1) (by rw [List.length_map]; exact hl1) (by rw [List.length_map, List.length_map, lf_length]) (lf_pre hl1) hp
        refine c_plan (fun wq => Exm [] w48 wq) 15 (.cons (0, 2) (.cons (1, 2) (.cons (2, 2) (.cons (3, 2) (.cons (4, 1) (.cons (5, 2) (.cons (6, 2) (.cons (7, 1) (.cons (8, 2) (.cons (9, 1) (.cons (10, 2) (.cons (11, 2) (.cons (12, 1) (.cons (13, 2) (.cons (14, 2) .nil))))))))))))))) (by kernel_rfl) (by kernel_rfl) (Exm.drew _) ?_
        obtain ⟨w54, hwd⟩ : ∃ x, x = w48.drew := ⟨_, rfl⟩
        have l55 : Ext w48 w54 := by rw [hwd]; exact Exm.drew _
        rw [← hwd]; clear hwd
        have Lq : Exm [] w48 w54 := l55.up; have qB31 := B31; have qB38 := B38; have qo42 := o42; have qo44 := o44; have z_l55 := l55.size; have L := L.tr l55.up; have B5 := B5.ext l55; have B14 := B14.ext l55; have B31 := B31.ext l55; have B38 := B38.ext l55; have o42 := o42.ext l55; have o44 := o44.ext l55
        refine p0 rfl (x_move (v := .bool _) rfl) (p0 rfl (x_not rfl) (p0 rfl (x_move (v := .bool _) rfl) (p0g rfl rfl rfl rfl rfl (x_fieldAddr fa36_2 rfl) ?_)))
        refine psg rfl rfl rfl rfl rfl (fun wq hwq => x_loadB sc24 rfl (qB31.ext hwq) rfl) ?_
        refine p0g rfl rfl rfl rfl rfl (xmI rfl) (p0g rfl rfl rfl rfl rfl (x_idx so24 rfl rfl o42.sl (by decide) (by omega) (by omega)) ?_)
        refine psg rfl rfl rfl rfl rfl (fun wq hwq => x_ldi sc3 rfl (qo42.ext hwq).sl (by omega) (by omega)) ?_
        refine p0g rfl rfl rfl rfl rfl (x_fieldAddr fa36_2 rfl) ?_
        refine psg rfl rfl rfl rfl rfl (fun wq hwq => x_loadB sc24 rfl (qB38.ext hwq) rfl) ?_
        refine p0g rfl rfl rfl rfl rfl (xmI rfl) (p0g rfl rfl rfl rfl rfl (x_idx so24 rfl rfl o44.sl (by decide) (by omega) (by omega)) ?_)
        refine psg rfl rfl rfl rfl rfl (fun wq hwq => x_ldi sc3 rfl (qo44.ext hwq).sl (by omega) (by omega)) ?_
        refine pbg rfl rfl rfl rfl rfl (x_neq rfl rfl) (fun h91 => ?_) (fun h91 => ?_)
        ·exact absurd (hcz (by omega)) h91
        ·refine p0 rfl (x_pickt (v := .bool _) rfl rfl) ?_
         refine p_nil (np_normal ?_)
         refine n_then (c_false rfl (c_skipn (n_block (n_then (c_reg (s0 (xmI rfl) (s0 (x_add rfl rfl (by omega)) (s0 (xaI rfl) (c_end ?_)))))))))
         exact c_round (g' := i + 1) (by omega) ⟨_, upd_self3 rfl rfl (vint (by omega)), L, (by omega), B5, B14, B31, B38, o42, o44, (by omega)⟩
      ·refine c_end (n_then (c_false rfl ?_))
       refine wp_exit (e_then (e_then (e_here ?_)))
       refine n_then (wp_seq (c_reg (s0 (x_assign (v := .bool _) rfl) (c_end (n_then (wp_ret (f_ret rfl rfl ?_)))))))
       exact ⟨rfl, L⟩
     ·exact absurd (br_okF hok2) h50
    ·exact absurd (br_okF hok) h46
  ·have z_l13 := l13.size
   have L := L.tr l13.up
   refine s0 (x_not rfl) (s0 (x_move (v := .bool _) rfl) (gf rfl rfl rfl rfl (gf rfl rfl rfl rfl (gf rfl rfl rfl rfl (gf rfl rfl rfl rfl (s0 (x_pickt (v := .bool _) rfl rfl) (c_end (n_then (c_true rfl (wp_seq (c_reg (s0 (x_assign (v := .bool _) rfl) (c_end ?_)))))))))))))
   refine n_then ?_
   refine wp_ret (r_then ?_)
   refine f_ret rfl rfl ?_
   exact ⟨rfl, L⟩

end Go.Proofs.YtepnknffaecbdaaGreat
