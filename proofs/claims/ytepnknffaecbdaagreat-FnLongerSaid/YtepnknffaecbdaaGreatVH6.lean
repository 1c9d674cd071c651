/- What each function of this part returns, for every argument that meets its premises. -/
import Derived.Test.YtepnknffaecbdaaGreatProg
import Derived.Test.YtepnknffaecbdaaGreatVSxA
import Derived.Test.YtepnknffaecbdaaGreatVTy
import Derived.Test.YtepnknffaecbdaaGreatVPlA
import Derived.Test.YtepnknffaecbdaaGreatVF1
import Derived.Test.YtepnknffaecbdaaGreatVFB
import Derived.Test.YtepnknffaecbdaaGreatVFH
import Derived.Test.YtepnknffaecbdaaGreatVH2
import Derived.Test.YtepnknffaecbdaaGreatVH4
import Derived.Test.YtepnknffaecbdaaGreatVH5
import Derived.Test.YtepnknffaecbdaaGreatVHC
namespace Go.Proofs.YtepnknffaecbdaaGreat
open Go.Sx Go.Pl Go.RowKit
set_option maxHeartbeats 8000000 in
theorem i_putRef (W H x y a0 b0 q m : Int) (e z : Bool) (pA : Option Addr) (nA cA : Nat) (p : Option Addr) (xs : List Int) (c : Nat) (r : Option Addr) (ys : List Int) (d : Nat) (w : World) (hp : Sl w p xs.length c 1 (ic xs)) (hr : Sl w r ys.length d 1 (ic ys)) (hl : xs.length ≤ 1099511627776) (hl2 : ys.length ≤ 1099511627776) :
    Calls Tryz.prog 34 [.agg [.int .i64 W, .int .i64 H, .slice p xs.length c].toArray, .agg [.int .i64 a0, .int .i64 b0, .int .i64 q, .bool e, .bool z, .slice pA nA cA].toArray, .int .i64 x, .int .i64 y, .agg [.int .i64 m, .slice r ys.length d].toArray].toArray w (RetP w fun v w' => ∃ (p' : Option Addr) (c' : Nat) (F : List Nat), v = .tuple [.agg [.int .i64 W, .int .i64 H, .slice p' xs.length c'].toArray, .bool (decide (setsOk W H xs x y q e m ys))].toArray ∧ Own w' p' xs.length c' 3 1 (ic (putL W H xs x y q e m ys)) F ∧ Fr w.heap.size F) := by
 have hrle := residual_le q e ys; have L : Exm [] w w := Exm.rfl'
 refine enter (n := 56) Tryz.func34 rfl rfl rfl ?_
 refine wp_seq (c_reg (s_box rfl rfl ?_))
 intro b1 w2 lob1 hib1 l3 B1
 have z_l3 := l3.size; have L := L.tr l3.up
 refine s_box rfl rfl ?_
 intro b4 w5 lob4 hib4 l6 B4
 have z_l6 := l6.size; have L := L.tr l6.up; have B1 := B1.ext l6
 refine s_box rfl rfl ?_
 intro b7 w8 lob7 hib7 l9 B7
 have z_l9 := l9.size; have L := L.tr l9.up; have B1 := B1.ext l9; have B4 := B4.ext l9
 refine s_alloc zr36 ?_
 intro b10 w11 lob10 hib10 l12 B10
 have z_l12 := l12.size; have L := L.tr l12.up; have B1 := B1.ext l12; have B4 := B4.ext l12; have B7 := B7.ext l12
 refine s0 (x_assign (v := .bool _) rfl) (c_end (n_then (wp_seq (c_reg (st (x_loadAgB ag26 rfl B4 rfl) (s0 (x_fieldAddr fa71_1 rfl) (st (x_loadB sc24 rfl B7 rfl) ?_)))))))
 refine sp (zcall cl75 rfl) (i_residual _ _ _ _ _ _ _ _ _ _ _ _ (hr.ext L) (by omega)) ?_
 rintro v17 w13 l14 ⟨p17, c17, F17, rfl, o17, f17⟩
 have z_l14 := l14.size; have L := L.tr l14.up; have B1 := B1.ext l14; have B4 := B4.ext l14; have B7 := B7.ext l14; have B10 := B10.ext l14; have g17 := o17.lt
 refine s0 (xaS rfl) (c_end (n_then (wp_seq (c_reg (s0 (xmS rfl) (s0 (x_lensl un24 rfl) ?_))))))
 refine sr (zcall cl76 rfl) (i_sizeOf _ _) ?_
 intro w15 l16
 have z_l16 := l16.size; have L := L.tr l16.up; have B1 := B1.ext l16; have B4 := B4.ext l16; have B7 := B7.ext l16; have B10 := B10.ext l16; have o17 := o17.ext l16
 refine s0 (xaI rfl) (c_end (n_then (wp_seq (wp_seq (c_reg (s0 (xmS rfl) ?_))))))
 refine sb (x_eqnil un24 rfl rfl) (fun h22 => ?_) (fun h22 => ?_)
 ·refine s0 (x_move (v := .bool _) rfl) (gf rfl rfl rfl rfl (gf rfl rfl rfl rfl (gf rfl rfl rfl rfl (gf rfl rfl rfl rfl (s0 (x_pickt (v := .bool _) rfl rfl) (s0 (x_move (v := .bool _) rfl) (gf rfl rfl rfl rfl (gf rfl rfl rfl rfl (gf rfl rfl rfl rfl (gf rfl rfl rfl rfl (gf rfl rfl rfl rfl (gf rfl rfl rfl rfl (s0 (x_pickt (v := .bool _) rfl rfl) ?_)))))))))))))
  refine c_end (n_then (c_true rfl (wp_seq (c_reg (st (x_loadAgB ag36 rfl B1 rfl) ?_)))))
  refine sp (zcall cl79 rfl) (i_own _ _ _ _ _ _ _ (hp.ext L) (by omega)) ?_
  rintro v38 w17 l18 ⟨p38, c38, F38, rfl, o38, f38⟩
  have z_l18 := l18.size; have L := L.tr l18.up; have B1 := B1.ext l18; have B4 := B4.ext l18; have B7 := B7.ext l18; have B10 := B10.ext l18; have o17 := o17.ext l18; have g38 := o38.lt
  refine s_storeAg rfl sz36 rfl rfl B10 rfl rfl rfl ?_
  intro w19 l20 el20 B10
  have z_l20 := l20.size; have L := L.fresh l20 (by omega); have B1 := B1.ne l20 (by omega); have B4 := B4.ne l20 (by omega); have B7 := B7.ne l20 (by omega); have o17 := o17.ne l20 (by first|assumption|exact nin_of f17 g17 (by omega))
  have o38 := o38.ne l20 (by first|assumption|exact nin_of f38 g38 (by omega))
  refine s0 (x_assign (v := .bool _) rfl) (c_end (n_then ?_))
  refine wp_ret (r_then ?_)
  refine f_rets2 rfl (ro_cell rfl ag36 B10 rfl) (ro_tmp rfl) ?_
  rw [h22] at o17
  have hz := own_none o17
  have hno : ¬ setsOk W H xs x y q e m ys := fun h => by have := h.1; omega
  rw [decide_eq_false hno, show putL W H xs x y q e m ys = xs from if_neg hno]
  exact ⟨_, rfl, L, _, _, _, rfl, o38, f38.mono (by omega)⟩
 ·refine s0 (x_move (v := .bool _) rfl) (gt rfl rfl rfl rfl (s0 (x_fieldAddr fa71_0 rfl) (gt rfl rfl rfl rfl (st (x_loadB sc3 rfl B7 rfl) (gt rfl rfl rfl rfl ?_)))))
  refine srb (zcall cl77 rfl) (i_within _ _ _ _) (fun h26 w21 l22 => ?_) (fun h26 w21 l22 => ?_)
  ·have z_l22 := l22.size
   have L := L.tr l22.up; have B1 := B1.ext l22; have B4 := B4.ext l22; have B7 := B7.ext l22; have B10 := B10.ext l22; have o17 := o17.ext l22
   refine gt rfl rfl rfl rfl (s0 (x_not rfl) (s0 (x_pickf (v := .bool _) rfl rfl) (s0 (x_move (v := .bool _) rfl) (gt rfl rfl rfl rfl (st (x_loadAgB ag36 rfl B1 rfl) (gt rfl rfl rfl rfl (s0 (xmI rfl) (gt rfl rfl rfl rfl (s0 (xmI rfl) (gt rfl rfl rfl rfl (s0 (xmI rfl) (gt rfl rfl rfl rfl ?_))))))))))))
   refine srb (zcall cl78 rfl) (i_fits _ _ _ _ _ _ _ _ _ _ (hp.ext L) (by omega)) (fun h34 w23 l24 => ?_) (fun h34 w23 l24 => ?_)
   ·have z_l24 := l24.size
    have L := L.tr l24.up; have B1 := B1.ext l24; have B4 := B4.ext l24; have B7 := B7.ext l24; have B10 := B10.ext l24; have o17 := o17.ext l24
    refine gt rfl rfl rfl rfl (s0 (x_not rfl) (s0 (x_pickf (v := .bool _) rfl rfl) (c_end (n_then (c_false rfl (c_skipn (n_then (wp_seq ?_))))))))
    have hrp : 0 < (residual q e ys).length := by have h5 := h34.2.1; rcases Nat.eq_zero_or_pos (residual q e ys).length with h | h; (rw [h] at h5; exact absurd h5 (by decide)); exact h
    have hrl := (residual_pos hrp).2; have hlv := (residual_pos hrp).1.1; have hfit : fitsF W H xs x y (sideOf (residual q e ys).length) := h34; have hnb := nb_ok hfit; have hmr : 0 ≤ m ∧ m ≤ 5 := h26
    have hpl : (predL m (topK W x y (sideOf (residual q e ys).length) xs (2 * (sideOf (residual q e ys).length)).toNat) (leftK W x y xs ((sideOf (residual q e ys).length)).toNat) (cornV W x y xs) (decide (0 < y)) (decide (0 < x)) (sideOf (residual q e ys).length)).length = (residual q e ys).length := by unfold predL; rw [predK_length]; have h5 := hfit.2.1; have h6 := levels_size hlv; revert h5; unfold sideOf; rcases h6 with h | h <;> simp [h, hrl]
    have hrl64 : (residual q e ys).length = 16 ∨ (residual q e ys).length = 64 := by have h6 := levels_size hlv; omega
    have hpp := predL_pix (m := m) (ht := decide (0 < y)) (hl := decide (0 < x)) hnb
    have hsd : 0 < sideOf (predL m (topK W x y (sideOf (residual q e ys).length) xs (2 * (sideOf (residual q e ys).length)).toNat) (leftK W x y xs ((sideOf (residual q e ys).length)).toNat) (cornV W x y xs) (decide (0 < y)) (decide (0 < x)) (sideOf (residual q e ys).length)).length := by rw [hpl]; unfold sideOf; rcases hrl64 with h | h <;> rw [h] <;> decide
    have hrc : (recL (predL m (topK W x y (sideOf (residual q e ys).length) xs (2 * (sideOf (residual q e ys).length)).toNat) (leftK W x y xs ((sideOf (residual q e ys).length)).toNat) (cornV W x y xs) (decide (0 < y)) (decide (0 < x)) (sideOf (residual q e ys).length)) (residual q e ys)).length = (residual q e ys).length := by unfold recL; rw [recK_length, hpl]
    have hrs : sideOf (recL (predL m (topK W x y (sideOf (residual q e ys).length) xs (2 * (sideOf (residual q e ys).length)).toNat) (leftK W x y xs ((sideOf (residual q e ys).length)).toNat) (cornV W x y xs) (decide (0 < y)) (decide (0 < x)) (sideOf (residual q e ys).length)) (residual q e ys)).length = (sideOf (residual q e ys).length) := by rw [hrc]
    have hrx := recL_pix (predL m (topK W x y (sideOf (residual q e ys).length) xs (2 * (sideOf (residual q e ys).length)).toNat) (leftK W x y xs ((sideOf (residual q e ys).length)).toNat) (cornV W x y xs) (decide (0 < y)) (decide (0 < x)) (sideOf (residual q e ys).length)) (residual q e ys)
    have hyes : setsOk W H xs x y q e m ys := ⟨hrp, hmr, by rw [← hrl]; exact hfit⟩
    refine c_plan (fun wq => Exm [b10] w23 wq) 19 (.cons (0, 1) (.cons (1, 2) (.cons (2, 2) (.cons (3, 2) (.cons (4, 1) (.cons (5, 1) (.cons (6, 2) (.cons (7, 2) (.cons (8, 2) (.cons (10, 2) (.cons (12, 2) (.cons (9, 0) (.cons (11, 0) (.cons (13, 0) (.cons (14, 0) (.cons (15, 2) (.cons (16, 2) (.cons (17, 0) (.cons (18, 2) .nil))))))))))))))))))) (by kernel_rfl) (by kernel_rfl) (Exm.drew _) ?_
    obtain ⟨w25, hwd⟩ : ∃ x, x = w23.drew := ⟨_, rfl⟩
    have l26 : Ext w23 w25 := by rw [hwd]; exact Exm.drew _
    rw [← hwd]; clear hwd
    have Lq : Exm [b10] w23 w25 := l26.up; have qB1 := B1; have qB7 := B7; have z_l26 := l26.size; have L := L.tr l26.up; have B1 := B1.ext l26; have B4 := B4.ext l26; have B7 := B7.ext l26; have B10 := B10.ext l26; have o17 := o17.ext l26
    refine ps rfl (fun wq hwq => x_loadAgB ag36 rfl (qB1.ne hwq (by omega)) rfl) ?_
    refine p0 rfl (xmI rfl) (p0 rfl (xmI rfl) (p0 rfl (x_fieldAddr fa71_0 rfl) ?_))
    refine ps rfl (fun wq hwq => x_loadB sc3 rfl (qB7.ne hwq (by omega)) rfl) ?_
    refine ps rfl (fun wq hwq => x_loadAgB ag36 rfl (qB1.ne hwq (by omega)) rfl) ?_
    refine p0 rfl (xmI rfl) (p0 rfl (xmI rfl) (p0 rfl (xmI rfl) (p0 rfl (xmI rfl) (p0 rfl (xmS rfl) (pu rfl ?_)))))
    refine sp (zcall cl83 rfl) (i_nbAt _ _ _ _ _ _ _ _ _ (hp.ext L) (by omega) (by assumption)) ?_
    rintro v48 w27 l28 ⟨p48, c48, F48, p48l, c48l, F48l, rfl, o48, f48, o48l, f48l⟩
    have z_l28 := l28.size; have L := L.tr l28.up; have Lq := Lq.tr l28.up; have B1 := B1.ext l28; have B4 := B4.ext l28; have B7 := B7.ext l28; have B10 := B10.ext l28; have o17 := o17.ext l28; have g48 := o48.lt; have g48l := o48l.lt
    refine c_end ⟨rfl, fun h hS => Lq, ?_⟩
    refine pu rfl ?_
    refine sp (zcall cl82 rfl) (i_pred _ _ _ _ _ _ _ _ _ _ _ _ o48.sl o48l.sl (by assumption) (by assumption)) ?_
    rintro v50 w29 l30 ⟨p50, c50, F50, rfl, o50, f50⟩
    have z_l30 := l30.size; have L := L.tr l30.up; have Lq := Lq.tr l30.up; have B1 := B1.ext l30; have B4 := B4.ext l30; have B7 := B7.ext l30; have B10 := B10.ext l30; have o17 := o17.ext l30; have o48 := o48.ext l30; have o48l := o48l.ext l30; have g50 := o50.lt
    refine c_end ⟨rfl, fun h hS => Lq, ?_⟩
    refine pu rfl ?_
    refine sp (zcall cl81 rfl) (i_recon _ _ _ _ _ _ _ o50.sl o17.sl (by omega) (by omega) (by omega) (by assumption)) ?_
    rintro v52 w31 l32 ⟨p52, c52, F52, rfl, o52, f52⟩
    have z_l32 := l32.size; have L := L.tr l32.up; have Lq := Lq.tr l32.up; have B1 := B1.ext l32; have B4 := B4.ext l32; have B7 := B7.ext l32; have B10 := B10.ext l32; have o17 := o17.ext l32; have o48 := o48.ext l32; have o48l := o48l.ext l32; have o50 := o50.ext l32; have g52 := o52.lt
    refine c_end ⟨rfl, fun h hS => Lq, ?_⟩
    refine pu rfl ?_
    refine sp (zcall cl80 rfl) (i_setBlock _ _ _ _ _ _ _ _ _ _ _ _ (hp.ext L) o52.sl (by omega) (by assumption) (by assumption) (by assumption)) ?_
    rintro v53 w33 l34 ⟨p53, c53, F53, rfl, o53, f53⟩
    have z_l34 := l34.size; have L := L.tr l34.up; have Lq := Lq.tr l34.up; have B1 := B1.ext l34; have B4 := B4.ext l34; have B7 := B7.ext l34; have B10 := B10.ext l34; have o17 := o17.ext l34; have o48 := o48.ext l34; have o48l := o48l.ext l34; have o50 := o50.ext l34; have o52 := o52.ext l34; have g53 := o53.lt
    refine c_end ⟨rfl, fun h hS => Lq, ?_⟩
    refine p0 rfl (x_extract rfl rfl) (p0 rfl (x_extract rfl rfl) (pu rfl (s_storeAg rfl sz36 rfl rfl B10 rfl rfl rfl ?_)))
    intro w35 l36 el36 B10
    have z_l36 := l36.size; have L := L.fresh l36 (by omega); have Lq := Lq.within l36 (by simp)
    have B1 := B1.ne l36 (by omega); have B4 := B4.ne l36 (by omega); have B7 := B7.ne l36 (by omega); have o17 := o17.ne l36 (by first|assumption|exact nin_of f17 g17 (by omega))
    have o48 := o48.ne l36 (by first|assumption|exact nin_of f48 g48 (by omega))
    have o48l := o48l.ne l36 (by first|assumption|exact nin_of f48l g48l (by omega))
    have o50 := o50.ne l36 (by first|assumption|exact nin_of f50 g50 (by omega))
    have o52 := o52.ne l36 (by first|assumption|exact nin_of f52 g52 (by omega))
    have o53 := o53.ne l36 (by first|assumption|exact nin_of f53 g53 (by omega))
    refine c_end ⟨rfl, fun h hS => Lq, ?_⟩
    refine p0 rfl (x_assign (v := .bool _) rfl) ?_
    refine p_nil (np_normal ?_)
    refine n_then (wp_ret (f_rets2 rfl (ro_cell rfl ag36 B10 rfl) (ro_tmp rfl) ?_))
    have hpv : putL W H xs x y q e m ys = setK W x y (sideOf (residual q e ys).length) (recL (predL m (topK W x y (sideOf (residual q e ys).length) xs (2 * (sideOf (residual q e ys).length)).toNat) (leftK W x y xs ((sideOf (residual q e ys).length)).toNat) (cornV W x y xs) (decide (0 < y)) (decide (0 < x)) (sideOf (residual q e ys).length)) (residual q e ys)) xs (recL (predL m (topK W x y (sideOf (residual q e ys).length) xs (2 * (sideOf (residual q e ys).length)).toNat) (leftK W x y xs ((sideOf (residual q e ys).length)).toNat) (cornV W x y xs) (decide (0 < y)) (decide (0 < x)) (sideOf (residual q e ys).length)) (residual q e ys)).length := by unfold putL putV nbPred; rw [if_pos hyes, hrc, hrl]
    rw [decide_eq_true hyes, hpv]
    exact ⟨_, rfl, L, _, _, _, rfl, o53, f53.mono (by omega)⟩
   ·have z_l24 := l24.size
    have L := L.tr l24.up; have B1 := B1.ext l24; have B4 := B4.ext l24; have B7 := B7.ext l24; have B10 := B10.ext l24; have o17 := o17.ext l24
    refine gt rfl rfl rfl rfl (s0 (x_not rfl) (s0 (x_pickf (v := .bool _) rfl rfl) (c_end (n_then (c_true rfl (wp_seq (c_reg (st (x_loadAgB ag36 rfl B1 rfl) ?_))))))))
    refine sp (zcall cl79 rfl) (i_own _ _ _ _ _ _ _ (hp.ext L) (by omega)) ?_
    rintro v38 w37 l38 ⟨p38, c38, F38, rfl, o38, f38⟩
    have z_l38 := l38.size; have L := L.tr l38.up; have B1 := B1.ext l38; have B4 := B4.ext l38; have B7 := B7.ext l38; have B10 := B10.ext l38; have o17 := o17.ext l38; have g38 := o38.lt
    refine s_storeAg rfl sz36 rfl rfl B10 rfl rfl rfl ?_
    intro w39 l40 el40 B10
    have z_l40 := l40.size; have L := L.fresh l40 (by omega); have B1 := B1.ne l40 (by omega); have B4 := B4.ne l40 (by omega); have B7 := B7.ne l40 (by omega); have o17 := o17.ne l40 (by first|assumption|exact nin_of f17 g17 (by omega))
    have o38 := o38.ne l40 (by first|assumption|exact nin_of f38 g38 (by omega))
    refine s0 (x_assign (v := .bool _) rfl) (c_end (n_then ?_))
    refine wp_ret (r_then ?_)
    refine f_rets2 rfl (ro_cell rfl ag36 B10 rfl) (ro_tmp rfl) ?_
    have hno : ¬ setsOk W H xs x y q e m ys := fun h => h34 (by rw [(residual_pos h.1).2]; exact h.2.2)
    rw [decide_eq_false hno, show putL W H xs x y q e m ys = xs from if_neg hno]
    exact ⟨_, rfl, L, _, _, _, rfl, o38, f38.mono (by omega)⟩
  ·have z_l22 := l22.size
   have L := L.tr l22.up; have B1 := B1.ext l22; have B4 := B4.ext l22; have B7 := B7.ext l22; have B10 := B10.ext l22; have o17 := o17.ext l22
   refine gt rfl rfl rfl rfl (s0 (x_not rfl) (s0 (x_pickf (v := .bool _) rfl rfl) (s0 (x_move (v := .bool _) rfl) (gf rfl rfl rfl rfl (gf rfl rfl rfl rfl (gf rfl rfl rfl rfl (gf rfl rfl rfl rfl (gf rfl rfl rfl rfl (gf rfl rfl rfl rfl (s0 (x_pickt (v := .bool _) rfl rfl) (c_end (n_then (c_true rfl ?_)))))))))))))
   refine wp_seq (c_reg (st (x_loadAgB ag36 rfl B1 rfl) ?_))
   refine sp (zcall cl79 rfl) (i_own _ _ _ _ _ _ _ (hp.ext L) (by omega)) ?_
   rintro v38 w41 l42 ⟨p38, c38, F38, rfl, o38, f38⟩
   have z_l42 := l42.size; have L := L.tr l42.up; have B1 := B1.ext l42; have B4 := B4.ext l42; have B7 := B7.ext l42; have B10 := B10.ext l42; have o17 := o17.ext l42; have g38 := o38.lt
   refine s_storeAg rfl sz36 rfl rfl B10 rfl rfl rfl ?_
   intro w43 l44 el44 B10
   have z_l44 := l44.size; have L := L.fresh l44 (by omega); have B1 := B1.ne l44 (by omega); have B4 := B4.ne l44 (by omega); have B7 := B7.ne l44 (by omega); have o17 := o17.ne l44 (by first|assumption|exact nin_of f17 g17 (by omega))
   have o38 := o38.ne l44 (by first|assumption|exact nin_of f38 g38 (by omega))
   refine s0 (x_assign (v := .bool _) rfl) (c_end (n_then ?_))
   refine wp_ret (r_then ?_)
   refine f_rets2 rfl (ro_cell rfl ag36 B10 rfl) (ro_tmp rfl) ?_
   have hno : ¬ setsOk W H xs x y q e m ys := fun h => h26 h.2.1
   rw [decide_eq_false hno, show putL W H xs x y q e m ys = xs from if_neg hno]
   exact ⟨_, rfl, L, _, _, _, rfl, o38, f38.mono (by omega)⟩

end Go.Proofs.YtepnknffaecbdaaGreat
