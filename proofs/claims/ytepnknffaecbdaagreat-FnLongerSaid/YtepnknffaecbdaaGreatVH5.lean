/- What each function of this part returns, for every argument that meets its premises. -/
import Derived.Test.YtepnknffaecbdaaGreatProg
import Derived.Test.YtepnknffaecbdaaGreatVSxA
import Derived.Test.YtepnknffaecbdaaGreatVTy
import Derived.Test.YtepnknffaecbdaaGreatVPlA
import Derived.Test.YtepnknffaecbdaaGreatVF9
import Derived.Test.YtepnknffaecbdaaGreatVFB
import Derived.Test.YtepnknffaecbdaaGreatVFH
import Derived.Test.YtepnknffaecbdaaGreatVH2
import Derived.Test.YtepnknffaecbdaaGreatVHA
namespace Go.Proofs.YtepnknffaecbdaaGreat
open Go.Sx Go.Pl Go.RowKit
theorem i_recon (p : Option Addr) (xs : List Int) (c : Nat) (q : Option Addr) (rs : List Int) (d : Nat) (w : World) (hp : Sl w p xs.length c 1 (ic xs)) (hq : Sl w q rs.length d 1 (ic rs)) (hl : xs.length ≤ 64) (hs : 0 < sideOf xs.length) (hr : rs.length = xs.length) (hb : pixOk xs) :
    Calls Tryz.prog 81 [.slice p xs.length c, .slice q rs.length d].toArray w (RetP w fun v w' => ∃ p c F, v = .slice p ((recL xs rs)).length c ∧ Own w' p ((recL xs rs)).length c 3 1 (ic ((recL xs rs))) F ∧ Fr w.heap.size F) := by
 have L : Exm [] w w := Exm.rfl'
 refine enter (n := 45) Tryz.func81 rfl rfl rfl ?_
 refine wp_seq (c_reg (s0 (xaS rfl) (c_end (n_then (wp_seq (wp_seq (c_reg (s0 (xmS rfl) (s0 (x_lensl un24 rfl) ?_)))))))))
 refine sr (zcall cl76 rfl) (i_sizeOf _ _) ?_
 intro w1 l2
 have z_l2 := l2.size; have L := L.tr l2.up
 refine sb (x_eql rfl rfl) (fun h11 => ?_) (fun h11 => ?_)
 ·omega
 ·refine s0 (x_move (v := .bool _) rfl) (gt rfl rfl rfl rfl (s0 (xmS rfl) (gt rfl rfl rfl rfl (s0 (x_lensl un24 rfl) (gt rfl rfl rfl rfl (s0 (xmS rfl) (gt rfl rfl rfl rfl (s0 (x_lensl un24 rfl) (gt rfl rfl rfl rfl ?_)))))))))
  refine sb (x_neq rfl rfl) (fun h17 => ?_) (fun h17 => ?_)
  ·omega
  ·refine s0 (x_pickf (v := .bool _) rfl rfl) (s0 (x_move (v := .bool _) rfl) (gt rfl rfl rfl rfl (s0 (xmS rfl) (gt rfl rfl rfl rfl ?_))))
   refine srb (zcall cl147 rfl) (i_allWithin _ _ _ _ _ _ _ (hp.ext L) (by omega)) (fun h21 w3 l4 => ?_) (fun h21 w3 l4 => ?_)
   ·have z_l4 := l4.size
    have L := L.tr l4.up
    refine gt rfl rfl rfl rfl (s0 (x_not rfl) (s0 (x_pickf (v := .bool _) rfl rfl) (c_end (n_then (c_false rfl (c_skipn (n_then (wp_seq (c_reg (s_bs0 so24 ?_))))))))))
    intro p24 F24 w5 l6 o24 f24 g24
    have o24 : Own w5 p24 0 0 3 1 (ic []) F24 := o24; have z_l6 := l6.size; have L := L.tr l6.up
    refine s0 (xaS rfl) (c_end (n_then (wp_seq (wp_seq (c_reg (s0 (xmS rfl) (s0 (x_lensl un24 rfl) (s0 (xmI rfl) (c_end (n_then (wp_block ?_)))))))))))
    refine c_loop (γ := Nat) (fun k => xs.length - k) (fun (k : Nat) E wl => ∃ E0 pz5 cz5 Fz5, E = upd (upd (upd (upd (upd E0 1 (.slice q rs.length d)) 5 (.slice pz5 ((recK xs rs k).length) cz5)) 25 (.slice p xs.length c)) 26 (.int .i64 xs.length)) 27 (.int .i64 (k : Int)) ∧ (Exm [] w wl) ∧ (w5.heap.size ≤ wl.heap.size) ∧ (Own wl pz5 ((recK xs rs k).length) cz5 3 1 (ic (recK xs rs k)) Fz5) ∧ (Fr (w3.heap.size) Fz5) ∧ (Lt Fz5 wl.heap.size) ∧ ((k : Int) ≤ xs.length)) 0 ⟨_, _, _, _, upd_self5 rfl (slice_len rfl) rfl rfl rfl, L, (by omega), o24, (f24.mono (by omega)), (g24.mono (by omega)), (by omega)⟩ ?_
    rintro k E wl7 ⟨E0, pz5, cz5, Fz5, rfl, L, Lz, oz5, fz5, gz5, hk⟩
    have Lz0 := L.size; have hrk := recK_length xs rs k
    refine wp_seq (c_reg ?_)
    refine sb (x_lss rfl rfl) (fun h28 => ?_) (fun h28 => ?_)
    ·refine c_end (n_then (wp_seq (c_true rfl (c_skipn (n_then (wp_seq (wp_block (wp_seq (c_reg (s0 (xmI rfl) (s0 (x_idx so24 rfl rfl hp (by decide) (by omega) (by omega)) (st (x_ldi sc3 rfl (hp.ext L) (by omega) (by omega)) (s0 (xaI rfl) ?_)))))))))))))
     refine s0 (xaI rfl) (c_end (n_then ?_))
     have hpg := pix_get hb (k : Int).toNat
     refine c_reg (s0 (xmS rfl) (s0 (xmI rfl) (s0 (xmS rfl) (s0 (xmI rfl) (s0 (x_idx so24 rfl rfl hq (by decide) (by omega) (by omega)) (st (x_ldi sc3 rfl (hq.ext L) (by omega) (by omega)) ?_))))))
     refine sr (zcall cl148 rfl) (i_limited _ _ _ _) ?_
     intro w8 l9
     have z_l9 := l9.size; have L := L.tr l9.up; have oz5 := oz5.ext l9
     refine s0 (x_add rfl rfl (by omega)) ?_
     refine sr (zcall cl148 rfl) (i_limited _ _ _ _) ?_
     intro w10 l11
     have z_l11 := l11.size; have L := L.tr l11.up; have oz5 := oz5.ext l11
     refine s_bsi (xs := [_]) so24 zr3 (pts_cons rfl pts_nil) rfl rfl rfl ?_
     intro p41 F41 w12 l13 o41 f41 g41
     have z_l13 := l13.size; have L := L.tr l13.up; have oz5 := oz5.ext l13; have hn41 := o41.n1
     refine s_appi (B := w3.heap.size) so24 zr3 rfl rfl (xs := _) oz5 o41.sl fz5 (by omega) (by omega) (by omega) ?_
     intro p42 c42 F42 w14 l15 o42 hn42 k42 f42 g42
     have z_l15 := l15.size; have L := L.freshL l15 fz5 (by omega); have d41_42 : Dj F41 F42 := k42.dj (by first|assumption|exact Dj.symm (by assumption)|exact dj_of f41 g41 fz5 gz5 (by omega)) g41 (by omega)
     have o41 := o41.exm l15 (by first|assumption|exact Dj.symm (by assumption)|exact dj_of fz5 gz5 f41 g41 (by omega))
     refine s0 (xaS rfl) (c_end (n_block (n_then (c_reg (s0 (x_add rfl rfl (by omega)) (s0 (xmI rfl) (c_end ?_)))))))
     exact c_round (g' := k + 1) (by omega) ⟨_, _, _, _, upd_self5 rfl (slice_len (by simp [recK_length])) rfl rfl (vint (by omega)), L, (by omega), (by rw [recK_succ]; rw [Int.min_comm 1000000]; exact o42), (f42.mono (by omega)), (g42.mono (by omega)), (by omega)⟩
    ·refine c_end (n_then (wp_seq (c_false rfl ?_)))
     refine wp_exit (e_then (e_then (e_here ?_)))
     refine n_then (wp_seq (c_reg (s0 (xmS rfl) (s0 (xaS rfl) (c_end (n_then (wp_ret (f_ret rfl rfl ?_))))))))
     have he : recL xs rs = recK xs rs k := by unfold recL; rw [show xs.length = k by omega]
     rw [he]
     exact ⟨_, rfl, L, _, _, _, rfl, oz5, fz5.mono (by omega)⟩
   ·exact absurd hb h21

theorem i_setBlock (W H x y m : Int) (p : Option Addr) (xs : List Int) (c : Nat) (q : Option Addr) (rs : List Int) (d : Nat) (w : World) (hp : Sl w p xs.length c 1 (ic xs)) (hq : Sl w q rs.length d 1 (ic rs)) (hl : xs.length ≤ 1099511627776) (hm : sideOf rs.length = m) (hf : fitsF W H xs x y m) (hb : pixOk rs) :
    Calls Tryz.prog 80 [.agg [.int .i64 W, .int .i64 H, .slice p xs.length c].toArray, .int .i64 x, .int .i64 y, .slice q rs.length d].toArray w (RetP w fun v w' => ∃ (p' : Option Addr) (c' : Nat) (F : List Nat), v = .tuple [.agg [.int .i64 W, .int .i64 H, .slice p' xs.length c'].toArray, .bool true].toArray ∧ Own w' p' xs.length c' 3 1 (ic (setK W x y m rs xs rs.length)) F ∧ Fr w.heap.size F) := by
 have hg := fr_geo hf.1
 have hr64 : rs.length ≤ 64 := by have h0 := hf.2.1; have := side_len (n := rs.length) (by omega); omega
 have hm4 := hf.2.1; have hx := hf.2.2.1; have hy := hf.2.2.2.1
 have hrn : (rs.length : Int) = m * m := by unfold sideOf at hm; rcases hm4 with h | h <;> rw [h] at hm ⊢ <;> (split at hm; omega; split at hm <;> omega)
 have L : Exm [] w w := Exm.rfl'
 refine enter (n := 58) Tryz.func80 rfl rfl rfl ?_
 refine wp_seq (c_reg (s_box rfl rfl ?_))
 intro b1 w2 lob1 hib1 l3 B1
 have z_l3 := l3.size; have L := L.tr l3.up
 refine s_alloc zr36 ?_
 intro b4 w5 lob4 hib4 l6 B4
 have z_l6 := l6.size; have L := L.tr l6.up; have B1 := B1.ext l6
 refine s0 (x_assign (v := .bool _) rfl) (c_end (n_then (wp_seq ?_)))
 refine c_plan (fun wq => Exm [] w5 wq) 8 (.cons (0, 2) (.cons (1, 2) (.cons (3, 1) (.fork 2 5 (.fork 4 5 (.cons (5, 0) (.cons (6, 2) (.cons (7, 0) .nil))) (.cons (4, 0) (.cons (6, 2) (.cons (7, 0) .nil)))) (.cons (2, 0) (.cons (4, 0) (.cons (6, 2) (.cons (7, 0) .nil)))))))) (by kernel_rfl) (by kernel_rfl) (Exm.drew _) ?_
 obtain ⟨w7, hwd⟩ : ∃ x, x = w5.drew := ⟨_, rfl⟩
 have l8 : Ext w5 w7 := by rw [hwd]; exact Exm.drew _
 rw [← hwd]; clear hwd
 have Lq : Exm [] w5 w7 := l8.up; have qB1 := B1; have z_l8 := l8.size; have L := L.tr l8.up; have B1 := B1.ext l8; have B4 := B4.ext l8
 refine p0 rfl (xmS rfl) (p0 rfl (x_lensl un24 rfl) ?_)
 refine ps rfl (fun wq hwq => x_loadAgB ag36 rfl (qB1.ext hwq) rfl) ?_
 refine pfork ?_ ?_
 ·refine pu rfl ?_
  refine sr (zcall cl76 rfl) (i_sizeOf _ _) ?_
  intro w9 l10
  have z_l10 := l10.size; have L := L.tr l10.up; have Lq := Lq.tr l10.up; have B1 := B1.ext l10; have B4 := B4.ext l10
  refine c_end ⟨rfl, fun h hS => Lq, ?_⟩
  refine pfork ?_ ?_
  ·refine pu rfl ?_
   refine sp (zcall cl79 rfl) (i_own _ _ _ _ _ _ _ (hp.ext L) (by omega)) ?_
   rintro v18 w11 l12 ⟨p18, c18, F18, rfl, o18, f18⟩
   have z_l12 := l12.size; have L := L.tr l12.up; have Lq := Lq.tr l12.up; have B1 := B1.ext l12; have B4 := B4.ext l12; have g18 := o18.lt
   refine c_end ⟨rfl, fun h hS => Lq, ?_⟩
   refine pu rfl (s_alloc zr36 ?_)
   intro b13 w14 lob13 hib13 l15 B13
   have z_l15 := l15.size; have L := L.tr l15.up; have Lq := Lq.tr l15.up; have B1 := B1.ext l15; have B4 := B4.ext l15; have o18 := o18.ext l15
   refine c_end ⟨rfl, fun h hS => Lq, ?_⟩
   refine p0 rfl (xaI rfl) (pu rfl (s_storeAg rfl sz36 rfl rfl B13 rfl rfl rfl ?_))
   intro w16 l17 el17 B13
   have z_l17 := l17.size; have L := L.fresh l17 (by omega); have Lq := Lq.fresh l17 (by omega); have B1 := B1.ne l17 (by omega); have B4 := B4.ne l17 (by omega); have o18 := o18.ne l17 (by first|assumption|exact nin_of f18 g18 (by omega))
   refine c_end ⟨rfl, fun h hS => Lq, ?_⟩
   refine p_nil (np_normal ?_)
   refine n_then (wp_seq (wp_seq (c_reg (st (x_loadAgB ag36 rfl B1 rfl) (s0 (xmI rfl) (s0 (xmI rfl) (s0 (xmI rfl) ?_)))))))
   refine srb (zcall cl78 rfl) (i_fits _ _ _ _ _ _ _ _ _ _ (hp.ext L) (by omega)) (fun h23 w18 l19 => ?_) (fun h23 w18 l19 => ?_)
   ·have z_l19 := l19.size
    have L := L.tr l19.up; have B1 := B1.ext l19; have B4 := B4.ext l19; have B13 := B13.ext l19; have o18 := o18.ext l19
    refine s0 (x_not rfl) (s0 (x_move (v := .bool _) rfl) (gt rfl rfl rfl rfl (s0 (xmS rfl) (gt rfl rfl rfl rfl ?_))))
    refine srb (zcall cl147 rfl) (i_allWithin _ _ _ _ _ _ _ (hq.ext L) (by omega)) (fun h27 w20 l21 => ?_) (fun h27 w20 l21 => ?_)
    ·have z_l21 := l21.size
     have L := L.tr l21.up; have B1 := B1.ext l21; have B4 := B4.ext l21; have B13 := B13.ext l21; have o18 := o18.ext l21
     refine gt rfl rfl rfl rfl (s0 (x_not rfl) (s0 (x_pickf (v := .bool _) rfl rfl) (c_end (n_then (c_false rfl (c_skipn (n_then (wp_seq (wp_seq (c_reg (s0 (xmS rfl) (s0 (x_lensl un24 rfl) (s0 (xmI rfl) ?_)))))))))))))
     refine c_end (n_then (wp_block ?_))
     refine c_loop (γ := Nat) (fun k => rs.length - k) (fun (k : Nat) E wl => ∃ E0, E = upd (upd (upd (upd (upd (upd (upd (upd (upd E0 1 (.int .i64 x)) 2 (.int .i64 y)) 4 (pt b1 0)) 8 (pt b4 0)) 10 (.int .i64 m)) 11 (pt b13 0)) 31 (.slice q rs.length d)) 32 (.int .i64 rs.length)) 33 (.int .i64 (k : Int)) ∧ (Exm [] w wl) ∧ (w20.heap.size ≤ wl.heap.size) ∧ (Bx wl b1 [.int .i64 W, .int .i64 H, .slice p xs.length c] 36) ∧ (Bx wl b4 [.int .i64 0, .int .i64 0, .slice none 0 0] 36) ∧ (Bx wl b13 [.int .i64 W, .int .i64 H, .slice p18 xs.length c18] 36) ∧ (Own wl p18 xs.length c18 3 1 (ic (setK W x y m rs xs k)) F18) ∧ ((k : Int) ≤ rs.length)) 0 ⟨_, upd_self9 rfl rfl rfl rfl (vint hm) rfl rfl rfl rfl, L, (by omega), B1, B4, B13, o18, (by omega)⟩ ?_
     rintro k E wl22 ⟨E0, rfl, L, Lz, B1, B4, B13, o18, hk⟩
     have Lz0 := L.size
     refine wp_seq (c_reg ?_)
     refine sb (x_lss rfl rfl) (fun h34 => ?_) (fun h34 => ?_)
     ·refine c_end (n_then (wp_seq (c_true rfl (c_skipn (n_then (wp_seq (wp_block (wp_seq (c_reg (s0 (xmI rfl) (s0 (x_idx so24 rfl rfl hq (by decide) (by omega) (by omega)) (st (x_ldi sc3 rfl (hq.ext L) (by omega) (by omega)) (s0 (xaI rfl) ?_)))))))))))))
      refine s0 (xaI rfl) (c_end (n_then ?_))
      have hc4 := cells4 (k := k) hm4 (by omega); have hpi := pix_in (a := y + (k : Int) / m) (b := x + (k : Int) % m) hf.1 (by omega) (by omega); have hsl := setK_length W x y m rs xs k; have hmp : 0 < m := by omega
      refine c_plan (fun wq => Exm [] wl22 wq) 18 (.cons (0, 2) (.cons (1, 1) (.cons (2, 2) (.cons (3, 2) (.cons (4, 2) (.cons (5, 2) (.cons (6, 2) (.cons (7, 2) (.cons (8, 1) (.cons (9, 2) (.cons (10, 2) (.cons (11, 2) (.cons (12, 2) (.cons (13, 2) (.cons (14, 2) (.cons (15, 2) (.cons (16, 2) (.cons (17, 2) (.cons (18, 0) .nil))))))))))))))))))) (by kernel_rfl) (by kernel_rfl) (Exm.drew _) ?_
      obtain ⟨w23, hwd⟩ : ∃ x, x = wl22.drew := ⟨_, rfl⟩
      have l24 : Ext wl22 w23 := by rw [hwd]; exact Exm.drew _
      rw [← hwd]; clear hwd
      have Lq : Exm [] wl22 w23 := l24.up; have qB1 := B1; have qB13 := B13; have z_l24 := l24.size; have L := L.tr l24.up; have B1 := B1.ext l24; have B4 := B4.ext l24; have B13 := B13.ext l24; have o18 := o18.ext l24
      refine p0 rfl (x_fieldAddr fa36_2 rfl) ?_
      refine ps rfl (fun wq hwq => x_loadB sc24 rfl (qB13.ext hwq) rfl) ?_
      refine p0 rfl (xmI rfl) (p0 rfl (xmI rfl) (p0 rfl (xmI rfl) (p0 rfl (x_quo rfl rfl (by omega) (by omega)) (p0 rfl (x_add rfl rfl (by omega)) (p0 rfl (x_fieldAddr fa36_0 rfl) ?_)))))
      refine ps rfl (fun wq hwq => x_loadB sc3 rfl (qB1.ext hwq) rfl) ?_
      refine p0 rfl (x_mul rfl rfl (by omega)) (p0 rfl (xmI rfl) (p0 rfl (x_add rfl rfl (by omega)) (p0 rfl (xmI rfl) (p0 rfl (xmI rfl) (p0 rfl (x_rem rfl rfl (by omega) (by omega)) (p0 rfl (x_add rfl rfl (by omega)) (p0 rfl (xmI rfl) (p0 rfl (x_idx so24 rfl rfl o18.sl (by decide) (by omega) (by omega)) (pu rfl (s_stoi rfl sz3 rfl rfl o18 (by omega) (by omega) ?_))))))))))
      intro w25 l26 el26 o18
      have z_l26 := l26.size; have L := L.freshL l26 f18 (by omega); have B1 := B1.exm l26 (by first|assumption|exact nin_of f18 g18 (by omega))
      have B4 := B4.exm l26 (by first|assumption|exact nin_of f18 g18 (by omega))
      have B13 := B13.exm l26 (by first|assumption|exact nin_of f18 g18 (by omega))
      have hnl26 := o18.n1
      refine c_end ⟨rfl, fun h hS => absurd h (by decide), ?_⟩
      refine p_nil (np_normal ?_)
      refine n_block (n_then (c_reg (s0 (x_add rfl rfl (by omega)) (s0 (xmI rfl) (c_end ?_)))))
      have o18 := ownI o18 (ys := setK W x y m rs xs (k + 1)) (by simp only [setK, setAt]; rw [Int.toNat_natCast])
      exact c_round (g' := k + 1) (by omega) ⟨_, upd_self9 rfl rfl rfl rfl rfl rfl rfl rfl (vint (by omega)), L, (by omega), B1, B4, B13, o18, (by omega)⟩
     ·refine c_end (n_then (wp_seq (c_false rfl ?_)))
      refine wp_exit (e_then (e_then (e_here ?_)))
      refine n_then (wp_seq (c_reg (st (x_loadAgB ag36 rfl B13 rfl) (s_storeAg rfl sz36 rfl rfl B4 rfl rfl rfl ?_))))
      intro w27 l28 el28 B4
      have z_l28 := l28.size; have L := L.fresh l28 (by omega); have B1 := B1.ne l28 (by omega); have B13 := B13.ne l28 (by omega); have o18 := o18.ne l28 (by first|assumption|exact nin_of f18 g18 (by omega))
      refine s0 (x_assign (v := .bool _) rfl) (c_end (n_then (wp_ret (f_rets2 rfl (ro_cell rfl ag36 B4 rfl) (ro_tmp rfl) ?_))))
      have hke : k = rs.length := by omega
      rw [hke] at o18
      exact ⟨_, rfl, L, _, _, _, rfl, o18, f18.mono (by omega)⟩
    ·exact absurd hb h27
   ·exact absurd (by rw [hm]; exact hf) h23
  ·refine pu rfl (s_alloc zr36 ?_)
   intro b29 w30 lob29 hib29 l31 B29
   have z_l31 := l31.size; have L := L.tr l31.up; have Lq := Lq.tr l31.up; have B1 := B1.ext l31; have B4 := B4.ext l31
   refine c_end ⟨rfl, fun h hS => Lq, ?_⟩
   refine pu rfl ?_
   refine sp (zcall cl79 rfl) (i_own _ _ _ _ _ _ _ (hp.ext L) (by omega)) ?_
   rintro v18 w32 l33 ⟨p18, c18, F18, rfl, o18, f18⟩
   have z_l33 := l33.size; have L := L.tr l33.up; have Lq := Lq.tr l33.up; have B1 := B1.ext l33; have B4 := B4.ext l33; have B29 := B29.ext l33; have g18 := o18.lt
   refine c_end ⟨rfl, fun h hS => Lq, ?_⟩
   refine p0 rfl (xaI rfl) (pu rfl (s_storeAg rfl sz36 rfl rfl B29 rfl rfl rfl ?_))
   intro w34 l35 el35 B29
   have z_l35 := l35.size; have L := L.fresh l35 (by omega); have Lq := Lq.fresh l35 (by omega); have B1 := B1.ne l35 (by omega); have B4 := B4.ne l35 (by omega); have o18 := o18.ne l35 (by first|assumption|exact nin_of f18 g18 (by omega))
   refine c_end ⟨rfl, fun h hS => Lq, ?_⟩
   refine p_nil (np_normal ?_)
   refine n_then (wp_seq (wp_seq (c_reg (st (x_loadAgB ag36 rfl B1 rfl) (s0 (xmI rfl) (s0 (xmI rfl) (s0 (xmI rfl) ?_)))))))
   refine srb (zcall cl78 rfl) (i_fits _ _ _ _ _ _ _ _ _ _ (hp.ext L) (by omega)) (fun h23 w36 l37 => ?_) (fun h23 w36 l37 => ?_)
   ·have z_l37 := l37.size
    have L := L.tr l37.up; have B1 := B1.ext l37; have B4 := B4.ext l37; have B29 := B29.ext l37; have o18 := o18.ext l37
    refine s0 (x_not rfl) (s0 (x_move (v := .bool _) rfl) (gt rfl rfl rfl rfl (s0 (xmS rfl) (gt rfl rfl rfl rfl ?_))))
    refine srb (zcall cl147 rfl) (i_allWithin _ _ _ _ _ _ _ (hq.ext L) (by omega)) (fun h27 w38 l39 => ?_) (fun h27 w38 l39 => ?_)
    ·have z_l39 := l39.size
     have L := L.tr l39.up; have B1 := B1.ext l39; have B4 := B4.ext l39; have B29 := B29.ext l39; have o18 := o18.ext l39
     refine gt rfl rfl rfl rfl (s0 (x_not rfl) (s0 (x_pickf (v := .bool _) rfl rfl) (c_end (n_then (c_false rfl (c_skipn (n_then (wp_seq (wp_seq (c_reg (s0 (xmS rfl) (s0 (x_lensl un24 rfl) (s0 (xmI rfl) ?_)))))))))))))
     refine c_end (n_then (wp_block ?_))
     refine c_loop (γ := Nat) (fun k => rs.length - k) (fun (k : Nat) E wl => ∃ E0, E = upd (upd (upd (upd (upd (upd (upd (upd (upd E0 1 (.int .i64 x)) 2 (.int .i64 y)) 4 (pt b1 0)) 8 (pt b4 0)) 10 (.int .i64 m)) 11 (pt b29 0)) 31 (.slice q rs.length d)) 32 (.int .i64 rs.length)) 33 (.int .i64 (k : Int)) ∧ (Exm [] w wl) ∧ (w38.heap.size ≤ wl.heap.size) ∧ (Bx wl b1 [.int .i64 W, .int .i64 H, .slice p xs.length c] 36) ∧ (Bx wl b4 [.int .i64 0, .int .i64 0, .slice none 0 0] 36) ∧ (Bx wl b29 [.int .i64 W, .int .i64 H, .slice p18 xs.length c18] 36) ∧ (Own wl p18 xs.length c18 3 1 (ic (setK W x y m rs xs k)) F18) ∧ ((k : Int) ≤ rs.length)) 0 ⟨_, upd_self9 rfl rfl rfl rfl (vint hm) rfl rfl rfl rfl, L, (by omega), B1, B4, B29, o18, (by omega)⟩ ?_
     rintro k E wl40 ⟨E0, rfl, L, Lz, B1, B4, B29, o18, hk⟩
     have Lz0 := L.size
     refine wp_seq (c_reg ?_)
     refine sb (x_lss rfl rfl) (fun h34 => ?_) (fun h34 => ?_)
     ·refine c_end (n_then (wp_seq (c_true rfl (c_skipn (n_then (wp_seq (wp_block (wp_seq (c_reg (s0 (xmI rfl) (s0 (x_idx so24 rfl rfl hq (by decide) (by omega) (by omega)) (st (x_ldi sc3 rfl (hq.ext L) (by omega) (by omega)) (s0 (xaI rfl) ?_)))))))))))))
      refine s0 (xaI rfl) (c_end (n_then ?_))
      have hc4 := cells4 (k := k) hm4 (by omega); have hpi := pix_in (a := y + (k : Int) / m) (b := x + (k : Int) % m) hf.1 (by omega) (by omega); have hsl := setK_length W x y m rs xs k; have hmp : 0 < m := by omega
      refine c_plan (fun wq => Exm [] wl40 wq) 18 (.cons (0, 2) (.cons (1, 1) (.cons (2, 2) (.cons (3, 2) (.cons (4, 2) (.cons (5, 2) (.cons (6, 2) (.cons (7, 2) (.cons (8, 1) (.cons (9, 2) (.cons (10, 2) (.cons (11, 2) (.cons (12, 2) (.cons (13, 2) (.cons (14, 2) (.cons (15, 2) (.cons (16, 2) (.cons (17, 2) (.cons (18, 0) .nil))))))))))))))))))) (by kernel_rfl) (by kernel_rfl) (Exm.drew _) ?_
      obtain ⟨w41, hwd⟩ : ∃ x, x = wl40.drew := ⟨_, rfl⟩
      have l42 : Ext wl40 w41 := by rw [hwd]; exact Exm.drew _
      rw [← hwd]; clear hwd
      have Lq : Exm [] wl40 w41 := l42.up; have qB1 := B1; have qB29 := B29; have z_l42 := l42.size; have L := L.tr l42.up; have B1 := B1.ext l42; have B4 := B4.ext l42; have B29 := B29.ext l42; have o18 := o18.ext l42
      refine p0 rfl (x_fieldAddr fa36_2 rfl) ?_
      refine ps rfl (fun wq hwq => x_loadB sc24 rfl (qB29.ext hwq) rfl) ?_
      refine p0 rfl (xmI rfl) (p0 rfl (xmI rfl) (p0 rfl (xmI rfl) (p0 rfl (x_quo rfl rfl (by omega) (by omega)) (p0 rfl (x_add rfl rfl (by omega)) (p0 rfl (x_fieldAddr fa36_0 rfl) ?_)))))
      refine ps rfl (fun wq hwq => x_loadB sc3 rfl (qB1.ext hwq) rfl) ?_
      refine p0 rfl (x_mul rfl rfl (by omega)) (p0 rfl (xmI rfl) (p0 rfl (x_add rfl rfl (by omega)) (p0 rfl (xmI rfl) (p0 rfl (xmI rfl) (p0 rfl (x_rem rfl rfl (by omega) (by omega)) (p0 rfl (x_add rfl rfl (by omega)) (p0 rfl (xmI rfl) (p0 rfl (x_idx so24 rfl rfl o18.sl (by decide) (by omega) (by omega)) (pu rfl (s_stoi rfl sz3 rfl rfl o18 (by omega) (by omega) ?_))))))))))
      intro w43 l44 el44 o18
      have z_l44 := l44.size; have L := L.freshL l44 f18 (by omega); have B1 := B1.exm l44 (by first|assumption|exact nin_of f18 g18 (by omega))
      have B4 := B4.exm l44 (by first|assumption|exact nin_of f18 g18 (by omega))
      have B29 := B29.exm l44 (by first|assumption|exact nin_of f18 g18 (by omega))
      have hnl44 := o18.n1
      refine c_end ⟨rfl, fun h hS => absurd h (by decide), ?_⟩
      refine p_nil (np_normal ?_)
      refine n_block (n_then (c_reg (s0 (x_add rfl rfl (by omega)) (s0 (xmI rfl) (c_end ?_)))))
      have o18 := ownI o18 (ys := setK W x y m rs xs (k + 1)) (by simp only [setK, setAt]; rw [Int.toNat_natCast])
      exact c_round (g' := k + 1) (by omega) ⟨_, upd_self9 rfl rfl rfl rfl rfl rfl rfl rfl (vint (by omega)), L, (by omega), B1, B4, B29, o18, (by omega)⟩
     ·refine c_end (n_then (wp_seq (c_false rfl ?_)))
      refine wp_exit (e_then (e_then (e_here ?_)))
      refine n_then (wp_seq (c_reg (st (x_loadAgB ag36 rfl B29 rfl) (s_storeAg rfl sz36 rfl rfl B4 rfl rfl rfl ?_))))
      intro w45 l46 el46 B4
      have z_l46 := l46.size; have L := L.fresh l46 (by omega); have B1 := B1.ne l46 (by omega); have B29 := B29.ne l46 (by omega); have o18 := o18.ne l46 (by first|assumption|exact nin_of f18 g18 (by omega))
      refine s0 (x_assign (v := .bool _) rfl) (c_end (n_then (wp_ret (f_rets2 rfl (ro_cell rfl ag36 B4 rfl) (ro_tmp rfl) ?_))))
      have hke : k = rs.length := by omega
      rw [hke] at o18
      exact ⟨_, rfl, L, _, _, _, rfl, o18, f18.mono (by omega)⟩
    ·exact absurd hb h27
   ·exact absurd (by rw [hm]; exact hf) h23
 ·refine pu rfl (s_alloc zr36 ?_)
  intro b47 w48 lob47 hib47 l49 B47
  have z_l49 := l49.size; have L := L.tr l49.up; have Lq := Lq.tr l49.up; have B1 := B1.ext l49; have B4 := B4.ext l49
  refine c_end ⟨rfl, fun h hS => Lq, ?_⟩
  refine pu rfl ?_
  refine sr (zcall cl76 rfl) (i_sizeOf _ _) ?_
  intro w50 l51
  have z_l51 := l51.size; have L := L.tr l51.up; have Lq := Lq.tr l51.up; have B1 := B1.ext l51; have B4 := B4.ext l51; have B47 := B47.ext l51
  refine c_end ⟨rfl, fun h hS => Lq, ?_⟩
  refine pu rfl ?_
  refine sp (zcall cl79 rfl) (i_own _ _ _ _ _ _ _ (hp.ext L) (by omega)) ?_
  rintro v18 w52 l53 ⟨p18, c18, F18, rfl, o18, f18⟩
  have z_l53 := l53.size; have L := L.tr l53.up; have Lq := Lq.tr l53.up; have B1 := B1.ext l53; have B4 := B4.ext l53; have B47 := B47.ext l53; have g18 := o18.lt
  refine c_end ⟨rfl, fun h hS => Lq, ?_⟩
  refine p0 rfl (xaI rfl) (pu rfl (s_storeAg rfl sz36 rfl rfl B47 rfl rfl rfl ?_))
  intro w54 l55 el55 B47
  have z_l55 := l55.size; have L := L.fresh l55 (by omega); have Lq := Lq.fresh l55 (by omega); have B1 := B1.ne l55 (by omega); have B4 := B4.ne l55 (by omega); have o18 := o18.ne l55 (by first|assumption|exact nin_of f18 g18 (by omega))
  refine c_end ⟨rfl, fun h hS => Lq, ?_⟩
  refine p_nil (np_normal ?_)
  refine n_then (wp_seq (wp_seq (c_reg (st (x_loadAgB ag36 rfl B1 rfl) (s0 (xmI rfl) (s0 (xmI rfl) (s0 (xmI rfl) ?_)))))))
  refine srb (zcall cl78 rfl) (i_fits _ _ _ _ _ _ _ _ _ _ (hp.ext L) (by omega)) (fun h23 w56 l57 => ?_) (fun h23 w56 l57 => ?_)
  ·have z_l57 := l57.size
   have L := L.tr l57.up; have B1 := B1.ext l57; have B4 := B4.ext l57; have B47 := B47.ext l57; have o18 := o18.ext l57
   refine s0 (x_not rfl) (s0 (x_move (v := .bool _) rfl) (gt rfl rfl rfl rfl (s0 (xmS rfl) (gt rfl rfl rfl rfl ?_))))
   refine srb (zcall cl147 rfl) (i_allWithin _ _ _ _ _ _ _ (hq.ext L) (by omega)) (fun h27 w58 l59 => ?_) (fun h27 w58 l59 => ?_)
   ·have z_l59 := l59.size
    have L := L.tr l59.up; have B1 := B1.ext l59; have B4 := B4.ext l59; have B47 := B47.ext l59; have o18 := o18.ext l59
    refine gt rfl rfl rfl rfl (s0 (x_not rfl) (s0 (x_pickf (v := .bool _) rfl rfl) (c_end (n_then (c_false rfl (c_skipn (n_then (wp_seq (wp_seq (c_reg (s0 (xmS rfl) (s0 (x_lensl un24 rfl) (s0 (xmI rfl) ?_)))))))))))))
    refine c_end (n_then (wp_block ?_))
    refine c_loop (γ := Nat) (fun k => rs.length - k) (fun (k : Nat) E wl => ∃ E0, E = upd (upd (upd (upd (upd (upd (upd (upd (upd E0 1 (.int .i64 x)) 2 (.int .i64 y)) 4 (pt b1 0)) 8 (pt b4 0)) 10 (.int .i64 m)) 11 (pt b47 0)) 31 (.slice q rs.length d)) 32 (.int .i64 rs.length)) 33 (.int .i64 (k : Int)) ∧ (Exm [] w wl) ∧ (w58.heap.size ≤ wl.heap.size) ∧ (Bx wl b1 [.int .i64 W, .int .i64 H, .slice p xs.length c] 36) ∧ (Bx wl b4 [.int .i64 0, .int .i64 0, .slice none 0 0] 36) ∧ (Bx wl b47 [.int .i64 W, .int .i64 H, .slice p18 xs.length c18] 36) ∧ (Own wl p18 xs.length c18 3 1 (ic (setK W x y m rs xs k)) F18) ∧ ((k : Int) ≤ rs.length)) 0 ⟨_, upd_self9 rfl rfl rfl rfl (vint hm) rfl rfl rfl rfl, L, (by omega), B1, B4, B47, o18, (by omega)⟩ ?_
    rintro k E wl60 ⟨E0, rfl, L, Lz, B1, B4, B47, o18, hk⟩
    have Lz0 := L.size
    refine wp_seq (c_reg ?_)
    refine sb (x_lss rfl rfl) (fun h34 => ?_) (fun h34 => ?_)
    ·refine c_end (n_then (wp_seq (c_true rfl (c_skipn (n_then (wp_seq (wp_block (wp_seq (c_reg (s0 (xmI rfl) (s0 (x_idx so24 rfl rfl hq (by decide) (by omega) (by omega)) (st (x_ldi sc3 rfl (hq.ext L) (by omega) (by omega)) (s0 (xaI rfl) ?_)))))))))))))
     refine s0 (xaI rfl) (c_end (n_then ?_))
     have hc4 := cells4 (k := k) hm4 (by omega); have hpi := pix_in (a := y + (k : Int) / m) (b := x + (k : Int) % m) hf.1 (by omega) (by omega); have hsl := setK_length W x y m rs xs k; have hmp : 0 < m := by omega
     refine c_plan (fun wq => Exm [] wl60 wq) 18 (.cons (0, 2) (.cons (1, 1) (.cons (2, 2) (.cons (3, 2) (.cons (4, 2) (.cons (5, 2) (.cons (6, 2) (.cons (7, 2) (.cons (8, 1) (.cons (9, 2) (.cons (10, 2) (.cons (11, 2) (.cons (12, 2) (.cons (13, 2) (.cons (14, 2) (.cons (15, 2) (.cons (16, 2) (.cons (17, 2) (.cons (18, 0) .nil))))))))))))))))))) (by kernel_rfl) (by kernel_rfl) (Exm.drew _) ?_
     obtain ⟨w61, hwd⟩ : ∃ x, x = wl60.drew := ⟨_, rfl⟩
     have l62 : Ext wl60 w61 := by rw [hwd]; exact Exm.drew _
     rw [← hwd]; clear hwd
     have Lq : Exm [] wl60 w61 := l62.up; have qB1 := B1; have qB47 := B47; have z_l62 := l62.size; have L := L.tr l62.up; have B1 := B1.ext l62; have B4 := B4.ext l62; have B47 := B47.ext l62; have o18 := o18.ext l62
     refine p0 rfl (x_fieldAddr fa36_2 rfl) ?_
     refine ps rfl (fun wq hwq => x_loadB sc24 rfl (qB47.ext hwq) rfl) ?_
     refine p0 rfl (xmI rfl) (p0 rfl (xmI rfl) (p0 rfl (xmI rfl) (p0 rfl (x_quo rfl rfl (by omega) (by omega)) (p0 rfl (x_add rfl rfl (by omega)) (p0 rfl (x_fieldAddr fa36_0 rfl) ?_)))))
     refine ps rfl (fun wq hwq => x_loadB sc3 rfl (qB1.ext hwq) rfl) ?_
     refine p0 rfl (x_mul rfl rfl (by omega)) (p0 rfl (xmI rfl) (p0 rfl (x_add rfl rfl (by omega)) (p0 rfl (xmI rfl) (p0 rfl (xmI rfl) (p0 rfl (x_rem rfl rfl (by omega) (by omega)) (p0 rfl (x_add rfl rfl (by omega)) (p0 rfl (xmI rfl) (p0 rfl (x_idx so24 rfl rfl o18.sl (by decide) (by omega) (by omega)) (pu rfl (s_stoi rfl sz3 rfl rfl o18 (by omega) (by omega) ?_))))))))))
     intro w63 l64 el64 o18
     have z_l64 := l64.size; have L := L.freshL l64 f18 (by omega); have B1 := B1.exm l64 (by first|assumption|exact nin_of f18 g18 (by omega))
     have B4 := B4.exm l64 (by first|assumption|exact nin_of f18 g18 (by omega))
     have B47 := B47.exm l64 (by first|assumption|exact nin_of f18 g18 (by omega))
     have hnl64 := o18.n1
     refine c_end ⟨rfl, fun h hS => absurd h (by decide), ?_⟩
     refine p_nil (np_normal ?_)
     refine n_block (n_then (c_reg (s0 (x_add rfl rfl (by omega)) (s0 (xmI rfl) (c_end ?_)))))
     have o18 := ownI o18 (ys := setK W x y m rs xs (k + 1)) (by simp only [setK, setAt]; rw [Int.toNat_natCast])
     exact c_round (g' := k + 1) (by omega) ⟨_, upd_self9 rfl rfl rfl rfl rfl rfl rfl rfl (vint (by omega)), L, (by omega), B1, B4, B47, o18, (by omega)⟩
    ·refine c_end (n_then (wp_seq (c_false rfl ?_)))
     refine wp_exit (e_then (e_then (e_here ?_)))
     refine n_then (wp_seq (c_reg (st (x_loadAgB ag36 rfl B47 rfl) (s_storeAg rfl sz36 rfl rfl B4 rfl rfl rfl ?_))))
     intro w65 l66 el66 B4
     have z_l66 := l66.size; have L := L.fresh l66 (by omega); have B1 := B1.ne l66 (by omega); have B47 := B47.ne l66 (by omega); have o18 := o18.ne l66 (by first|assumption|exact nin_of f18 g18 (by omega))
     refine s0 (x_assign (v := .bool _) rfl) (c_end (n_then (wp_ret (f_rets2 rfl (ro_cell rfl ag36 B4 rfl) (ro_tmp rfl) ?_))))
     have hke : k = rs.length := by omega
     rw [hke] at o18
     exact ⟨_, rfl, L, _, _, _, rfl, o18, f18.mono (by omega)⟩
   ·exact absurd hb h27
  ·exact absurd (by rw [hm]; exact hf) h23

end Go.Proofs.YtepnknffaecbdaaGreat
