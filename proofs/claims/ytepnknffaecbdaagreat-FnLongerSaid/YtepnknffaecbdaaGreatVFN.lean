/- What each function of this part returns, for every argument that meets its premises. -/
import Derived.Test.YtepnknffaecbdaaGreatProg
import Derived.Test.YtepnknffaecbdaaGreatVSxA
import Derived.Test.YtepnknffaecbdaaGreatVTy
import Derived.Test.YtepnknffaecbdaaGreatVPlA
import Derived.Test.YtepnknffaecbdaaGreatVF1
import Derived.Test.YtepnknffaecbdaaGreatVF7
import Derived.Test.YtepnknffaecbdaaGreatVF8
import Derived.Test.YtepnknffaecbdaaGreatVF9
import Derived.Test.YtepnknffaecbdaaGreatVFF
import Derived.Test.YtepnknffaecbdaaGreatVFJ
import Derived.Test.YtepnknffaecbdaaGreatVFK
import Derived.Test.YtepnknffaecbdaaGreatVFM
namespace Go.Proofs.YtepnknffaecbdaaGreat
open Go.Sx Go.Pl Go.RowKit
theorem s_mbBits (e : Bool) (p : Option Addr) (bs : List Bk) (c : Nat) (r : Option Addr) (xs : List Int) (d : Nat) (w : World) (hp : RdBs w p bs c) (hx : Sl w r xs.length d 1 (ic xs)) (hl : bs.length ≤ 1099511627776) (hb : ∀ b ∈ bs, b.lv.length ≤ 1099511627776) (hl2 : xs.length ≤ 1099511627776) :
    Calls Tryz.prog 39 [.agg [.bool e, .slice p bs.length c].toArray, .slice r xs.length d].toArray w (RetP w fun v w' => ∃ p c F, v = .slice p (mbBits e (bs.map Bk.pl) xs).length c ∧ Own w' p (mbBits e (bs.map Bk.pl) xs).length c 3 1 (ic (mbBits e (bs.map Bk.pl) xs)) F ∧ Fr w.heap.size F) := by
 have L : Exm [] w w := Exm.rfl'
 refine enter (n := 39) Tryz.func39 rfl rfl rfl ?_
 refine wp_seq (c_reg (s_box rfl rfl ?_))
 intro b1 w2 lob1 hib1 l3 B1
 have z_l3 := l3.size; have L := L.tr l3.up
 refine s0 (xaS rfl) (c_end (n_then (wp_seq (c_reg (s_bs0 so24 ?_)))))
 intro p7 F7 w4 l5 o7 f7 g7
 have o7 : Own w4 p7 0 0 3 1 (ic []) F7 := o7; have z_l5 := l5.size; have L := L.tr l5.up; have B1 := B1.ext l5
 refine s0 (xaS rfl) (c_end (n_then (wp_seq (wp_seq (c_reg (st (x_loadAgB ag34 rfl B1 rfl) (s0 (xmS rfl) ?_)))))))
 refine srb (zcall cl29 rfl) (s_mbOk _ _ _ _ _ _ _ _ (hp.ext L) (hx.ext L) (by omega) hb (by omega)) (fun h10 w6 l7 => ?_) (fun h10 w6 l7 => ?_)
 ·have z_l7 := l7.size
  have L := L.tr l7.up; have B1 := B1.ext l7; have o7 := o7.ext l7
  refine s0 (x_not rfl) (c_end (n_then (c_false rfl (c_skipn (n_then (wp_seq (c_reg (s0 (xmS rfl) (s0 (x_fieldAddr fa34_0 rfl) (st (x_loadB sc4 rfl B1 rfl) ?_))))))))))
  refine sr (zcall cl88 rfl) (s_flag _ _) ?_
  intro w8 l9
  have z_l9 := l9.size; have L := L.tr l9.up; have B1 := B1.ext l9; have o7 := o7.ext l9
  refine s_bsi (xs := [_]) so24 zr3 (pts_cons rfl pts_nil) rfl rfl rfl ?_
  intro p17 F17 w10 l11 o17 f17 g17
  have z_l11 := l11.size; have L := L.tr l11.up; have B1 := B1.ext l11; have o7 := o7.ext l11; have hn17 := o17.n1
  refine s_appi (B := w2.heap.size) so24 zr3 rfl rfl (xs := _) o7 o17.sl f7 (by omega) (by omega) (by omega) ?_
  intro p18 c18 F18 w12 l13 o18 hn18 k18 f18 g18
  have ab1_18 : b1 ∉ F18 := k18.nin (by first|assumption|exact nin_of f7 g7 (by omega)) (by omega)
  have B1 := B1.exm l13 (by first|assumption|exact nin_of f7 g7 (by omega))
  have z_l13 := l13.size; have L := L.freshL l13 f7 (by omega); have d17_18 : Dj F17 F18 := k18.dj (by first|assumption|exact Dj.symm (by assumption)|exact dj_of f17 g17 f7 g7 (by omega)) g17 (by omega)
  have o17 := o17.exm l13 (by first|assumption|exact Dj.symm (by assumption)|exact dj_of f7 g7 f17 g17 (by omega))
  refine s0 (xaS rfl) (c_end (n_then (wp_seq (wp_seq (c_reg (s0 (xaI rfl) (c_end (n_then (wp_block ?_)))))))))
  refine c_loop (γ := Nat) (fun k => bs.length - k) (fun (k : Nat) E wl => ∃ E0 pz5 cz5 Fz5, E = upd (upd (upd (upd E0 1 (.slice r xs.length d)) 2 (pt b1 0)) 5 (.slice pz5 ((mbA e (bs.map Bk.pl) xs k).length) cz5)) 6 (.int .i64 (k : Int)) ∧ (Exm [] w wl) ∧ (w12.heap.size ≤ wl.heap.size) ∧ (Bx wl b1 [.bool e, .slice p bs.length c] 34) ∧ (Own wl pz5 ((mbA e (bs.map Bk.pl) xs k).length) cz5 3 1 (ic (mbA e (bs.map Bk.pl) xs k)) Fz5) ∧ (Fr (w2.heap.size) Fz5) ∧ (Lt Fz5 wl.heap.size) ∧ (b1 ∉ Fz5) ∧ ((k : Int) ≤ bs.length)) 0 ⟨_, _, _, _, upd_self4 rfl rfl (slice_len (by rw [mbA_zero]; rfl)) rfl, L, (by omega), B1, (own_eq (mbA_zero e (bs.map Bk.pl) xs).symm o18), (f18.mono (by omega)), (g18.mono (by omega)), (by first|assumption|exact nin_of f18 g18 (by omega)), (by omega)⟩ ?_
  rintro k E wl14 ⟨E0, pz5, cz5, Fz5, rfl, L, Lz, B1, oz5, fz5, gz5, ab1_z5, hk⟩
  have Lz0 := L.size; have hml := mbA_len e (bs.map Bk.pl) xs k
  have hb4 := (mb_many h10); rw [List.length_map] at hb4
  refine wp_seq (wp_seq (c_reg (s0 (xmI rfl) (s0 (x_fieldAddr fa34_1 rfl) (st (x_loadB sc32 rfl B1 rfl) (s0 (x_lensl un32 rfl) ?_))))))
  refine sb (x_lss rfl rfl) (fun h23 => ?_) (fun h23 => ?_)
  ·refine c_end (n_then (c_true rfl (c_skipn (n_then (wp_seq (wp_block ?_))))))
   have hbk := hb _ (getD_mem (xs := bs) (i := (k : Int)) (by omega) (by omega)); have hbl4 := blockBits_le (bs.getD (k : Int).toNat default).mode (bs.getD (k : Int).toNat default).lv xs (side e)
   refine c_plan (fun wq => Exm [] wl14 wq) 11 (.cons (0, 2) (.cons (1, 2) (.cons (2, 1) (.cons (3, 2) (.cons (4, 2) (.cons (5, 1) (.cons (6, 2) (.cons (7, 2) (.cons (8, 1) (.cons (9, 0) (.cons (10, 0) (.cons (11, 0) (.cons (12, 0) .nil))))))))))))) (by kernel_rfl) (by kernel_rfl) (Exm.drew _) ?_
   obtain ⟨w15, hwd⟩ : ∃ x, x = wl14.drew := ⟨_, rfl⟩
   have l16 : Ext wl14 w15 := by rw [hwd]; exact Exm.drew _
   rw [← hwd]; clear hwd
   have Lq : Exm [] wl14 w15 := l16.up; have qB1 := B1; have qL := L; have z_l16 := l16.size; have L := L.tr l16.up; have B1 := B1.ext l16; have oz5 := oz5.ext l16
   refine p0 rfl (xmS rfl) (p0 rfl (x_fieldAddr fa34_1 rfl) ?_)
   refine ps rfl (fun wq hwq => x_loadB sc32 rfl (qB1.ext hwq) rfl) ?_
   refine p0 rfl (xmI rfl) (p0 rfl (x_idx so32 rfl rfl hp.1 (by decide) (by omega) (by omega)) ?_)
   refine ps rfl (fun wq hwq => x_ldr brow_len ag71 rfl ((hp.1.ext qL).ext hwq) (by omega) (by omega)) ?_
   refine p0 rfl (xmS rfl) (p0 rfl (x_fieldAddr fa34_0 rfl) ?_)
   refine ps rfl (fun wq hwq => x_loadB sc4 rfl (qB1.ext hwq) rfl) ?_
   refine pu rfl ?_
   refine sr (zcall cl49 rfl) (s_side _ _) ?_
   intro w17 l18
   have z_l18 := l18.size; have L := L.tr l18.up; have Lq := Lq.tr l18.up; have B1 := B1.ext l18; have oz5 := oz5.ext l18
   refine c_end ⟨rfl, fun h hS => Lq, ?_⟩
   refine pu rfl ?_
   refine sp (zcall cl89 rfl) (s_blockBits _ _ _ _ _ _ _ _ _ (hx.ext L) (by omega) ((hp.2 _ (getD_mem (by omega) (by omega))).ext L) (by omega)) ?_
   rintro v36 w19 l20 ⟨p36, c36, F36, rfl, o36, f36⟩
   have z_l20 := l20.size; have L := L.tr l20.up; have Lq := Lq.tr l20.up; have B1 := B1.ext l20; have oz5 := oz5.ext l20; have g36 := o36.lt
   refine c_end ⟨rfl, fun h hS => Lq, ?_⟩
   refine pu rfl (s_appi (B := w2.heap.size) so24 zr3 rfl rfl (xs := _) oz5 o36.sl fz5 (by omega) (by omega) (by omega) ?_)
   intro p37 c37 F37 w21 l22 o37 hn37 k37 f37 g37
   have ab1_37 : b1 ∉ F37 := k37.nin (by first|assumption|exact nin_of fz5 gz5 (by omega)) (by omega)
   have B1 := B1.exm l22 (by first|assumption|exact nin_of fz5 gz5 (by omega))
   have z_l22 := l22.size; have L := L.freshL l22 fz5 (by omega); have d36_37 : Dj F36 F37 := k37.dj (by first|assumption|exact Dj.symm (by assumption)|exact dj_of f36 g36 fz5 gz5 (by omega)) g36 (by omega)
   have o36 := o36.exm l22 (by first|assumption|exact Dj.symm (by assumption)|exact dj_of fz5 gz5 f36 g36 (by omega))
   refine c_end ⟨rfl, fun h hS => absurd h (by decide), ?_⟩
   refine pu rfl (s0 (xaS rfl) ?_)
   refine c_end ⟨rfl, fun h hS => absurd h (by decide), ?_⟩
   refine p_nil (np_normal ?_)
   refine n_block (n_then (c_reg (s0 (xmI rfl) (s0 (x_add rfl rfl (by omega)) (s0 (xaI rfl) (c_end ?_))))))
   exact c_round (g' := k + 1) (by omega) ⟨_, _, _, _, upd_self4 rfl rfl (slice_len (by rw [mbA_succ (by omega), Int.toNat_natCast])) (vint (by omega)), L, (by omega), B1, (by rw [mbA_succ (by omega)]; rw [Int.toNat_natCast] at o37; exact o37), (f37.mono (by omega)), (g37.mono (by omega)), (by first|assumption|exact nin_of f37 g37 (by omega)), (by omega)⟩
  ·refine c_end (n_then (c_false rfl ?_))
   refine wp_exit (e_then (e_then (e_here ?_)))
   refine n_then (wp_seq (c_reg (s0 (xmS rfl) (s0 (xaS rfl) (c_end (n_then (wp_ret (f_ret rfl rfl ?_))))))))
   rw [mb_yes h10 (k := k) (by rw [List.length_map]; omega)]
   exact ⟨_, rfl, L, _, _, _, rfl, oz5, fz5.mono (by omega)⟩
 ·have z_l7 := l7.size
  have L := L.tr l7.up; have o7 := o7.ext l7
  refine s0 (x_not rfl) (c_end (n_then (c_true rfl (wp_seq (c_reg (s0 (xmS rfl) (s0 (xaS rfl) (c_end (n_then ?_)))))))))
  refine wp_ret (r_then ?_)
  refine f_ret rfl rfl ?_
  rw [mb_no h10]
  exact ⟨_, rfl, L, _, _, _, rfl, o7, f7.mono (by omega)⟩

theorem s_numOf (p : Option Addr) (n c : Nat) (xs : List Int) (w : World) (hp : Sl w p n c 1 (ic xs)) (hl : n ≤ 1099511627776) :
    Calls Tryz.prog 157 [.slice p n c].toArray w (RetP w fun v w' => ∃ x : Int, v = .tuple [.int .i64 x, .bool (decide (numOk xs))].toArray ∧ (numOk xs → x = numl xs)) := by
 have hn := hp.n; have L : Exm [] w w := Exm.rfl'
 refine enter (n := 30) Tryz.func157 rfl rfl rfl ?_
 refine wp_seq (c_reg (s0 (xaI rfl) (s0 (x_assign (v := .bool _) rfl) (c_end (n_then (wp_seq (c_reg (s0 (xaI rfl) (c_end (n_then (wp_seq (wp_seq (c_reg ?_)))))))))))))
 refine s0 (xaI rfl) (c_end (n_then (wp_block ?_)))
 refine c_loop (γ := Nat) (fun k => n - k) (fun (k : Nat) E wl => ∃ E0, E = upd (upd (upd E0 0 (.slice p n c)) 4 (.int .i64 (numl (xs.take k)))) 5 (.int .i64 (k : Int)) ∧ (Exm [] w wl) ∧ ((k : Int) ≤ n) ∧ (k ≤ 48) ∧ (∀ j : Nat, j < k → xs.getD j 0 = 0 ∨ xs.getD j 0 = 1)) 0 ⟨_, upd_self3 rfl rfl rfl, L, (by omega), (by omega), (by intro j hj; omega)⟩ ?_
 rintro k E wl1 ⟨E0, rfl, L, hk, hk8, hall⟩
 have Lz0 := L.size; have hnr := numl_take_range hk8 hall (by omega)
 refine wp_seq (wp_seq (c_reg (s0 (xmI rfl) (s0 (xmS rfl) (s0 (x_lensl un24 rfl) ?_)))))
 refine sb (x_lss rfl rfl) (fun h9 => ?_) (fun h9 => ?_)
 ·refine c_end (n_then (c_true rfl (c_skipn (n_then (wp_seq (wp_block (wp_seq (wp_seq (c_reg (s0 (xmS rfl) (s0 (xmI rfl) (s0 (x_idx so24 rfl rfl hp (by decide) (by omega) (by omega)) (st (x_ldi sc3 rfl (hp.ext L) (by omega) (by omega)) ?_)))))))))))))
  refine srb (zcall cl85 rfl) (s_l1In _ _ _ _) (fun h16 w2 l3 => ?_) (fun h16 w2 l3 => ?_)
  ·have z_l3 := l3.size
   have L := L.tr l3.up
   refine s0 (x_not rfl) (s0 (x_move (v := .bool _) rfl) (gt rfl rfl rfl rfl (s0 (xmI rfl) (gt rfl rfl rfl rfl ?_))))
   refine sb (x_geq rfl rfl) (fun h20 => ?_) (fun h20 => ?_)
   ·refine s0 (x_pickf (v := .bool _) rfl rfl) (c_end (n_then (c_true rfl (wp_seq (c_reg (s0 (xaI rfl) (s0 (x_assign (v := .bool _) rfl) (c_end (n_then ?_)))))))))
    refine wp_ret (r_then (r_block (r_then (r_then (r_block (r_then ?_))))))
    refine f_rets2 rfl (ro_tmp rfl) (ro_tmp rfl) ?_
    have hno : ¬ numOk xs := fun h => by have := h.2; omega
    rw [decide_eq_false hno]
    exact ⟨_, rfl, L, _, rfl, fun h => absurd h hno⟩
   ·refine s0 (x_pickf (v := .bool _) rfl rfl) (c_end (n_then (c_false rfl (c_skipn (n_then (c_reg (s0 (xmI rfl) (s0 (x_mul rfl rfl (by omega)) (s0 (xmS rfl) (s0 (xmI rfl) (s0 (x_idx so24 rfl rfl hp (by decide) (by omega) (by omega)) (st (x_ldi sc3 rfl (hp.ext L) (by omega) (by omega)) (s0 (x_add rfl rfl (by omega)) ?_)))))))))))))
    refine s0 (xaI rfl) (c_end (n_block (n_then (c_reg (s0 (xmI rfl) (s0 (x_add rfl rfl (by omega)) (s0 (xaI rfl) (c_end ?_))))))))
    rw [Int.toNat_natCast] at h16
    have hnt := numl_take (b := xs) (k := k) (by omega)
    exact c_round (g' := k + 1) (by omega) ⟨_, upd_self3 rfl (vint (by rw [hnt, Int.toNat_natCast])) (vint (by omega)), L, (by omega), (by omega), (upto_succ' hall (by omega))⟩
  ·have z_l3 := l3.size
   have L := L.tr l3.up
   refine s0 (x_not rfl) (s0 (x_move (v := .bool _) rfl) (gf rfl rfl rfl rfl (gf rfl rfl rfl rfl (s0 (x_pickt (v := .bool _) rfl rfl) (c_end (n_then (c_true rfl (wp_seq (c_reg (s0 (xaI rfl) (s0 (x_assign (v := .bool _) rfl) (c_end (n_then ?_)))))))))))))
   refine wp_ret (r_then (r_block (r_then (r_then (r_block (r_then ?_))))))
   refine f_rets2 rfl (ro_tmp rfl) (ro_tmp rfl) ?_
   have hno : ¬ numOk xs := fun h => h16 (by have := isBits_get h.1 ((k : Int)).toNat; omega)
   rw [decide_eq_false hno]
   exact ⟨_, rfl, L, _, rfl, fun h => absurd h hno⟩
 ·refine c_end (n_then (c_false rfl ?_))
  refine wp_exit (e_then (e_then (e_here ?_)))
  refine n_then (wp_seq (c_reg (s0 (xmI rfl) (s0 (xaI rfl) (s0 (x_assign (v := .bool _) rfl) (c_end (n_then (wp_ret (f_rets2 rfl (ro_tmp rfl) (ro_tmp rfl) ?_)))))))))
  have hy : numOk xs := ⟨isBits_upto fun j hj => hall j (by omega), by omega⟩
  rw [decide_eq_true hy]
  exact ⟨_, rfl, L, _, rfl, fun _ => by rw [List.take_of_length_le (by omega)]⟩

theorem s_bytesOf (p : Option Addr) (xs : List Int) (c : Nat) (w : World) (hp : Sl w p xs.length c 1 (ic xs)) (hl : xs.length ≤ 1099511627776) :
    Calls Tryz.prog 90 [.slice p xs.length c].toArray w (Ret w (.tuple [.string (bytesStr xs), .bool (decide (byOk xs))].toArray)) := by
 have L : Exm [] w w := Exm.rfl'
 refine enter (n := 37) Tryz.func90 rfl rfl rfl ?_
 refine wp_seq (c_reg (s0 (x_assign (v := .string _) rfl) (s0 (x_assign (v := .bool _) rfl) (c_end (n_then (wp_seq (c_reg (s_bs0 so22 ?_))))))))
 intro p8 F8 w1 l2 o8 f8 g8
 have o8 : Own w1 p8 0 0 5 1 (bc []) F8 := o8; have z_l2 := l2.size; have L := L.tr l2.up
 refine s0 (xaS rfl) (c_end (n_then (wp_seq (wp_seq (c_reg (s0 (xmS rfl) (s0 (x_lensl un24 rfl) (s0 (x_rem rfl rfl (by omega) (by omega)) ?_))))))))
 refine sb (x_neq rfl rfl) (fun h12 => ?_) (fun h12 => ?_)
 ·refine c_end (n_then (c_true rfl (wp_seq (c_reg (s0 (x_assign (v := .string _) rfl) (s0 (x_assign (v := .bool _) rfl) (c_end (n_then ?_))))))))
  refine wp_ret (r_then ?_)
  refine f_rets2 rfl (ro_tmp rfl) (ro_tmp rfl) ?_
  exact ⟨by_no (fun h => by have := h.2; omega), L⟩
 ·refine c_end (n_then (c_false rfl (c_skipn (n_then (wp_seq (wp_seq (c_reg (s0 (xaI rfl) (c_end (n_then (wp_block ?_)))))))))))
  refine c_loop (γ := Nat) (fun k => xs.length - k) (fun (k : Nat) E wl => ∃ E0 pz4 cz4 Fz4, E = upd (upd (upd E0 0 (.slice p xs.length c)) 4 (.slice pz4 (((bytesl xs).take k).length) cz4)) 5 (.int .i64 (8 * (k : Int))) ∧ (Exm [] w wl) ∧ (w1.heap.size ≤ wl.heap.size) ∧ (Own wl pz4 (((bytesl xs).take k).length) cz4 5 1 (bc ((bytesl xs).take k)) Fz4) ∧ (Fr (w.heap.size) Fz4) ∧ (Lt Fz4 wl.heap.size) ∧ (8 * (k : Int) ≤ xs.length) ∧ (isBits (xs.take (8 * k)))) 0 ⟨_, _, _, _, upd_self3 rfl (slice_len rfl) rfl, L, (by omega), o8, (f8.mono (by omega)), (g8.mono (by omega)), (by omega), (by intro x hx; simp at hx)⟩ ?_
  rintro k E wl3 ⟨E0, pz4, cz4, Fz4, rfl, L, Lz, oz4, fz4, gz4, hk, hall⟩
  have Lz0 := L.size; have hlt : ((bytesl xs).take k).length ≤ k := List.length_take_le _ _; have hl8 := bytesl_length xs
  refine wp_seq (wp_seq (c_reg (s0 (xmI rfl) (s0 (xmS rfl) (s0 (x_lensl un24 rfl) ?_)))))
  refine sb (x_lss rfl rfl) (fun h16 => ?_) (fun h16 => ?_)
  ·refine c_end (n_then (c_true rfl (c_skipn (n_then (wp_seq (wp_block (wp_seq (c_reg (s0 (xmS rfl) (s0 (xmI rfl) (s0 (xmI rfl) (s0 (x_add rfl rfl (by omega)) (s0 (x_cutr so24 (hp.ext L).r (by omega) rfl rfl rfl (by omega) (by omega) (by omega)) ?_)))))))))))))
   refine sp (zcall cl157 rfl) (s_numOf _ _ _ _ _ ((hp.ext L).cuti (by omega) (by omega)) (by rw [List.length_take]; omega)) ?_
   rintro v25 w4 l5 ⟨x25, rfl, hx25⟩
   have z_l5 := l5.size; have L := L.tr l5.up; have oz4 := oz4.ext l5
   refine s0 (x_move (v := .tuple _) rfl) (s0 (x_extract rfl rfl) ?_)
   refine sb (x_extract rfl rfl) (fun h27 => ?_) (fun h27 => ?_)
   ·refine s0 (xaI rfl) (s0 (x_assign (v := .bool _) rfl) (c_end (n_then (wp_seq (wp_seq (c_reg (s0 (x_move (v := .bool _) rfl) (s0 (x_not rfl) (c_end (n_then (c_false rfl (c_skipn (n_then ?_)))))))))))))
    refine c_reg (s0 (xmS rfl) (s0 (xmI rfl) (s0 (x_convk us3 un5 rfl) ?_)))
    refine s_bsb (xs := [_]) so22 zr5 (pts_cons rfl pts_nil) rfl rfl rfl ?_
    intro p33 F33 w6 l7 o33 f33 g33
    have z_l7 := l7.size; have L := L.tr l7.up; have oz4 := oz4.ext l7; have hn33 := o33.nb
    refine s_appb (B := w.heap.size) so22 zr5 rfl rfl (xs := _) oz4 o33.sl fz4 (by omega) (by omega) (by omega) ?_
    intro p34 c34 F34 w8 l9 o34 hn34 k34 f34 g34
    have z_l9 := l9.size; have L := L.freshL l9 fz4 (by omega); have d33_34 : Dj F33 F34 := k34.dj (by first|assumption|exact Dj.symm (by assumption)|exact dj_of f33 g33 fz4 gz4 (by omega)) g33 (by omega)
    have o33 := o33.exm l9 (by first|assumption|exact Dj.symm (by assumption)|exact dj_of fz4 gz4 f33 g33 (by omega))
    refine s0 (xaS rfl) (c_end (n_block (n_then (c_reg (s0 (xmI rfl) (s0 (x_add rfl rfl (by omega)) (s0 (xaI rfl) (c_end ?_))))))))
    have hn8 : 8 * (k : Int) + 8 = ((8 * k + 8 : Nat) : Int) := by omega
    have h8k : (8 * (k : Int)).toNat = 8 * k := by omega
    have h8k8 : (8 * (k : Int) + 8).toNat - (8 * (k : Int)).toNat = 8 := by omega
    rw [h8k8, h8k] at h27 hx25
    have hnr := numl_range h27.1
    have h2l : ((xs.drop (8 * k)).take 8).length = 8 := by rw [List.length_take, List.length_drop]; omega
    rw [h2l] at hnr
    have hbt := bytesl_take (b := xs) (k := k) (by omega)
    have hw8 : IntKind.u8.wrap x25 = numl ((xs.drop (8 * k)).take 8) := by rw [hx25 h27, wrap_u8]; omega
    exact c_round (g' := k + 1) (by omega) ⟨_, _, _, _, upd_self3 rfl (slice_len (by rw [hbt, hw8])) (vint (by omega)), L, (by omega), (by rw [hbt, ← hw8]; exact o34), (f34.mono (by omega)), (g34.mono (by omega)), (by omega), (isBits_parts hall h27.1)⟩
   ·refine s0 (xaI rfl) (s0 (x_assign (v := .bool _) rfl) (c_end (n_then (wp_seq (wp_seq (c_reg (s0 (x_move (v := .bool _) rfl) (s0 (x_not rfl) (c_end (n_then (c_true rfl (wp_seq (c_reg ?_)))))))))))))
    refine s0 (x_assign (v := .string _) rfl) (s0 (x_assign (v := .bool _) rfl) (c_end (n_then ?_)))
    refine wp_ret (r_then (r_block (r_then (r_then (r_block (r_then ?_))))))
    refine f_rets2 rfl (ro_tmp rfl) (ro_tmp rfl) ?_
    exact ⟨by_no (fun h => h27 ⟨isBits_take (isBits_drop h.1 _) _, by rw [List.length_take]; omega⟩), L⟩
  ·refine c_end (n_then (c_false rfl ?_))
   refine wp_exit (e_then (e_then (e_here ?_)))
   refine n_then (wp_seq (c_reg (s0 (xmS rfl) ?_)))
   refine st (x_tostr un22 un5 un9 rfl oz4.sl (fun x hx => bytesl_range (by rw [List.take_of_length_le (by omega)] at hall; exact hall) x (List.mem_of_mem_take hx))) ?_
   refine s0 (x_assign (v := .string _) rfl) (s0 (x_assign (v := .bool _) rfl) (c_end (n_then (wp_ret (f_rets2 rfl (ro_tmp rfl) (ro_tmp rfl) ?_)))))
   have hall2 : isBits xs := by rw [List.take_of_length_le (by omega)] at hall; exact hall
   exact ⟨by_yes ⟨hall2, by omega⟩ (List.take_of_length_le (by rw [bytesl_length]; omega)), L⟩

theorem s_stopped (p : Option Addr) (xs : List Int) (c : Nat) (w : World) (hp : Sl w p xs.length c 1 (ic xs)) (hl : xs.length ≤ 1099511627000) :
    Calls Tryz.prog 40 [.slice p xs.length c].toArray w (Ret w (.string (stopped xs))) := by
 have L : Exm [] w w := Exm.rfl'
 refine enter (n := 26) Tryz.func40 rfl rfl rfl ?_
 refine wp_seq (c_reg (s0 (x_assign (v := .string _) rfl) (c_end (n_then (wp_seq (c_reg (s_bs0 so24 ?_)))))))
 intro p6 F6 w1 l2 o6 f6 g6
 have o6 : Own w1 p6 0 0 3 1 (ic []) F6 := o6; have z_l2 := l2.size; have L := L.tr l2.up
 refine s0 (xmS rfl) (s_appi (B := w.heap.size) so24 zr3 rfl rfl (xs := _) o6 (hp.ext L) f6 (by omega) (by omega) (by omega) ?_)
 intro p8 c8 F8 w3 l4 o8 hn8 k8 f8 g8
 have z_l4 := l4.size; have L := L.freshL l4 f6 (by omega)
 refine s_bsi (xs := [_]) so24 zr3 (pts_cons rfl pts_nil) rfl rfl rfl ?_
 intro p9 F9 w5 l6 o9 f9 g9
 have z_l6 := l6.size; have L := L.tr l6.up; have o8 := o8.ext l6; have hn9 := o9.n1
 refine s_appi (B := w.heap.size) so24 zr3 rfl rfl (xs := _) o8 o9.sl f8 (by omega) (by omega) (by omega) ?_
 intro p10 c10 F10 w7 l8 o10 hn10 k10 f10 g10
 have z_l8 := l8.size; have L := L.freshL l8 f8 (by omega); have d9_10 : Dj F9 F10 := k10.dj (by first|assumption|exact Dj.symm (by assumption)|exact dj_of f9 g9 f8 g8 (by omega)) g9 (by omega)
 have o9 := o9.exm l8 (by first|assumption|exact Dj.symm (by assumption)|exact dj_of f8 g8 f9 g9 (by omega))
 refine s0 (xaS rfl) (c_end (n_then (wp_seq (wp_block ?_))))
 refine c_loop (γ := Nat) (fun k => 8 - k) (fun (k : Nat) E wl => ∃ E0 pz3 cz3 Fz3, E = upd E0 3 (.slice pz3 ((xs ++ [1] ++ List.replicate k 0).length) cz3) ∧ (Exm [] w wl) ∧ (w7.heap.size ≤ wl.heap.size) ∧ (Own wl pz3 ((xs ++ [1] ++ List.replicate k 0).length) cz3 3 1 (ic (xs ++ [1] ++ List.replicate k 0)) Fz3) ∧ (Fr (w.heap.size) Fz3) ∧ (Lt Fz3 wl.heap.size) ∧ (k ≤ (8 - (xs.length + 1) % 8) % 8)) 0 ⟨_, _, _, _, upd_self1 (slice_len (by rw [List.replicate_zero, List.append_nil]; rfl)), L, (by omega), (by rw [List.replicate_zero, List.append_nil]; exact o10), (f10.mono (by omega)), (g10.mono (by omega)), (Nat.zero_le _)⟩ ?_
 rintro k E wl9 ⟨E0, pz3, cz3, Fz3, rfl, L, Lz, oz3, fz3, gz3, hk⟩
 have Lz0 := L.size
 have hlen : (xs ++ [1] ++ List.replicate k 0).length = xs.length + 1 + k := by rw [List.length_append, List.length_append, List.length_replicate]; rfl
 refine wp_seq (wp_seq (c_reg (s0 (xmS rfl) (s0 (x_lensl un24 rfl) (s0 (x_rem rfl rfl (by omega) (by omega)) ?_)))))
 refine sb (x_neq rfl rfl) (fun h14 => ?_) (fun h14 => ?_)
 ·refine c_end (n_then (c_true rfl (c_skipn (n_then (wp_block (c_reg (s0 (xmS rfl) ?_)))))))
  refine s_bsi (xs := [_]) so24 zr3 (pts_cons rfl pts_nil) rfl rfl rfl ?_
  intro p16 F16 w10 l11 o16 f16 g16
  have z_l11 := l11.size; have L := L.tr l11.up; have oz3 := oz3.ext l11; have hn16 := o16.n1
  refine s_appi (B := w.heap.size) so24 zr3 rfl rfl (xs := _) oz3 o16.sl fz3 (by omega) (by omega) (by omega) ?_
  intro p17 c17 F17 w12 l13 o17 hn17 k17 f17 g17
  have z_l13 := l13.size; have L := L.freshL l13 fz3 (by omega); have d16_17 : Dj F16 F17 := k17.dj (by first|assumption|exact Dj.symm (by assumption)|exact dj_of f16 g16 fz3 gz3 (by omega)) g16 (by omega)
  have o16 := o16.exm l13 (by first|assumption|exact Dj.symm (by assumption)|exact dj_of fz3 gz3 f16 g16 (by omega))
  refine s0 (xaS rfl) (c_end (n_block ?_))
  exact c_round (g' := k + 1) (by omega) ⟨_, _, _, _, upd_self1 (by (rw [List.replicate_succ', ← List.append_assoc]); rfl), L, (by omega), (by (rw [List.replicate_succ', ← List.append_assoc]); exact o17), (f17.mono (by omega)), (g17.mono (by omega)), (by omega)⟩
 ·refine c_end (n_then (c_false rfl ?_))
  refine wp_exit (e_then (e_then (e_here ?_)))
  refine n_then (wp_seq (c_reg (s0 (xmS rfl) ?_)))
  refine sr (zcall cl90 rfl) (s_bytesOf _ _ _ _ oz3.sl (by omega)) ?_
  intro w14 l15
  have z_l15 := l15.size; have L := L.tr l15.up
  refine s0 (x_move (v := .tuple _) rfl) (s0 (x_extract rfl rfl) ?_)
  refine sb (x_extract rfl rfl) (fun h22 => ?_) (fun h22 => ?_)
  ·refine s0 (x_assign (v := .string _) rfl) (s0 (x_assign (v := .bool _) rfl) (c_end (n_then (wp_seq (wp_seq (c_reg (s0 (x_move (v := .bool _) rfl) (s0 (x_not rfl) (c_end (n_then (c_false rfl (c_skipn (n_then ?_)))))))))))))
   refine wp_seq (c_reg (s0 (x_move (v := .string _) rfl) (s0 (x_assign (v := .string _) rfl) (c_end (n_then (wp_ret (f_ret rfl rfl ?_)))))))
   have hke : k = (8 - (xs ++ [1]).length % 8) % 8 := by rw [List.length_append]; show k = (8 - (xs.length + 1) % 8) % 8; omega
   exact ⟨ret_val (show Value.string (bytesStr (xs ++ [1] ++ List.replicate k 0)) = .string (stopped xs) by unfold stopped pad8; rw [← hke]), L⟩
  ·refine s0 (x_assign (v := .string _) rfl) (s0 (x_assign (v := .bool _) rfl) (c_end (n_then (wp_seq (wp_seq (c_reg (s0 (x_move (v := .bool _) rfl) (s0 (x_not rfl) (c_end (n_then (c_true rfl (wp_seq (c_reg ?_)))))))))))))
   refine s0 (x_assign (v := .string _) rfl) (c_end (n_then ?_))
   refine wp_ret (r_then ?_)
   refine f_ret rfl rfl ?_
   have hke : k = (8 - (xs ++ [1]).length % 8) % 8 := by rw [List.length_append]; show k = (8 - (xs.length + 1) % 8) % 8; omega
   exact ⟨ret_val (show Value.string ⟨#[]⟩ = .string (stopped xs) by unfold stopped pad8 bytesStr; rw [← hke, if_neg h22]), L⟩

theorem s_unparse (a b q : Int) (y z : Bool) (r : Option Addr) (xs : List Int) (e : Nat) (p : Option Addr) (ms : List Mk) (c : Nat) (w : World) (hx : Sl w r xs.length e 1 (ic xs)) (hp : RdMs w p ms c) (hl0 : xs.length ≤ 1099511627776) (hl : ms.length ≤ 1099511627776) (hb : ∀ m ∈ ms, smallM 1099511627776 m) :
    Calls Tryz.prog 12 [.agg [.int .i64 a, .int .i64 b, .int .i64 q, .bool y, .bool z, .slice r xs.length e, .slice p ms.length c].toArray].toArray w (Ret w (.string (unp a b q y z xs (ms.map Mk.pl)))) := by
 have L : Exm [] w w := Exm.rfl'
 refine enter (n := 31) Tryz.func12 rfl rfl rfl ?_
 refine wp_seq (c_reg (s_box rfl rfl ?_))
 intro b1 w2 lob1 hib1 l3 B1
 have z_l3 := l3.size; have L := L.tr l3.up
 refine s0 (x_assign (v := .string _) rfl) (c_end (n_then (wp_seq (wp_seq (c_reg (st (x_loadAgB ag29 rfl B1 rfl) ?_))))))
 refine srb (zcall cl9 rfl) (s_streamOk _ _ _ _ _ _ _ _ _ _ _ _ (hx.ext L) (hp.ext L) (by omega) (by omega) hb) (fun h6 w4 l5 => ?_) (fun h6 w4 l5 => ?_)
 ·have z_l5 := l5.size
  have L := L.tr l5.up; have B1 := B1.ext l5
  refine s0 (x_not rfl) (c_end (n_then (c_false rfl (c_skipn (n_then (wp_seq ?_))))))
  have hok := h6
  refine c_reg (s0 (x_fieldAddr fa29_0 rfl) (st (x_loadIn ag26 rfl B1 [.int _ _, .int _ _, .int _ _, .bool _, .bool _, .slice _ _ _] rfl rfl) ?_))
  refine sp (zcall cl38 rfl) (s_headerBits _ _ _ _ _ _ _ _ _ (hx.ext L) (by omega)) ?_
  rintro v10 w6 l7 ⟨p10, c10, F10, rfl, o10, f10⟩
  have z_l7 := l7.size; have L := L.tr l7.up; have B1 := B1.ext l7; have g10 := o10.lt
  refine s0 (xaS rfl) (c_end (n_then (wp_seq (wp_seq (c_reg (s0 (xaI rfl) (c_end (n_then (wp_block ?_)))))))))
  refine c_loop (γ := Nat) (fun k => ms.length - k) (fun (k : Nat) E wl => ∃ E0 pz3 cz3 Fz3, E = upd (upd (upd E0 1 (pt b1 0)) 3 (.slice pz3 ((stA a b q y z xs (ms.map Mk.pl) k).length) cz3)) 4 (.int .i64 (k : Int)) ∧ (Exm [] w wl) ∧ (w6.heap.size ≤ wl.heap.size) ∧ (Bx wl b1 [.int .i64 a, .int .i64 b, .int .i64 q, .bool y, .bool z, .slice r xs.length e, .slice p ms.length c] 29) ∧ (Own wl pz3 ((stA a b q y z xs (ms.map Mk.pl) k).length) cz3 3 1 (ic (stA a b q y z xs (ms.map Mk.pl) k)) Fz3) ∧ (Fr (w4.heap.size) Fz3) ∧ (Lt Fz3 wl.heap.size) ∧ (b1 ∉ Fz3) ∧ ((k : Int) ≤ ms.length)) 0 ⟨_, _, _, _, upd_self3 rfl (slice_len (by rw [stA_zero])) rfl, L, (by omega), B1, (own_eq (stA_zero a b q y z xs (ms.map Mk.pl)).symm o10), (f10.mono (by omega)), (g10.mono (by omega)), (by first|assumption|exact nin_of f10 g10 (by omega)), (by omega)⟩ ?_
  rintro k E wl8 ⟨E0, pz3, cz3, Fz3, rfl, L, Lz, B1, oz3, fz3, gz3, ab1_z3, hk⟩
  have Lz0 := L.size; have hsl := stA_len a b q y z xs (ms.map Mk.pl) k; have hs16 := many_range hok.1.1
  have hml := hok.2.1; rw [List.length_map] at hml
  refine wp_seq (wp_seq (c_reg (s0 (xmI rfl) (s0 (x_fieldAddr fa29_1 rfl) (st (x_loadB sc27 rfl B1 rfl) (s0 (x_lensl un27 rfl) ?_))))))
  refine sb (x_lss rfl rfl) (fun h15 => ?_) (fun h15 => ?_)
  ·refine c_end (n_then (c_true rfl (c_skipn (n_then (wp_seq (wp_block ?_))))))
   have hbm := hb _ (getD_mem (xs := ms) (i := (k : Int)) (by omega) (by omega)); have hbm1 := hbm.1; have hbm2 := hbm.2; have hmb : (mbBits (ms.getD (k : Int).toNat default).eight ((ms.getD (k : Int).toNat default).bs.map Bk.pl) xs).length ≤ 20000 := mbBits_le (ms.getD (k : Int).toNat default).pl xs
   refine c_plan (fun wq => Exm [] wl8 wq) 10 (.cons (0, 2) (.cons (1, 2) (.cons (2, 1) (.cons (3, 2) (.cons (4, 2) (.cons (5, 1) (.cons (6, 2) (.cons (7, 2) (.cons (8, 1) (.cons (9, 0) (.cons (10, 0) (.cons (11, 0) .nil)))))))))))) (by kernel_rfl) (by kernel_rfl) (Exm.drew _) ?_
   obtain ⟨w9, hwd⟩ : ∃ x, x = wl8.drew := ⟨_, rfl⟩
   have l10 : Ext wl8 w9 := by rw [hwd]; exact Exm.drew _
   rw [← hwd]; clear hwd
   have Lq : Exm [] wl8 w9 := l10.up; have qB1 := B1; have qL := L; have z_l10 := l10.size; have L := L.tr l10.up; have B1 := B1.ext l10; have oz3 := oz3.ext l10
   refine p0 rfl (xmS rfl) (p0 rfl (x_fieldAddr fa29_1 rfl) ?_)
   refine ps rfl (fun wq hwq => x_loadB sc27 rfl (qB1.ext hwq) rfl) ?_
   refine p0 rfl (xmI rfl) (p0 rfl (x_idx so27 rfl rfl hp.1 (by decide) (by omega) (by omega)) ?_)
   refine ps rfl (fun wq hwq => x_ldr mrow_len ag34 rfl ((hp.1.ext qL).ext hwq) (by omega) (by omega)) ?_
   refine p0 rfl (x_fieldAddr fa29_0 rfl) (p0 rfl (x_fieldAddr fa26_5 rfl) ?_)
   refine ps rfl (fun wq hwq => x_loadB sc24 rfl (qB1.ext hwq) rfl) ?_
   refine pu rfl ?_
   refine sp (zcall cl39 rfl) (s_mbBits _ _ _ _ _ _ _ _ ((hp.2 _ (getD_mem (by omega) (by omega))).ext L) (hx.ext L) (by omega) (by assumption) (by omega)) ?_
   rintro v27 w11 l12 ⟨p27, c27, F27, rfl, o27, f27⟩
   have z_l12 := l12.size; have L := L.tr l12.up; have Lq := Lq.tr l12.up; have B1 := B1.ext l12; have oz3 := oz3.ext l12; have g27 := o27.lt
   refine c_end ⟨rfl, fun h hS => Lq, ?_⟩
   refine pu rfl (s_appi (B := w4.heap.size) so24 zr3 rfl rfl (xs := _) oz3 o27.sl fz3 (by omega) (by omega) (by omega) ?_)
   intro p28 c28 F28 w13 l14 o28 hn28 k28 f28 g28
   have ab1_28 : b1 ∉ F28 := k28.nin (by first|assumption|exact nin_of fz3 gz3 (by omega)) (by omega)
   have B1 := B1.exm l14 (by first|assumption|exact nin_of fz3 gz3 (by omega))
   have z_l14 := l14.size; have L := L.freshL l14 fz3 (by omega); have d27_28 : Dj F27 F28 := k28.dj (by first|assumption|exact Dj.symm (by assumption)|exact dj_of f27 g27 fz3 gz3 (by omega)) g27 (by omega)
   have o27 := o27.exm l14 (by first|assumption|exact Dj.symm (by assumption)|exact dj_of fz3 gz3 f27 g27 (by omega))
   refine c_end ⟨rfl, fun h hS => absurd h (by decide), ?_⟩
   refine pu rfl (s0 (xaS rfl) ?_)
   refine c_end ⟨rfl, fun h hS => absurd h (by decide), ?_⟩
   refine p_nil (np_normal ?_)
   refine n_block (n_then (c_reg (s0 (xmI rfl) (s0 (x_add rfl rfl (by omega)) (s0 (xaI rfl) (c_end ?_))))))
   exact c_round (g' := k + 1) (by omega) ⟨_, _, _, _, upd_self3 rfl (slice_len (by rw [stA_succ (by omega), Int.toNat_natCast])) (vint (by omega)), L, (by omega), B1, (by rw [stA_succ (by omega)]; rw [Int.toNat_natCast] at o28; exact o28), (f28.mono (by omega)), (g28.mono (by omega)), (by first|assumption|exact nin_of f28 g28 (by omega)), (by omega)⟩
  ·refine c_end (n_then (c_false rfl ?_))
   refine wp_exit (e_then (e_then (e_here ?_)))
   refine n_then (wp_seq (c_reg (s0 (xmS rfl) ?_)))
   refine sr (zcall cl40 rfl) (s_stopped _ _ _ _ oz3.sl (by omega)) ?_
   intro w15 l16
   have z_l16 := l16.size; have L := L.tr l16.up
   refine s0 (x_assign (v := .string _) rfl) (c_end (n_then (wp_ret (f_ret rfl rfl ?_))))
   rw [unp_yes h6 (k := k) (by rw [List.length_map]; omega)]
   exact ⟨rfl, L⟩
 ·have z_l5 := l5.size
  have L := L.tr l5.up
  refine s0 (x_not rfl) (c_end (n_then (c_true rfl (wp_seq (c_reg (s0 (x_assign (v := .string _) rfl) (c_end (n_then ?_))))))))
  refine wp_ret (r_then ?_)
  refine f_ret rfl rfl ?_
  rw [unp_no h6]
  exact ⟨rfl, L⟩

end Go.Proofs.YtepnknffaecbdaaGreat
