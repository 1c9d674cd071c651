/- What each function of this part returns, for every argument that meets its premises. -/
import Derived.Test.YtepnknffaecbdaaGreatProg
import Derived.Test.YtepnknffaecbdaaGreatVSxA
import Derived.Test.YtepnknffaecbdaaGreatVTy
import Derived.Test.YtepnknffaecbdaaGreatVPlA
import Derived.Test.YtepnknffaecbdaaGreatVF4
import Derived.Test.YtepnknffaecbdaaGreatVF9
import Derived.Test.YtepnknffaecbdaaGreatVFF
import Derived.Test.YtepnknffaecbdaaGreatVFH
import Derived.Test.YtepnknffaecbdaaGreatVFJ
import Derived.Test.YtepnknffaecbdaaGreatVFM
import Derived.Test.YtepnknffaecbdaaGreatVFV
import Derived.Test.YtepnknffaecbdaaGreatVH6
namespace Go.Proofs.YtepnknffaecbdaaGreat
open Go.Sx Go.Pl Go.RowKit
theorem ownN {w : World} {p : Option Addr} {n n2 c e sz : Nat} {cells : List Value} {F : List Nat} (h : Own w p n c e sz cells F) (k : n = n2) : Own w p n2 c e sz cells F := k ▸ h
theorem bx_s2 {w : World} {b T n n' c : Nat} {p : Option Addr} {x y : Value} {r : List Value} (h : n = n') (hB : Bx w b (x :: y :: .slice p n c :: r) T) : Bx w b (x :: y :: .slice p n' c :: r) T := h ▸ hB

theorem i_frameNew (W H : Int) (w : World) (hs : sidesOk W H) :
    Calls Tryz.prog 32 [.int .i64 W, .int .i64 H].toArray w (RetP w fun v w' => ∃ p' c' F', v = .agg [.int .i64 W, .int .i64 H, .slice p' (W * H).toNat c'].toArray ∧ Own w' p' (W * H).toNat c' 3 1 (ic (List.replicate (W * H).toNat 0)) F' ∧ Fr w.heap.size F') := by
 have hm := sides_mul hs; have L : Exm [] w w := Exm.rfl'
 refine enter (n := 17) Tryz.func32 rfl rfl rfl ?_
 refine wp_seq (c_reg (s_alloc zr36 ?_))
 intro b1 w2 lob1 hib1 l3 B1
 have z_l3 := l3.size; have L := L.tr l3.up
 refine c_end (n_then (wp_seq (wp_seq (c_reg (s0 (xmI rfl) (s0 (xmI rfl) ?_))))))
 refine srb (zcall cl73 rfl) (i_sidesOk _ _ _) (fun h7 w4 l5 => ?_) (fun h7 w4 l5 => ?_)
 ·have z_l5 := l5.size
  have L := L.tr l5.up; have B1 := B1.ext l5
  refine s0 (x_not rfl) (c_end (n_then (c_false rfl (c_skipn (n_then (wp_seq (c_reg (s0 (xmI rfl) (s0 (xmI rfl) (s0 (xmI rfl) (s0 (xmI rfl) (s0 (x_mul rfl rfl (by omega)) (s_makei so24 zr3 rfl rfl (by omega) (by omega) (by omega) ?_)))))))))))))
  intro p15 F15 w6 l7 o15 f15 g15
  have z_l7 := l7.size; have L := L.tr l7.up; have B1 := B1.ext l7; have hn15 := o15.n1
  refine s0 (x_build (cs := [.int _ _, .int _ _, .slice _ _ _]) bd36 (pts_cons (v := .int _ _) rfl (pts_cons (v := .int _ _) rfl (pts_cons (v := .slice _ _ _) rfl pts_nil))) rfl) ?_
  refine s_storeAg rfl sz36 rfl rfl B1 rfl rfl rfl ?_
  intro w8 l9 el9 B1
  have z_l9 := l9.size; have L := L.fresh l9 (by omega); have o15 := o15.ne l9 (by first|assumption|exact nin_of f15 g15 (by omega))
  refine c_end (n_then (wp_ret (f_retc rfl rfl ag36 B1 rfl ?_)))
  exact ⟨_, rfl, L, _, _, _, rfl, o15, f15.mono (by omega)⟩
 ·exact absurd hs h7

theorem i_placesOf (a b q : Int) (y z : Bool) (pA : Option Addr) (nA cA : Nat) (i : Nat) (e : Bool) (w : World) (ha : 8 ≤ a ∧ a ≤ 32) (hi : i ≤ 1024) :
    Calls Tryz.prog 33 [.agg [.int .i64 a, .int .i64 b, .int .i64 q, .bool y, .bool z, .slice pA nA cA].toArray, .int .i64 (i : Int), .bool e].toArray w (RetP w fun v w' => ∃ (p : Option Addr) (c : Nat) (F : List Nat), v = .slice p (plist a i e (manyOf e).toNat).length c ∧ Own w' p (plist a i e (manyOf e).toNat).length c 67 3 ((plist a i e (manyOf e).toNat).flatMap prow) F ∧ Fr w.heap.size F) := by
 have hmo := manyOf_in e; have L : Exm [] w w := Exm.rfl'
 refine enter (n := 48) Tryz.func33 rfl rfl rfl ?_
 refine wp_seq (c_reg (s_box rfl rfl ?_))
 intro b1 w2 lob1 hib1 l3 B1
 have z_l3 := l3.size; have L := L.tr l3.up
 refine s0 (xaS rfl) (c_end (n_then (wp_seq (c_reg (s0 (x_move (v := .bool _) rfl) ?_)))))
 refine sr (zcall cl74 rfl) (i_shape _ _) ?_
 intro w4 l5
 have z_l5 := l5.size; have L := L.tr l5.up; have B1 := B1.ext l5
 refine s0 (x_move (v := .tuple _) rfl) (s0 (x_extract rfl rfl) (s0 (x_extract rfl rfl) (s0 (xaI rfl) (s0 (xaI rfl) (c_end (n_then (wp_seq (c_reg (s_bs0 so64 ?_)))))))))
 intro p16 F16 w6 l7 o16 f16 g16
 have o16 : Own w6 p16 0 0 67 3 (([] : List _).flatMap prow) F16 := o16; have z_l7 := l7.size; have L := L.tr l7.up; have B1 := B1.ext l7
 refine s0 (xaS rfl) (c_end (n_then (wp_seq (wp_seq (c_reg (s0 (xmI rfl) (s0 (xmI rfl) (c_end (n_then (wp_block ?_))))))))))
 refine c_loop (γ := Nat) (fun k => (manyOf e).toNat - k) (fun (k : Nat) E wl => ∃ E0 pz9 cz9 Fz9, E = upd (upd (upd (upd (upd (upd E0 1 (.int .i64 (i : Int))) 3 (pt b1 0)) 8 (.int .i64 (side e))) 9 (.slice pz9 ((plist a i e k).length) cz9)) 17 (.int .i64 (manyOf e))) 18 (.int .i64 (k : Int)) ∧ (Exm [] w wl) ∧ (w6.heap.size ≤ wl.heap.size) ∧ (Bx wl b1 [.int .i64 a, .int .i64 b, .int .i64 q, .bool y, .bool z, .slice pA nA cA] 26) ∧ (Own wl pz9 ((plist a i e k).length) cz9 67 3 ((plist a i e k).flatMap prow) Fz9) ∧ (Fr (w4.heap.size) Fz9) ∧ (Lt Fz9 wl.heap.size) ∧ (b1 ∉ Fz9) ∧ ((k : Int) ≤ manyOf e)) 0 ⟨_, _, _, _, upd_self6 rfl rfl rfl (slice_len rfl) rfl rfl, L, (by omega), B1, o16, (f16.mono (by omega)), (g16.mono (by omega)), (by first|assumption|exact nin_of f16 g16 (by omega)), (by omega)⟩ ?_
 rintro k E wl8 ⟨E0, pz9, cz9, Fz9, rfl, L, Lz, B1, oz9, fz9, gz9, ab1_z9, hk⟩
 have Lz0 := L.size; have hpl := plist_length a i e k
 refine wp_seq (c_reg ?_)
 refine sb (x_lss rfl rfl) (fun h19 => ?_) (fun h19 => ?_)
 ·refine c_end (n_then (wp_seq (c_true rfl (c_skipn (n_then (wp_seq (wp_block (wp_seq (c_reg (s0 (xmI rfl) (s0 (xaI rfl) (c_end (n_then ?_)))))))))))))
  have hr1 := Int.emod_nonneg (i : Int) (show a / 8 ≠ 0 by omega)
  have hr2 := Int.emod_lt_of_pos (i : Int) (show 0 < a / 8 by omega)
  have hr3 : 0 ≤ (i : Int) / (a / 8) := Int.ediv_nonneg (by omega) (by omega); have hr4 : (i : Int) / (a / 8) ≤ i := Int.ediv_le_self (a / 8) (by omega)
  refine c_plan (fun wq => Exm [] wl8 wq) 24 (.cons (0, 2) (.cons (1, 2) (.cons (2, 2) (.cons (3, 1) (.cons (4, 2) (.cons (5, 2) (.cons (6, 2) (.cons (7, 2) (.cons (8, 2) (.cons (9, 2) (.cons (10, 2) (.cons (11, 2) (.cons (12, 2) (.cons (13, 1) (.cons (14, 2) (.cons (15, 2) (.cons (16, 2) (.cons (17, 2) (.cons (18, 2) (.cons (19, 2) (.cons (20, 2) (.cons (21, 2) (.cons (22, 2) (.cons (23, 0) (.cons (24, 0) (.cons (25, 0) .nil)))))))))))))))))))))))))) (by kernel_rfl) (by kernel_rfl) (Exm.drew _) ?_
  obtain ⟨w9, hwd⟩ : ∃ x, x = wl8.drew := ⟨_, rfl⟩
  have l10 : Ext wl8 w9 := by rw [hwd]; exact Exm.drew _
  rw [← hwd]; clear hwd
  have Lq : Exm [] wl8 w9 := l10.up; have qB1 := B1; have z_l10 := l10.size; have L := L.tr l10.up; have B1 := B1.ext l10; have oz9 := oz9.ext l10
  refine p0 rfl (xmS rfl) (p0 rfl (xmI rfl) (p0 rfl (x_fieldAddr fa26_0 rfl) ?_))
  refine ps rfl (fun wq hwq => x_loadB sc3 rfl (qB1.ext hwq) rfl) ?_
  refine p0 rfl (x_quo rfl rfl (by omega) (by omega)) (p0 rfl (x_rem rfl rfl (by omega) (by omega)) (p0 rfl (x_mul rfl rfl (by omega)) (p0 rfl (xmI rfl) (p0 rfl (x_rem rfl rfl (by omega) (by omega)) (p0 rfl (x_mul rfl rfl (by omega)) (p0 rfl (x_add rfl rfl (by omega)) (p0 rfl (xmI rfl) (p0 rfl (x_fieldAddr fa26_0 rfl) ?_))))))))
  refine ps rfl (fun wq hwq => x_loadB sc3 rfl (qB1.ext hwq) rfl) ?_
  refine p0 rfl (x_quo rfl rfl (by omega) (by omega)) (p0 rfl (x_quo rfl rfl (by omega) (by omega)) (p0 rfl (x_mul rfl rfl (by omega)) (p0 rfl (xmI rfl) (p0 rfl (x_quo rfl rfl (by omega) (by omega)) (p0 rfl (x_mul rfl rfl (by omega)) (p0 rfl (x_add rfl rfl (by omega)) (p0 rfl (xmI rfl) ?_)))))))
  refine p0 rfl (x_build (cs := [.int _ _, .int _ _, .int _ _]) bd67 (pts_cons (v := .int _ _) rfl (pts_cons (v := .int _ _) rfl (pts_cons (v := .int _ _) rfl pts_nil))) rfl) ?_
  refine pu rfl ?_
  refine s_bsr (g := fun x => .agg (prow x).toArray) (xs := [(_, _, _)]) (fun _ => rfl) prow_len so64 zr67 (pts_cons rfl pts_nil) rfl rfl rfl ?_
  intro p44 F44 w11 l12 o44 f44 g44
  have z_l12 := l12.size; have L := L.tr l12.up; have Lq := Lq.tr l12.up; have B1 := B1.ext l12; have oz9 := oz9.ext l12; have hn44 := o44.nr prow_len (by decide)
  refine c_end ⟨rfl, fun h hS => Lq, ?_⟩
  refine pu rfl (s_appr (B := w4.heap.size) (f := prow) prow_len prow_one (by decide) so64 zr67 rfl rfl rfl oz9 o44.sl fz9 (by omega) (by omega) (by omega) ?_)
  intro p45 c45 F45 w13 l14 o45 hn45 k45 f45 g45
  have ab1_45 : b1 ∉ F45 := k45.nin (by first|assumption|exact nin_of fz9 gz9 (by omega)) (by omega)
  have B1 := B1.exm l14 (by first|assumption|exact nin_of fz9 gz9 (by omega))
  have z_l14 := l14.size; have L := L.freshL l14 fz9 (by omega); have d44_45 : Dj F44 F45 := k45.dj (by first|assumption|exact Dj.symm (by assumption)|exact dj_of f44 g44 fz9 gz9 (by omega)) g44 (by omega)
  have o44 := o44.exm l14 (by first|assumption|exact Dj.symm (by assumption)|exact dj_of fz9 gz9 f44 g44 (by omega))
  refine c_end ⟨rfl, fun h hS => absurd h (by decide), ?_⟩
  refine pu rfl (s0 (xaS rfl) ?_)
  refine c_end ⟨rfl, fun h hS => absurd h (by decide), ?_⟩
  refine p_nil (np_normal ?_)
  refine n_block (n_then (c_reg (s0 (x_add rfl rfl (by omega)) (s0 (xmI rfl) (c_end ?_)))))
  exact c_round (g' := k + 1) (by omega) ⟨_, _, _, _, upd_self6 rfl rfl rfl (slice_len (by simp [plist_length])) rfl (vint (by omega)), L, (by omega), B1, (by rw [plist_succ]; exact o45), (f45.mono (by omega)), (g45.mono (by omega)), (by first|assumption|exact nin_of f45 g45 (by omega)), (by omega)⟩
 ·refine c_end (n_then (wp_seq (c_false rfl ?_)))
  refine wp_exit (e_then (e_then (e_here ?_)))
  refine n_then (wp_seq (c_reg (s0 (xmS rfl) (s0 (xaS rfl) (c_end (n_then (wp_ret (f_ret rfl rfl ?_))))))))
  have hke : k = (manyOf e).toNat := by omega
  rw [hke] at oz9
  exact ⟨_, rfl, L, _, _, _, slice_len (by rw [hke]), oz9, fz9.mono (by omega)⟩

theorem i_ended_t (a b q : Int) (y : Bool) (pA : Option Addr) (nA cA : Nat) (W H : Int) (p : Option Addr) (n c : Nat) (xs : List Int) (w : World) (hp : Sl w p n c 1 (ic xs)) (hl : n ≤ 1048576) :
    Calls Tryz.prog 35 [.agg [.int .i64 a, .int .i64 b, .int .i64 q, .bool y, .bool true, .slice pA nA cA].toArray, .agg [.int .i64 W, .int .i64 H, .slice p n c].toArray].toArray w (RetP w fun v w' => ∃ p' c' F', v = .agg [.int .i64 W, .int .i64 H, .slice p' n c'].toArray ∧ Own w' p' n c' 3 1 (ic (dbOf W H q xs)) F' ∧ Fr w.heap.size F') := by
 have L : Exm [] w w := Exm.rfl'
 refine enter (n := 12) Tryz.func35 rfl rfl rfl ?_
 refine wp_seq (c_reg (s_box rfl rfl ?_))
 intro b1 w2 lob1 hib1 l3 B1
 have z_l3 := l3.size; have L := L.tr l3.up
 refine s_box rfl rfl ?_
 intro b4 w5 lob4 hib4 l6 B4
 have z_l6 := l6.size; have L := L.tr l6.up; have B1 := B1.ext l6
 refine s_alloc zr36 ?_
 intro b7 w8 lob7 hib7 l9 B7
 have z_l9 := l9.size; have L := L.tr l9.up; have B1 := B1.ext l9; have B4 := B4.ext l9
 refine c_end (n_then (wp_seq (wp_seq (c_reg (s0 (x_fieldAddr fa26_4 rfl) (st (x_loadB sc4 rfl B1 rfl) (c_end (n_then (c_true rfl (wp_seq (c_reg (st (x_loadAgB ag36 rfl B4 rfl) (s0 (x_fieldAddr fa26_2 rfl) ?_)))))))))))))
 refine st (x_loadB sc3 rfl B1 rfl) ?_
 refine sp (zcall cl84 rfl) (i_deblockRef _ _ _ _ _ _ _ _ (hp.ext L) (by omega)) ?_
 rintro v10 w10 l11 ⟨p10, c10, F10, rfl, o10, f10⟩
 have z_l11 := l11.size; have L := L.tr l11.up; have B1 := B1.ext l11; have B4 := B4.ext l11; have B7 := B7.ext l11; have g10 := o10.lt
 refine s_storeAg rfl sz36 rfl rfl B7 rfl rfl rfl ?_
 intro w12 l13 el13 B7
 have z_l13 := l13.size; have L := L.fresh l13 (by omega); have B1 := B1.ne l13 (by omega); have B4 := B4.ne l13 (by omega); have o10 := o10.ne l13 (by first|assumption|exact nin_of f10 g10 (by omega))
 refine c_end (n_then ?_)
 refine wp_ret (r_then ?_)
 refine f_retc rfl rfl ag36 B7 rfl ?_
 exact ⟨_, rfl, L, _, _, _, rfl, o10, f10.mono (by omega)⟩

theorem i_ended_f (a b q : Int) (y : Bool) (pA : Option Addr) (nA cA : Nat) (W H : Int) (p : Option Addr) (n c : Nat) (xs : List Int) (w : World) (hp : Sl w p n c 1 (ic xs)) (hl : n ≤ 1048576) :
    Calls Tryz.prog 35 [.agg [.int .i64 a, .int .i64 b, .int .i64 q, .bool y, .bool false, .slice pA nA cA].toArray, .agg [.int .i64 W, .int .i64 H, .slice p n c].toArray].toArray w (Ret w (.agg [.int .i64 W, .int .i64 H, .slice p n c].toArray)) := by
 have L : Exm [] w w := Exm.rfl'
 refine enter (n := 12) Tryz.func35 rfl rfl rfl ?_
 refine wp_seq (c_reg (s_box rfl rfl ?_))
 intro b1 w2 lob1 hib1 l3 B1
 have z_l3 := l3.size; have L := L.tr l3.up
 refine s_box rfl rfl ?_
 intro b4 w5 lob4 hib4 l6 B4
 have z_l6 := l6.size; have L := L.tr l6.up; have B1 := B1.ext l6
 refine s_alloc zr36 ?_
 intro b7 w8 lob7 hib7 l9 B7
 have z_l9 := l9.size; have L := L.tr l9.up; have B1 := B1.ext l9; have B4 := B4.ext l9
 refine c_end (n_then (wp_seq (wp_seq (c_reg (s0 (x_fieldAddr fa26_4 rfl) (st (x_loadB sc4 rfl B1 rfl) (c_end (n_then (c_false rfl (c_skipn (n_then (wp_seq (c_reg ?_)))))))))))))
 refine st (x_loadAgB ag36 rfl B4 rfl) (s_storeAg rfl sz36 rfl rfl B7 rfl rfl rfl ?_)
 intro w10 l11 el11 B7
 have z_l11 := l11.size; have L := L.fresh l11 (by omega); have B1 := B1.ne l11 (by omega); have B4 := B4.ne l11 (by omega)
 refine c_end (n_then (wp_ret (f_retc rfl rfl ag36 B7 rfl ?_)))
 exact ⟨rfl, L⟩

set_option maxHeartbeats 4000000 in
theorem i_buildRef_t (a b q : Int) (y : Bool) (r : Option Addr) (xs : List Int) (e : Nat) (p : Option Addr) (ms : List Mk) (c : Nat) (w : World) (hx : Sl w r xs.length e 1 (ic xs)) (hp : RdMs w p ms c) (hl0 : xs.length ≤ 1099511627776) (hl : ms.length ≤ 1099511627776) (hb : ∀ m ∈ ms, smallM 1099511627776 m) :
    Calls Tryz.prog 10 [.agg [.int .i64 a, .int .i64 b, .int .i64 q, .bool y, .bool true, .slice r xs.length e, .slice p ms.length c].toArray].toArray w (RetP w fun v w' => ∃ (p : Option Addr) (c : Nat) (F : List Nat), v = .agg [.int .i64 (brS a b q xs (ms.map Mk.pl) a), .int .i64 (brS a b q xs (ms.map Mk.pl) b), .slice p (brX a b q y true xs (ms.map Mk.pl)).length c].toArray ∧ Own w' p (brX a b q y true xs (ms.map Mk.pl)).length c 3 1 (ic (brX a b q y true xs (ms.map Mk.pl))) F ∧ Fr w.heap.size F) := by
 have L : Exm [] w w := Exm.rfl'
 refine enter (n := 61) Tryz.func10 rfl rfl rfl ?_
 refine wp_seq (c_reg (s_box rfl rfl ?_))
 intro b1 w2 lob1 hib1 l3 B1
 have z_l3 := l3.size; have L := L.tr l3.up
 refine s_alloc zr36 ?_
 intro b4 w5 lob4 hib4 l6 B4
 have z_l6 := l6.size; have L := L.tr l6.up; have B1 := B1.ext l6
 refine c_end (n_then (wp_seq (wp_seq (c_reg (st (x_loadAgB ag29 rfl B1 rfl) ?_)))))
 refine srb (zcall cl31 rfl) (i_streamOk _ _ _ _ _ _ _ _ _ _ _ _ (hx.ext L) (hp.ext L) (by omega) (by omega) (by assumption)) (fun h9 w7 l8 => ?_) (fun h9 w7 l8 => ?_)
 ·have z_l8 := l8.size
  have L := L.tr l8.up; have B1 := B1.ext l8; have B4 := B4.ext l8
  refine s0 (x_not rfl) (c_end (n_then (c_false rfl (c_skipn (n_then (wp_seq ?_))))))
  have hso := stream_iff.1 h9; have hsd : sidesOk a b := hso.1.1; have hsm := sides_mul hsd; have hmr := many_range hsd; have hW : 8 ≤ a ∧ a ≤ 32 := hsd.1
  refine c_reg (s0 (x_fieldAddr fa29_0 rfl) (s0 (x_fieldAddr fa26_0 rfl) (st (x_loadB sc3 rfl B1 rfl) (s0 (x_fieldAddr fa29_0 rfl) (s0 (x_fieldAddr fa26_1 rfl) (st (x_loadB sc3 rfl B1 rfl) ?_))))))
  refine sp (zcall cl32 rfl) (i_frameNew _ _ _ (by assumption)) ?_
  rintro v18 w9 l10 ⟨p18, c18, F18, rfl, o18, f18⟩
  have z_l10 := l10.size; have L := L.tr l10.up; have B1 := B1.ext l10; have B4 := B4.ext l10; have g18 := o18.lt
  refine s_alloc zr36 ?_
  intro b11 w12 lob11 hib11 l13 B11
  have z_l13 := l13.size; have L := L.tr l13.up; have B1 := B1.ext l13; have B4 := B4.ext l13; have o18 := o18.ext l13
  refine s_storeAg rfl sz36 rfl rfl B11 rfl rfl rfl ?_
  intro w14 l15 el15 B11
  have z_l15 := l15.size; have L := L.fresh l15 (by omega); have B1 := B1.ne l15 (by omega); have B4 := B4.ne l15 (by omega); have o18 := o18.ne l15 (by first|assumption|exact nin_of f18 g18 (by omega))
  refine c_end (n_then (wp_seq (wp_seq (c_reg (s0 (x_fieldAddr fa29_1 rfl) (st (x_loadB sc27 rfl B1 rfl) (s0 (x_lensl un27 rfl) (s0 (xmI rfl) (c_end (n_then (wp_block ?_)))))))))))
  refine c_loop (γ := Nat) (fun i => ms.length - i) (fun (i : Nat) E wl => ∃ E0 pz900 cz900 Fz900, E = upd (upd (upd (upd (upd (upd E0 1 (pt b1 0)) 2 (pt b4 0)) 3 (pt b11 0)) 20 (.slice p ms.length c)) 21 (.int .i64 ms.length)) 22 (.int .i64 (i : Int)) ∧ (Exm [] w wl) ∧ (w14.heap.size ≤ wl.heap.size) ∧ (Bx wl b1 [.int .i64 a, .int .i64 b, .int .i64 q, .bool y, .bool true, .slice r xs.length e, .slice p ms.length c] 29) ∧ (Bx wl b4 [.int .i64 0, .int .i64 0, .slice none 0 0] 36) ∧ (Bx wl b11 [.int .i64 a, .int .i64 b, .slice pz900 (bldM a b q y (ms.map Mk.pl) i).length cz900] 36) ∧ (Own wl pz900 (((bldM a b q y (ms.map Mk.pl) i)).length) cz900 3 1 (ic ((bldM a b q y (ms.map Mk.pl) i))) Fz900) ∧ (Fr (w7.heap.size) Fz900) ∧ (Lt Fz900 wl.heap.size) ∧ (b1 ∉ Fz900) ∧ (b4 ∉ Fz900) ∧ (b11 ∉ Fz900) ∧ ((i : Int) ≤ ms.length)) 0 ⟨_, _, _, _, upd_self6 rfl rfl rfl rfl rfl rfl, L, (by omega), B1, B4, (bx_s2 (bldM_length a b q y (ms.map Mk.pl) 0).symm B11), (ownN o18 (bldM_length a b q y (ms.map Mk.pl) 0).symm), (f18.mono (by omega)), (g18.mono (by omega)), (by first|assumption|exact nin_of f18 g18 (by omega)), (by first|assumption|exact nin_of f18 g18 (by omega)), (by first|assumption|exact nin_of f18 g18 (by omega)), (by omega)⟩ ?_
  rintro i E wl16 ⟨E0, pz900, cz900, Fz900, rfl, L, Lz, B1, B4, B11, oz900, fz900, gz900, ab1_z900, ab4_z900, ab11_z900, hi⟩
  have Lz0 := L.size; have hbml := bldM_length a b q y (ms.map Mk.pl) i
  refine wp_seq (c_reg ?_)
  refine sb (x_lss rfl rfl) (fun h23 => ?_) (fun h23 => ?_)
  ·refine c_end (n_then (wp_seq (c_true rfl (c_skipn (n_then (wp_seq (wp_block (wp_seq (c_reg (s0 (xmI rfl) (s0 (x_idx so27 rfl rfl hp.1 (by decide) (by omega) (by omega)) (st (x_ldr mrow_len ag34 rfl (hp.1.ext L) (by omega) (by omega)) (s_alloc zr34 ?_)))))))))))))
   intro b17 w18 lob17 hib17 l19 B17
   have z_l19 := l19.size; have L := L.tr l19.up; have B1 := B1.ext l19; have B4 := B4.ext l19; have B11 := B11.ext l19; have oz900 := oz900.ext l19
   refine s0 (xaI rfl) (s_storeAg rfl sz34 rfl rfl B17 rfl rfl rfl ?_)
   intro w20 l21 el21 B17
   have z_l21 := l21.size; have L := L.fresh l21 (by omega); have B1 := B1.ne l21 (by omega); have B4 := B4.ne l21 (by omega); have B11 := B11.ne l21 (by omega); have oz900 := oz900.ne l21 (by first|assumption|exact nin_of fz900 gz900 (by omega))
   refine c_end (n_then (wp_seq ?_))
   have hbm := hb _ (getD_mem (xs := ms) (i := (i : Int)) (by omega) (by omega)); have hme := manyOf_in (ms.getD (i : Int).toNat default).eight
   refine c_reg (s0 (x_fieldAddr fa29_0 rfl) (st (x_loadIn ag26 rfl B1 [.int _ _, .int _ _, .int _ _, .bool _, .bool _, .slice _ _ _] rfl rfl) (s0 (xmI rfl) (s0 (x_fieldAddr fa34_0 rfl) (st (x_loadB sc4 rfl B17 rfl) ?_)))))
   refine sp (zcall cl33 rfl) (i_placesOf _ _ _ _ _ _ _ _ _ _ _ (by omega) (by omega)) ?_
   rintro v32 w22 l23 ⟨p32, c32, F32, rfl, o32, f32⟩
   have z_l23 := l23.size; have L := L.tr l23.up; have B1 := B1.ext l23; have B4 := B4.ext l23; have B11 := B11.ext l23; have B17 := B17.ext l23; have oz900 := oz900.ext l23; have g32 := o32.lt
   refine s0 (x_lensl un64 rfl) (s0 (xmI rfl) (c_end (n_then (wp_block ?_))))
   refine c_loop (γ := Nat) (fun k => (manyOf (ms.getD (i : Int).toNat default).eight).toNat - k) (fun (k : Nat) E wl => ∃ E0 pz900 cz900 Fz900, E = upd (upd (upd (upd (upd (upd (upd (upd (upd (upd (upd E0 1 (pt b1 0)) 2 (pt b4 0)) 3 (pt b11 0)) 4 (.int .i64 (i : Int))) 5 (pt b17 0)) 20 (.slice p ms.length c)) 21 (.int .i64 ms.length)) 22 (.int .i64 (i : Int))) 32 (.slice p32 (plist a i (ms.getD (i : Int).toNat default).eight (manyOf (ms.getD (i : Int).toNat default).eight).toNat).length c32)) 33 (.int .i64 ((plist a i (ms.getD (i : Int).toNat default).eight (manyOf (ms.getD (i : Int).toNat default).eight).toNat).length : Int))) 34 (.int .i64 (k : Int)) ∧ (Exm [] w wl) ∧ (w22.heap.size ≤ wl.heap.size) ∧ (Bx wl b1 [.int .i64 a, .int .i64 b, .int .i64 q, .bool y, .bool true, .slice r xs.length e, .slice p ms.length c] 29) ∧ (Bx wl b4 [.int .i64 0, .int .i64 0, .slice none 0 0] 36) ∧ (Bx wl b11 [.int .i64 a, .int .i64 b, .slice pz900 (bldB a b q y (ms.map Mk.pl) i (bldM a b q y (ms.map Mk.pl) i) k).length cz900] 36) ∧ (Bx wl b17 [.bool (ms.getD (i : Int).toNat default).eight, .slice (ms.getD (i : Int).toNat default).p (ms.getD (i : Int).toNat default).bs.length (ms.getD (i : Int).toNat default).c] 34) ∧ (Own wl p32 (plist a i (ms.getD (i : Int).toNat default).eight (manyOf (ms.getD (i : Int).toNat default).eight).toNat).length c32 67 3 ((plist a i (ms.getD (i : Int).toNat default).eight (manyOf (ms.getD (i : Int).toNat default).eight).toNat).flatMap prow) F32) ∧ (Own wl pz900 (((bldB a b q y (ms.map Mk.pl) i (bldM a b q y (ms.map Mk.pl) i) k)).length) cz900 3 1 (ic ((bldB a b q y (ms.map Mk.pl) i (bldM a b q y (ms.map Mk.pl) i) k))) Fz900) ∧ (Fr (w7.heap.size) Fz900) ∧ (Lt Fz900 wl.heap.size) ∧ (b1 ∉ Fz900) ∧ (b4 ∉ Fz900) ∧ (b11 ∉ Fz900) ∧ (b17 ∉ Fz900) ∧ (Dj F32 Fz900) ∧ ((k : Int) ≤ manyOf (ms.getD (i : Int).toNat default).eight)) 0 ⟨_, _, _, _, upd_self11 rfl rfl rfl rfl rfl rfl rfl rfl rfl rfl rfl, L, (by omega), B1, B4, B11, B17, o32, oz900, (fz900.mono (by omega)), (gz900.mono (by omega)), (by first|assumption|exact nin_of fz900 gz900 (by omega)), (by first|assumption|exact nin_of fz900 gz900 (by omega)), (by first|assumption|exact nin_of fz900 gz900 (by omega)), (by first|assumption|exact nin_of fz900 gz900 (by omega)), (by first|assumption|exact Dj.symm (by assumption)|exact dj_of f32 g32 fz900 gz900 (by omega)), (by omega)⟩ ?_
   rintro k E wl24 ⟨E0, pz900, cz900, Fz900, rfl, L, Lz, B1, B4, B11, B17, o32, oz900, fz900, gz900, ab1_z900, ab4_z900, ab11_z900, ab17_z900, d32_z900, hk⟩
   have Lz0 := L.size; have hbbl := bldB_length a b q y (ms.map Mk.pl) i (bldM a b q y (ms.map Mk.pl) i) k; have hpll := plist_length a i (ms.getD (i : Int).toNat default).eight (manyOf (ms.getD (i : Int).toNat default).eight).toNat
   refine wp_seq (c_reg ?_)
   refine sb (x_lss rfl rfl) (fun h35 => ?_) (fun h35 => ?_)
   ·refine c_end (n_then (wp_seq (c_true rfl (c_skipn (n_then (wp_seq (wp_block (wp_seq (c_reg (s0 (xmI rfl) (s0 (x_idx so64 rfl rfl o32.sl (by decide) (by omega) (by omega)) (st (x_ldr prow_len ag67 rfl o32.sl (by omega) (by omega)) (s_alloc zr67 ?_)))))))))))))
    intro b25 w26 lob25 hib25 l27 B25
    have z_l27 := l27.size; have L := L.tr l27.up; have B1 := B1.ext l27; have B4 := B4.ext l27; have B11 := B11.ext l27; have B17 := B17.ext l27; have o32 := o32.ext l27; have oz900 := oz900.ext l27
    refine s0 (xaI rfl) (s_storeAg rfl sz67 rfl rfl B25 rfl rfl rfl ?_)
    intro w28 l29 el29 B25
    have z_l29 := l29.size; have L := L.fresh l29 (by omega); have B1 := B1.ne l29 (by omega); have B4 := B4.ne l29 (by omega); have B11 := B11.ne l29 (by omega); have B17 := B17.ne l29 (by omega); have o32 := o32.ne l29 (by first|assumption|exact nin_of f32 g32 (by omega))
    have oz900 := oz900.ne l29 (by first|assumption|exact nin_of fz900 gz900 (by omega))
    refine c_end (n_then ?_)
    have hbm := hb _ (getD_mem (xs := ms) (i := (i : Int)) (by omega) (by omega)); have hmo := hso.2.2 (i : Int).toNat (by omega); have hme := manyOf_in (ms.getD (i : Int).toNat default).eight
    have hbl : ((ms.getD (i : Int).toNat default).bs.length : Int) = manyOf (ms.getD (i : Int).toNat default).eight := by have h1 := hmo.1; rw [List.length_map, many_eq] at h1; exact h1
    have B25 := bx_eq (cs' := [.int .i64 (spX a i k), .int .i64 (spY a i k), .int .i64 (side (ms.getD (i : Int).toNat default).eight)]) (by rw [show (plist a i (ms.getD (i : Int).toNat default).eight (manyOf (ms.getD (i : Int).toNat default).eight).toNat).getD (k : Int).toNat default = _ from plist_get (j := k) (by omega)]; rfl) B25
    have hbk := hbm.2 _ (getD_mem (xs := (ms.getD (i : Int).toNat default).bs) (i := (k : Int)) (by omega) (by omega))
    have hpb : plB (ms.map Mk.pl) i k = Bk.pl ((ms.getD (i : Int).toNat default).bs.getD (k : Int).toNat default) := pl_blk (i := i) (k := k) (by omega) (by have h1 : (k : Int) < (ms.getD (i : Int).toNat default).bs.length := (by omega); exact Int.ofNat_lt.1 h1)
    refine c_plan (fun wq => Exm [] w28 wq) 16 (.cons (0, 1) (.cons (1, 2) (.cons (2, 1) (.cons (3, 2) (.cons (4, 1) (.cons (5, 2) (.cons (6, 1) (.cons (7, 2) (.cons (8, 1) (.cons (9, 2) (.cons (10, 2) (.cons (11, 1) (.cons (12, 0) (.cons (13, 2) (.cons (14, 2) (.cons (15, 2) (.cons (16, 0) .nil))))))))))))))))) (by kernel_rfl) (by kernel_rfl) (Exm.drew _) ?_
    obtain ⟨w30, hwd⟩ : ∃ x, x = w28.drew := ⟨_, rfl⟩
    have l31 : Ext w28 w30 := by rw [hwd]; exact Exm.drew _
    rw [← hwd]; clear hwd
    have Lq : Exm [] w28 w30 := l31.up; have qB1 := B1; have qB11 := B11; have qB17 := B17; have qB25 := B25; have qL := L; have z_l31 := l31.size; have L := L.tr l31.up; have B1 := B1.ext l31; have B4 := B4.ext l31; have B11 := B11.ext l31; have B17 := B17.ext l31; have B25 := B25.ext l31; have o32 := o32.ext l31; have oz900 := oz900.ext l31
    refine ps rfl (fun wq hwq => x_loadAgB ag36 rfl (qB11.ext hwq) rfl) ?_
    refine p0 rfl (x_fieldAddr fa29_0 rfl) ?_
    refine ps rfl (fun wq hwq => x_loadIn ag26 rfl (qB1.ext hwq) [.int _ _, .int _ _, .int _ _, .bool _, .bool _, .slice _ _ _] rfl rfl) ?_
    refine p0 rfl (x_fieldAddr fa67_0 rfl) ?_
    refine ps rfl (fun wq hwq => x_loadB sc3 rfl (qB25.ext hwq) rfl) ?_
    refine p0 rfl (x_fieldAddr fa67_1 rfl) ?_
    refine ps rfl (fun wq hwq => x_loadB sc3 rfl (qB25.ext hwq) rfl) ?_
    refine p0 rfl (x_fieldAddr fa34_1 rfl) ?_
    refine ps rfl (fun wq hwq => x_loadB sc32 rfl (qB17.ext hwq) rfl) ?_
    refine p0 rfl (xmI rfl) (p0 rfl (x_idx so32 rfl rfl ((hp.2 _ (getD_mem (by omega) (by omega))).ext L).1 (by decide) (by omega) (by omega)) ?_)
    refine ps rfl (fun wq hwq => x_ldr brow_len ag71 rfl (((hp.2 _ (getD_mem (by omega) (by omega))).ext qL).1.ext hwq) (by omega) (by omega)) ?_
    refine pu rfl ?_
    refine sp (zcall cl34 rfl) (i_putRef _ _ _ _ _ _ _ _ _ _ _ _ _ _ _ _ _ _ _ _ oz900.sl (((hp.2 _ (getD_mem (by omega) (by omega))).ext L).2 _ (getD_mem (by omega) (by omega))) (by omega) (by omega)) ?_
    rintro v52 w32 l33 ⟨p52, c52, F52, rfl, o52, f52⟩
    have z_l33 := l33.size; have L := L.tr l33.up; have Lq := Lq.tr l33.up; have B1 := B1.ext l33; have B4 := B4.ext l33; have B11 := B11.ext l33; have B17 := B17.ext l33; have B25 := B25.ext l33; have o32 := o32.ext l33; have oz900 := oz900.ext l33; have g52 := o52.lt
    refine c_end ⟨rfl, fun h hS => Lq, ?_⟩
    refine p0 rfl (x_move (v := .tuple _) rfl) (p0 rfl (x_extract rfl rfl) (p0 rfl (x_extract rfl rfl) (pu rfl (s_storeAg rfl sz36 rfl rfl B11 rfl rfl rfl ?_))))
    intro w34 l35 el35 B11
    have z_l35 := l35.size; have L := L.fresh l35 (by omega); have B1 := B1.ne l35 (by omega); have B4 := B4.ne l35 (by omega); have B17 := B17.ne l35 (by omega); have B25 := B25.ne l35 (by omega); have o32 := o32.ne l35 (by first|assumption|exact nin_of f32 g32 (by omega))
    have oz900 := oz900.ne l35 (by first|assumption|exact nin_of fz900 gz900 (by omega))
    have o52 := o52.ne l35 (by first|assumption|exact nin_of f52 g52 (by omega))
    refine c_end ⟨rfl, fun h hS => absurd h (by decide), ?_⟩
    refine p_nil (np_normal ?_)
    refine n_block (n_then (c_reg (s0 (x_add rfl rfl (by omega)) (s0 (xmI rfl) (c_end ?_)))))
    exact c_round (g' := k + 1) (by omega) ⟨_, _, _, _, upd_self11 rfl rfl rfl rfl rfl rfl rfl rfl rfl rfl (vint (by omega)), L, (by omega), B1, B4, (bx_s2 (by rw [bldB_length, bldB_length]) B11), B17, o32, (by simp only [bldB]; rw [hpb]; exact ownN o52 (putL_length _ _ _ _ _ _ _ _ _).symm), (f52.mono (by omega)), (g52.mono (by omega)), (by first|assumption|exact nin_of f52 g52 (by omega)), (by first|assumption|exact nin_of f52 g52 (by omega)), (by first|assumption|exact nin_of f52 g52 (by omega)), (by first|assumption|exact nin_of f52 g52 (by omega)), (by first|assumption|exact Dj.symm (by assumption)|exact dj_of f32 g32 f52 g52 (by omega)), (by omega)⟩
   ·refine c_end (n_then (wp_seq (c_false rfl ?_)))
    refine wp_exit (e_then (e_then (e_here ?_)))
    refine n_block (n_then (c_reg (s0 (x_add rfl rfl (by omega)) (s0 (xmI rfl) (c_end ?_)))))
    have hmo2 := hso.2.2 (i : Int).toNat (by omega)
    have hbl2 : ((ms.getD (i : Int).toNat default).bs.length : Int) = manyOf (ms.getD (i : Int).toNat default).eight := by have h1 := hmo2.1; rw [List.length_map, many_eq] at h1; exact h1
    have hke : k = ((ms.map Mk.pl).getD i default).2.length := by rw [pl_len (by omega)]; have h1 : (k : Int) = (ms.getD (i : Int).toNat default).bs.length := (by omega); exact Int.ofNat.inj h1
    exact c_round (g' := i + 1) (by omega) ⟨_, _, _, _, upd_self6 rfl rfl rfl rfl rfl (vint (by omega)), L, (by omega), B1, B4, (bx_s2 (by rw [bldB_length, bldM_length, bldM_length]) B11), (by have h9 := ownN oz900 (show _ = (bldM a b q y (ms.map Mk.pl) (i + 1)).length by rw [bldB_length, bldM_length, bldM_length]); rw [hke] at h9; exact h9), (fz900.mono (by omega)), (gz900.mono (by omega)), (by first|assumption|exact nin_of fz900 gz900 (by omega)), (by first|assumption|exact nin_of fz900 gz900 (by omega)), (by first|assumption|exact nin_of fz900 gz900 (by omega)), (by omega)⟩
  ·refine c_end (n_then (wp_seq (c_false rfl ?_)))
   refine wp_exit (e_then (e_then (e_here ?_)))
   refine n_then (wp_seq (c_reg (s0 (x_fieldAddr fa29_0 rfl) (st (x_loadIn ag26 rfl B1 [.int _ _, .int _ _, .int _ _, .bool _, .bool _, .slice _ _ _] rfl rfl) (st (x_loadAgB ag36 rfl B11 rfl) ?_)))))
   refine sp (zcall cl35 rfl) (i_ended_t _ _ _ _ _ _ _ _ _ _ _ _ _ _ oz900.sl (by omega)) ?_
   rintro v60 w36 l37 ⟨p60, c60, F60, rfl, o60, f60⟩
   have z_l37 := l37.size; have L := L.tr l37.up; have B1 := B1.ext l37; have B4 := B4.ext l37; have B11 := B11.ext l37; have oz900 := oz900.ext l37; have g60 := o60.lt
   refine s_storeAg rfl sz36 rfl rfl B4 rfl rfl rfl ?_
   intro w38 l39 el39 B4
   have z_l39 := l39.size; have L := L.fresh l39 (by omega); have B1 := B1.ne l39 (by omega); have B11 := B11.ne l39 (by omega); have oz900 := oz900.ne l39 (by first|assumption|exact nin_of fz900 gz900 (by omega))
   have o60 := o60.ne l39 (by first|assumption|exact nin_of f60 g60 (by omega))
   refine c_end (n_then (wp_ret (f_retc rfl rfl ag36 B4 rfl ?_)))
   have hie : i = (ms.map Mk.pl).length := by rw [List.length_map]; omega
   obtain ⟨e1, e2, e3⟩ := br_yes (y := y) (z := true) h9
   rw [e1, e2, e3, if_pos rfl, ← hie]
   exact ⟨_, rfl, L, p60, c60, F60, (by rw [dbOf_length]), ownN o60 (dbOf_length _ _ _ _).symm, f60.mono (by omega)⟩
 ·have z_l8 := l8.size
  have L := L.tr l8.up; have B1 := B1.ext l8; have B4 := B4.ext l8
  refine s0 (x_not rfl) (c_end (n_then (c_true rfl (wp_seq (c_reg ?_)))))
  refine s0 (x_build (cs := [.int .i64 0, .int .i64 0, .slice none 0 0]) bd36 pts_nil rfl) ?_
  refine s_storeAg rfl sz36 rfl rfl B4 rfl rfl rfl ?_
  intro w40 l41 el41 B4
  have z_l41 := l41.size; have L := L.fresh l41 (by omega); have B1 := B1.ne l41 (by omega)
  refine c_end (n_then ?_)
  refine wp_ret (r_then ?_)
  refine f_retc rfl rfl ag36 B4 rfl ?_
  obtain ⟨e1, e2, e3⟩ := br_no (y := y) (z := true) h9
  rw [e1, e2, e3]
  exact ⟨_, rfl, L, none, 0, [], rfl, Own.nil, Fr.no⟩

set_option maxHeartbeats 4000000 in
theorem i_buildRef_f (a b q : Int) (y : Bool) (r : Option Addr) (xs : List Int) (e : Nat) (p : Option Addr) (ms : List Mk) (c : Nat) (w : World) (hx : Sl w r xs.length e 1 (ic xs)) (hp : RdMs w p ms c) (hl0 : xs.length ≤ 1099511627776) (hl : ms.length ≤ 1099511627776) (hb : ∀ m ∈ ms, smallM 1099511627776 m) :
    Calls Tryz.prog 10 [.agg [.int .i64 a, .int .i64 b, .int .i64 q, .bool y, .bool false, .slice r xs.length e, .slice p ms.length c].toArray].toArray w (RetP w fun v w' => ∃ (p : Option Addr) (c : Nat) (F : List Nat), v = .agg [.int .i64 (brS a b q xs (ms.map Mk.pl) a), .int .i64 (brS a b q xs (ms.map Mk.pl) b), .slice p (brX a b q y false xs (ms.map Mk.pl)).length c].toArray ∧ Own w' p (brX a b q y false xs (ms.map Mk.pl)).length c 3 1 (ic (brX a b q y false xs (ms.map Mk.pl))) F ∧ Fr w.heap.size F) := by
 have L : Exm [] w w := Exm.rfl'
 refine enter (n := 61) Tryz.func10 rfl rfl rfl ?_
 refine wp_seq (c_reg (s_box rfl rfl ?_))
 intro b1 w2 lob1 hib1 l3 B1
 have z_l3 := l3.size; have L := L.tr l3.up
 refine s_alloc zr36 ?_
 intro b4 w5 lob4 hib4 l6 B4
 have z_l6 := l6.size; have L := L.tr l6.up; have B1 := B1.ext l6
 refine c_end (n_then (wp_seq (wp_seq (c_reg (st (x_loadAgB ag29 rfl B1 rfl) ?_)))))
 refine srb (zcall cl31 rfl) (i_streamOk _ _ _ _ _ _ _ _ _ _ _ _ (hx.ext L) (hp.ext L) (by omega) (by omega) (by assumption)) (fun h9 w7 l8 => ?_) (fun h9 w7 l8 => ?_)
 ·have z_l8 := l8.size
  have L := L.tr l8.up; have B1 := B1.ext l8; have B4 := B4.ext l8
  refine s0 (x_not rfl) (c_end (n_then (c_false rfl (c_skipn (n_then (wp_seq ?_))))))
  have hso := stream_iff.1 h9; have hsd : sidesOk a b := hso.1.1; have hsm := sides_mul hsd; have hmr := many_range hsd; have hW : 8 ≤ a ∧ a ≤ 32 := hsd.1
  refine c_reg (s0 (x_fieldAddr fa29_0 rfl) (s0 (x_fieldAddr fa26_0 rfl) (st (x_loadB sc3 rfl B1 rfl) (s0 (x_fieldAddr fa29_0 rfl) (s0 (x_fieldAddr fa26_1 rfl) (st (x_loadB sc3 rfl B1 rfl) ?_))))))
  refine sp (zcall cl32 rfl) (i_frameNew _ _ _ (by assumption)) ?_
  rintro v18 w9 l10 ⟨p18, c18, F18, rfl, o18, f18⟩
  have z_l10 := l10.size; have L := L.tr l10.up; have B1 := B1.ext l10; have B4 := B4.ext l10; have g18 := o18.lt
  refine s_alloc zr36 ?_
  intro b11 w12 lob11 hib11 l13 B11
  have z_l13 := l13.size; have L := L.tr l13.up; have B1 := B1.ext l13; have B4 := B4.ext l13; have o18 := o18.ext l13
  refine s_storeAg rfl sz36 rfl rfl B11 rfl rfl rfl ?_
  intro w14 l15 el15 B11
  have z_l15 := l15.size; have L := L.fresh l15 (by omega); have B1 := B1.ne l15 (by omega); have B4 := B4.ne l15 (by omega); have o18 := o18.ne l15 (by first|assumption|exact nin_of f18 g18 (by omega))
  refine c_end (n_then (wp_seq (wp_seq (c_reg (s0 (x_fieldAddr fa29_1 rfl) (st (x_loadB sc27 rfl B1 rfl) (s0 (x_lensl un27 rfl) (s0 (xmI rfl) (c_end (n_then (wp_block ?_)))))))))))
  refine c_loop (γ := Nat) (fun i => ms.length - i) (fun (i : Nat) E wl => ∃ E0 pz900 cz900 Fz900, E = upd (upd (upd (upd (upd (upd E0 1 (pt b1 0)) 2 (pt b4 0)) 3 (pt b11 0)) 20 (.slice p ms.length c)) 21 (.int .i64 ms.length)) 22 (.int .i64 (i : Int)) ∧ (Exm [] w wl) ∧ (w14.heap.size ≤ wl.heap.size) ∧ (Bx wl b1 [.int .i64 a, .int .i64 b, .int .i64 q, .bool y, .bool false, .slice r xs.length e, .slice p ms.length c] 29) ∧ (Bx wl b4 [.int .i64 0, .int .i64 0, .slice none 0 0] 36) ∧ (Bx wl b11 [.int .i64 a, .int .i64 b, .slice pz900 (bldM a b q y (ms.map Mk.pl) i).length cz900] 36) ∧ (Own wl pz900 (((bldM a b q y (ms.map Mk.pl) i)).length) cz900 3 1 (ic ((bldM a b q y (ms.map Mk.pl) i))) Fz900) ∧ (Fr (w7.heap.size) Fz900) ∧ (Lt Fz900 wl.heap.size) ∧ (b1 ∉ Fz900) ∧ (b4 ∉ Fz900) ∧ (b11 ∉ Fz900) ∧ ((i : Int) ≤ ms.length)) 0 ⟨_, _, _, _, upd_self6 rfl rfl rfl rfl rfl rfl, L, (by omega), B1, B4, (bx_s2 (bldM_length a b q y (ms.map Mk.pl) 0).symm B11), (ownN o18 (bldM_length a b q y (ms.map Mk.pl) 0).symm), (f18.mono (by omega)), (g18.mono (by omega)), (by first|assumption|exact nin_of f18 g18 (by omega)), (by first|assumption|exact nin_of f18 g18 (by omega)), (by first|assumption|exact nin_of f18 g18 (by omega)), (by omega)⟩ ?_
  rintro i E wl16 ⟨E0, pz900, cz900, Fz900, rfl, L, Lz, B1, B4, B11, oz900, fz900, gz900, ab1_z900, ab4_z900, ab11_z900, hi⟩
  have Lz0 := L.size; have hbml := bldM_length a b q y (ms.map Mk.pl) i
  refine wp_seq (c_reg ?_)
  refine sb (x_lss rfl rfl) (fun h23 => ?_) (fun h23 => ?_)
  ·refine c_end (n_then (wp_seq (c_true rfl (c_skipn (n_then (wp_seq (wp_block (wp_seq (c_reg (s0 (xmI rfl) (s0 (x_idx so27 rfl rfl hp.1 (by decide) (by omega) (by omega)) (st (x_ldr mrow_len ag34 rfl (hp.1.ext L) (by omega) (by omega)) (s_alloc zr34 ?_)))))))))))))
   intro b17 w18 lob17 hib17 l19 B17
   have z_l19 := l19.size; have L := L.tr l19.up; have B1 := B1.ext l19; have B4 := B4.ext l19; have B11 := B11.ext l19; have oz900 := oz900.ext l19
   refine s0 (xaI rfl) (s_storeAg rfl sz34 rfl rfl B17 rfl rfl rfl ?_)
   intro w20 l21 el21 B17
   have z_l21 := l21.size; have L := L.fresh l21 (by omega); have B1 := B1.ne l21 (by omega); have B4 := B4.ne l21 (by omega); have B11 := B11.ne l21 (by omega); have oz900 := oz900.ne l21 (by first|assumption|exact nin_of fz900 gz900 (by omega))
   refine c_end (n_then (wp_seq ?_))
   have hbm := hb _ (getD_mem (xs := ms) (i := (i : Int)) (by omega) (by omega)); have hme := manyOf_in (ms.getD (i : Int).toNat default).eight
   refine c_reg (s0 (x_fieldAddr fa29_0 rfl) (st (x_loadIn ag26 rfl B1 [.int _ _, .int _ _, .int _ _, .bool _, .bool _, .slice _ _ _] rfl rfl) (s0 (xmI rfl) (s0 (x_fieldAddr fa34_0 rfl) (st (x_loadB sc4 rfl B17 rfl) ?_)))))
   refine sp (zcall cl33 rfl) (i_placesOf _ _ _ _ _ _ _ _ _ _ _ (by omega) (by omega)) ?_
   rintro v32 w22 l23 ⟨p32, c32, F32, rfl, o32, f32⟩
   have z_l23 := l23.size; have L := L.tr l23.up; have B1 := B1.ext l23; have B4 := B4.ext l23; have B11 := B11.ext l23; have B17 := B17.ext l23; have oz900 := oz900.ext l23; have g32 := o32.lt
   refine s0 (x_lensl un64 rfl) (s0 (xmI rfl) (c_end (n_then (wp_block ?_))))
   refine c_loop (γ := Nat) (fun k => (manyOf (ms.getD (i : Int).toNat default).eight).toNat - k) (fun (k : Nat) E wl => ∃ E0 pz900 cz900 Fz900, E = upd (upd (upd (upd (upd (upd (upd (upd (upd (upd (upd E0 1 (pt b1 0)) 2 (pt b4 0)) 3 (pt b11 0)) 4 (.int .i64 (i : Int))) 5 (pt b17 0)) 20 (.slice p ms.length c)) 21 (.int .i64 ms.length)) 22 (.int .i64 (i : Int))) 32 (.slice p32 (plist a i (ms.getD (i : Int).toNat default).eight (manyOf (ms.getD (i : Int).toNat default).eight).toNat).length c32)) 33 (.int .i64 ((plist a i (ms.getD (i : Int).toNat default).eight (manyOf (ms.getD (i : Int).toNat default).eight).toNat).length : Int))) 34 (.int .i64 (k : Int)) ∧ (Exm [] w wl) ∧ (w22.heap.size ≤ wl.heap.size) ∧ (Bx wl b1 [.int .i64 a, .int .i64 b, .int .i64 q, .bool y, .bool false, .slice r xs.length e, .slice p ms.length c] 29) ∧ (Bx wl b4 [.int .i64 0, .int .i64 0, .slice none 0 0] 36) ∧ (Bx wl b11 [.int .i64 a, .int .i64 b, .slice pz900 (bldB a b q y (ms.map Mk.pl) i (bldM a b q y (ms.map Mk.pl) i) k).length cz900] 36) ∧ (Bx wl b17 [.bool (ms.getD (i : Int).toNat default).eight, .slice (ms.getD (i : Int).toNat default).p (ms.getD (i : Int).toNat default).bs.length (ms.getD (i : Int).toNat default).c] 34) ∧ (Own wl p32 (plist a i (ms.getD (i : Int).toNat default).eight (manyOf (ms.getD (i : Int).toNat default).eight).toNat).length c32 67 3 ((plist a i (ms.getD (i : Int).toNat default).eight (manyOf (ms.getD (i : Int).toNat default).eight).toNat).flatMap prow) F32) ∧ (Own wl pz900 (((bldB a b q y (ms.map Mk.pl) i (bldM a b q y (ms.map Mk.pl) i) k)).length) cz900 3 1 (ic ((bldB a b q y (ms.map Mk.pl) i (bldM a b q y (ms.map Mk.pl) i) k))) Fz900) ∧ (Fr (w7.heap.size) Fz900) ∧ (Lt Fz900 wl.heap.size) ∧ (b1 ∉ Fz900) ∧ (b4 ∉ Fz900) ∧ (b11 ∉ Fz900) ∧ (b17 ∉ Fz900) ∧ (Dj F32 Fz900) ∧ ((k : Int) ≤ manyOf (ms.getD (i : Int).toNat default).eight)) 0 ⟨_, _, _, _, upd_self11 rfl rfl rfl rfl rfl rfl rfl rfl rfl rfl rfl, L, (by omega), B1, B4, B11, B17, o32, oz900, (fz900.mono (by omega)), (gz900.mono (by omega)), (by first|assumption|exact nin_of fz900 gz900 (by omega)), (by first|assumption|exact nin_of fz900 gz900 (by omega)), (by first|assumption|exact nin_of fz900 gz900 (by omega)), (by first|assumption|exact nin_of fz900 gz900 (by omega)), (by first|assumption|exact Dj.symm (by assumption)|exact dj_of f32 g32 fz900 gz900 (by omega)), (by omega)⟩ ?_
   rintro k E wl24 ⟨E0, pz900, cz900, Fz900, rfl, L, Lz, B1, B4, B11, B17, o32, oz900, fz900, gz900, ab1_z900, ab4_z900, ab11_z900, ab17_z900, d32_z900, hk⟩
   have Lz0 := L.size; have hbbl := bldB_length a b q y (ms.map Mk.pl) i (bldM a b q y (ms.map Mk.pl) i) k; have hpll := plist_length a i (ms.getD (i : Int).toNat default).eight (manyOf (ms.getD (i : Int).toNat default).eight).toNat
   refine wp_seq (c_reg ?_)
   refine sb (x_lss rfl rfl) (fun h35 => ?_) (fun h35 => ?_)
   ·refine c_end (n_then (wp_seq (c_true rfl (c_skipn (n_then (wp_seq (wp_block (wp_seq (c_reg (s0 (xmI rfl) (s0 (x_idx so64 rfl rfl o32.sl (by decide) (by omega) (by omega)) (st (x_ldr prow_len ag67 rfl o32.sl (by omega) (by omega)) (s_alloc zr67 ?_)))))))))))))
    intro b25 w26 lob25 hib25 l27 B25
    have z_l27 := l27.size; have L := L.tr l27.up; have B1 := B1.ext l27; have B4 := B4.ext l27; have B11 := B11.ext l27; have B17 := B17.ext l27; have o32 := o32.ext l27; have oz900 := oz900.ext l27
    refine s0 (xaI rfl) (s_storeAg rfl sz67 rfl rfl B25 rfl rfl rfl ?_)
    intro w28 l29 el29 B25
    have z_l29 := l29.size; have L := L.fresh l29 (by omega); have B1 := B1.ne l29 (by omega); have B4 := B4.ne l29 (by omega); have B11 := B11.ne l29 (by omega); have B17 := B17.ne l29 (by omega); have o32 := o32.ne l29 (by first|assumption|exact nin_of f32 g32 (by omega))
    have oz900 := oz900.ne l29 (by first|assumption|exact nin_of fz900 gz900 (by omega))
    refine c_end (n_then ?_)
    have hbm := hb _ (getD_mem (xs := ms) (i := (i : Int)) (by omega) (by omega)); have hmo := hso.2.2 (i : Int).toNat (by omega); have hme := manyOf_in (ms.getD (i : Int).toNat default).eight
    have hbl : ((ms.getD (i : Int).toNat default).bs.length : Int) = manyOf (ms.getD (i : Int).toNat default).eight := by have h1 := hmo.1; rw [List.length_map, many_eq] at h1; exact h1
    have B25 := bx_eq (cs' := [.int .i64 (spX a i k), .int .i64 (spY a i k), .int .i64 (side (ms.getD (i : Int).toNat default).eight)]) (by rw [show (plist a i (ms.getD (i : Int).toNat default).eight (manyOf (ms.getD (i : Int).toNat default).eight).toNat).getD (k : Int).toNat default = _ from plist_get (j := k) (by omega)]; rfl) B25
    have hbk := hbm.2 _ (getD_mem (xs := (ms.getD (i : Int).toNat default).bs) (i := (k : Int)) (by omega) (by omega))
    have hpb : plB (ms.map Mk.pl) i k = Bk.pl ((ms.getD (i : Int).toNat default).bs.getD (k : Int).toNat default) := pl_blk (i := i) (k := k) (by omega) (by have h1 : (k : Int) < (ms.getD (i : Int).toNat default).bs.length := (by omega); exact Int.ofNat_lt.1 h1)
    refine c_plan (fun wq => Exm [] w28 wq) 16 (.cons (0, 1) (.cons (1, 2) (.cons (2, 1) (.cons (3, 2) (.cons (4, 1) (.cons (5, 2) (.cons (6, 1) (.cons (7, 2) (.cons (8, 1) (.cons (9, 2) (.cons (10, 2) (.cons (11, 1) (.cons (12, 0) (.cons (13, 2) (.cons (14, 2) (.cons (15, 2) (.cons (16, 0) .nil))))))))))))))))) (by kernel_rfl) (by kernel_rfl) (Exm.drew _) ?_
    obtain ⟨w30, hwd⟩ : ∃ x, x = w28.drew := ⟨_, rfl⟩
    have l31 : Ext w28 w30 := by rw [hwd]; exact Exm.drew _
    rw [← hwd]; clear hwd
    have Lq : Exm [] w28 w30 := l31.up; have qB1 := B1; have qB11 := B11; have qB17 := B17; have qB25 := B25; have qL := L; have z_l31 := l31.size; have L := L.tr l31.up; have B1 := B1.ext l31; have B4 := B4.ext l31; have B11 := B11.ext l31; have B17 := B17.ext l31; have B25 := B25.ext l31; have o32 := o32.ext l31; have oz900 := oz900.ext l31
    refine ps rfl (fun wq hwq => x_loadAgB ag36 rfl (qB11.ext hwq) rfl) ?_
    refine p0 rfl (x_fieldAddr fa29_0 rfl) ?_
    refine ps rfl (fun wq hwq => x_loadIn ag26 rfl (qB1.ext hwq) [.int _ _, .int _ _, .int _ _, .bool _, .bool _, .slice _ _ _] rfl rfl) ?_
    refine p0 rfl (x_fieldAddr fa67_0 rfl) ?_
    refine ps rfl (fun wq hwq => x_loadB sc3 rfl (qB25.ext hwq) rfl) ?_
    refine p0 rfl (x_fieldAddr fa67_1 rfl) ?_
    refine ps rfl (fun wq hwq => x_loadB sc3 rfl (qB25.ext hwq) rfl) ?_
    refine p0 rfl (x_fieldAddr fa34_1 rfl) ?_
    refine ps rfl (fun wq hwq => x_loadB sc32 rfl (qB17.ext hwq) rfl) ?_
    refine p0 rfl (xmI rfl) (p0 rfl (x_idx so32 rfl rfl ((hp.2 _ (getD_mem (by omega) (by omega))).ext L).1 (by decide) (by omega) (by omega)) ?_)
    refine ps rfl (fun wq hwq => x_ldr brow_len ag71 rfl (((hp.2 _ (getD_mem (by omega) (by omega))).ext qL).1.ext hwq) (by omega) (by omega)) ?_
    refine pu rfl ?_
    refine sp (zcall cl34 rfl) (i_putRef _ _ _ _ _ _ _ _ _ _ _ _ _ _ _ _ _ _ _ _ oz900.sl (((hp.2 _ (getD_mem (by omega) (by omega))).ext L).2 _ (getD_mem (by omega) (by omega))) (by omega) (by omega)) ?_
    rintro v52 w32 l33 ⟨p52, c52, F52, rfl, o52, f52⟩
    have z_l33 := l33.size; have L := L.tr l33.up; have Lq := Lq.tr l33.up; have B1 := B1.ext l33; have B4 := B4.ext l33; have B11 := B11.ext l33; have B17 := B17.ext l33; have B25 := B25.ext l33; have o32 := o32.ext l33; have oz900 := oz900.ext l33; have g52 := o52.lt
    refine c_end ⟨rfl, fun h hS => Lq, ?_⟩
    refine p0 rfl (x_move (v := .tuple _) rfl) (p0 rfl (x_extract rfl rfl) (p0 rfl (x_extract rfl rfl) (pu rfl (s_storeAg rfl sz36 rfl rfl B11 rfl rfl rfl ?_))))
    intro w34 l35 el35 B11
    have z_l35 := l35.size; have L := L.fresh l35 (by omega); have B1 := B1.ne l35 (by omega); have B4 := B4.ne l35 (by omega); have B17 := B17.ne l35 (by omega); have B25 := B25.ne l35 (by omega); have o32 := o32.ne l35 (by first|assumption|exact nin_of f32 g32 (by omega))
    have oz900 := oz900.ne l35 (by first|assumption|exact nin_of fz900 gz900 (by omega))
    have o52 := o52.ne l35 (by first|assumption|exact nin_of f52 g52 (by omega))
    refine c_end ⟨rfl, fun h hS => absurd h (by decide), ?_⟩
    refine p_nil (np_normal ?_)
    refine n_block (n_then (c_reg (s0 (x_add rfl rfl (by omega)) (s0 (xmI rfl) (c_end ?_)))))
    exact c_round (g' := k + 1) (by omega) ⟨_, _, _, _, upd_self11 rfl rfl rfl rfl rfl rfl rfl rfl rfl rfl (vint (by omega)), L, (by omega), B1, B4, (bx_s2 (by rw [bldB_length, bldB_length]) B11), B17, o32, (by simp only [bldB]; rw [hpb]; exact ownN o52 (putL_length _ _ _ _ _ _ _ _ _).symm), (f52.mono (by omega)), (g52.mono (by omega)), (by first|assumption|exact nin_of f52 g52 (by omega)), (by first|assumption|exact nin_of f52 g52 (by omega)), (by first|assumption|exact nin_of f52 g52 (by omega)), (by first|assumption|exact nin_of f52 g52 (by omega)), (by first|assumption|exact Dj.symm (by assumption)|exact dj_of f32 g32 f52 g52 (by omega)), (by omega)⟩
   ·refine c_end (n_then (wp_seq (c_false rfl ?_)))
    refine wp_exit (e_then (e_then (e_here ?_)))
    refine n_block (n_then (c_reg (s0 (x_add rfl rfl (by omega)) (s0 (xmI rfl) (c_end ?_)))))
    have hmo2 := hso.2.2 (i : Int).toNat (by omega)
    have hbl2 : ((ms.getD (i : Int).toNat default).bs.length : Int) = manyOf (ms.getD (i : Int).toNat default).eight := by have h1 := hmo2.1; rw [List.length_map, many_eq] at h1; exact h1
    have hke : k = ((ms.map Mk.pl).getD i default).2.length := by rw [pl_len (by omega)]; have h1 : (k : Int) = (ms.getD (i : Int).toNat default).bs.length := (by omega); exact Int.ofNat.inj h1
    exact c_round (g' := i + 1) (by omega) ⟨_, _, _, _, upd_self6 rfl rfl rfl rfl rfl (vint (by omega)), L, (by omega), B1, B4, (bx_s2 (by rw [bldB_length, bldM_length, bldM_length]) B11), (by have h9 := ownN oz900 (show _ = (bldM a b q y (ms.map Mk.pl) (i + 1)).length by rw [bldB_length, bldM_length, bldM_length]); rw [hke] at h9; exact h9), (fz900.mono (by omega)), (gz900.mono (by omega)), (by first|assumption|exact nin_of fz900 gz900 (by omega)), (by first|assumption|exact nin_of fz900 gz900 (by omega)), (by first|assumption|exact nin_of fz900 gz900 (by omega)), (by omega)⟩
  ·refine c_end (n_then (wp_seq (c_false rfl ?_)))
   refine wp_exit (e_then (e_then (e_here ?_)))
   refine n_then (wp_seq (c_reg (s0 (x_fieldAddr fa29_0 rfl) (st (x_loadIn ag26 rfl B1 [.int _ _, .int _ _, .int _ _, .bool _, .bool _, .slice _ _ _] rfl rfl) (st (x_loadAgB ag36 rfl B11 rfl) ?_)))))
   refine sr (zcall cl35 rfl) (i_ended_f _ _ _ _ _ _ _ _ _ _ _ _ _ _ oz900.sl (by omega)) ?_
   intro w36 l37
   have z_l37 := l37.size; have L := L.tr l37.up; have B1 := B1.ext l37; have B4 := B4.ext l37; have B11 := B11.ext l37; have oz900 := oz900.ext l37
   refine s_storeAg rfl sz36 rfl rfl B4 rfl rfl rfl ?_
   intro w38 l39 el39 B4
   have z_l39 := l39.size; have L := L.fresh l39 (by omega); have B1 := B1.ne l39 (by omega); have B11 := B11.ne l39 (by omega); have oz900 := oz900.ne l39 (by first|assumption|exact nin_of fz900 gz900 (by omega))
   refine c_end (n_then (wp_ret (f_retc rfl rfl ag36 B4 rfl ?_)))
   have hie : i = (ms.map Mk.pl).length := by rw [List.length_map]; omega
   obtain ⟨e1, e2, e3⟩ := br_yes (y := y) (z := false) h9
   rw [e1, e2, e3, if_neg (by decide), ← hie]
   exact ⟨_, rfl, L, _, _, _, rfl, oz900, fz900.mono (by omega)⟩
 ·have z_l8 := l8.size
  have L := L.tr l8.up; have B1 := B1.ext l8; have B4 := B4.ext l8
  refine s0 (x_not rfl) (c_end (n_then (c_true rfl (wp_seq (c_reg ?_)))))
  refine s0 (x_build (cs := [.int .i64 0, .int .i64 0, .slice none 0 0]) bd36 pts_nil rfl) ?_
  refine s_storeAg rfl sz36 rfl rfl B4 rfl rfl rfl ?_
  intro w40 l41 el41 B4
  have z_l41 := l41.size; have L := L.fresh l41 (by omega); have B1 := B1.ne l41 (by omega)
  refine c_end (n_then ?_)
  refine wp_ret (r_then ?_)
  refine f_retc rfl rfl ag36 B4 rfl ?_
  obtain ⟨e1, e2, e3⟩ := br_no (y := y) (z := false) h9
  rw [e1, e2, e3]
  exact ⟨_, rfl, L, none, 0, [], rfl, Own.nil, Fr.no⟩

theorem i_buildRef (a b q : Int) (y z : Bool) (r : Option Addr) (xs : List Int) (e : Nat) (p : Option Addr) (ms : List Mk) (c : Nat) (w : World) (hx : Sl w r xs.length e 1 (ic xs)) (hp : RdMs w p ms c) (hl0 : xs.length ≤ 1099511627776) (hl : ms.length ≤ 1099511627776) (hb : ∀ m ∈ ms, smallM 1099511627776 m) : Calls Tryz.prog 10 [.agg [.int .i64 a, .int .i64 b, .int .i64 q, .bool y, .bool z, .slice r xs.length e, .slice p ms.length c].toArray].toArray w (RetP w fun v w' => ∃ (p : Option Addr) (c : Nat) (F : List Nat), v = .agg [.int .i64 (brS a b q xs (ms.map Mk.pl) a), .int .i64 (brS a b q xs (ms.map Mk.pl) b), .slice p (brX a b q y z xs (ms.map Mk.pl)).length c].toArray ∧ Own w' p (brX a b q y z xs (ms.map Mk.pl)).length c 3 1 (ic (brX a b q y z xs (ms.map Mk.pl))) F ∧ Fr w.heap.size F) := by
  cases z
  · exact i_buildRef_f a b q y r xs e p ms c w hx hp hl0 hl hb
  · exact i_buildRef_t a b q y r xs e p ms c w hx hp hl0 hl hb

end Go.Proofs.YtepnknffaecbdaaGreat
