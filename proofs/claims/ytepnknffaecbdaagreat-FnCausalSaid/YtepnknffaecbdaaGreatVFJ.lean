/- What each function of this part returns, for every argument that meets its premises. -/
import Derived.Test.YtepnknffaecbdaaGreatProg
import Derived.Test.YtepnknffaecbdaaGreatVSxA
import Derived.Test.YtepnknffaecbdaaGreatVTy
import Derived.Test.YtepnknffaecbdaaGreatVPlA
import Derived.Test.YtepnknffaecbdaaGreatVF1
import Derived.Test.YtepnknffaecbdaaGreatVF4
import Derived.Test.YtepnknffaecbdaaGreatVF7
import Derived.Test.YtepnknffaecbdaaGreatVF8
import Derived.Test.YtepnknffaecbdaaGreatVF9
import Derived.Test.YtepnknffaecbdaaGreatVFB
namespace Go.Proofs.YtepnknffaecbdaaGreat
open Go.Sx Go.Pl Go.RowKit
theorem i_shape_t (w : World) :
    Calls Tryz.prog 74 [.bool true].toArray w (Ret w (.tuple [.int .i64 (manyOf true), .int .i64 (side true)].toArray)) := by
 have L : Exm [] w w := Exm.rfl'
 refine enter (n := 5) Tryz.func74 rfl rfl rfl ?_
 refine wp_seq (c_reg (s0 (xaI rfl) (s0 (xaI rfl) (c_end (n_then (wp_seq (wp_seq (c_reg (s0 (x_move (v := .bool _) rfl) (c_end (n_then (c_true rfl (wp_seq ?_)))))))))))))
 refine c_reg (s0 (xaI rfl) (s0 (xaI rfl) (c_end (n_then ?_))))
 refine wp_ret (r_then ?_)
 refine f_rets2 rfl (ro_tmp rfl) (ro_tmp rfl) ?_
 exact ⟨rfl, L⟩

theorem i_shape_f (w : World) :
    Calls Tryz.prog 74 [.bool false].toArray w (Ret w (.tuple [.int .i64 (manyOf false), .int .i64 (side false)].toArray)) := by
 have L : Exm [] w w := Exm.rfl'
 refine enter (n := 5) Tryz.func74 rfl rfl rfl ?_
 refine wp_seq (c_reg (s0 (xaI rfl) (s0 (xaI rfl) (c_end (n_then (wp_seq (wp_seq (c_reg (s0 (x_move (v := .bool _) rfl) (c_end (n_then (c_false rfl (c_skipn ?_)))))))))))))
 refine n_then (wp_seq (c_reg (s0 (xaI rfl) (s0 (xaI rfl) (c_end (n_then (wp_ret (f_rets2 rfl (ro_tmp rfl) (ro_tmp rfl) ?_))))))))
 exact ⟨rfl, L⟩

theorem i_shape (e : Bool) (w : World) : Calls Tryz.prog 74 [.bool e].toArray w (Ret w (.tuple [.int .i64 (manyOf e), .int .i64 (side e)].toArray)) := by
  cases e
  · exact i_shape_f w
  · exact i_shape_t w

theorem s_side_t (w : World) :
    Calls Tryz.prog 49 [.bool true].toArray w (Ret w (.int .i64 (side true))) := by
 have L : Exm [] w w := Exm.rfl'
 refine enter (n := 4) Tryz.func49 rfl rfl rfl ?_
 refine wp_seq (c_reg (s0 (xaI rfl) (c_end (n_then (wp_seq (wp_seq (c_reg (s0 (x_move (v := .bool _) rfl) (c_end (n_then (c_true rfl (wp_seq (c_reg ?_)))))))))))))
 refine s0 (xaI rfl) (c_end (n_then ?_))
 refine wp_ret (r_then ?_)
 refine f_ret rfl rfl ?_
 exact ⟨rfl, L⟩

theorem s_side_f (w : World) :
    Calls Tryz.prog 49 [.bool false].toArray w (Ret w (.int .i64 (side false))) := by
 have L : Exm [] w w := Exm.rfl'
 refine enter (n := 4) Tryz.func49 rfl rfl rfl ?_
 refine wp_seq (c_reg (s0 (xaI rfl) (c_end (n_then (wp_seq (wp_seq (c_reg (s0 (x_move (v := .bool _) rfl) (c_end (n_then (c_false rfl (c_skipn (n_then ?_)))))))))))))
 refine wp_seq (c_reg (s0 (xaI rfl) (c_end (n_then (wp_ret (f_ret rfl rfl ?_))))))
 exact ⟨rfl, L⟩

theorem s_side (e : Bool) (w : World) : Calls Tryz.prog 49 [.bool e].toArray w (Ret w (.int .i64 (side e))) := by
  cases e
  · exact s_side_f w
  · exact s_side_t w

theorem g_indexFB (fk : FuncId) (caps : List Value) (φ : Bk → Prop) [DecidablePred φ] (p : Option Addr) (bs : List Bk) (c : Nat) (w : World) (hc : Callable Tryz.prog fk) (hk : ∀ b ∈ bs, ∀ w', Exm [] w w' → Calls Tryz.prog fk ([Value.agg (brow b).toArray] ++ caps).toArray w' (Ret w' (.bool (decide (φ b))))) (hp : RdBs w p bs c) (hl : bs.length ≤ 1099511627776) :
    Calls Tryz.prog 188 [.slice p bs.length c, .func (.func fk) #[] caps.toArray].toArray w (RetP w fun v w' => ∃ r : Int, v = .int .i64 r ∧ (0 ≤ r ↔ ∃ j : Nat, j < bs.length ∧ φ (bs.getD j default))) := by
 have L : Exm [] w w := Exm.rfl'
 refine enter (n := 19) Tryz.func188 rfl rfl rfl ?_
 refine wp_seq (c_reg (s0 (xaI rfl) (c_end (n_then (wp_seq (wp_seq (c_reg (s0 (xmS rfl) (s0 (x_lensl un32 rfl) (s0 (xmI rfl) (c_end (n_then (wp_block ?_)))))))))))))
 refine c_loop (γ := Nat) (fun k => bs.length - k) (fun (k : Nat) E wl => ∃ E0, E = upd (upd (upd (upd E0 0 (.slice p bs.length c)) 1 (.func (.func fk) #[] caps.toArray)) 7 (.int .i64 bs.length)) 8 (.int .i64 (k : Int)) ∧ (Exm [] w wl) ∧ ((k : Int) ≤ bs.length) ∧ (∀ j : Nat, j < k → ¬ φ (bs.getD j default))) 0 ⟨_, upd_self4 rfl rfl rfl rfl, L, (by omega), (by intro j hj; omega)⟩ ?_
 rintro k E wl1 ⟨E0, rfl, L, hk2, hall⟩
 have Lz0 := L.size
 refine wp_seq (c_reg ?_)
 refine sb (x_lss rfl rfl) (fun h9 => ?_) (fun h9 => ?_)
 ·refine c_end (n_then (wp_seq (c_true rfl (c_skipn (n_then (wp_seq (wp_block (wp_seq (c_reg (s0 (xmI rfl) (s0 (xaI rfl) (c_end (n_then ?_)))))))))))))
  refine wp_seq (c_reg (s0 (x_move (v := .func _ _ _) rfl) (s0 (xmS rfl) (s0 (xmI rfl) (s0 (x_idx so32 rfl rfl hp.1 (by decide) (by omega) (by omega)) (st (x_ldr brow_len ag71 rfl (hp.1.ext L) (by omega) (by omega)) ?_))))))
  refine srb (zcallv (caps := caps) hc rfl rfl) (hk _ (getD_mem (by omega) (by omega)) _ L) (fun h16 w2 l3 => ?_) (fun h16 w2 l3 => ?_)
  ·have z_l3 := l3.size
   have L := L.tr l3.up
   refine c_end (n_then (c_true rfl (wp_seq (c_reg (s0 (xmI rfl) (s0 (xaI rfl) (c_end (n_then ?_))))))))
   refine wp_ret (r_block (r_then (r_then (r_block (r_then ?_)))))
   refine f_ret rfl rfl ?_
   exact ⟨_, rfl, L, _, rfl, ⟨fun _ => ⟨k, by omega, by simpa using h16⟩, fun _ => by omega⟩⟩
  ·have z_l3 := l3.size
   have L := L.tr l3.up
   refine c_end (n_then (c_false rfl (c_skipn (n_block (n_then (c_reg (s0 (x_add rfl rfl (by omega)) (s0 (xmI rfl) (c_end ?_)))))))))
   exact c_round (g' := k + 1) (by omega) ⟨_, upd_self4 rfl rfl rfl (vint (by omega)), L, (by omega), (upto_succ' hall (by simpa using h16))⟩
 ·refine c_end (n_then (wp_seq (c_false rfl ?_)))
  refine wp_exit (e_then (e_then (e_here ?_)))
  refine n_then (wp_seq (c_reg (s0 (xaI rfl) (c_end (n_then (wp_ret (f_ret rfl rfl ?_)))))))
  exact ⟨_, rfl, L, _, rfl, ⟨fun h => by omega, fun ⟨j, hj, h⟩ => absurd h (hall j (by omega))⟩⟩

theorem g_containsFB (fk : FuncId) (caps : List Value) (φ : Bk → Prop) [DecidablePred φ] (p : Option Addr) (bs : List Bk) (c : Nat) (w : World) (hc : Callable Tryz.prog fk) (hk : ∀ b ∈ bs, ∀ w', Exm [] w w' → Calls Tryz.prog fk ([Value.agg (brow b).toArray] ++ caps).toArray w' (Ret w' (.bool (decide (φ b))))) (hp : RdBs w p bs c) (hl : bs.length ≤ 1099511627776) :
    Calls Tryz.prog 135 [.slice p bs.length c, .func (.func fk) #[] caps.toArray].toArray w (RetP w fun v w' => ∃ r : Bool, v = .bool r ∧ (r = true ↔ ∃ j : Nat, j < bs.length ∧ φ (bs.getD j default))) := by
 have L : Exm [] w w := Exm.rfl'
 refine enter (n := 9) Tryz.func135 rfl rfl rfl ?_
 refine wp_seq (c_reg (s0 (x_assign (v := .bool _) rfl) (c_end (n_then (wp_seq (c_reg (s0 (xmS rfl) (s0 (x_move (v := .func _ _ _) rfl) ?_))))))))
 refine sp (zcall cl188 rfl) (g_indexFB _ _ φ _ _ _ _ hc (fun b hb w9 L9 => hk b hb w9 (L.tr L9)) (hp.ext L) (by omega)) ?_
 rintro v7 w1 l2 ⟨r7, rfl, hr7⟩
 have z_l2 := l2.size; have L := L.tr l2.up
 refine s0 (x_geq rfl rfl) (s0 (x_assign (v := .bool _) rfl) (c_end (n_then (wp_ret (f_ret rfl rfl ?_)))))
 exact ⟨_, rfl, L, _, rfl, by rw [decide_eq_true_iff]; exact hr7⟩

theorem i_mbOk1 (k : Bk) (bl bn : Nat) (lp : Option Addr) (xs : List Int) (lc : Nat) (n : Int) (w : World) (hB : Bx w bl [.slice lp xs.length lc] 24) (hN : Bx w bn [.int .i64 n] 3) (hx : Sl w lp xs.length lc 1 (ic xs)) (hv : Sl w k.p k.lv.length k.c 1 (ic k.lv)) (hl : xs.length ≤ 1099511627776) (hl2 : k.lv.length ≤ 1099511627776) :
    Calls Tryz.prog 136 [.agg [.int .i64 k.mode, .slice k.p k.lv.length k.c].toArray, pt bl 0, pt bn 0].toArray w (Ret w (.bool (decide (¬ blockOk k.mode k.lv xs n)))) := by
 have L : Exm [] w w := Exm.rfl'
 refine enter (n := 10) Tryz.func136 rfl rfl rfl ?_
 refine wp_seq (c_reg (s_box rfl rfl ?_))
 intro b1 w2 lob1 hib1 l3 B1
 have z_l3 := l3.size; have L := L.tr l3.up; have hB := hB.ext l3; have hN := hN.ext l3
 refine s0 (x_assign (v := .bool _) rfl) (c_end (n_then (wp_seq (c_reg (st (x_loadAgB ag71 rfl B1 rfl) (st (x_loadB sc24 rfl hB rfl) (st (x_loadB sc3 rfl hN rfl) ?_)))))))
 refine sr (zcall cl137 rfl) (i_blockOk _ _ _ _ _ _ _ _ _ (hx.ext L) (by omega) (hv.ext L) (by omega)) ?_
 intro w4 l5
 have z_l5 := l5.size; have L := L.tr l5.up; have hB := hB.ext l5; have hN := hN.ext l5
 refine s0 (x_not rfl) (s0 (x_assign (v := .bool _) rfl) (c_end (n_then (wp_ret (f_ret rfl rfl ?_)))))
 exact ⟨ret_val (show Value.bool (!decide (blockOk k.mode k.lv xs n)) = .bool (decide (¬ blockOk k.mode k.lv xs n)) by simp), L⟩

theorem i_mbOk (e : Bool) (p : Option Addr) (bs : List Bk) (c : Nat) (r : Option Addr) (xs : List Int) (d : Nat) (w : World) (hp : RdBs w p bs c) (hx : Sl w r xs.length d 1 (ic xs)) (hl : bs.length ≤ 1099511627776) (hb : ∀ b ∈ bs, b.lv.length ≤ 1099511627776) (hl2 : xs.length ≤ 1099511627776) :
    Calls Tryz.prog 72 [.agg [.bool e, .slice p bs.length c].toArray, .slice r xs.length d].toArray w (Ret w (.bool (decide (mbOk e (bs.map Bk.pl) xs)))) := by
 have L : Exm [] w w := Exm.rfl'
 refine enter (n := 25) Tryz.func72 rfl rfl rfl ?_
 refine wp_seq (c_reg (s_box rfl rfl ?_))
 intro b1 w2 lob1 hib1 l3 B1
 have z_l3 := l3.size; have L := L.tr l3.up
 refine s_box rfl rfl ?_
 intro b4 w5 lob4 hib4 l6 B4
 have z_l6 := l6.size; have L := L.tr l6.up; have B1 := B1.ext l6
 refine s0 (x_assign (v := .bool _) rfl) (c_end (n_then (wp_seq (c_reg (s0 (x_fieldAddr fa34_0 rfl) (st (x_loadB sc4 rfl B1 rfl) ?_))))))
 refine sr (zcall cl74 rfl) (i_shape _ _) ?_
 intro w7 l8
 have z_l8 := l8.size; have L := L.tr l8.up; have B1 := B1.ext l8; have B4 := B4.ext l8
 refine s0 (x_move (v := .tuple _) rfl) (s0 (x_extract rfl rfl) (s0 (x_extract rfl rfl) (s_alloc zr3 ?_)))
 intro b9 w10 lob9 hib9 l11 B9
 have z_l11 := l11.size; have L := L.tr l11.up; have B1 := B1.ext l11; have B4 := B4.ext l11
 refine s0 (xaI rfl) ?_
 refine s_store (v := .int _ _) (cs' := [_]) rfl sz3 rfl rfl rfl rfl B9 rfl rfl ?_
 intro w12 l13 el13 B9
 have z_l13 := l13.size; have L := L.fresh l13 (by omega); have B1 := B1.ne l13 (by omega); have B4 := B4.ne l13 (by omega)
 refine c_end (n_then (wp_seq (c_reg (s0 (x_fieldAddr fa34_1 rfl) (st (x_loadB sc32 rfl B1 rfl) (s0 (x_lensl un32 rfl) (s0 (xmI rfl) ?_)))))))
 refine sb (x_eql rfl rfl) (fun h17 => ?_) (fun h17 => ?_)
 ·refine s0 (x_move (v := .bool _) rfl) (gt rfl rfl rfl rfl (s0 (x_fieldAddr fa34_1 rfl) (gt rfl rfl rfl rfl (st (x_loadB sc32 rfl B1 rfl) (gt rfl rfl rfl rfl (s0 (x_makeFunc rfl) (gt rfl rfl rfl rfl ?_)))))))
  refine sp (zcall cl135 rfl) (g_containsFB _ _ (fun k => ¬ blockOk k.mode k.lv xs (side e)) _ _ _ _ cl136 (fun k hk w9 L9 => i_mbOk1 k _ _ _ _ _ _ w9 (B4.ext L9) (B9.ext L9) ((hx.ext L).ext L9) (((hp.ext L).2 k hk).ext L9) (by omega) (hb k hk)) (hp.ext L) (by omega)) ?_
  rintro v22 w14 l15 ⟨r22, rfl, hr22⟩
  have z_l15 := l15.size; have L := L.tr l15.up
  refine gt rfl rfl rfl rfl (s0 (x_not rfl) (s0 (x_pickt (v := .bool _) rfl rfl) (s0 (x_assign (v := .bool _) rfl) (c_end (n_then (wp_ret (f_ret rfl rfl ?_)))))))
  have hm : mbOk e (bs.map Bk.pl) xs ↔ ¬ r22 = true := by rw [hr22, mb_iff]; exact ⟨fun h ⟨j, hj, h2⟩ => h2 (h.2 j hj), fun h => ⟨h17, fun j hj => Classical.not_not.1 fun h2 => h ⟨j, hj, h2⟩⟩⟩
  exact ⟨ret_val (show Value.bool (!r22) = .bool (decide (mbOk e (bs.map Bk.pl) xs)) by cases r22 <;> simp [hm]), L⟩
 ·refine s0 (x_move (v := .bool _) rfl) (gf rfl rfl rfl rfl (gf rfl rfl rfl rfl (gf rfl rfl rfl rfl (gf rfl rfl rfl rfl (gf rfl rfl rfl rfl (s0 (x_pickf (v := .bool _) rfl rfl) (s0 (x_assign (v := .bool _) rfl) (c_end (n_then (wp_ret (f_ret rfl rfl ?_)))))))))))
  exact ⟨ret_f (fun h => h17 (mb_iff.1 h).1), L⟩

theorem s_mbOk (e : Bool) (p : Option Addr) (bs : List Bk) (c : Nat) (r : Option Addr) (xs : List Int) (d : Nat) (w : World) (hp : RdBs w p bs c) (hx : Sl w r xs.length d 1 (ic xs)) (hl : bs.length ≤ 1099511627776) (hb : ∀ b ∈ bs, b.lv.length ≤ 1099511627776) (hl2 : xs.length ≤ 1099511627776) :
    Calls Tryz.prog 29 [.agg [.bool e, .slice p bs.length c].toArray, .slice r xs.length d].toArray w (Ret w (.bool (decide (mbOk e (bs.map Bk.pl) xs)))) := by
 have L : Exm [] w w := Exm.rfl'
 refine enter (n := 34) Tryz.func29 rfl rfl rfl ?_
 refine wp_seq (c_reg (s_box rfl rfl ?_))
 intro b1 w2 lob1 hib1 l3 B1
 have z_l3 := l3.size; have L := L.tr l3.up
 refine s0 (x_assign (v := .bool _) rfl) (c_end (n_then (wp_seq (c_reg (s0 (x_fieldAddr fa34_0 rfl) (st (x_loadB sc4 rfl B1 rfl) ?_))))))
 refine sr (zcall cl49 rfl) (s_side _ _) ?_
 intro w4 l5
 have z_l5 := l5.size; have L := L.tr l5.up; have B1 := B1.ext l5
 refine s0 (xaI rfl) (c_end (n_then (wp_seq (wp_seq ?_))))
 have hs4 := side_in e
 refine c_reg (s0 (xaI rfl) (c_end (n_then (wp_block ?_))))
 refine c_loop (γ := Nat) (fun k => bs.length - k) (fun (k : Nat) E wl => ∃ E0, E = upd (upd (upd (upd E0 1 (.slice r xs.length d)) 2 (pt b1 0)) 5 (.int .i64 (side e))) 6 (.int .i64 (k : Int)) ∧ (Exm [] w wl) ∧ (w4.heap.size ≤ wl.heap.size) ∧ (Bx wl b1 [.bool e, .slice p bs.length c] 34) ∧ ((k : Int) ≤ bs.length) ∧ (∀ j : Nat, j < k → blockOk (bs.getD j default).mode (bs.getD j default).lv xs (side e))) 0 ⟨_, upd_self4 rfl rfl rfl rfl, L, (by omega), B1, (by omega), (by intro j hj; omega)⟩ ?_
 rintro k E wl6 ⟨E0, rfl, L, Lz, B1, hk, hall⟩
 have Lz0 := L.size
 refine wp_seq (wp_seq (c_reg (s0 (xmI rfl) (s0 (x_fieldAddr fa34_1 rfl) (st (x_loadB sc32 rfl B1 rfl) (s0 (x_lensl un32 rfl) ?_))))))
 refine sb (x_lss rfl rfl) (fun h14 => ?_) (fun h14 => ?_)
 ·refine c_end (n_then (c_true rfl (c_skipn (n_then (wp_seq (wp_block (wp_seq ?_)))))))
  have hbk := hb _ (getD_mem (xs := bs) (i := (k : Int)) (by omega) (by omega))
  refine c_reg (s0 (x_fieldAddr fa34_1 rfl) (st (x_loadB sc32 rfl B1 rfl) (s0 (xmI rfl) (s0 (x_idx so32 rfl rfl hp.1 (by decide) (by omega) (by omega)) (st (x_ldr brow_len ag71 rfl (hp.1.ext L) (by omega) (by omega)) (s0 (xmS rfl) (s0 (xmI rfl) ?_)))))))
  refine srb (zcall cl68 rfl) (s_blockOk _ _ _ _ _ _ _ _ _ (hx.ext L) (by omega) ((hp.2 _ (getD_mem (by omega) (by omega))).ext L) (by omega)) (fun h24 w7 l8 => ?_) (fun h24 w7 l8 => ?_)
  ·have z_l8 := l8.size
   have L := L.tr l8.up; have B1 := B1.ext l8
   refine s0 (x_not rfl) (c_end (n_then (c_false rfl (c_skipn (n_block (n_then (c_reg (s0 (xmI rfl) (s0 (x_add rfl rfl (by omega)) (s0 (xaI rfl) (c_end ?_)))))))))))
   exact c_round (g' := k + 1) (by omega) ⟨_, upd_self4 rfl rfl rfl (vint (by omega)), L, (by omega), B1, (by omega), (upto_succ' hall (by simpa using h24))⟩
  ·have z_l8 := l8.size
   have L := L.tr l8.up
   refine s0 (x_not rfl) (c_end (n_then (c_true rfl (wp_seq (c_reg (s0 (x_assign (v := .bool _) rfl) (c_end (n_then ?_))))))))
   refine wp_ret (r_block (r_then (r_then (r_block (r_then ?_)))))
   refine f_ret rfl rfl ?_
   exact ⟨ret_f (fun h => h24 (by simpa using (mb_iff.1 h).2 k (by omega))), L⟩
 ·refine c_end (n_then (c_false rfl ?_))
  refine wp_exit (e_then (e_then (e_here ?_)))
  refine n_then (wp_seq ?_)
  have hs4 := side_in e; have hme := many_eq e
  refine c_plan (fun wq => Exm [] wl6 wq) 9 (.cons (0, 2) (.cons (1, 1) (.cons (2, 2) (.cons (3, 2) (.cons (4, 2) (.cons (5, 2) (.cons (6, 2) (.cons (7, 2) (.cons (8, 2) .nil))))))))) (by kernel_rfl) (by kernel_rfl) (Exm.drew _) ?_
  obtain ⟨w9, hwd⟩ : ∃ x, x = wl6.drew := ⟨_, rfl⟩
  have l10 : Ext wl6 w9 := by rw [hwd]; exact Exm.drew _
  rw [← hwd]; clear hwd
  have Lq : Exm [] wl6 w9 := l10.up; have qB1 := B1; have z_l10 := l10.size; have L := L.tr l10.up
  refine p0 rfl (x_fieldAddr fa34_1 rfl) ?_
  refine ps rfl (fun wq hwq => x_loadB sc32 rfl (qB1.ext hwq) rfl) ?_
  refine p0 rfl (x_lensl un32 rfl) (p0 rfl (xmI rfl) (p0 rfl (xmI rfl) ?_))
  refine p0 rfl (x_mul rfl rfl (by rcases hs4 with h | h <;> rw [h] <;> decide)) ?_
  refine p0 rfl (x_quo rfl rfl (by omega) (by rcases hs4 with h | h <;> rw [h] <;> decide)) ?_
  refine p0 rfl (x_eql rfl rfl) (p0 rfl (x_assign (v := .bool _) rfl) ?_)
  refine p_nil (np_normal ?_)
  refine n_then (wp_ret (f_ret rfl rfl ?_))
  exact ⟨ret_dec2 ⟨fun h => mb_iff.2 ⟨by rw [← many_eq]; exact h, fun j hj => hall j (by omega)⟩, fun h => by rw [many_eq]; exact (mb_iff.1 h).1⟩, L⟩

end Go.Proofs.YtepnknffaecbdaaGreat
