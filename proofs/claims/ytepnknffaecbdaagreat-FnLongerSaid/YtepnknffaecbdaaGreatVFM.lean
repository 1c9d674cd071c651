/- What each function of this part returns, for every argument that meets its premises. -/
import Derived.Test.YtepnknffaecbdaaGreatProg
import Derived.Test.YtepnknffaecbdaaGreatVSxA
import Derived.Test.YtepnknffaecbdaaGreatVTy
import Derived.Test.YtepnknffaecbdaaGreatVPlA
import Derived.Test.YtepnknffaecbdaaGreatVF4
import Derived.Test.YtepnknffaecbdaaGreatVF7
import Derived.Test.YtepnknffaecbdaaGreatVFF
import Derived.Test.YtepnknffaecbdaaGreatVFJ
namespace Go.Proofs.YtepnknffaecbdaaGreat
open Go.Sx Go.Pl Go.RowKit
theorem g_indexFM (fk : FuncId) (caps : List Value) (φ : Mk → Prop) [DecidablePred φ] (p : Option Addr) (bs : List Mk) (c : Nat) (w : World) (hc : Callable Tryz.prog fk) (hk : ∀ b ∈ bs, ∀ w', Exm [] w w' → Calls Tryz.prog fk ([Value.agg (mrow b).toArray] ++ caps).toArray w' (Ret w' (.bool (decide (φ b))))) (hp : RdMs w p bs c) (hl : bs.length ≤ 1099511627776) :
    Calls Tryz.prog 134 [.slice p bs.length c, .func (.func fk) #[] caps.toArray].toArray w (RetP w fun v w' => ∃ r : Int, v = .int .i64 r ∧ (0 ≤ r ↔ ∃ j : Nat, j < bs.length ∧ φ (bs.getD j default))) := by
 have L : Exm [] w w := Exm.rfl'
 refine enter (n := 19) Tryz.func134 rfl rfl rfl ?_
 refine wp_seq (c_reg (s0 (xaI rfl) (c_end (n_then (wp_seq (wp_seq (c_reg (s0 (xmS rfl) (s0 (x_lensl un27 rfl) (s0 (xmI rfl) (c_end (n_then (wp_block ?_)))))))))))))
 refine c_loop (γ := Nat) (fun k => bs.length - k) (fun (k : Nat) E wl => ∃ E0, E = upd (upd (upd (upd E0 0 (.slice p bs.length c)) 1 (.func (.func fk) #[] caps.toArray)) 7 (.int .i64 bs.length)) 8 (.int .i64 (k : Int)) ∧ (Exm [] w wl) ∧ ((k : Int) ≤ bs.length) ∧ (∀ j : Nat, j < k → ¬ φ (bs.getD j default))) 0 ⟨_, upd_self4 rfl rfl rfl rfl, L, (by omega), (by intro j hj; omega)⟩ ?_
 rintro k E wl1 ⟨E0, rfl, L, hk2, hall⟩
 have Lz0 := L.size
 refine wp_seq (c_reg ?_)
 refine sb (x_lss rfl rfl) (fun h9 => ?_) (fun h9 => ?_)
 ·refine c_end (n_then (wp_seq (c_true rfl (c_skipn (n_then (wp_seq (wp_block (wp_seq (c_reg (s0 (xmI rfl) (s0 (xaI rfl) (c_end (n_then ?_)))))))))))))
  refine wp_seq (c_reg (s0 (x_move (v := .func _ _ _) rfl) (s0 (xmS rfl) (s0 (xmI rfl) (s0 (x_idx so27 rfl rfl hp.1 (by decide) (by omega) (by omega)) (st (x_ldr mrow_len ag34 rfl (hp.1.ext L) (by omega) (by omega)) ?_))))))
  refine srb (zcallv (caps := caps) hc rfl rfl) (hk _ (getD_mem (by omega) (by omega)) _ L) (fun h16 w2 l3 => ?_) (fun h16 w2 l3 => ?_)
  ·have z_l3 := l3.size
   have L := L.tr l3.up
   refine c_end (n_then (c_true rfl (wp_seq (c_reg (s0 (xmI rfl) (s0 (xaI rfl) (c_end (n_then ?_))))))))
   refine wp_ret (r_block (r_then (r_then (r_block (r_then ?_)))))
   refine f_ret rfl rfl ?_
   exact ⟨_, rfl, L, _, rfl, ⟨fun _ => ⟨k, by omega, by simpa using h16⟩, fun _ => by omega⟩⟩
  ·have z_l3 := l3.size
   have L := L.tr l3.up
   refine c_end (n_then (c_false rfl (c_skipn (n_block (n_then (c_reg (s0 (x_add rfl rfl (by omega)) (s0 (xmI rfl) (c_end ?_)))))))))
   exact c_round (g' := k + 1) (by omega) ⟨_, upd_self4 rfl rfl rfl (vint (by omega)), L, (by omega), (upto_succ' hall (by simpa using h16))⟩
 ·refine c_end (n_then (wp_seq (c_false rfl ?_)))
  refine wp_exit (e_then (e_then (e_here ?_)))
  refine n_then (wp_seq (c_reg (s0 (xaI rfl) (c_end (n_then (wp_ret (f_ret rfl rfl ?_)))))))
  exact ⟨_, rfl, L, _, rfl, ⟨fun h => by omega, fun ⟨j, hj, h⟩ => absurd h (hall j (by omega))⟩⟩

theorem g_containsFM (fk : FuncId) (caps : List Value) (φ : Mk → Prop) [DecidablePred φ] (p : Option Addr) (bs : List Mk) (c : Nat) (w : World) (hc : Callable Tryz.prog fk) (hk : ∀ b ∈ bs, ∀ w', Exm [] w w' → Calls Tryz.prog fk ([Value.agg (mrow b).toArray] ++ caps).toArray w' (Ret w' (.bool (decide (φ b))))) (hp : RdMs w p bs c) (hl : bs.length ≤ 1099511627776) :
    Calls Tryz.prog 70 [.slice p bs.length c, .func (.func fk) #[] caps.toArray].toArray w (RetP w fun v w' => ∃ r : Bool, v = .bool r ∧ (r = true ↔ ∃ j : Nat, j < bs.length ∧ φ (bs.getD j default))) := by
 have L : Exm [] w w := Exm.rfl'
 refine enter (n := 9) Tryz.func70 rfl rfl rfl ?_
 refine wp_seq (c_reg (s0 (x_assign (v := .bool _) rfl) (c_end (n_then (wp_seq (c_reg (s0 (xmS rfl) (s0 (x_move (v := .func _ _ _) rfl) ?_))))))))
 refine sp (zcall cl134 rfl) (g_indexFM _ _ φ _ _ _ _ hc (fun b hb w9 L9 => hk b hb w9 (L.tr L9)) (hp.ext L) (by omega)) ?_
 rintro v7 w1 l2 ⟨r7, rfl, hr7⟩
 have z_l2 := l2.size; have L := L.tr l2.up
 refine s0 (x_geq rfl rfl) (s0 (x_assign (v := .bool _) rfl) (c_end (n_then (wp_ret (f_ret rfl rfl ?_)))))
 exact ⟨_, rfl, L, _, rfl, by rw [decide_eq_true_iff]; exact hr7⟩

theorem i_streamOk1 (k : Mk) (bl : Nat) (a b q : Int) (y z : Bool) (r : Option Addr) (xs : List Int) (e : Nat) (p : Option Addr) (n c : Nat) (w : World) (hB : Bx w bl [.int .i64 a, .int .i64 b, .int .i64 q, .bool y, .bool z, .slice r xs.length e, .slice p n c] 29) (hx : Sl w r xs.length e 1 (ic xs)) (hk : RdBs w k.p k.bs k.c) (hl0 : xs.length ≤ 1099511627776) (hs : smallM 1099511627776 k) :
    Calls Tryz.prog 71 [.agg [.bool k.eight, .slice k.p k.bs.length k.c].toArray, pt bl 0].toArray w (Ret w (.bool (decide (¬ mbOk k.eight (k.bs.map Bk.pl) xs)))) := by
 have hs1 := hs.1; have hs2 := hs.2; have L : Exm [] w w := Exm.rfl'
 refine enter (n := 10) Tryz.func71 rfl rfl rfl ?_
 refine wp_seq (c_reg (s_box rfl rfl ?_))
 intro b1 w2 lob1 hib1 l3 B1
 have z_l3 := l3.size; have L := L.tr l3.up; have hB := hB.ext l3
 refine s0 (x_assign (v := .bool _) rfl) (c_end (n_then (wp_seq (c_reg (st (x_loadAgB ag34 rfl B1 rfl) (s0 (x_fieldAddr fa29_0 rfl) (s0 (x_fieldAddr fa26_5 rfl) (st (x_loadB sc24 rfl hB rfl) ?_))))))))
 refine sr (zcall cl72 rfl) (i_mbOk _ _ _ _ _ _ _ _ (hk.ext L) (hx.ext L) (by omega) (by assumption) (by omega)) ?_
 intro w4 l5
 have z_l5 := l5.size; have L := L.tr l5.up; have hB := hB.ext l5
 refine s0 (x_not rfl) (s0 (x_assign (v := .bool _) rfl) (c_end (n_then (wp_ret (f_ret rfl rfl ?_)))))
 exact ⟨ret_val (show Value.bool (!decide (mbOk k.eight (k.bs.map Bk.pl) xs)) = .bool (decide (¬ mbOk k.eight (k.bs.map Bk.pl) xs)) by simp), L⟩

theorem i_many (a b q : Int) (y z : Bool) (p : Option Addr) (n c : Nat) (w : World) (hs : sidesOk a b) :
    Calls Tryz.prog 42 [.agg [.int .i64 a, .int .i64 b, .int .i64 q, .bool y, .bool z, .slice p n c].toArray].toArray w (Ret w (.int .i64 (a / 8 * (b / 8)))) := by
 have hm := many_range hs; have hs1 := hs.1; have hs2 := hs.2.1; have L : Exm [] w w := Exm.rfl'
 refine enter (n := 10) Tryz.func42 rfl rfl rfl ?_
 refine wp_seq (c_reg (s_box rfl rfl ?_))
 intro b1 w2 lob1 hib1 l3 B1
 have z_l3 := l3.size; have L := L.tr l3.up
 refine s0 (xaI rfl) (c_end (n_then (wp_seq (c_reg (s0 (x_fieldAddr fa26_0 rfl) (st (x_loadB sc3 rfl B1 rfl) (s0 (x_quo rfl rfl (by omega) (by omega)) (s0 (x_fieldAddr fa26_1 rfl) (st (x_loadB sc3 rfl B1 rfl) (s0 (x_quo rfl rfl (by omega) (by omega)) (s0 (x_mul rfl rfl (by omega)) (s0 (xaI rfl) (c_end ?_)))))))))))))
 refine n_then (wp_ret (f_ret rfl rfl ?_))
 exact ⟨rfl, L⟩

theorem s_count (a b q : Int) (y z : Bool) (p : Option Addr) (n c : Nat) (w : World) (hs : sidesOk a b) :
    Calls Tryz.prog 30 [.agg [.int .i64 a, .int .i64 b, .int .i64 q, .bool y, .bool z, .slice p n c].toArray].toArray w (Ret w (.int .i64 (a / 8 * (b / 8)))) := by
 have hm := many_range hs; have hs1 := hs.1; have hs2 := hs.2.1; have L : Exm [] w w := Exm.rfl'
 refine enter (n := 10) Tryz.func30 rfl rfl rfl ?_
 refine wp_seq (c_reg (s_box rfl rfl ?_))
 intro b1 w2 lob1 hib1 l3 B1
 have z_l3 := l3.size; have L := L.tr l3.up
 refine s0 (xaI rfl) (c_end (n_then (wp_seq (c_reg (s0 (x_fieldAddr fa26_0 rfl) (st (x_loadB sc3 rfl B1 rfl) (s0 (x_quo rfl rfl (by omega) (by omega)) (s0 (x_fieldAddr fa26_1 rfl) (st (x_loadB sc3 rfl B1 rfl) (s0 (x_quo rfl rfl (by omega) (by omega)) (s0 (x_mul rfl rfl (by omega)) (s0 (xaI rfl) (c_end ?_)))))))))))))
 refine n_then (wp_ret (f_ret rfl rfl ?_))
 exact ⟨rfl, L⟩

theorem i_streamOk (a b q : Int) (y z : Bool) (r : Option Addr) (xs : List Int) (e : Nat) (p : Option Addr) (ms : List Mk) (c : Nat) (w : World) (hx : Sl w r xs.length e 1 (ic xs)) (hp : RdMs w p ms c) (hl0 : xs.length ≤ 1099511627776) (hl : ms.length ≤ 1099511627776) (hb : ∀ m ∈ ms, smallM 1099511627776 m) :
    Calls Tryz.prog 31 [.agg [.int .i64 a, .int .i64 b, .int .i64 q, .bool y, .bool z, .slice r xs.length e, .slice p ms.length c].toArray].toArray w (Ret w (.bool (decide (streamOk a b q xs (ms.map Mk.pl))))) := by
 have L : Exm [] w w := Exm.rfl'
 refine enter (n := 22) Tryz.func31 rfl rfl rfl ?_
 refine wp_seq (c_reg (s_box rfl rfl ?_))
 intro b1 w2 lob1 hib1 l3 B1
 have z_l3 := l3.size; have L := L.tr l3.up
 refine s0 (x_assign (v := .bool _) rfl) (c_end (n_then (wp_seq ?_)))
 refine c_plan (fun wq => Exm [] w2 wq) 20 (.cons (0, 2) (.cons (1, 1) (.cons (2, 0) (.cons (3, 2) (.cons (4, 2) (.cons (5, 1) (.cons (6, 2) (.cons (7, 2) (.cons (8, 1) (.cons (9, 0) (.cons (10, 2) (.cons (11, 2) (.cons (12, 2) (.cons (13, 2) (.cons (14, 1) (.cons (15, 2) (.cons (16, 0) (.cons (17, 2) (.cons (18, 2) (.cons (19, 2) .nil)))))))))))))))))))) (by kernel_rfl) (by kernel_rfl) (Exm.drew _) ?_
 obtain ⟨w4, hwd⟩ : ∃ x, x = w2.drew := ⟨_, rfl⟩
 have l5 : Ext w2 w4 := by rw [hwd]; exact Exm.drew _
 rw [← hwd]; clear hwd
 have Lq : Exm [] w2 w4 := l5.up; have qB1 := B1; have z_l5 := l5.size; have L := L.tr l5.up; have B1 := B1.ext l5
 refine p0 rfl (x_fieldAddr fa29_0 rfl) ?_
 refine ps rfl (fun wq hwq => x_loadIn ag26 rfl (qB1.ext hwq) [.int _ _, .int _ _, .int _ _, .bool _, .bool _, .slice _ _ _] rfl rfl) ?_
 refine pu rfl ?_
 refine srb (zcall cl69 rfl) (i_headerOk _ _ _ _ _ _ _ _ _ (hx.ext L) (by omega)) (fun h5 w6 l7 => ?_) (fun h5 w6 l7 => ?_)
 ·have z_l7 := l7.size
  have L := L.tr l7.up; have Lq := Lq.tr l7.up; have B1 := B1.ext l7
  refine c_end ⟨rfl, fun h hS => Lq, ?_⟩
  refine p0 rfl (x_move (v := .bool _) rfl) (p0g rfl rfl rfl rfl rfl (x_fieldAddr fa29_1 rfl) ?_)
  refine psg rfl rfl rfl rfl rfl (fun wq hwq => x_loadB sc27 rfl (qB1.ext hwq) rfl) ?_
  refine p0g rfl rfl rfl rfl rfl (x_lensl un27 rfl) (p0g rfl rfl rfl rfl rfl (x_fieldAddr fa29_0 rfl) ?_)
  refine psg rfl rfl rfl rfl rfl (fun wq hwq => x_loadIn ag26 rfl (qB1.ext hwq) [.int _ _, .int _ _, .int _ _, .bool _, .bool _, .slice _ _ _] rfl rfl) ?_
  refine pu rfl (gt rfl rfl rfl rfl ?_)
  refine sr (zcall cl42 rfl) (i_many _ _ _ _ _ _ _ _ _ h5.1) ?_
  intro w8 l9
  have z_l9 := l9.size; have L := L.tr l9.up; have Lq := Lq.tr l9.up; have B1 := B1.ext l9
  refine c_end ⟨rfl, fun h hS => Lq, ?_⟩
  refine pbg rfl rfl rfl rfl rfl (x_eql rfl rfl) (fun h13 => ?_) (fun h13 => ?_)
  ·refine p0 rfl (x_pickt (v := .bool _) rfl rfl) (p0 rfl (x_move (v := .bool _) rfl) (p0g rfl rfl rfl rfl rfl (x_fieldAddr fa29_1 rfl) ?_))
   refine psg rfl rfl rfl rfl rfl (fun wq hwq => x_loadB sc27 rfl (qB1.ext hwq) rfl) ?_
   refine p0g rfl rfl rfl rfl rfl (x_makeFunc rfl) (pu rfl (gt rfl rfl rfl rfl ?_))
   refine sp (zcall cl70 rfl) (g_containsFM _ _ (fun k => ¬ mbOk k.eight (k.bs.map Bk.pl) xs) _ _ _ _ cl71 (fun k hk w9 L9 => i_streamOk1 k _ _ _ _ _ _ _ _ _ _ _ _ w9 (B1.ext L9) ((hx.ext L).ext L9) (((hp.ext L).2 k hk).ext L9) (by omega) (hb k hk)) (hp.ext L) (by omega)) ?_
   rintro v19 w10 l11 ⟨r19, rfl, hr19⟩
   have z_l11 := l11.size; have L := L.tr l11.up; have Lq := Lq.tr l11.up
   refine c_end ⟨rfl, fun h hS => Lq, ?_⟩
   refine p0g rfl rfl rfl rfl rfl (x_not rfl) (p0 rfl (x_pickt (v := .bool _) rfl rfl) (p0 rfl (x_assign (v := .bool _) rfl) ?_))
   refine p_nil (np_normal ?_)
   refine n_then (wp_ret (f_ret rfl rfl ?_))
   have hm : streamOk a b q xs (ms.map Mk.pl) ↔ ¬ r19 = true := by rw [hr19, stream_iff]; exact ⟨fun h ⟨j, hj, h2⟩ => h2 (h.2.2 j hj), fun h => ⟨h5, h13, fun j hj => Classical.not_not.1 fun h2 => h ⟨j, hj, h2⟩⟩⟩
   exact ⟨ret_val (show Value.bool (!r19) = .bool (decide (streamOk a b q xs (ms.map Mk.pl))) by cases r19 <;> simp [hm]), L⟩
  ·refine p0 rfl (x_pickt (v := .bool _) rfl rfl) (p0 rfl (x_move (v := .bool _) rfl) (pf rfl rfl rfl rfl rfl (pf1 rfl rfl rfl rfl rfl (pf rfl rfl rfl rfl rfl (pu rfl (gf rfl rfl rfl rfl ?_))))))
   refine c_end ⟨rfl, fun h hS => Lq, ?_⟩
   refine pf rfl rfl rfl rfl rfl (p0 rfl (x_pickf (v := .bool _) rfl rfl) (p0 rfl (x_assign (v := .bool _) rfl) ?_))
   refine p_nil (np_normal ?_)
   refine n_then (wp_ret (f_ret rfl rfl ?_))
   exact ⟨ret_f (fun h => h13 (stream_iff.1 h).2.1), L⟩
 ·have z_l7 := l7.size
  have L := L.tr l7.up; have Lq := Lq.tr l7.up
  refine c_end ⟨rfl, fun h hS => Lq, ?_⟩
  refine p0 rfl (x_move (v := .bool _) rfl) (pf rfl rfl rfl rfl rfl (pf1 rfl rfl rfl rfl rfl (pf rfl rfl rfl rfl rfl (pf rfl rfl rfl rfl rfl (pf1 rfl rfl rfl rfl rfl (pu rfl (gf rfl rfl rfl rfl ?_)))))))
  refine c_end ⟨rfl, fun h hS => Lq, ?_⟩
  refine pf rfl rfl rfl rfl rfl (p0 rfl (x_pickf (v := .bool _) rfl rfl) (p0 rfl (x_move (v := .bool _) rfl) (pf rfl rfl rfl rfl rfl (pf1 rfl rfl rfl rfl rfl (pf rfl rfl rfl rfl rfl (pu rfl (gf rfl rfl rfl rfl ?_)))))))
  refine c_end ⟨rfl, fun h hS => Lq, ?_⟩
  refine pf rfl rfl rfl rfl rfl (p0 rfl (x_pickf (v := .bool _) rfl rfl) (p0 rfl (x_assign (v := .bool _) rfl) ?_))
  refine p_nil (np_normal ?_)
  refine n_then (wp_ret (f_ret rfl rfl ?_))
  exact ⟨ret_f (fun h => h5 (stream_iff.1 h).1), L⟩

theorem s_streamOk (a b q : Int) (y z : Bool) (r : Option Addr) (xs : List Int) (e : Nat) (p : Option Addr) (ms : List Mk) (c : Nat) (w : World) (hx : Sl w r xs.length e 1 (ic xs)) (hp : RdMs w p ms c) (hl0 : xs.length ≤ 1099511627776) (hl : ms.length ≤ 1099511627776) (hb : ∀ m ∈ ms, smallM 1099511627776 m) :
    Calls Tryz.prog 9 [.agg [.int .i64 a, .int .i64 b, .int .i64 q, .bool y, .bool z, .slice r xs.length e, .slice p ms.length c].toArray].toArray w (Ret w (.bool (decide (streamOk a b q xs (ms.map Mk.pl))))) := by
 have L : Exm [] w w := Exm.rfl'
 refine enter (n := 32) Tryz.func9 rfl rfl rfl ?_
 refine wp_seq (c_reg (s_box rfl rfl ?_))
 intro b1 w2 lob1 hib1 l3 B1
 have z_l3 := l3.size; have L := L.tr l3.up
 refine s0 (x_assign (v := .bool _) rfl) (c_end (n_then (wp_seq (wp_seq (c_reg (s0 (x_fieldAddr fa29_0 rfl) (st (x_loadIn ag26 rfl B1 [.int _ _, .int _ _, .int _ _, .bool _, .bool _, .slice _ _ _] rfl rfl) ?_)))))))
 refine srb (zcall cl28 rfl) (s_headerOk _ _ _ _ _ _ _ _ _ (hx.ext L) (by omega)) (fun h6 w4 l5 => ?_) (fun h6 w4 l5 => ?_)
 ·have z_l5 := l5.size
  have L := L.tr l5.up; have B1 := B1.ext l5
  refine s0 (x_not rfl) (c_end (n_then (c_false rfl (c_skipn (n_then (wp_seq (wp_seq (c_reg (s0 (xaI rfl) (c_end (n_then (wp_block ?_))))))))))))
  refine c_loop (γ := Nat) (fun k => ms.length - k) (fun (k : Nat) E wl => ∃ E0, E = upd (upd E0 1 (pt b1 0)) 3 (.int .i64 (k : Int)) ∧ (Exm [] w wl) ∧ (w4.heap.size ≤ wl.heap.size) ∧ (Bx wl b1 [.int .i64 a, .int .i64 b, .int .i64 q, .bool y, .bool z, .slice r xs.length e, .slice p ms.length c] 29) ∧ ((k : Int) ≤ ms.length) ∧ (∀ j : Nat, j < k → mbOk (ms.getD j default).eight ((ms.getD j default).bs.map Bk.pl) xs)) 0 ⟨_, upd_self2 rfl rfl, L, (by omega), B1, (by omega), (by intro j hj; omega)⟩ ?_
  rintro k E wl6 ⟨E0, rfl, L, Lz, B1, hk, hall⟩
  have Lz0 := L.size
  refine wp_seq (wp_seq (c_reg (s0 (xmI rfl) (s0 (x_fieldAddr fa29_1 rfl) (st (x_loadB sc27 rfl B1 rfl) (s0 (x_lensl un27 rfl) ?_))))))
  refine sb (x_lss rfl rfl) (fun h12 => ?_) (fun h12 => ?_)
  ·refine c_end (n_then (c_true rfl (c_skipn (n_then (wp_seq (wp_block (wp_seq ?_)))))))
   have hbm := hb _ (getD_mem (xs := ms) (i := (k : Int)) (by omega) (by omega)); have hbm1 := hbm.1; have hbm2 := hbm.2
   refine c_plan (fun wq => Exm [] wl6 wq) 10 (.cons (0, 2) (.cons (1, 1) (.cons (2, 2) (.cons (3, 2) (.cons (4, 1) (.cons (5, 2) (.cons (6, 2) (.cons (7, 1) (.cons (8, 0) (.cons (9, 2) .nil)))))))))) (by kernel_rfl) (by kernel_rfl) (Exm.drew _) ?_
   obtain ⟨w7, hwd⟩ : ∃ x, x = wl6.drew := ⟨_, rfl⟩
   have l8 : Ext wl6 w7 := by rw [hwd]; exact Exm.drew _
   rw [← hwd]; clear hwd
   have Lq : Exm [] wl6 w7 := l8.up; have qB1 := B1; have qL := L; have z_l8 := l8.size; have L := L.tr l8.up; have B1 := B1.ext l8
   refine p0 rfl (x_fieldAddr fa29_1 rfl) ?_
   refine ps rfl (fun wq hwq => x_loadB sc27 rfl (qB1.ext hwq) rfl) ?_
   refine p0 rfl (xmI rfl) (p0 rfl (x_idx so27 rfl rfl hp.1 (by decide) (by omega) (by omega)) ?_)
   refine ps rfl (fun wq hwq => x_ldr mrow_len ag34 rfl ((hp.1.ext qL).ext hwq) (by omega) (by omega)) ?_
   refine p0 rfl (x_fieldAddr fa29_0 rfl) (p0 rfl (x_fieldAddr fa26_5 rfl) ?_)
   refine ps rfl (fun wq hwq => x_loadB sc24 rfl (qB1.ext hwq) rfl) ?_
   refine pu rfl ?_
   refine srb (zcall cl29 rfl) (s_mbOk _ _ _ _ _ _ _ _ ((hp.2 _ (getD_mem (by omega) (by omega))).ext L) (hx.ext L) (by omega) (by assumption) (by omega)) (fun h23 w9 l10 => ?_) (fun h23 w9 l10 => ?_)
   ·have z_l10 := l10.size
    have L := L.tr l10.up; have Lq := Lq.tr l10.up; have B1 := B1.ext l10
    refine c_end ⟨rfl, fun h hS => Lq, ?_⟩
    refine p0 rfl (x_not rfl) ?_
    refine p_nil (np_normal ?_)
    refine n_then (c_false rfl (c_skipn (n_block (n_then (c_reg (s0 (xmI rfl) (s0 (x_add rfl rfl (by omega)) (s0 (xaI rfl) (c_end ?_)))))))))
    exact c_round (g' := k + 1) (by omega) ⟨_, upd_self2 rfl (vint (by omega)), L, (by omega), B1, (by omega), (upto_succ' hall (by simpa using h23))⟩
   ·have z_l10 := l10.size
    have L := L.tr l10.up; have Lq := Lq.tr l10.up
    refine c_end ⟨rfl, fun h hS => Lq, ?_⟩
    refine p0 rfl (x_not rfl) ?_
    refine p_nil (np_normal ?_)
    refine n_then (c_true rfl (wp_seq (c_reg (s0 (x_assign (v := .bool _) rfl) (c_end (n_then ?_))))))
    refine wp_ret (r_block (r_then (r_then (r_block (r_then ?_)))))
    refine f_ret rfl rfl ?_
    exact ⟨ret_f (fun h => h23 (by simpa using (stream_iff.1 h).2.2 k (by omega))), L⟩
  ·refine c_end (n_then (c_false rfl ?_))
   refine wp_exit (e_then (e_then (e_here ?_)))
   refine n_then (wp_seq ?_)
   refine c_plan (fun wq => Exm [] wl6 wq) 8 (.cons (0, 2) (.cons (1, 1) (.cons (2, 2) (.cons (3, 2) (.cons (4, 1) (.cons (5, 0) (.cons (6, 2) (.cons (7, 2) .nil)))))))) (by kernel_rfl) (by kernel_rfl) (Exm.drew _) ?_
   obtain ⟨w11, hwd⟩ : ∃ x, x = wl6.drew := ⟨_, rfl⟩
   have l12 : Ext wl6 w11 := by rw [hwd]; exact Exm.drew _
   rw [← hwd]; clear hwd
   have Lq : Exm [] wl6 w11 := l12.up; have qB1 := B1; have z_l12 := l12.size; have L := L.tr l12.up
   refine p0 rfl (x_fieldAddr fa29_1 rfl) ?_
   refine ps rfl (fun wq hwq => x_loadB sc27 rfl (qB1.ext hwq) rfl) ?_
   refine p0 rfl (x_lensl un27 rfl) (p0 rfl (x_fieldAddr fa29_0 rfl) ?_)
   refine ps rfl (fun wq hwq => x_loadIn ag26 rfl (qB1.ext hwq) [.int _ _, .int _ _, .int _ _, .bool _, .bool _, .slice _ _ _] rfl rfl) ?_
   refine pu rfl ?_
   refine sr (zcall cl30 rfl) (s_count _ _ _ _ _ _ _ _ _ h6.1) ?_
   intro w13 l14
   have z_l14 := l14.size; have L := L.tr l14.up; have Lq := Lq.tr l14.up
   refine c_end ⟨rfl, fun h hS => Lq, ?_⟩
   refine p0 rfl (x_eql rfl rfl) (p0 rfl (x_assign (v := .bool _) rfl) ?_)
   refine p_nil (np_normal ?_)
   refine n_then (wp_ret (f_ret rfl rfl ?_))
   exact ⟨ret_dec2 ⟨fun h => stream_iff.2 ⟨h6, h, fun j hj => hall j (by omega)⟩, fun h => (stream_iff.1 h).2.1⟩, L⟩
 ·have z_l5 := l5.size
  have L := L.tr l5.up
  refine s0 (x_not rfl) (c_end (n_then (c_true rfl (wp_seq (c_reg (s0 (x_assign (v := .bool _) rfl) (c_end (n_then ?_))))))))
  refine wp_ret (r_then ?_)
  refine f_ret rfl rfl ?_
  exact ⟨ret_f (fun h => h6 (stream_iff.1 h).1), L⟩

end Go.Proofs.YtepnknffaecbdaaGreat
