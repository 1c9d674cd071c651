/- What each function of this part returns, for every argument that meets its premises. -/
import Derived.Test.YtepnknffaecbdaaGreatProg
import Derived.Test.YtepnknffaecbdaaGreatVSxA
import Derived.Test.YtepnknffaecbdaaGreatVTy
import Derived.Test.YtepnknffaecbdaaGreatVPlA
import Derived.Test.YtepnknffaecbdaaGreatVF1
namespace Go.Proofs.YtepnknffaecbdaaGreat
open Go.Sx Go.Pl Go.RowKit
theorem i_codeOk (p : Option Addr) (xs : List Int) (c : Nat) (w : World) (hp : Sl w p xs.length c 1 (ic xs)) (hl : xs.length ≤ 1099511627776) :
    Calls Tryz.prog 100 [.slice p xs.length c].toArray w (Ret w (.bool (decide (codeOk xs)))) := by
 have L : Exm [] w w := Exm.rfl'
 refine enter (n := 30) Tryz.func100 rfl rfl rfl ?_
 refine wp_seq (c_reg (s0 (x_assign (v := .bool _) rfl) (c_end (n_then (wp_seq (c_reg (s0 (xaI rfl) (c_end (n_then (wp_seq (wp_seq (c_reg (s0 (xmS rfl) ?_)))))))))))))
 refine s0 (x_lensl un24 rfl) (s0 (xmI rfl) (c_end (n_then (wp_block ?_))))
 refine c_loop (γ := Nat) (fun k => xs.length - k) (fun (k : Nat) E wl => ∃ E0, E = upd (upd (upd (upd (upd E0 0 (.slice p xs.length c)) 3 (.int .i64 (kraft (xs.take k)))) 6 (.slice p xs.length c)) 7 (.int .i64 xs.length)) 8 (.int .i64 (k : Int)) ∧ (Exm [] w wl) ∧ ((k : Int) ≤ xs.length) ∧ (∀ j : Nat, j < k → 0 ≤ xs.getD j 0 ∧ xs.getD j 0 ≤ 7)) 0 ⟨_, upd_self5 rfl rfl rfl rfl rfl, L, (by omega), (by intro j hj; omega)⟩ ?_
 rintro k E wl1 ⟨E0, rfl, L, hk, hall⟩
 have Lz0 := L.size; have hkr := kraft_take_range xs k
 refine wp_seq (c_reg ?_)
 refine sb (x_lss rfl rfl) (fun h9 => ?_) (fun h9 => ?_)
 ·refine c_end (n_then (wp_seq (c_true rfl (c_skipn (n_then (wp_seq (wp_block (wp_seq (c_reg (s0 (x_idx so24 rfl rfl hp (by decide) (by omega) (by omega)) (st (x_ldi sc3 rfl (hp.ext L) (by omega) (by omega)) (s0 (xaI rfl) (c_end ?_)))))))))))))
  refine n_then (wp_seq (wp_seq (c_reg (s0 (xmI rfl) ?_))))
  refine srb (zcall cl77 rfl) (i_within _ _ _ _) (fun h13 w2 l3 => ?_) (fun h13 w2 l3 => ?_)
  ·have z_l3 := l3.size
   have L := L.tr l3.up
   refine s0 (x_not rfl) (c_end (n_then (c_false rfl (c_skipn (n_then (wp_seq (c_reg (s0 (xmI rfl) ?_))))))))
   refine sb (x_gtr rfl rfl) (fun h16 => ?_) (fun h16 => ?_)
   ·refine c_end (n_then (c_true rfl ?_))
    have hpw := pow7 _ h16
    refine c_reg (s0 (xmI rfl) (s0 (xmI rfl) (s0 (x_sub rfl rfl (by omega)) (s0 (x_shl rfl rfl (by omega) (by omega)) (s0 (x_add rfl rfl (by omega)) (s0 (xaI rfl) (c_end (n_block (n_then (c_reg (s0 (x_add rfl rfl (by omega)) (s0 (xmI rfl) (c_end ?_)))))))))))))
    have hkt := kraft_take xs k (by omega)
    rw [Int.toNat_natCast] at h13 h16
    first | rw [if_pos h16] at hkt | rw [if_neg h16] at hkt
    exact c_round (g' := k + 1) (by omega) ⟨_, upd_self5 rfl (vint (by first | omega | (rw [Int.toNat_natCast]; omega))) rfl rfl (vint (by omega)), L, (by omega), (upto_succ hall (by simpa using h13))⟩
   ·refine c_end (n_then (c_false rfl (c_skipn (n_block (n_then (c_reg (s0 (x_add rfl rfl (by omega)) (s0 (xmI rfl) (c_end ?_)))))))))
    have hkt := kraft_take xs k (by omega)
    rw [Int.toNat_natCast] at h13 h16
    first | rw [if_pos h16] at hkt | rw [if_neg h16] at hkt
    exact c_round (g' := k + 1) (by omega) ⟨_, upd_self5 rfl (vint (by first | omega | (rw [Int.toNat_natCast]; omega))) rfl rfl (vint (by omega)), L, (by omega), (upto_succ hall (by simpa using h13))⟩
  ·have z_l3 := l3.size
   have L := L.tr l3.up
   refine s0 (x_not rfl) (c_end (n_then (c_true rfl (wp_seq (c_reg (s0 (x_assign (v := .bool _) rfl) (c_end (n_then ?_))))))))
   refine wp_ret (r_then (r_block (r_then (r_then (r_block (r_then ?_))))))
   refine f_ret rfl rfl ?_
   exact ⟨ret_f (fun h => h13 (by simpa using h.1 k (by omega))), L⟩
 ·refine c_end (n_then (wp_seq (c_false rfl ?_)))
  refine wp_exit (e_then (e_then (e_here ?_)))
  refine n_then (wp_seq (c_reg (s0 (xmS rfl) (s0 (x_lensl un24 rfl) ?_))))
  refine sb (x_eql rfl rfl) (fun h25 => ?_) (fun h25 => ?_)
  ·refine s0 (x_move (v := .bool _) rfl) (gt rfl rfl rfl rfl (s0 (xmI rfl) (gt rfl rfl rfl rfl (s0 (x_eql rfl rfl) (s0 (x_pickt (v := .bool _) rfl rfl) (s0 (x_assign (v := .bool _) rfl) (c_end (n_then (wp_ret (f_ret rfl rfl ?_))))))))))
   have hkl : xs.take k = xs := by rw [show k = xs.length by omega]; simp
   rw [hkl]
   exact ⟨ret_dec2 ⟨fun h => ⟨fun j hj => hall j (by omega), by omega, h⟩, fun h => h.2.2⟩, L⟩
  ·refine s0 (x_move (v := .bool _) rfl) (gf rfl rfl rfl rfl (gf rfl rfl rfl rfl (s0 (x_pickf (v := .bool _) rfl rfl) (s0 (x_assign (v := .bool _) rfl) (c_end (n_then (wp_ret (f_ret rfl rfl ?_))))))))
   exact ⟨ret_f (fun h => h25 (by have := h.2.1; omega)), L⟩

theorem s_codeOk (p : Option Addr) (xs : List Int) (c : Nat) (w : World) (hp : Sl w p xs.length c 1 (ic xs)) (hl : xs.length ≤ 1099511627776) :
    Calls Tryz.prog 67 [.slice p xs.length c].toArray w (Ret w (.bool (decide (codeOk xs)))) := by
 have L : Exm [] w w := Exm.rfl'
 refine enter (n := 37) Tryz.func67 rfl rfl rfl ?_
 refine wp_seq (c_reg (s0 (x_assign (v := .bool _) rfl) (c_end (n_then (wp_seq (c_reg (s0 (xaI rfl) (c_end (n_then (wp_seq (wp_seq (c_reg (s0 (xaI rfl) ?_)))))))))))))
 refine c_end (n_then (wp_block ?_))
 refine c_loop (γ := Nat) (fun k => xs.length - k) (fun (k : Nat) E wl => ∃ E0, E = upd (upd (upd E0 0 (.slice p xs.length c)) 3 (.int .i64 (kraft (xs.take k)))) 4 (.int .i64 (k : Int)) ∧ (Exm [] w wl) ∧ ((k : Int) ≤ xs.length) ∧ (∀ j : Nat, j < k → 0 ≤ xs.getD j 0 ∧ xs.getD j 0 ≤ 7)) 0 ⟨_, upd_self3 rfl rfl rfl, L, (by omega), (by intro j hj; omega)⟩ ?_
 rintro k E wl1 ⟨E0, rfl, L, hk, hall⟩
 have Lz0 := L.size; have hkr := kraft_take_range xs k
 refine wp_seq (wp_seq (c_reg (s0 (xmI rfl) (s0 (xmS rfl) (s0 (x_lensl un24 rfl) ?_)))))
 refine sb (x_lss rfl rfl) (fun h8 => ?_) (fun h8 => ?_)
 ·refine c_end (n_then (c_true rfl (c_skipn (n_then (wp_seq (wp_block (wp_seq (wp_seq (c_reg (s0 (xmS rfl) (s0 (xmI rfl) (s0 (x_idx so24 rfl rfl hp (by decide) (by omega) (by omega)) (st (x_ldi sc3 rfl (hp.ext L) (by omega) (by omega)) ?_)))))))))))))
  refine srb (zcall cl85 rfl) (s_l1In _ _ _ _) (fun h15 w2 l3 => ?_) (fun h15 w2 l3 => ?_)
  ·have z_l3 := l3.size
   have L := L.tr l3.up
   refine s0 (x_not rfl) (c_end (n_then (c_false rfl (c_skipn (n_then (wp_seq (c_reg (s0 (xmS rfl) (s0 (xmI rfl) (s0 (x_idx so24 rfl rfl hp (by decide) (by omega) (by omega)) (st (x_ldi sc3 rfl (hp.ext L) (by omega) (by omega)) ?_)))))))))))
   refine sb (x_gtr rfl rfl) (fun h21 => ?_) (fun h21 => ?_)
   ·refine c_end (n_then (c_true rfl ?_))
    have hpw := pow7 _ h21
    refine c_reg (s0 (xmI rfl) (s0 (xmS rfl) (s0 (xmI rfl) (s0 (x_idx so24 rfl rfl hp (by decide) (by omega) (by omega)) (st (x_ldi sc3 rfl (hp.ext L) (by omega) (by omega)) (s0 (x_sub rfl rfl (by omega)) (s0 (x_shl rfl rfl (by omega) (by omega)) (s0 (x_add rfl rfl (by omega)) (s0 (xaI rfl) (c_end (n_block (n_then (c_reg ?_)))))))))))))
    refine s0 (xmI rfl) (s0 (x_add rfl rfl (by omega)) (s0 (xaI rfl) (c_end ?_)))
    have hkt := kraft_take xs k (by omega)
    rw [Int.toNat_natCast] at h15 h21
    first | rw [if_pos h21] at hkt | rw [if_neg h21] at hkt
    exact c_round (g' := k + 1) (by omega) ⟨_, upd_self3 rfl (vint (by first | omega | (rw [Int.toNat_natCast]; omega))) (vint (by omega)), L, (by omega), (upto_succ hall (by simpa using h15))⟩
   ·refine c_end (n_then (c_false rfl (c_skipn (n_block (n_then (c_reg (s0 (xmI rfl) (s0 (x_add rfl rfl (by omega)) (s0 (xaI rfl) (c_end ?_))))))))))
    have hkt := kraft_take xs k (by omega)
    rw [Int.toNat_natCast] at h15 h21
    first | rw [if_pos h21] at hkt | rw [if_neg h21] at hkt
    exact c_round (g' := k + 1) (by omega) ⟨_, upd_self3 rfl (vint (by first | omega | (rw [Int.toNat_natCast]; omega))) (vint (by omega)), L, (by omega), (upto_succ hall (by simpa using h15))⟩
  ·have z_l3 := l3.size
   have L := L.tr l3.up
   refine s0 (x_not rfl) (c_end (n_then (c_true rfl (wp_seq (c_reg (s0 (x_assign (v := .bool _) rfl) (c_end (n_then ?_))))))))
   refine wp_ret (r_then (r_block (r_then (r_then (r_block (r_then ?_))))))
   refine f_ret rfl rfl ?_
   exact ⟨ret_f (fun h => h15 (by simpa using h.1 k (by omega))), L⟩
 ·refine c_end (n_then (c_false rfl ?_))
  refine wp_exit (e_then (e_then (e_here ?_)))
  refine n_then (wp_seq (c_reg (s0 (xmS rfl) (s0 (x_lensl un24 rfl) ?_))))
  refine sb (x_eql rfl rfl) (fun h32 => ?_) (fun h32 => ?_)
  ·refine s0 (x_move (v := .bool _) rfl) (gt rfl rfl rfl rfl (s0 (xmI rfl) (gt rfl rfl rfl rfl (s0 (x_eql rfl rfl) (s0 (x_pickt (v := .bool _) rfl rfl) (s0 (x_assign (v := .bool _) rfl) (c_end (n_then (wp_ret (f_ret rfl rfl ?_))))))))))
   have hkl : xs.take k = xs := by rw [show k = xs.length by omega]; simp
   rw [hkl]
   exact ⟨ret_dec2 ⟨fun h => ⟨fun j hj => hall j (by omega), by omega, h⟩, fun h => h.2.2⟩, L⟩
  ·refine s0 (x_move (v := .bool _) rfl) (gf rfl rfl rfl rfl (gf rfl rfl rfl rfl (s0 (x_pickf (v := .bool _) rfl rfl) (s0 (x_assign (v := .bool _) rfl) (c_end (n_then (wp_ret (f_ret rfl rfl ?_))))))))
   exact ⟨ret_f (fun h => h32 (by have := h.2.1; omega)), L⟩

theorem s_stepOf (q : Int) (w : World) :
    Calls Tryz.prog 66 [.int .i64 q].toArray w (Ret w (.int .i64 (stepOf q))) := by
 have L : Exm [] w w := Exm.rfl'
 refine enter (n := 15) Tryz.func66 rfl rfl rfl ?_
 refine wp_seq (c_reg (s0 (xaI rfl) (c_end (n_then (wp_seq (wp_seq (c_reg (s0 (xmI rfl) ?_))))))))
 refine srb (zcall cl85 rfl) (s_l1In _ _ _ _) (fun h4 w1 l2 => ?_) (fun h4 w1 l2 => ?_)
 ·have z_l2 := l2.size
  have L := L.tr l2.up
  refine s0 (x_not rfl) (c_end (n_then (c_false rfl (c_skipn (n_then (wp_seq ?_))))))
  have hst := step_range q h4; have hsr := step_row q
  refine c_reg ?_
  refine s_bsi (xs := [_, _, _, _, _, _]) so24 zr3 (pts_cons rfl (pts_cons rfl (pts_cons rfl (pts_cons rfl (pts_cons rfl (pts_cons rfl pts_nil)))))) rfl rfl rfl ?_
  intro p6 F6 w3 l4 o6 f6 g6
  have z_l4 := l4.size; have L := L.tr l4.up; have hn6 := o6.n1
  refine s0 (xmI rfl) (s0 (x_rem rfl rfl (by omega) (by omega)) (s0 (x_idx so24 rfl rfl o6.sl (by decide) (by omega) (by omega)) (st (x_ldi sc3 rfl o6.sl (by omega) (by omega)) (s0 (xmI rfl) (s0 (x_quo rfl rfl (by omega) (by omega)) (s0 (x_shl rfl rfl (by omega) (by omega)) (s0 (x_quo rfl rfl (by omega) (by omega)) (s0 (xaI rfl) (c_end (n_then (wp_ret (f_ret rfl rfl ?_))))))))))))
  exact ⟨ret_int (by unfold stepOf; rw [if_pos h4]), L⟩
 ·have z_l2 := l2.size
  have L := L.tr l2.up
  refine s0 (x_not rfl) (c_end (n_then (c_true rfl (wp_seq (c_reg (s0 (xaI rfl) (c_end (n_then ?_))))))))
  refine wp_ret (r_then ?_)
  refine f_ret rfl rfl ?_
  exact ⟨ret_int (by unfold stepOf; rw [if_neg h4]), L⟩

theorem i_sidesOk (a b : Int) (w : World) :
    Calls Tryz.prog 73 [.int .i64 a, .int .i64 b].toArray w (Ret w (.bool (decide (sidesOk a b)))) := by
 have L : Exm [] w w := Exm.rfl'
 refine enter (n := 21) Tryz.func73 rfl rfl rfl ?_
 refine wp_seq (c_reg (s0 (x_assign (v := .bool _) rfl) (c_end (n_then (wp_seq (c_reg (s0 (xmI rfl) ?_)))))))
 refine srb (zcall cl77 rfl) (i_within _ _ _ _) (fun h6 w1 l2 => ?_) (fun h6 w1 l2 => ?_)
 ·have z_l2 := l2.size
  have L := L.tr l2.up
  refine s0 (x_move (v := .bool _) rfl) (gt rfl rfl rfl rfl (s0 (xmI rfl) (gt rfl rfl rfl rfl ?_)))
  refine srb (zcall cl77 rfl) (i_within _ _ _ _) (fun h9 w3 l4 => ?_) (fun h9 w3 l4 => ?_)
  ·have z_l4 := l4.size
   have L := L.tr l4.up
   refine s0 (x_pickt (v := .bool _) rfl rfl) (s0 (x_move (v := .bool _) rfl) (gt rfl rfl rfl rfl (s0 (xmI rfl) (gt rfl rfl rfl rfl (s0 (x_rem rfl rfl (by omega) (by omega)) (gt rfl rfl rfl rfl ?_))))))
   refine sb (x_eql rfl rfl) (fun h14 => ?_) (fun h14 => ?_)
   ·refine s0 (x_pickt (v := .bool _) rfl rfl) (s0 (x_move (v := .bool _) rfl) (gt rfl rfl rfl rfl (s0 (xmI rfl) (gt rfl rfl rfl rfl (s0 (x_rem rfl rfl (by omega) (by omega)) (gt rfl rfl rfl rfl (s0 (x_eql rfl rfl) (s0 (x_pickt (v := .bool _) rfl rfl) (s0 (x_assign (v := .bool _) rfl) (c_end (n_then (wp_ret (f_ret rfl rfl ?_)))))))))))))
    exact ⟨ret_dec2 (by unfold sidesOk; omega), L⟩
   ·refine s0 (x_pickt (v := .bool _) rfl rfl) (s0 (x_move (v := .bool _) rfl) (gf rfl rfl rfl rfl (gf rfl rfl rfl rfl (gf rfl rfl rfl rfl (s0 (x_pickf (v := .bool _) rfl rfl) (s0 (x_assign (v := .bool _) rfl) (c_end (n_then (wp_ret (f_ret rfl rfl ?_))))))))))
    exact ⟨ret_f (by unfold sidesOk; omega), L⟩
  ·have z_l4 := l4.size
   have L := L.tr l4.up
   refine s0 (x_pickt (v := .bool _) rfl rfl) (s0 (x_move (v := .bool _) rfl) (gf rfl rfl rfl rfl (gf rfl rfl rfl rfl (gf rfl rfl rfl rfl (s0 (x_pickf (v := .bool _) rfl rfl) (s0 (x_move (v := .bool _) rfl) (gf rfl rfl rfl rfl (gf rfl rfl rfl rfl (gf rfl rfl rfl rfl (s0 (x_pickf (v := .bool _) rfl rfl) (s0 (x_assign (v := .bool _) rfl) (c_end (n_then ?_)))))))))))))
   refine wp_ret (f_ret rfl rfl ?_)
   exact ⟨ret_f (by unfold sidesOk; omega), L⟩
 ·have z_l2 := l2.size
  have L := L.tr l2.up
  refine s0 (x_move (v := .bool _) rfl) (gf rfl rfl rfl rfl (gf rfl rfl rfl rfl (s0 (x_pickf (v := .bool _) rfl rfl) (s0 (x_move (v := .bool _) rfl) (gf rfl rfl rfl rfl (gf rfl rfl rfl rfl (gf rfl rfl rfl rfl (s0 (x_pickf (v := .bool _) rfl rfl) (s0 (x_move (v := .bool _) rfl) (gf rfl rfl rfl rfl (gf rfl rfl rfl rfl (gf rfl rfl rfl rfl (s0 (x_pickf (v := .bool _) rfl rfl) ?_)))))))))))))
  refine s0 (x_assign (v := .bool _) rfl) (c_end (n_then (wp_ret (f_ret rfl rfl ?_))))
  exact ⟨ret_f (by unfold sidesOk; omega), L⟩

theorem s_sidesOk (a b : Int) (w : World) :
    Calls Tryz.prog 36 [.int .i64 a, .int .i64 b].toArray w (Ret w (.bool (decide (sidesOk a b)))) := by
 have L : Exm [] w w := Exm.rfl'
 refine enter (n := 21) Tryz.func36 rfl rfl rfl ?_
 refine wp_seq (c_reg (s0 (x_assign (v := .bool _) rfl) (c_end (n_then (wp_seq (c_reg (s0 (xmI rfl) ?_)))))))
 refine srb (zcall cl85 rfl) (s_l1In _ _ _ _) (fun h6 w1 l2 => ?_) (fun h6 w1 l2 => ?_)
 ·have z_l2 := l2.size
  have L := L.tr l2.up
  refine s0 (x_move (v := .bool _) rfl) (gt rfl rfl rfl rfl (s0 (xmI rfl) (gt rfl rfl rfl rfl ?_)))
  refine srb (zcall cl85 rfl) (s_l1In _ _ _ _) (fun h9 w3 l4 => ?_) (fun h9 w3 l4 => ?_)
  ·have z_l4 := l4.size
   have L := L.tr l4.up
   refine s0 (x_pickt (v := .bool _) rfl rfl) (s0 (x_move (v := .bool _) rfl) (gt rfl rfl rfl rfl (s0 (xmI rfl) (gt rfl rfl rfl rfl (s0 (x_rem rfl rfl (by omega) (by omega)) (gt rfl rfl rfl rfl ?_))))))
   refine sb (x_eql rfl rfl) (fun h14 => ?_) (fun h14 => ?_)
   ·refine s0 (x_pickt (v := .bool _) rfl rfl) (s0 (x_move (v := .bool _) rfl) (gt rfl rfl rfl rfl (s0 (xmI rfl) (gt rfl rfl rfl rfl (s0 (x_rem rfl rfl (by omega) (by omega)) (gt rfl rfl rfl rfl (s0 (x_eql rfl rfl) (s0 (x_pickt (v := .bool _) rfl rfl) (s0 (x_assign (v := .bool _) rfl) (c_end (n_then (wp_ret (f_ret rfl rfl ?_)))))))))))))
    exact ⟨ret_dec2 (by unfold sidesOk; omega), L⟩
   ·refine s0 (x_pickt (v := .bool _) rfl rfl) (s0 (x_move (v := .bool _) rfl) (gf rfl rfl rfl rfl (gf rfl rfl rfl rfl (gf rfl rfl rfl rfl (s0 (x_pickf (v := .bool _) rfl rfl) (s0 (x_assign (v := .bool _) rfl) (c_end (n_then (wp_ret (f_ret rfl rfl ?_))))))))))
    exact ⟨ret_f (by unfold sidesOk; omega), L⟩
  ·have z_l4 := l4.size
   have L := L.tr l4.up
   refine s0 (x_pickt (v := .bool _) rfl rfl) (s0 (x_move (v := .bool _) rfl) (gf rfl rfl rfl rfl (gf rfl rfl rfl rfl (gf rfl rfl rfl rfl (s0 (x_pickf (v := .bool _) rfl rfl) (s0 (x_move (v := .bool _) rfl) (gf rfl rfl rfl rfl (gf rfl rfl rfl rfl (gf rfl rfl rfl rfl (s0 (x_pickf (v := .bool _) rfl rfl) (s0 (x_assign (v := .bool _) rfl) (c_end (n_then ?_)))))))))))))
   refine wp_ret (f_ret rfl rfl ?_)
   exact ⟨ret_f (by unfold sidesOk; omega), L⟩
 ·have z_l2 := l2.size
  have L := L.tr l2.up
  refine s0 (x_move (v := .bool _) rfl) (gf rfl rfl rfl rfl (gf rfl rfl rfl rfl (s0 (x_pickf (v := .bool _) rfl rfl) (s0 (x_move (v := .bool _) rfl) (gf rfl rfl rfl rfl (gf rfl rfl rfl rfl (gf rfl rfl rfl rfl (s0 (x_pickf (v := .bool _) rfl rfl) (s0 (x_move (v := .bool _) rfl) (gf rfl rfl rfl rfl (gf rfl rfl rfl rfl (gf rfl rfl rfl rfl (s0 (x_pickf (v := .bool _) rfl rfl) ?_)))))))))))))
  refine s0 (x_assign (v := .bool _) rfl) (c_end (n_then (wp_ret (f_ret rfl rfl ?_))))
  exact ⟨ret_f (by unfold sidesOk; omega), L⟩

theorem i_headerOk (a b q : Int) (y z : Bool) (p : Option Addr) (xs : List Int) (c : Nat) (w : World) (hp : Sl w p xs.length c 1 (ic xs)) (hl : xs.length ≤ 1099511627776) :
    Calls Tryz.prog 69 [.agg [.int .i64 a, .int .i64 b, .int .i64 q, .bool y, .bool z, .slice p xs.length c].toArray].toArray w (Ret w (.bool (decide (headOk a b q xs)))) := by
 have L : Exm [] w w := Exm.rfl'
 refine enter (n := 18) Tryz.func69 rfl rfl rfl ?_
 refine wp_seq (c_reg (s_box rfl rfl ?_))
 intro b1 w2 lob1 hib1 l3 B1
 have z_l3 := l3.size; have L := L.tr l3.up
 refine s0 (x_assign (v := .bool _) rfl) (c_end (n_then (wp_seq (c_reg (s0 (x_fieldAddr fa26_0 rfl) (st (x_loadB sc3 rfl B1 rfl) (s0 (x_fieldAddr fa26_1 rfl) (st (x_loadB sc3 rfl B1 rfl) ?_))))))))
 refine srb (zcall cl73 rfl) (i_sidesOk _ _ _) (fun h7 w4 l5 => ?_) (fun h7 w4 l5 => ?_)
 ·have z_l5 := l5.size
  have L := L.tr l5.up; have B1 := B1.ext l5
  refine s0 (x_move (v := .bool _) rfl) (gt rfl rfl rfl rfl (s0 (x_fieldAddr fa26_2 rfl) (gt rfl rfl rfl rfl (st (x_loadB sc3 rfl B1 rfl) (gt rfl rfl rfl rfl ?_)))))
  refine srb (zcall cl77 rfl) (i_within _ _ _ _) (fun h11 w6 l7 => ?_) (fun h11 w6 l7 => ?_)
  ·have z_l7 := l7.size
   have L := L.tr l7.up; have B1 := B1.ext l7
   refine s0 (x_pickt (v := .bool _) rfl rfl) (s0 (x_move (v := .bool _) rfl) (gt rfl rfl rfl rfl (s0 (x_fieldAddr fa26_5 rfl) (gt rfl rfl rfl rfl (st (x_loadB sc24 rfl B1 rfl) (gt rfl rfl rfl rfl ?_))))))
   refine sr (zcall cl100 rfl) (i_codeOk _ _ _ _ (hp.ext L) (by omega)) ?_
   intro w8 l9
   have z_l9 := l9.size; have L := L.tr l9.up
   refine s0 (x_pickt (v := .bool _) rfl rfl) (s0 (x_assign (v := .bool _) rfl) (c_end (n_then (wp_ret (f_ret rfl rfl ?_)))))
   exact ⟨ret_dec2 ⟨fun h => ⟨h7, h11, h⟩, fun h => h.2.2⟩, L⟩
  ·have z_l7 := l7.size
   have L := L.tr l7.up
   refine s0 (x_pickt (v := .bool _) rfl rfl) (s0 (x_move (v := .bool _) rfl) (gf rfl rfl rfl rfl (gf rfl rfl rfl rfl (gf rfl rfl rfl rfl (s0 (x_pickf (v := .bool _) rfl rfl) (s0 (x_assign (v := .bool _) rfl) (c_end (n_then (wp_ret (f_ret rfl rfl ?_))))))))))
   exact ⟨ret_f (fun h => h11 h.2.1), L⟩
 ·have z_l5 := l5.size
  have L := L.tr l5.up
  refine s0 (x_move (v := .bool _) rfl) (gf rfl rfl rfl rfl (gf rfl rfl rfl rfl (gf rfl rfl rfl rfl (s0 (x_pickf (v := .bool _) rfl rfl) (s0 (x_move (v := .bool _) rfl) (gf rfl rfl rfl rfl (gf rfl rfl rfl rfl (gf rfl rfl rfl rfl (s0 (x_pickf (v := .bool _) rfl rfl) (s0 (x_assign (v := .bool _) rfl) (c_end (n_then (wp_ret ?_)))))))))))))
  refine f_ret rfl rfl ?_
  exact ⟨ret_f (fun h => h7 h.1), L⟩

theorem s_headerOk (a b q : Int) (y z : Bool) (p : Option Addr) (xs : List Int) (c : Nat) (w : World) (hp : Sl w p xs.length c 1 (ic xs)) (hl : xs.length ≤ 1099511627776) :
    Calls Tryz.prog 28 [.agg [.int .i64 a, .int .i64 b, .int .i64 q, .bool y, .bool z, .slice p xs.length c].toArray].toArray w (Ret w (.bool (decide (headOk a b q xs)))) := by
 have L : Exm [] w w := Exm.rfl'
 refine enter (n := 19) Tryz.func28 rfl rfl rfl ?_
 refine wp_seq (c_reg (s_box rfl rfl ?_))
 intro b1 w2 lob1 hib1 l3 B1
 have z_l3 := l3.size; have L := L.tr l3.up
 refine s0 (x_assign (v := .bool _) rfl) (c_end (n_then (wp_seq (c_reg (s0 (x_fieldAddr fa26_0 rfl) (st (x_loadB sc3 rfl B1 rfl) (s0 (x_fieldAddr fa26_1 rfl) (st (x_loadB sc3 rfl B1 rfl) ?_))))))))
 refine srb (zcall cl36 rfl) (s_sidesOk _ _ _) (fun h7 w4 l5 => ?_) (fun h7 w4 l5 => ?_)
 ·have z_l5 := l5.size
  have L := L.tr l5.up; have B1 := B1.ext l5
  refine s0 (x_move (v := .bool _) rfl) (gt rfl rfl rfl rfl (s0 (x_fieldAddr fa26_2 rfl) (gt rfl rfl rfl rfl (st (x_loadB sc3 rfl B1 rfl) (gt rfl rfl rfl rfl ?_)))))
  refine sr (zcall cl66 rfl) (s_stepOf _ _) ?_
  intro w6 l7
  have z_l7 := l7.size; have L := L.tr l7.up; have B1 := B1.ext l7
  refine gt rfl rfl rfl rfl ?_
  refine sb (x_gtr rfl rfl) (fun h12 => ?_) (fun h12 => ?_)
  ·refine s0 (x_pickt (v := .bool _) rfl rfl) (s0 (x_move (v := .bool _) rfl) (gt rfl rfl rfl rfl (s0 (x_fieldAddr fa26_5 rfl) (gt rfl rfl rfl rfl (st (x_loadB sc24 rfl B1 rfl) (gt rfl rfl rfl rfl ?_))))))
   refine sr (zcall cl67 rfl) (s_codeOk _ _ _ _ (hp.ext L) (by omega)) ?_
   intro w8 l9
   have z_l9 := l9.size; have L := L.tr l9.up
   refine s0 (x_pickt (v := .bool _) rfl rfl) (s0 (x_assign (v := .bool _) rfl) (c_end (n_then (wp_ret (f_ret rfl rfl ?_)))))
   exact ⟨ret_dec2 ⟨fun h => ⟨h7, (step_pos q).1 h12, h⟩, fun h => h.2.2⟩, L⟩
  ·refine s0 (x_pickt (v := .bool _) rfl rfl) (s0 (x_move (v := .bool _) rfl) (gf rfl rfl rfl rfl (gf rfl rfl rfl rfl (gf rfl rfl rfl rfl (s0 (x_pickf (v := .bool _) rfl rfl) (s0 (x_assign (v := .bool _) rfl) (c_end (n_then (wp_ret (f_ret rfl rfl ?_))))))))))
   exact ⟨ret_f (fun h => h12 ((step_pos q).2 h.2.1)), L⟩
 ·have z_l5 := l5.size
  have L := L.tr l5.up
  refine s0 (x_move (v := .bool _) rfl) (gf rfl rfl rfl rfl (gf rfl rfl rfl rfl (gf rfl rfl rfl rfl (gf rfl rfl rfl rfl (s0 (x_pickf (v := .bool _) rfl rfl) (s0 (x_move (v := .bool _) rfl) (gf rfl rfl rfl rfl (gf rfl rfl rfl rfl (gf rfl rfl rfl rfl (s0 (x_pickf (v := .bool _) rfl rfl) (s0 (x_assign (v := .bool _) rfl) (c_end (n_then ?_)))))))))))))
  refine wp_ret (f_ret rfl rfl ?_)
  exact ⟨ret_f (fun h => h7 h.1), L⟩

end Go.Proofs.YtepnknffaecbdaaGreat
