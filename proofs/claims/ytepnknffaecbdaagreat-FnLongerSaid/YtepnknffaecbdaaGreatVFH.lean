/- What each function of this part returns, for every argument that meets its premises. -/
import Derived.Test.YtepnknffaecbdaaGreatProg
import Derived.Test.YtepnknffaecbdaaGreatVSxA
import Derived.Test.YtepnknffaecbdaaGreatVTy
import Derived.Test.YtepnknffaecbdaaGreatVPlA
import Derived.Test.YtepnknffaecbdaaGreatVF1
import Derived.Test.YtepnknffaecbdaaGreatVF4
import Derived.Test.YtepnknffaecbdaaGreatVF7
import Derived.Test.YtepnknffaecbdaaGreatVFC
import Derived.Test.YtepnknffaecbdaaGreatVFD
namespace Go.Proofs.YtepnknffaecbdaaGreat
open Go.Sx Go.Pl Go.RowKit
theorem x_quot {P : Program} {n : Nat} {E : Env} {T T' ty : TypeId} {x y : Operand} {a b : Int} (hx : opd n E x = .int .i64 a) (hy : opd n E y = .int .i64 b) (ha : -9223372036854775807 ≤ a ∧ a ≤ 9223372036854775807) (hb : 0 < b) : X0 P n E (.binOp .quo T x y T') ty (.int .i64 (a.tdiv b)) := by
  have h := x_quok (P := P) (T := T) (T' := T') (ty := ty) hx hy (by omega)
  have h2 := tdiv_range hb ha
  rwa [wrap_in ⟨by omega, by omega⟩] at h

theorem i_limited (n lo hi : Int) (w : World) :
    Calls Tryz.prog 148 [.int .i64 n, .int .i64 lo, .int .i64 hi].toArray w (Ret w (.int .i64 (max lo (min n hi)))) := by
 have L : Exm [] w w := Exm.rfl'
 refine enter (n := 12) Tryz.func148 rfl rfl rfl ?_
 refine wp_seq (c_reg (s0 (xaI rfl) (c_end (n_then (wp_seq (c_reg (s0 (xmI rfl) (s0 (xmI rfl) (s0 (xmI rfl) (s0 (x_min rfl rfl) (s0 (x_max rfl rfl) (s0 (xaI rfl) (c_end ?_)))))))))))))
 refine n_then (wp_ret (f_ret rfl rfl ?_))
 exact ⟨rfl, L⟩

theorem i_floorDiv (a b : Int) (w : World) (ha : -4611686018427387904 ≤ a ∧ a ≤ 4611686018427387904) (hb : 0 < b ∧ b ≤ 1099511627776) :
    Calls Tryz.prog 193 [.int .i64 a, .int .i64 b].toArray w (Ret w (.int .i64 (a / b))) := by
 have hq := floor_eq (a := a) hb.1; have htr := tdiv_range (a := a) hb.1 (by omega); have hts := tdiv_small (a := a) hb.1 ha; have L : Exm [] w w := Exm.rfl'
 refine enter (n := 16) Tryz.func193 rfl rfl rfl ?_
 refine wp_seq (c_reg (s0 (xaI rfl) (c_end (n_then (wp_seq (c_reg (s0 (xmI rfl) (s0 (xmI rfl) (s0 (x_quot rfl rfl (by omega) (by omega)) (s0 (xaI rfl) (c_end (n_then (wp_seq ?_)))))))))))))
 refine wp_seq (c_reg (s0 (xmI rfl) (s0 (xmI rfl) (s0 (x_remk rfl rfl (by omega)) ?_))))
 refine sb (x_lss rfl rfl) (fun h12 => ?_) (fun h12 => ?_)
 ·refine c_end (n_then (c_true rfl (c_reg (s0 (xmI rfl) (s0 (x_sub rfl rfl (by omega)) (s0 (xaI rfl) (c_end (n_then (wp_seq (c_reg (s0 (xmI rfl) (s0 (xaI rfl) (c_end ?_)))))))))))))
  refine n_then (wp_ret (f_ret rfl rfl ?_))
  exact ⟨ret_int (by rw [if_pos h12] at hq; exact hq), L⟩
 ·refine c_end (n_then (c_false rfl (c_skipn (n_then (wp_seq (c_reg (s0 (xmI rfl) (s0 (xaI rfl) (c_end (n_then (wp_ret (f_ret rfl rfl ?_))))))))))))
  exact ⟨ret_int (by rw [if_neg h12] at hq; exact hq), L⟩

theorem i_alphaOf (q : Int) (w : World) :
    Calls Tryz.prog 235 [.int .i64 q].toArray w (Ret w (.int .i64 (alphaOf q))) := by
 have L : Exm [] w w := Exm.rfl'
 refine enter (n := 8) Tryz.func235 rfl rfl rfl ?_
 refine wp_seq (c_reg (s0 (xaI rfl) (c_end (n_then (wp_seq (wp_seq (c_reg (s0 (xmI rfl) ?_))))))))
 refine srb (zcall cl77 rfl) (i_within _ _ _ _) (fun h4 w1 l2 => ?_) (fun h4 w1 l2 => ?_)
 ·have z_l2 := l2.size
  have L := L.tr l2.up
  refine s0 (x_not rfl) (c_end (n_then (c_false rfl (c_skipn (n_then (wp_seq (c_reg (s0 (xmI rfl) (s0 (x_add rfl rfl (by omega)) (s0 (xaI rfl) (c_end (n_then (wp_ret ?_)))))))))))))
  refine f_ret rfl rfl ?_
  exact ⟨ret_int (by unfold alphaOf; split <;> omega), L⟩
 ·have z_l2 := l2.size
  have L := L.tr l2.up
  refine s0 (x_not rfl) (c_end (n_then (c_true rfl (wp_seq (c_reg (s0 (xaI rfl) (c_end (n_then ?_))))))))
  refine wp_ret (r_then ?_)
  refine f_ret rfl rfl ?_
  exact ⟨ret_int (by unfold alphaOf; rw [if_neg h4]), L⟩

theorem i_betaOf (q : Int) (w : World) :
    Calls Tryz.prog 236 [.int .i64 q].toArray w (Ret w (.int .i64 (betaOf q))) := by
 have L : Exm [] w w := Exm.rfl'
 refine enter (n := 9) Tryz.func236 rfl rfl rfl ?_
 refine wp_seq (c_reg (s0 (xaI rfl) (c_end (n_then (wp_seq (wp_seq (c_reg (s0 (xmI rfl) ?_))))))))
 refine srb (zcall cl77 rfl) (i_within _ _ _ _) (fun h4 w1 l2 => ?_) (fun h4 w1 l2 => ?_)
 ·have z_l2 := l2.size
  have L := L.tr l2.up
  refine s0 (x_not rfl) (c_end (n_then (c_false rfl (c_skipn (n_then (wp_seq (c_reg (s0 (xmI rfl) (s0 (x_quo rfl rfl (by omega) (by omega)) (s0 (x_add rfl rfl (by omega)) (s0 (xaI rfl) (c_end (n_then ?_)))))))))))))
  refine wp_ret (f_ret rfl rfl ?_)
  exact ⟨ret_int (by unfold betaOf; split <;> omega), L⟩
 ·have z_l2 := l2.size
  have L := L.tr l2.up
  refine s0 (x_not rfl) (c_end (n_then (c_true rfl (wp_seq (c_reg (s0 (xaI rfl) (c_end (n_then ?_))))))))
  refine wp_ret (r_then ?_)
  refine f_ret rfl rfl ?_
  exact ⟨ret_int (by unfold betaOf; rw [if_neg h4]), L⟩

theorem i_allWithin (lo hi : Int) (p : Option Addr) (n c : Nat) (xs : List Int) (w : World) (hp : Sl w p n c 1 (ic xs)) (hl : n ≤ 1099511627776) :
    Calls Tryz.prog 147 [.slice p n c, .int .i64 lo, .int .i64 hi].toArray w (Ret w (.bool (decide (allIn lo hi xs)))) := by
 have hn := hp.n; have L : Exm [] w w := Exm.rfl'
 refine enter (n := 21) Tryz.func147 rfl rfl rfl ?_
 refine wp_seq (c_reg (s0 (x_assign (v := .bool _) rfl) (c_end (n_then (wp_seq (wp_seq (c_reg (s0 (xmS rfl) (s0 (x_lensl un24 rfl) (s0 (xmI rfl) (c_end (n_then (wp_block ?_)))))))))))))
 refine c_loop (γ := Nat) (fun k => n - k) (fun (k : Nat) E wl => ∃ E0, E = upd (upd (upd (upd (upd E0 1 (.int .i64 lo)) 2 (.int .i64 hi)) 9 (.slice p n c)) 10 (.int .i64 n)) 11 (.int .i64 (k : Int)) ∧ (Exm [] w wl) ∧ ((k : Int) ≤ n) ∧ (∀ j : Nat, j < k → lo ≤ xs.getD j 0 ∧ xs.getD j 0 ≤ hi)) 0 ⟨_, upd_self5 rfl rfl rfl rfl rfl, L, (by omega), (by intro j hj; omega)⟩ ?_
 rintro k E wl1 ⟨E0, rfl, L, hk, hall⟩
 have Lz0 := L.size
 refine wp_seq (c_reg ?_)
 refine sb (x_lss rfl rfl) (fun h12 => ?_) (fun h12 => ?_)
 ·refine c_end (n_then (wp_seq (c_true rfl (c_skipn (n_then (wp_seq (wp_block (wp_seq (c_reg (s0 (x_idx so24 rfl rfl hp (by decide) (by omega) (by omega)) (st (x_ldi sc3 rfl (hp.ext L) (by omega) (by omega)) (s0 (xaI rfl) (c_end ?_)))))))))))))
  refine n_then (wp_seq (c_reg (s0 (xmI rfl) (s0 (xmI rfl) (s0 (xmI rfl) ?_)))))
  refine srb (zcall cl77 rfl) (i_within _ _ _ _) (fun h18 w2 l3 => ?_) (fun h18 w2 l3 => ?_)
  ·have z_l3 := l3.size
   have L := L.tr l3.up
   refine s0 (x_not rfl) (c_end (n_then (c_false rfl (c_skipn (n_block (n_then (c_reg (s0 (x_add rfl rfl (by omega)) (s0 (xmI rfl) (c_end ?_))))))))))
   exact c_round (g' := k + 1) (by omega) ⟨_, upd_self5 rfl rfl rfl rfl (vint (by omega)), L, (by omega), (upto_succ' hall (by simpa using h18))⟩
  ·have z_l3 := l3.size
   have L := L.tr l3.up
   refine s0 (x_not rfl) (c_end (n_then (c_true rfl (wp_seq (c_reg (s0 (x_assign (v := .bool _) rfl) (c_end (n_then ?_))))))))
   refine wp_ret (r_block (r_then (r_then (r_block (r_then ?_)))))
   refine f_ret rfl rfl ?_
   exact ⟨ret_f (fun h => h18 (by simpa using h k (by omega))), L⟩
 ·refine c_end (n_then (wp_seq (c_false rfl ?_)))
  refine wp_exit (e_then (e_then (e_here ?_)))
  refine n_then (wp_seq (c_reg (s0 (x_assign (v := .bool _) rfl) (c_end (n_then (wp_ret (f_ret rfl rfl ?_)))))))
  exact ⟨ret_t (fun j hj => hall j (by omega)), L⟩

theorem i_near (a b d : Int) (w : World) (ha : -1099511627776 ≤ a ∧ a ≤ 1099511627776) (hb : -1099511627776 ≤ b ∧ b ≤ 1099511627776) :
    Calls Tryz.prog 234 [.int .i64 a, .int .i64 b, .int .i64 d].toArray w (Ret w (.bool (decide (max (a - b) (b - a) < d)))) := by
 have L : Exm [] w w := Exm.rfl'
 refine enter (n := 16) Tryz.func234 rfl rfl rfl ?_
 refine wp_seq (c_reg (s0 (x_assign (v := .bool _) rfl) (c_end (n_then (wp_seq (c_reg (s0 (xmI rfl) (s0 (xmI rfl) (s0 (x_sub rfl rfl (by omega)) (s0 (xmI rfl) (s0 (xmI rfl) (s0 (x_sub rfl rfl (by omega)) (s0 (x_max rfl rfl) ?_)))))))))))))
 refine s0 (xmI rfl) (s0 (x_lss rfl rfl) (s0 (x_assign (v := .bool _) rfl) (c_end (n_then (wp_ret (f_ret rfl rfl ?_))))))
 exact ⟨rfl, L⟩

theorem edge_no {a b c d q : Int} (h : ¬ edgeC a b c d q) : Ending.returned (.tuple [.int .i64 b, .int .i64 c].toArray) = .returned (.tuple [.int .i64 (edgeL a b c d q), .int .i64 (edgeR a b c d q)].toArray) := by simp only [edgeL, edgeR, if_neg h]
theorem edge_yes {a b c d q x y : Int} (h : edgeC a b c d q) (hx : x = clip (b + edgeD a b c d q)) (hy : y = clip (c - edgeD a b c d q)) : Ending.returned (.tuple [.int .i64 x, .int .i64 y].toArray) = .returned (.tuple [.int .i64 (edgeL a b c d q), .int .i64 (edgeR a b c d q)].toArray) := by simp only [edgeL, edgeR, if_pos h, hx, hy]

theorem i_edgeOf (a b c d q : Int) (w : World) :
    Calls Tryz.prog 227 [.int .i64 a, .int .i64 b, .int .i64 c, .int .i64 d, .int .i64 q].toArray w (Ret w (.tuple [.int .i64 (edgeL a b c d q), .int .i64 (edgeR a b c d q)].toArray)) := by
 have L : Exm [] w w := Exm.rfl'
 refine enter (n := 72) Tryz.func227 rfl rfl rfl ?_
 refine wp_seq (c_reg (s0 (xaI rfl) (s0 (xaI rfl) (c_end (n_then (wp_seq (wp_seq (c_reg (s0 (xmI rfl) (s0 (xmI rfl) (s0 (xmI rfl) (s0 (xmI rfl) ?_))))))))))))
 refine s_bsi (xs := [_, _, _, _]) so24 zr3 (pts_cons rfl (pts_cons rfl (pts_cons rfl (pts_cons rfl pts_nil)))) rfl rfl rfl ?_
 intro p18 F18 w1 l2 o18 f18 g18
 have z_l2 := l2.size; have L := L.tr l2.up; have hn18 := o18.n1
 refine srb (zcall cl147 rfl) (i_allWithin _ _ _ _ _ _ _ o18.sl (by omega)) (fun h19 w3 l4 => ?_) (fun h19 w3 l4 => ?_)
 ·have z_l4 := l4.size
  have L := L.tr l4.up
  refine s0 (x_not rfl) (s0 (x_move (v := .bool _) rfl) (gt rfl rfl rfl rfl (s0 (xmI rfl) (gt rfl rfl rfl rfl (s0 (xmI rfl) (gt rfl rfl rfl rfl (s0 (xmI rfl) (gt rfl rfl rfl rfl ?_))))))))
  refine sr (zcall cl235 rfl) (i_alphaOf _ _) ?_
  intro w5 l6
  have z_l6 := l6.size; have L := L.tr l6.up
  refine gt rfl rfl rfl rfl ?_
  refine srb (zcall cl234 rfl) (i_near _ _ _ _ (by have h4 := four_in.1 h19; omega) (by have h4 := four_in.1 h19; omega)) (fun h26 w7 l8 => ?_) (fun h26 w7 l8 => ?_)
  ·have z_l8 := l8.size
   have L := L.tr l8.up
   refine gt rfl rfl rfl rfl (s0 (x_not rfl) (s0 (x_pickf (v := .bool _) rfl rfl) (s0 (x_move (v := .bool _) rfl) (gt rfl rfl rfl rfl (s0 (xmI rfl) (gt rfl rfl rfl rfl (s0 (xmI rfl) (gt rfl rfl rfl rfl (s0 (xmI rfl) (gt rfl rfl rfl rfl ?_))))))))))
   refine sr (zcall cl236 rfl) (i_betaOf _ _) ?_
   intro w9 l10
   have z_l10 := l10.size; have L := L.tr l10.up
   refine gt rfl rfl rfl rfl ?_
   refine srb (zcall cl234 rfl) (i_near _ _ _ _ (by have h4 := four_in.1 h19; omega) (by have h4 := four_in.1 h19; omega)) (fun h34 w11 l12 => ?_) (fun h34 w11 l12 => ?_)
   ·have z_l12 := l12.size
    have L := L.tr l12.up
    refine gt rfl rfl rfl rfl (s0 (x_not rfl) (s0 (x_pickf (v := .bool _) rfl rfl) (s0 (x_move (v := .bool _) rfl) (gt rfl rfl rfl rfl (s0 (xmI rfl) (gt rfl rfl rfl rfl (s0 (xmI rfl) (gt rfl rfl rfl rfl (s0 (xmI rfl) (gt rfl rfl rfl rfl ?_))))))))))
    refine sr (zcall cl236 rfl) (i_betaOf _ _) ?_
    intro w13 l14
    have z_l14 := l14.size; have L := L.tr l14.up
    refine gt rfl rfl rfl rfl ?_
    refine srb (zcall cl234 rfl) (i_near _ _ _ _ (by have h4 := four_in.1 h19; omega) (by have h4 := four_in.1 h19; omega)) (fun h42 w15 l16 => ?_) (fun h42 w15 l16 => ?_)
    ·have z_l16 := l16.size
     have L := L.tr l16.up
     refine gt rfl rfl rfl rfl (s0 (x_not rfl) (s0 (x_pickf (v := .bool _) rfl rfl) (c_end (n_then (c_false rfl (c_skipn (n_then (wp_seq ?_))))))))
     have h4 := four_in.1 h19; have hq := (alpha_pos q).1 (by omega)
     refine c_reg (s0 (xmI rfl) (s0 (x_quo rfl rfl (by omega) (by omega)) (s0 (x_add rfl rfl (by omega)) (s0 (xaI rfl) (c_end (n_then (wp_seq (c_reg (s0 (xmI rfl) (s0 (xmI rfl) (s0 (x_sub rfl rfl (by omega)) (s0 (x_mul rfl rfl (by omega)) (s0 (xmI rfl) ?_)))))))))))))
     refine s0 (xmI rfl) (s0 (x_sub rfl rfl (by omega)) (s0 (x_add rfl rfl (by omega)) (s0 (x_add rfl rfl (by omega)) ?_)))
     refine sr (zcall cl193 rfl) (i_floorDiv _ _ _ (by omega) (by omega)) ?_
     intro w17 l18
     have z_l18 := l18.size; have L := L.tr l18.up
     refine s0 (xmI rfl) (s0 (x_neg rfl (by omega)) (s0 (xmI rfl) ?_))
     refine sr (zcall cl148 rfl) (i_limited _ _ _ _) ?_
     intro w19 l20
     have z_l20 := l20.size; have L := L.tr l20.up
     refine s0 (xaI rfl) (c_end (n_then (wp_seq (c_reg (s0 (xmI rfl) (s0 (xmI rfl) (s0 (x_add rfl rfl (by omega)) ?_)))))))
     refine sr (zcall cl148 rfl) (i_limited _ _ _ _) ?_
     intro w21 l22
     have z_l22 := l22.size; have L := L.tr l22.up
     refine s0 (xmI rfl) (s0 (xmI rfl) (s0 (x_sub rfl rfl (by omega)) ?_))
     refine sr (zcall cl148 rfl) (i_limited _ _ _ _) ?_
     intro w23 l24
     have z_l24 := l24.size; have L := L.tr l24.up
     refine s0 (xaI rfl) (s0 (xaI rfl) (c_end (n_then (wp_ret (f_rets2 rfl (ro_tmp rfl) (ro_tmp rfl) ?_)))))
     exact ⟨edge_yes ⟨h4, by omega, by omega, by omega⟩ (by unfold clip edgeD; rfl) (by unfold clip edgeD; rfl), L⟩
    ·have z_l16 := l16.size
     have L := L.tr l16.up
     refine gt rfl rfl rfl rfl (s0 (x_not rfl) (s0 (x_pickf (v := .bool _) rfl rfl) (c_end (n_then (c_true rfl (wp_seq (c_reg (s0 (xmI rfl) (s0 (xmI rfl) (s0 (xaI rfl) (s0 (xaI rfl) (c_end (n_then ?_)))))))))))))
     refine wp_ret (r_then ?_)
     refine f_rets2 rfl (ro_tmp rfl) (ro_tmp rfl) ?_
     exact ⟨edge_no (fun h => h42 (by have := h.2.2.2; omega)), L⟩
   ·have z_l12 := l12.size
    have L := L.tr l12.up
    refine gt rfl rfl rfl rfl (s0 (x_not rfl) (s0 (x_pickf (v := .bool _) rfl rfl) (s0 (x_move (v := .bool _) rfl) (gf rfl rfl rfl rfl (gf rfl rfl rfl rfl (gf rfl rfl rfl rfl (gf rfl rfl rfl rfl (gf rfl rfl rfl rfl (gf rfl rfl rfl rfl (s0 (x_pickt (v := .bool _) rfl rfl) (c_end (n_then (c_true rfl ?_)))))))))))))
    refine wp_seq (c_reg (s0 (xmI rfl) (s0 (xmI rfl) (s0 (xaI rfl) (s0 (xaI rfl) (c_end (n_then ?_)))))))
    refine wp_ret (r_then ?_)
    refine f_rets2 rfl (ro_tmp rfl) (ro_tmp rfl) ?_
    exact ⟨edge_no (fun h => h34 (by have := h.2.2.1; omega)), L⟩
  ·have z_l8 := l8.size
   have L := L.tr l8.up
   refine gt rfl rfl rfl rfl (s0 (x_not rfl) (s0 (x_pickf (v := .bool _) rfl rfl) (s0 (x_move (v := .bool _) rfl) (gf rfl rfl rfl rfl (gf rfl rfl rfl rfl (gf rfl rfl rfl rfl (gf rfl rfl rfl rfl (gf rfl rfl rfl rfl (gf rfl rfl rfl rfl (s0 (x_pickt (v := .bool _) rfl rfl) (s0 (x_move (v := .bool _) rfl) (gf rfl rfl rfl rfl (gf rfl rfl rfl rfl ?_)))))))))))))
   refine gf rfl rfl rfl rfl (gf rfl rfl rfl rfl (gf rfl rfl rfl rfl (gf rfl rfl rfl rfl (s0 (x_pickt (v := .bool _) rfl rfl) (c_end (n_then (c_true rfl (wp_seq (c_reg (s0 (xmI rfl) (s0 (xmI rfl) (s0 (xaI rfl) (s0 (xaI rfl) ?_)))))))))))))
   refine c_end (n_then ?_)
   refine wp_ret (r_then ?_)
   refine f_rets2 rfl (ro_tmp rfl) (ro_tmp rfl) ?_
   exact ⟨edge_no (fun h => h26 (by have := h.2.1; omega)), L⟩
 ·have z_l4 := l4.size
  have L := L.tr l4.up
  refine s0 (x_not rfl) (s0 (x_move (v := .bool _) rfl) (gf rfl rfl rfl rfl (gf rfl rfl rfl rfl (gf rfl rfl rfl rfl (gf rfl rfl rfl rfl (gf rfl rfl rfl rfl (gf rfl rfl rfl rfl (s0 (x_pickt (v := .bool _) rfl rfl) (s0 (x_move (v := .bool _) rfl) (gf rfl rfl rfl rfl (gf rfl rfl rfl rfl (gf rfl rfl rfl rfl (gf rfl rfl rfl rfl ?_)))))))))))))
  refine gf rfl rfl rfl rfl (gf rfl rfl rfl rfl (s0 (x_pickt (v := .bool _) rfl rfl) (s0 (x_move (v := .bool _) rfl) (gf rfl rfl rfl rfl (gf rfl rfl rfl rfl (gf rfl rfl rfl rfl (gf rfl rfl rfl rfl (gf rfl rfl rfl rfl (gf rfl rfl rfl rfl (s0 (x_pickt (v := .bool _) rfl rfl) (c_end (n_then (c_true rfl ?_)))))))))))))
  refine wp_seq (c_reg (s0 (xmI rfl) (s0 (xmI rfl) (s0 (xaI rfl) (s0 (xaI rfl) (c_end (n_then ?_)))))))
  refine wp_ret (r_then ?_)
  refine f_rets2 rfl (ro_tmp rfl) (ro_tmp rfl) ?_
  exact ⟨edge_no (fun h => h19 (four_in.2 h.1)), L⟩

theorem i_frameOk (W H : Int) (p : Option Addr) (n c : Nat) (xs : List Int) (w : World) (hp : Sl w p n c 1 (ic xs)) (hl : n ≤ 1099511627776) :
    Calls Tryz.prog 144 [.agg [.int .i64 W, .int .i64 H, .slice p n c].toArray].toArray w (Ret w (.bool (decide (frOk W H xs)))) := by
 have hn := hp.n; have L : Exm [] w w := Exm.rfl'
 refine enter (n := 24) Tryz.func144 rfl rfl rfl ?_
 refine wp_seq (c_reg (s_box rfl rfl ?_))
 intro b1 w2 lob1 hib1 l3 B1
 have z_l3 := l3.size; have L := L.tr l3.up
 refine s0 (x_assign (v := .bool _) rfl) (c_end (n_then (wp_seq (c_reg (s0 (x_fieldAddr fa36_0 rfl) (st (x_loadB sc3 rfl B1 rfl) (s0 (x_fieldAddr fa36_1 rfl) (st (x_loadB sc3 rfl B1 rfl) ?_))))))))
 refine srb (zcall cl73 rfl) (i_sidesOk _ _ _) (fun h7 w4 l5 => ?_) (fun h7 w4 l5 => ?_)
 ·have z_l5 := l5.size
  have L := L.tr l5.up; have B1 := B1.ext l5
  refine s0 (x_move (v := .bool _) rfl) (gt rfl rfl rfl rfl (s0 (x_fieldAddr fa36_2 rfl) (gt rfl rfl rfl rfl (st (x_loadB sc24 rfl B1 rfl) (gt rfl rfl rfl rfl (s0 (x_lensl un24 rfl) (gt rfl rfl rfl rfl (s0 (x_fieldAddr fa36_0 rfl) (gt rfl rfl rfl rfl (st (x_loadB sc3 rfl B1 rfl) (gt rfl rfl rfl rfl (s0 (x_fieldAddr fa36_1 rfl) (gt rfl rfl rfl rfl ?_)))))))))))))
  refine st (x_loadB sc3 rfl B1 rfl) (gt rfl rfl rfl rfl ?_)
  refine s0 (x_mul rfl rfl (by have hm := sides_mul h7; omega)) ?_
  refine gt rfl rfl rfl rfl ?_
  refine sb (x_eql rfl rfl) (fun h17 => ?_) (fun h17 => ?_)
  ·refine s0 (x_pickt (v := .bool _) rfl rfl) (s0 (x_move (v := .bool _) rfl) (gt rfl rfl rfl rfl (s0 (x_fieldAddr fa36_2 rfl) (gt rfl rfl rfl rfl (st (x_loadB sc24 rfl B1 rfl) (gt rfl rfl rfl rfl ?_))))))
   refine sr (zcall cl147 rfl) (i_allWithin _ _ _ _ _ _ _ (hp.ext L) (by omega)) ?_
   intro w6 l7
   have z_l7 := l7.size; have L := L.tr l7.up
   refine s0 (x_pickt (v := .bool _) rfl rfl) (s0 (x_assign (v := .bool _) rfl) (c_end (n_then (wp_ret (f_ret rfl rfl ?_)))))
   exact ⟨ret_dec2 ⟨fun h => ⟨h7, by omega, h⟩, fun h => h.2.2⟩, L⟩
  ·refine s0 (x_pickt (v := .bool _) rfl rfl) (s0 (x_move (v := .bool _) rfl) (gf rfl rfl rfl rfl (gf rfl rfl rfl rfl (gf rfl rfl rfl rfl (s0 (x_pickf (v := .bool _) rfl rfl) (s0 (x_assign (v := .bool _) rfl) (c_end (n_then (wp_ret (f_ret rfl rfl ?_))))))))))
   exact ⟨ret_f (fun h => h17 (by have := h.2.1; omega)), L⟩
 ·have z_l5 := l5.size
  have L := L.tr l5.up
  refine s0 (x_move (v := .bool _) rfl) (gf rfl rfl rfl rfl (gf rfl rfl rfl rfl (gf rfl rfl rfl rfl (gf rfl rfl rfl rfl (gf rfl rfl rfl rfl (gf rfl rfl rfl rfl (gf rfl rfl rfl rfl (gf rfl rfl rfl rfl (gf rfl rfl rfl rfl (s0 (x_pickf (v := .bool _) rfl rfl) (s0 (x_move (v := .bool _) rfl) (gf rfl rfl rfl rfl (gf rfl rfl rfl rfl ?_)))))))))))))
  refine gf rfl rfl rfl rfl (s0 (x_pickf (v := .bool _) rfl rfl) (s0 (x_assign (v := .bool _) rfl) (c_end (n_then (wp_ret (f_ret rfl rfl ?_))))))
  exact ⟨ret_f (fun h => h7 h.1), L⟩

theorem i_filtered (W H q : Int) (p : Option Addr) (n c : Nat) (xs : List Int) (w : World) (hp : Sl w p n c 1 (ic xs)) (hl : n ≤ 1099511627776) :
    Calls Tryz.prog 151 [.agg [.int .i64 W, .int .i64 H, .slice p n c].toArray, .int .i64 q].toArray w (Ret w (.bool (decide (fqOk W H q xs)))) := by
 have L : Exm [] w w := Exm.rfl'
 refine enter (n := 11) Tryz.func151 rfl rfl rfl ?_
 refine wp_seq (c_reg (s_box rfl rfl ?_))
 intro b1 w2 lob1 hib1 l3 B1
 have z_l3 := l3.size; have L := L.tr l3.up
 refine s0 (x_assign (v := .bool _) rfl) (c_end (n_then (wp_seq (c_reg (st (x_loadAgB ag36 rfl B1 rfl) ?_)))))
 refine srb (zcall cl144 rfl) (i_frameOk _ _ _ _ _ _ _ (hp.ext L) (by omega)) (fun h6 w4 l5 => ?_) (fun h6 w4 l5 => ?_)
 ·have z_l5 := l5.size
  have L := L.tr l5.up
  refine s0 (x_move (v := .bool _) rfl) (gt rfl rfl rfl rfl (s0 (xmI rfl) (gt rfl rfl rfl rfl ?_)))
  refine sr (zcall cl77 rfl) (i_within _ _ _ _) ?_
  intro w6 l7
  have z_l7 := l7.size; have L := L.tr l7.up
  refine s0 (x_pickt (v := .bool _) rfl rfl) (s0 (x_assign (v := .bool _) rfl) (c_end (n_then (wp_ret (f_ret rfl rfl ?_)))))
  exact ⟨ret_dec2 ⟨fun h => ⟨h6, h⟩, fun h => h.2⟩, L⟩
 ·have z_l5 := l5.size
  have L := L.tr l5.up
  refine s0 (x_move (v := .bool _) rfl) (gf rfl rfl rfl rfl (gf rfl rfl rfl rfl (s0 (x_pickf (v := .bool _) rfl rfl) (s0 (x_assign (v := .bool _) rfl) (c_end (n_then (wp_ret (f_ret rfl rfl ?_))))))))
  exact ⟨ret_f (fun h => h6 h.1), L⟩

theorem i_own (W H : Int) (p : Option Addr) (n c : Nat) (xs : List Int) (w : World) (hp : Sl w p n c 1 (ic xs)) (hl : n ≤ 1099511627776) :
    Calls Tryz.prog 79 [.agg [.int .i64 W, .int .i64 H, .slice p n c].toArray].toArray w (RetP w fun v w' => ∃ p' c' F', v = .agg [.int .i64 W, .int .i64 H, .slice p' n c'].toArray ∧ Own w' p' n c' 3 1 (ic xs) F' ∧ Fr w.heap.size F') := by
 obtain rfl : n = xs.length := hp.n
 have L : Exm [] w w := Exm.rfl'
 refine enter (n := 11) Tryz.func79 rfl rfl rfl ?_
 refine wp_seq (c_reg (s_box rfl rfl ?_))
 intro b1 w2 lob1 hib1 l3 B1
 have z_l3 := l3.size; have L := L.tr l3.up
 refine s_alloc zr36 ?_
 intro b4 w5 lob4 hib4 l6 B4
 have z_l6 := l6.size; have L := L.tr l6.up; have B1 := B1.ext l6
 refine c_end (n_then (wp_seq ?_))
 refine c_plan (fun wq => Exm [b4] w5 wq) 9 (.cons (0, 2) (.cons (1, 1) (.cons (2, 2) (.cons (3, 1) (.cons (4, 2) (.cons (5, 1) (.cons (6, 0) (.cons (7, 2) (.cons (8, 0) .nil))))))))) (by kernel_rfl) (by kernel_rfl) (Exm.drew _) ?_
 obtain ⟨w7, hwd⟩ : ∃ x, x = w5.drew := ⟨_, rfl⟩
 have l8 : Ext w5 w7 := by rw [hwd]; exact Exm.drew _
 rw [← hwd]; clear hwd
 have Lq : Exm [b4] w5 w7 := l8.up; have qB1 := B1; have z_l8 := l8.size; have L := L.tr l8.up; have B1 := B1.ext l8; have B4 := B4.ext l8
 refine p0 rfl (x_fieldAddr fa36_0 rfl) ?_
 refine ps rfl (fun wq hwq => x_loadB sc3 rfl (qB1.ne hwq (by omega)) rfl) ?_
 refine p0 rfl (x_fieldAddr fa36_1 rfl) ?_
 refine ps rfl (fun wq hwq => x_loadB sc3 rfl (qB1.ne hwq (by omega)) rfl) ?_
 refine p0 rfl (x_fieldAddr fa36_2 rfl) ?_
 refine ps rfl (fun wq hwq => x_loadB sc24 rfl (qB1.ne hwq (by omega)) rfl) ?_
 refine pu rfl ?_
 refine sp (zcall cl146 rfl) (g_clone _ _ _ _ (hp.ext L) (by omega)) ?_
 rintro v9 w9 l10 ⟨p9, c9, F9, rfl, o9, f9⟩
 have z_l10 := l10.size; have L := L.tr l10.up; have Lq := Lq.tr l10.up; have B1 := B1.ext l10; have B4 := B4.ext l10; have g9 := o9.lt
 refine c_end ⟨rfl, fun h hS => Lq, ?_⟩
 refine p0 rfl (x_build (cs := [.int _ _, .int _ _, .slice _ _ _]) bd36 (pts_cons (v := .int _ _) rfl (pts_cons (v := .int _ _) rfl (pts_cons (v := .slice _ _ _) rfl pts_nil))) rfl) ?_
 refine pu rfl (s_storeAg rfl sz36 rfl rfl B4 rfl rfl rfl ?_)
 intro w11 l12 el12 B4
 have z_l12 := l12.size; have L := L.fresh l12 (by omega); have Lq := Lq.within l12 (by simp)
 have B1 := B1.ne l12 (by omega); have o9 := o9.ne l12 (by first|assumption|exact nin_of f9 g9 (by omega))
 refine c_end ⟨rfl, fun h hS => Lq, ?_⟩
 refine p_nil (np_normal ?_)
 refine n_then (wp_ret (f_retc rfl rfl ag36 B4 rfl ?_))
 exact ⟨_, rfl, L, _, _, _, rfl, o9, f9.mono (by omega)⟩

theorem i_smooth (W H : Int) (pA : Option Addr) (n c : Nat) (xs : List Int) (a s q : Int) (FA : List Nat) (w : World) (oA : Own w pA n c 3 1 (ic xs) FA) (hl : n ≤ 1048576) (hs : 0 ≤ a - 2 * s ∧ a + s < n ∧ 1 ≤ s ∧ s ≤ 32) :
    Calls Tryz.prog 201 [.agg [.int .i64 W, .int .i64 H, .slice pA n c].toArray, .int .i64 a, .int .i64 s, .int .i64 q].toArray w (RetM FA w fun v w' => Own w' pA n c 3 1 (ic (eg q xs (a, s))) FA) := by
 have fA : Fr 0 FA := fun _ _ => Nat.zero_le _
 have gA := oA.lt; have hnA := oA.n1; have L : Exm FA w w := Exm.rfl'
 refine enter (n := 50) Tryz.func201 rfl rfl rfl ?_
 refine wp_seq (c_reg (s_box rfl rfl ?_))
 intro b1 w2 lob1 hib1 l3 B1
 have z_l3 := l3.size; have L := L.tr l3.up; have oA := oA.ext l3
 refine c_end (n_then ?_)
 refine c_plan (fun wq => Exm [] w2 wq) 41 (.cons (0, 2) (.cons (1, 1) (.cons (2, 2) (.cons (3, 2) (.cons (4, 2) (.cons (5, 2) (.cons (7, 2) (.cons (8, 2) (.cons (9, 1) (.cons (10, 2) (.cons (11, 2) (.cons (12, 2) (.cons (13, 2) (.cons (14, 2) (.cons (15, 1) (.cons (16, 2) (.cons (17, 1) (.cons (18, 2) (.cons (19, 2) (.cons (20, 2) (.cons (21, 2) (.cons (22, 1) (.cons (23, 2) (.cons (24, 1) (.cons (25, 2) (.cons (26, 2) (.cons (27, 1) (.cons (28, 2) (.cons (29, 1) (.cons (30, 2) (.cons (31, 2) (.cons (32, 2) (.cons (33, 2) (.cons (34, 1) (.cons (35, 2) (.fork 6 36 (.cons (36, 0) (.cons (37, 2) (.cons (38, 2) (.cons (39, 2) (.cons (40, 2) (.cons (41, 0) (.cons (42, 0) (.cons (43, 0) .nil)))))))) (.cons (37, 2) (.cons (38, 2) (.cons (39, 2) (.cons (40, 2) (.fork 6 41 (.cons (41, 0) (.cons (42, 0) (.cons (43, 0) .nil))) (.cons (6, 0) (.cons (42, 0) (.cons (43, 0) .nil)))))))))))))))))))))))))))))))))))))))))))) (by kernel_rfl) (by kernel_rfl) (Exm.drew _) ?_
 obtain ⟨w4, hwd⟩ : ∃ x, x = w2.drew := ⟨_, rfl⟩
 have l5 : Ext w2 w4 := by rw [hwd]; exact Exm.drew _
 rw [← hwd]; clear hwd
 have Lq : Exm [] w2 w4 := l5.up; have qB1 := B1; have qoA := oA; have z_l5 := l5.size; have L := L.tr l5.up; have B1 := B1.ext l5; have oA := oA.ext l5
 refine p0 rfl (x_fieldAddr fa36_2 rfl) ?_
 refine ps rfl (fun wq hwq => x_loadB sc24 rfl (qB1.ext hwq) rfl) ?_
 refine p0 rfl (xmI rfl) (p0 rfl (xmI rfl) (p0 rfl (x_sub rfl rfl (by omega)) (p0 rfl (x_fieldAddr fa36_2 rfl) (p0 rfl (xmI rfl) (p0 rfl (x_fieldAddr fa36_2 rfl) ?_)))))
 refine ps rfl (fun wq hwq => x_loadB sc24 rfl (qB1.ext hwq) rfl) ?_
 refine p0 rfl (xmI rfl) (p0 rfl (xmI rfl) (p0 rfl (x_mul rfl rfl (by omega)) (p0 rfl (x_sub rfl rfl (by omega)) (p0 rfl (x_idx so24 rfl rfl oA.sl (by decide) (by omega) (by omega)) ?_))))
 refine ps rfl (fun wq hwq => x_ldi sc3 rfl (qoA.ext hwq).sl (by omega) (by omega)) ?_
 refine p0 rfl (x_fieldAddr fa36_2 rfl) ?_
 refine ps rfl (fun wq hwq => x_loadB sc24 rfl (qB1.ext hwq) rfl) ?_
 refine p0 rfl (xmI rfl) (p0 rfl (xmI rfl) (p0 rfl (x_sub rfl rfl (by omega)) (p0 rfl (x_idx so24 rfl rfl oA.sl (by decide) (by omega) (by omega)) ?_)))
 refine ps rfl (fun wq hwq => x_ldi sc3 rfl (qoA.ext hwq).sl (by omega) (by omega)) ?_
 refine p0 rfl (x_fieldAddr fa36_2 rfl) ?_
 refine ps rfl (fun wq hwq => x_loadB sc24 rfl (qB1.ext hwq) rfl) ?_
 refine p0 rfl (xmI rfl) (p0 rfl (x_idx so24 rfl rfl oA.sl (by decide) (by omega) (by omega)) ?_)
 refine ps rfl (fun wq hwq => x_ldi sc3 rfl (qoA.ext hwq).sl (by omega) (by omega)) ?_
 refine p0 rfl (x_fieldAddr fa36_2 rfl) ?_
 refine ps rfl (fun wq hwq => x_loadB sc24 rfl (qB1.ext hwq) rfl) ?_
 refine p0 rfl (xmI rfl) (p0 rfl (xmI rfl) (p0 rfl (x_add rfl rfl (by omega)) (p0 rfl (x_idx so24 rfl rfl oA.sl (by decide) (by omega) (by omega)) ?_)))
 refine ps rfl (fun wq hwq => x_ldi sc3 rfl (qoA.ext hwq).sl (by omega) (by omega)) ?_
 refine p0 rfl (xmI rfl) ?_
 refine pfork ?_ ?_
 ·refine pu rfl (st (x_loadB sc24 rfl B1 rfl) ?_)
  refine c_end ⟨rfl, fun h hS => Lq, ?_⟩
  refine pu rfl ?_
  refine sr (zcall cl227 rfl) (i_edgeOf _ _ _ _ _ _) ?_
  intro w6 l7
  have z_l7 := l7.size; have L := L.tr l7.up; have Lq := Lq.tr l7.up; have B1 := B1.ext l7; have oA := oA.ext l7
  refine c_end ⟨rfl, fun h hS => Lq, ?_⟩
  refine p0 rfl (x_move (v := .tuple _) rfl) (p0 rfl (x_extract rfl rfl) (p0 rfl (x_extract rfl rfl) (p0 rfl (x_idx so24 rfl rfl oA.sl (by decide) (by omega) (by omega)) (pu rfl (s_stoi rfl sz3 rfl rfl oA (by omega) (by omega) ?_)))))
  intro w8 l9 el9 oA
  have z_l9 := l9.size; have L := L.withinL l9 (by simp)
  have B1 := B1.exm l9 (by first|assumption|exact nin_of fA gA (by omega))
  have hnl9 := oA.n1
  refine c_end ⟨rfl, fun h hS => absurd h (by decide), ?_⟩
  refine pu rfl (s0 (x_idx so24 rfl rfl oA.sl (by decide) (by omega) (by omega)) ?_)
  refine c_end ⟨rfl, fun h hS => absurd h (by decide), ?_⟩
  refine pu rfl (s_stoi rfl sz3 rfl rfl oA (by omega) (by omega) ?_)
  intro w10 l11 el11 oA
  have z_l11 := l11.size; have L := L.withinL l11 (by simp)
  have B1 := B1.exm l11 (by first|assumption|exact nin_of fA gA (by omega))
  have hnl11 := oA.n1
  refine c_end ⟨rfl, fun h hS => absurd h (by decide), ?_⟩
  refine p_nil (np_normal ?_)
  refine f_end0 rfl ?_
  exact ⟨_, rfl, L, oA⟩
 ·refine pu rfl ?_
  refine sr (zcall cl227 rfl) (i_edgeOf _ _ _ _ _ _) ?_
  intro w12 l13
  have z_l13 := l13.size; have L := L.tr l13.up; have Lq := Lq.tr l13.up; have B1 := B1.ext l13; have oA := oA.ext l13
  refine c_end ⟨rfl, fun h hS => Lq, ?_⟩
  refine p0 rfl (x_move (v := .tuple _) rfl) (p0 rfl (x_extract rfl rfl) (p0 rfl (x_extract rfl rfl) (p0 rfl (x_idx so24 rfl rfl oA.sl (by decide) (by omega) (by omega)) ?_)))
  refine pfork ?_ ?_
  ·refine pu rfl (st (x_loadB sc24 rfl B1 rfl) ?_)
   refine c_end ⟨rfl, fun h hS => Lq, ?_⟩
   refine pu rfl (s_stoi rfl sz3 rfl rfl oA (by omega) (by omega) ?_)
   intro w14 l15 el15 oA
   have z_l15 := l15.size; have L := L.withinL l15 (by simp)
   have B1 := B1.exm l15 (by first|assumption|exact nin_of fA gA (by omega))
   have hnl15 := oA.n1
   refine c_end ⟨rfl, fun h hS => absurd h (by decide), ?_⟩
   refine pu rfl (s0 (x_idx so24 rfl rfl oA.sl (by decide) (by omega) (by omega)) ?_)
   refine c_end ⟨rfl, fun h hS => absurd h (by decide), ?_⟩
   refine pu rfl (s_stoi rfl sz3 rfl rfl oA (by omega) (by omega) ?_)
   intro w16 l17 el17 oA
   have z_l17 := l17.size; have L := L.withinL l17 (by simp)
   have B1 := B1.exm l17 (by first|assumption|exact nin_of fA gA (by omega))
   have hnl17 := oA.n1
   refine c_end ⟨rfl, fun h hS => absurd h (by decide), ?_⟩
   refine p_nil (np_normal ?_)
   refine f_end0 rfl ?_
   exact ⟨_, rfl, L, oA⟩
  ·refine pu rfl (s_stoi rfl sz3 rfl rfl oA (by omega) (by omega) ?_)
   intro w18 l19 el19 oA
   have z_l19 := l19.size; have L := L.withinL l19 (by simp)
   have B1 := B1.exm l19 (by first|assumption|exact nin_of fA gA (by omega))
   have hnl19 := oA.n1
   refine c_end ⟨rfl, fun h hS => absurd h (by decide), ?_⟩
   refine pu rfl (st (x_loadB sc24 rfl B1 rfl) ?_)
   refine c_end ⟨rfl, fun h hS => hS, ?_⟩
   refine pu rfl (s0 (x_idx so24 rfl rfl oA.sl (by decide) (by omega) (by omega)) ?_)
   refine c_end ⟨rfl, fun h hS => absurd h (by decide), ?_⟩
   refine pu rfl (s_stoi rfl sz3 rfl rfl oA (by omega) (by omega) ?_)
   intro w20 l21 el21 oA
   have z_l21 := l21.size; have L := L.withinL l21 (by simp)
   have B1 := B1.exm l21 (by first|assumption|exact nin_of fA gA (by omega))
   have hnl21 := oA.n1
   refine c_end ⟨rfl, fun h hS => absurd h (by decide), ?_⟩
   refine p_nil (np_normal ?_)
   refine f_end0 rfl ?_
   exact ⟨_, rfl, L, oA⟩

theorem i_vertical (W H : Int) (pA : Option Addr) (n c : Nat) (xs : List Int) (a b q : Int) (FA : List Nat) (w : World) (oA : Own w pA n c 3 1 (ic xs) FA) (hl : n ≤ 1048576) (hW : 8 ≤ W ∧ W ≤ 32) (hm : W % 8 = 0) (hH : H ≤ 32) (hn : (n : Int) = W * H) (ha : 0 ≤ a ∧ a ≤ b ∧ b ≤ H) :
    Calls Tryz.prog 152 [.agg [.int .i64 W, .int .i64 H, .slice pA n c].toArray, .int .i64 a, .int .i64 b, .int .i64 q].toArray w (RetM FA w fun v w' => Own w' pA n c 3 1 (ic (egs q xs (vRows W a (b - a).toNat))) FA) := by
 have fA : Fr 0 FA := fun _ _ => Nat.zero_le _
 have gA := oA.lt; have hnA := oA.n1; have L : Exm FA w w := Exm.rfl'
 refine enter (n := 31) Tryz.func152 rfl rfl rfl ?_
 refine wp_seq (c_reg (s_box rfl rfl ?_))
 intro b1 w2 lob1 hib1 l3 B1
 have z_l3 := l3.size; have L := L.tr l3.up; have oA := oA.ext l3
 refine c_end (n_then (wp_seq (c_reg (s0 (xmI rfl) (s0 (xaI rfl) (c_end (n_then (wp_block ?_))))))))
 refine c_loop (γ := Nat) (fun j => (b - a).toNat - j) (fun (j : Nat) E wl => ∃ E0, E = upd (upd (upd (upd E0 2 (.int .i64 b)) 3 (.int .i64 q)) 4 (pt b1 0)) 8 (.int .i64 (a + j)) ∧ (Exm FA w wl) ∧ (w2.heap.size ≤ wl.heap.size) ∧ (Bx wl b1 [.int .i64 W, .int .i64 H, .slice pA n c] 36) ∧ (Own wl pA n c 3 1 (ic (egs q xs (vRows W a j))) FA) ∧ ((j : Int) ≤ b - a)) 0 ⟨_, upd_self4 rfl rfl rfl (vint (by omega)), L, (by omega), B1, oA, (by omega)⟩ ?_
 rintro j E wl4 ⟨E0, rfl, L, Lz, B1, oA, hj⟩
 have Lz0 := L.size
 refine wp_seq (wp_seq (c_reg (s0 (xmI rfl) (s0 (xmI rfl) ?_))))
 refine sb (x_lss rfl rfl) (fun h13 => ?_) (fun h13 => ?_)
 ·refine c_end (n_then (c_true rfl (c_skipn (n_then (wp_seq (wp_block (wp_seq (c_reg (s0 (xaI rfl) (c_end (n_then (wp_block ?_))))))))))))
  refine c_loop (γ := Nat) (fun i => (W / 8 - 1).toNat - i) (fun (i : Nat) E wl => ∃ E0, E = upd (upd (upd (upd (upd E0 2 (.int .i64 b)) 3 (.int .i64 q)) 4 (pt b1 0)) 8 (.int .i64 (a + j))) 9 (.int .i64 (8 + 8 * (i : Int))) ∧ (Exm FA w wl) ∧ (wl4.heap.size ≤ wl.heap.size) ∧ (Bx wl b1 [.int .i64 W, .int .i64 H, .slice pA n c] 36) ∧ (Own wl pA n c 3 1 (ic (egs q xs (vRows W a j ++ vRow W (a + j) i))) FA) ∧ (8 + 8 * (i : Int) ≤ W)) 0 ⟨_, upd_self5 rfl rfl rfl rfl (vint (by omega)), L, (by omega), B1, (by rw [vRow_zero, List.append_nil]; exact oA), (by omega)⟩ ?_
  rintro i E wl5 ⟨E0, rfl, L, Lz, B1, oA, hi⟩
  have Lz0 := L.size; have hy := row_in hW hn (show 0 ≤ a + (j : Int) by omega) (show a + (j : Int) ≤ H - 1 by omega)
  have hlen := egs_length q (vRows W a j ++ vRow W (a + j) i) xs
  refine wp_seq (wp_seq (c_reg (s0 (xmI rfl) (s0 (x_fieldAddr fa36_0 rfl) (st (x_loadB sc3 rfl B1 rfl) ?_)))))
  refine sb (x_lss rfl rfl) (fun h19 => ?_) (fun h19 => ?_)
  ·refine c_end (n_then (c_true rfl (c_skipn (n_then (wp_seq (wp_block (c_reg (st (x_loadAgB ag36 rfl B1 rfl) (s0 (xmI rfl) (s0 (x_fieldAddr fa36_0 rfl) (st (x_loadB sc3 rfl B1 rfl) (s0 (x_mul rfl rfl (by omega)) (s0 (xmI rfl) ?_)))))))))))))
   refine s0 (x_add rfl rfl (by omega)) (s0 (xmI rfl) ?_)
   refine spm (zcall cl201 rfl) (i_smooth _ _ _ _ _ _ _ _ _ _ _ oA (by omega) (by omega)) ?_
   rintro v30 w6 l7 oA
   have z_l7 := l7.size; have L := L.withinL l7 (by simp)
   have B1 := B1.exm l7 (by first|assumption|exact nin_of fA gA (by omega))
   refine c_end (n_block (n_then (c_reg (s0 (xmI rfl) (s0 (x_add rfl rfl (by omega)) (s0 (xaI rfl) (c_end ?_)))))))
   exact c_round (g' := i + 1) (by omega) ⟨_, upd_self5 rfl rfl rfl rfl (vint (by omega)), L, (by omega), B1, (by rw [vRow_succ, ← List.append_assoc, egs_snoc]; exact oA), (by omega)⟩
  ·refine c_end (n_then (c_false rfl ?_))
   refine wp_exit (e_then (e_then (e_here ?_)))
   refine n_block (n_then (c_reg (s0 (xmI rfl) (s0 (x_add rfl rfl (by omega)) (s0 (xaI rfl) (c_end ?_))))))
   exact c_round (g' := j + 1) (by omega) ⟨_, upd_self4 rfl rfl rfl (vint (by omega)), L, (by omega), B1, (by rw [vRows_succ, show (W / 8 - 1).toNat = i by omega]; exact oA), (by omega)⟩
 ·refine c_end (n_then (c_false rfl ?_))
  refine wp_exit (e_then (e_then (e_here ?_)))
  refine f_end0 rfl ?_
  obtain hje : j = (b - a).toNat := by omega
  rw [hje] at oA
  exact ⟨_, rfl, L, oA⟩

theorem i_horizontal (W H : Int) (pA : Option Addr) (n c : Nat) (xs : List Int) (y q : Int) (FA : List Nat) (w : World) (oA : Own w pA n c 3 1 (ic xs) FA) (hl : n ≤ 1048576) (hW : 8 ≤ W ∧ W ≤ 32) (hm : W % 8 = 0) (hH : H ≤ 32) (hn : (n : Int) = W * H) (hy : 2 ≤ y ∧ y ≤ H - 2) :
    Calls Tryz.prog 153 [.agg [.int .i64 W, .int .i64 H, .slice pA n c].toArray, .int .i64 y, .int .i64 q].toArray w (RetM FA w fun v w' => Own w' pA n c 3 1 (ic (egs q xs (hRow W y W.toNat))) FA) := by
 have fA : Fr 0 FA := fun _ _ => Nat.zero_le _
 have gA := oA.lt; have hnA := oA.n1; have L : Exm FA w w := Exm.rfl'
 refine enter (n := 24) Tryz.func153 rfl rfl rfl ?_
 refine wp_seq (c_reg (s_box rfl rfl ?_))
 intro b1 w2 lob1 hib1 l3 B1
 have z_l3 := l3.size; have L := L.tr l3.up; have oA := oA.ext l3
 refine c_end (n_then (wp_seq (c_reg (s0 (x_fieldAddr fa36_0 rfl) (st (x_loadB sc3 rfl B1 rfl) (s0 (xmI rfl) (c_end (n_then (wp_block ?_)))))))))
 refine c_loop (γ := Nat) (fun i => W.toNat - i) (fun (i : Nat) E wl => ∃ E0, E = upd (upd (upd (upd (upd E0 1 (.int .i64 y)) 2 (.int .i64 q)) 3 (pt b1 0)) 8 (.int .i64 W)) 9 (.int .i64 (i : Int)) ∧ (Exm FA w wl) ∧ (w2.heap.size ≤ wl.heap.size) ∧ (Bx wl b1 [.int .i64 W, .int .i64 H, .slice pA n c] 36) ∧ (Own wl pA n c 3 1 (ic (egs q xs (hRow W y i))) FA) ∧ ((i : Int) ≤ W)) 0 ⟨_, upd_self5 rfl rfl rfl rfl rfl, L, (by omega), B1, oA, (by omega)⟩ ?_
 rintro i E wl4 ⟨E0, rfl, L, Lz, B1, oA, hi⟩
 have Lz0 := L.size; have hy2 := rows_in hW hn hy.1 hy.2; have hlen := egs_length q (hRow W y i) xs
 refine wp_seq (c_reg ?_)
 refine sb (x_lss rfl rfl) (fun h10 => ?_) (fun h10 => ?_)
 ·refine c_end (n_then (wp_seq (c_true rfl (c_skipn (n_then (wp_seq (wp_block (wp_seq (c_reg (s0 (xmI rfl) (s0 (xaI rfl) (c_end (n_then ?_)))))))))))))
  refine c_reg (st (x_loadAgB ag36 rfl B1 rfl) (s0 (xmI rfl) (s0 (x_fieldAddr fa36_0 rfl) (st (x_loadB sc3 rfl B1 rfl) (s0 (x_mul rfl rfl (by omega)) (s0 (xmI rfl) (s0 (x_add rfl rfl (by omega)) (s0 (x_fieldAddr fa36_0 rfl) (st (x_loadB sc3 rfl B1 rfl) (s0 (xmI rfl) ?_))))))))))
  refine spm (zcall cl201 rfl) (i_smooth _ _ _ _ _ _ _ _ _ _ _ oA (by omega) (by omega)) ?_
  rintro v22 w5 l6 oA
  have z_l6 := l6.size; have L := L.withinL l6 (by simp)
  have B1 := B1.exm l6 (by first|assumption|exact nin_of fA gA (by omega))
  refine c_end (n_block (n_then (c_reg (s0 (x_add rfl rfl (by omega)) (s0 (xmI rfl) (c_end ?_))))))
  exact c_round (g' := i + 1) (by omega) ⟨_, upd_self5 rfl rfl rfl rfl (vint (by omega)), L, (by omega), B1, (by rw [hRow_succ, egs_snoc]; exact oA), (by omega)⟩
 ·refine c_end (n_then (wp_seq (c_false rfl ?_)))
  refine wp_exit (e_then (e_then (e_here ?_)))
  refine f_end0 rfl ?_
  obtain hje : i = W.toNat := by omega
  rw [hje] at oA
  exact ⟨_, rfl, L, oA⟩

theorem i_deblockRef (W H q : Int) (p : Option Addr) (n c : Nat) (xs : List Int) (w : World) (hp : Sl w p n c 1 (ic xs)) (hl : n ≤ 1048576) :
    Calls Tryz.prog 84 [.agg [.int .i64 W, .int .i64 H, .slice p n c].toArray, .int .i64 q].toArray w (RetP w fun v w' => ∃ p' c' F', v = .agg [.int .i64 W, .int .i64 H, .slice p' n c'].toArray ∧ Own w' p' n c' 3 1 (ic (dbOf W H q xs)) F' ∧ Fr w.heap.size F') := by
 have hn0 := hp.n; have L : Exm [] w w := Exm.rfl'
 refine enter (n := 30) Tryz.func84 rfl rfl rfl ?_
 refine wp_seq (c_reg (s_box rfl rfl ?_))
 intro b1 w2 lob1 hib1 l3 B1
 have z_l3 := l3.size; have L := L.tr l3.up
 refine s_alloc zr36 ?_
 intro b4 w5 lob4 hib4 l6 B4
 have z_l6 := l6.size; have L := L.tr l6.up; have B1 := B1.ext l6
 refine c_end (n_then (wp_seq (c_reg (st (x_loadAgB ag36 rfl B1 rfl) ?_))))
 refine sp (zcall cl79 rfl) (i_own _ _ _ _ _ _ _ (hp.ext L) (by omega)) ?_
 rintro v8 w7 l8 ⟨p8, c8, F8, rfl, o8, f8⟩
 have z_l8 := l8.size; have L := L.tr l8.up; have B1 := B1.ext l8; have B4 := B4.ext l8; have g8 := o8.lt
 refine s_alloc zr36 ?_
 intro b9 w10 lob9 hib9 l11 B9
 have z_l11 := l11.size; have L := L.tr l11.up; have B1 := B1.ext l11; have B4 := B4.ext l11; have o8 := o8.ext l11
 refine s_storeAg rfl sz36 rfl rfl B9 rfl rfl rfl ?_
 intro w12 l13 el13 B9
 have z_l13 := l13.size; have L := L.fresh l13 (by omega); have B1 := B1.ne l13 (by omega); have B4 := B4.ne l13 (by omega); have o8 := o8.ne l13 (by first|assumption|exact nin_of f8 g8 (by omega))
 refine c_end (n_then (wp_seq (wp_seq (c_reg (st (x_loadAgB ag36 rfl B1 rfl) (s0 (xmI rfl) ?_))))))
 refine srb (zcall cl151 rfl) (i_filtered _ _ _ _ _ _ _ _ (hp.ext L) (by omega)) (fun h11 w14 l15 => ?_) (fun h11 w14 l15 => ?_)
 ·have z_l15 := l15.size
  have L := L.tr l15.up; have B1 := B1.ext l15; have B4 := B4.ext l15; have B9 := B9.ext l15; have o8 := o8.ext l15
  refine s0 (x_not rfl) (c_end (n_then (c_false rfl (c_skipn (n_then (wp_seq ?_))))))
  have hg := fr_geo h11.1
  refine c_reg (st (x_loadAgB ag36 rfl B9 rfl) (s0 (x_fieldAddr fa36_1 rfl) (st (x_loadB sc3 rfl B1 rfl) (s0 (xmI rfl) ?_))))
  refine spm (zcall cl152 rfl) (i_vertical _ _ _ _ _ _ _ _ _ _ _ o8 (by omega) (by omega) (by omega) (by omega) (by omega) (by omega)) ?_
  rintro v18 w16 l17 o8
  have z_l17 := l17.size; have L := L.freshL l17 f8 (by omega); have B1 := B1.exm l17 (by first|assumption|exact nin_of f8 g8 (by omega))
  have B4 := B4.exm l17 (by first|assumption|exact nin_of f8 g8 (by omega))
  have B9 := B9.exm l17 (by first|assumption|exact nin_of f8 g8 (by omega))
  refine c_end (n_then (wp_seq (wp_seq (c_reg (s0 (xaI rfl) (c_end (n_then (wp_block ?_))))))))
  refine c_loop (γ := Nat) (fun j => (H / 8).toNat - j) (fun (j : Nat) E wl => ∃ E0, E = upd (upd (upd (upd (upd E0 1 (.int .i64 q)) 2 (pt b1 0)) 4 (pt b4 0)) 5 (pt b9 0)) 6 (.int .i64 (8 * ((j : Int) + 1))) ∧ (Exm [] w wl) ∧ (w16.heap.size ≤ wl.heap.size) ∧ (Bx wl b1 [.int .i64 W, .int .i64 H, .slice p n c] 36) ∧ (Bx wl b4 [.int .i64 0, .int .i64 0, .slice none 0 0] 36) ∧ (Bx wl b9 [.int .i64 W, .int .i64 H, .slice p8 n c8] 36) ∧ (Own wl p8 n c8 3 1 (ic (egs q (egs q xs (vRows W 0 (H - 0).toNat)) (hRows W j))) F8) ∧ (8 * ((j : Int) + 1) ≤ H)) 0 ⟨_, upd_self5 rfl rfl rfl rfl rfl, L, (by omega), B1, B4, B9, o8, (by omega)⟩ ?_
  rintro j E wl18 ⟨E0, rfl, L, Lz, B1, B4, B9, o8, hj⟩
  have Lz0 := L.size
  refine wp_seq (wp_seq (c_reg (s0 (xmI rfl) (s0 (x_fieldAddr fa36_1 rfl) (st (x_loadB sc3 rfl B1 rfl) ?_)))))
  refine sb (x_lss rfl rfl) (fun h22 => ?_) (fun h22 => ?_)
  ·refine c_end (n_then (c_true rfl (c_skipn (n_then (wp_seq (wp_block (c_reg (st (x_loadAgB ag36 rfl B9 rfl) (s0 (xmI rfl) (s0 (xmI rfl) ?_))))))))))
   refine spm (zcall cl153 rfl) (i_horizontal _ _ _ _ _ _ _ _ _ _ o8 (by omega) (by omega) (by omega) (by omega) (by omega) (by omega)) ?_
   rintro v28 w19 l20 o8
   have z_l20 := l20.size; have L := L.freshL l20 f8 (by omega); have B1 := B1.exm l20 (by first|assumption|exact nin_of f8 g8 (by omega))
   have B4 := B4.exm l20 (by first|assumption|exact nin_of f8 g8 (by omega))
   have B9 := B9.exm l20 (by first|assumption|exact nin_of f8 g8 (by omega))
   refine c_end (n_block (n_then (c_reg (s0 (xmI rfl) (s0 (x_add rfl rfl (by omega)) (s0 (xaI rfl) (c_end ?_)))))))
   exact c_round (g' := j + 1) (by omega) ⟨_, upd_self5 rfl rfl rfl rfl (vint (by omega)), L, (by omega), B1, B4, B9, (by rw [hRows_succ, egs_app]; exact o8), (by omega)⟩
  ·refine c_end (n_then (c_false rfl ?_))
   refine wp_exit (e_then (e_then (e_here ?_)))
   refine n_then (wp_seq (c_reg (st (x_loadAgB ag36 rfl B9 rfl) (s_storeAg rfl sz36 rfl rfl B4 rfl rfl rfl ?_))))
   intro w21 l22 el22 B4
   have z_l22 := l22.size; have L := L.fresh l22 (by omega); have B1 := B1.ne l22 (by omega); have B9 := B9.ne l22 (by omega); have o8 := o8.ne l22 (by first|assumption|exact nin_of f8 g8 (by omega))
   refine c_end (n_then (wp_ret (f_retc rfl rfl ag36 B4 rfl ?_)))
   rw [← db_impl h11 (j := j) (by omega)]
   exact ⟨_, rfl, L, _, _, _, rfl, o8, f8.mono (by omega)⟩
 ·have z_l15 := l15.size
  have L := L.tr l15.up; have B1 := B1.ext l15; have B4 := B4.ext l15; have B9 := B9.ext l15; have o8 := o8.ext l15
  refine s0 (x_not rfl) (c_end (n_then (c_true rfl (wp_seq (c_reg (st (x_loadAgB ag36 rfl B9 rfl) (s_storeAg rfl sz36 rfl rfl B4 rfl rfl rfl ?_)))))))
  intro w23 l24 el24 B4
  have z_l24 := l24.size; have L := L.fresh l24 (by omega); have B1 := B1.ne l24 (by omega); have B9 := B9.ne l24 (by omega); have o8 := o8.ne l24 (by first|assumption|exact nin_of f8 g8 (by omega))
  refine c_end (n_then ?_)
  refine wp_ret (r_then ?_)
  refine f_retc rfl rfl ag36 B4 rfl ?_
  rw [db_no h11]
  exact ⟨_, rfl, L, _, _, _, rfl, o8, f8.mono (by omega)⟩

end Go.Proofs.YtepnknffaecbdaaGreat
