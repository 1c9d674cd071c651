/- What each function of this part returns, for every argument that meets its premises. -/
import Derived.Test.YtepnknffaecbdaaGreatProg
import Derived.Test.YtepnknffaecbdaaGreatVSxA
import Derived.Test.YtepnknffaecbdaaGreatVTy
import Derived.Test.YtepnknffaecbdaaGreatVPlA
namespace Go.Proofs.YtepnknffaecbdaaGreat
open Go.Sx Go.Pl Go.RowKit
theorem u64_in {z : Int} (h : 0 ≤ z ∧ z ≤ 9223372036854775807) : IntKind.u64.wrap z = z := by
  simp [IntKind.wrap, IntKind.signed, IntKind.bits]; omega

theorem i_levelOf (n : Int) (w : World) (hn : n ≤ 9223372036854775807) :
    Calls Tryz.prog 207 [.int .i64 n].toArray w (Ret w (.int .i64 (levelOf n))) := by
 have L : Exm [] w w := Exm.rfl'
 refine enter (n := 17) Tryz.func207 rfl rfl rfl ?_
 refine wp_seq (c_reg (s0 (xaI rfl) (c_end (n_then (wp_seq (wp_block (wp_seq (c_reg (s0 (xmI rfl) ?_)))))))))
 refine sb (x_lss rfl rfl) (fun h5 => ?_) (fun h5 => ?_)
 ·refine s0 (x_assign (v := .bool _) rfl) (c_end (n_then (c_true rfl (wp_seq (c_reg (s0 (xaI rfl) (c_end (n_then ?_))))))))
  refine wp_ret (r_block (r_then ?_))
  refine f_ret rfl rfl ?_
  exact ⟨ret_int (by unfold levelOf; rw [if_pos h5]), L⟩
 ·refine s0 (x_assign (v := .bool _) rfl) (c_end (n_then (c_false rfl (wp_seq (c_reg (s0 (xmI rfl) (s0 (x_rem rfl rfl (by omega) (by omega)) ?_)))))))
  refine sb (x_eql rfl rfl) (fun h9 => ?_) (fun h9 => ?_)
  ·refine s0 (x_assign (v := .bool _) rfl) (c_end (n_then (c_true rfl (wp_seq (c_reg (s0 (xmI rfl) (s0 (x_quo rfl rfl (by omega) (by omega)) (s0 (x_add rfl rfl (by omega)) (s0 (xaI rfl) (c_end (n_then ?_)))))))))))
   refine wp_ret (r_block (r_then ?_))
   refine f_ret rfl rfl ?_
   exact ⟨ret_int (by unfold levelOf; rw [if_neg h5, if_pos h9]), L⟩
  ·refine s0 (x_assign (v := .bool _) rfl) (c_end (n_then (c_false rfl (c_skipn (n_block (n_then (wp_seq (c_reg (s0 (xmI rfl) (s0 (x_quo rfl rfl (by omega) (by omega)) (s0 (x_add rfl rfl (by omega)) (s0 (x_neg rfl (by omega)) (s0 (xaI rfl) ?_)))))))))))))
   refine c_end (n_then (wp_ret (f_ret rfl rfl ?_)))
   exact ⟨ret_int (by unfold levelOf; rw [if_neg h5, if_neg h9]), L⟩

theorem g_clone (p : Option Addr) (xs : List Int) (c : Nat) (w : World) (hp : Sl w p xs.length c 1 (ic xs)) (hl : xs.length ≤ 1099511627776) :
    Calls Tryz.prog 146 [.slice p xs.length c].toArray w (RetP w fun v w' => ∃ p c F, v = .slice p (xs).length c ∧ Own w' p (xs).length c 3 1 (ic (xs)) F ∧ Fr w.heap.size F) := by
 have L : Exm [] w w := Exm.rfl'
 refine enter (n := 8) Tryz.func146 rfl rfl rfl ?_
 refine wp_seq (c_reg (s0 (xaS rfl) (c_end (n_then (wp_seq (wp_seq (c_reg (s0 (xmS rfl) ?_))))))))
 refine sb (x_eqnil un24 rfl rfl) (fun h4 => ?_) (fun h4 => ?_)
 ·refine c_end (n_then (c_true rfl (wp_seq (c_reg (s0 (xaS rfl) (c_end (n_then ?_)))))))
  refine wp_ret (r_then ?_)
  refine f_ret rfl rfl ?_
  obtain ⟨hn0, hc0⟩ := hp.nil h4
  have hx0 : xs = [] := List.eq_nil_of_length_eq_zero hn0
  subst hx0
  exact ⟨_, rfl, L, none, 0, [], rfl, Own.nil, Fr.no⟩
 ·refine c_end (n_then (c_false rfl (c_skipn (n_then (wp_seq (c_reg (s_bs0 so24 ?_)))))))
  intro p5 F5 w1 l2 o5 f5 g5
  have o5 : Own w1 p5 0 0 3 1 (ic []) F5 := o5; have z_l2 := l2.size; have L := L.tr l2.up
  refine s0 (xmS rfl) (s_appi (B := w.heap.size) so24 zr3 rfl rfl (xs := _) o5 (hp.ext L) f5 (by omega) (by omega) (by omega) ?_)
  intro p7 c7 F7 w3 l4 o7 hn7 k7 f7 g7
  have z_l4 := l4.size; have L := L.freshL l4 f5 (by omega)
  refine s0 (xaS rfl) (c_end (n_then (wp_ret (f_ret rfl rfl ?_))))
  exact ⟨_, rfl, L, _, _, _, rfl, o7, f7.mono (by omega)⟩

end Go.Proofs.YtepnknffaecbdaaGreat
