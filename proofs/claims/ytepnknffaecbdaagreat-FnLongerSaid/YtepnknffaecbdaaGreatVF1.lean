/- What each function of this part returns, for every argument that meets its premises. -/
import Derived.Test.YtepnknffaecbdaaGreatProg
import Derived.Test.YtepnknffaecbdaaGreatVSxA
import Derived.Test.YtepnknffaecbdaaGreatVTy
import Derived.Test.YtepnknffaecbdaaGreatVPlA
namespace Go.Proofs.YtepnknffaecbdaaGreat
open Go.Sx Go.Pl Go.RowKit
theorem i_within (n lo hi : Int) (w : World) :
    Calls Tryz.prog 77 [.int .i64 n, .int .i64 lo, .int .i64 hi].toArray w (Ret w (.bool (decide (lo ≤ n ∧ n ≤ hi)))) := by
 have L : Exm [] w w := Exm.rfl'
 refine enter (n := 15) Tryz.func77 rfl rfl rfl ?_
 refine wp_seq (c_reg (s0 (x_assign (v := .bool _) rfl) (c_end (n_then (wp_seq (c_reg (s0 (xmI rfl) (s0 (xmI rfl) ?_))))))))
 refine sb (x_leq rfl rfl) (fun h9 => ?_) (fun h9 => ?_)
 ·refine s0 (x_move (v := .bool _) rfl) (gt rfl rfl rfl rfl (s0 (xmI rfl) (gt rfl rfl rfl rfl (s0 (xmI rfl) (gt rfl rfl rfl rfl (s0 (x_leq rfl rfl) (s0 (x_pickt (v := .bool _) rfl rfl) (s0 (x_assign (v := .bool _) rfl) (c_end (n_then (wp_ret (f_ret rfl rfl ?_))))))))))))
  exact ⟨ret_dec2 (by omega), L⟩
 ·refine s0 (x_move (v := .bool _) rfl) (gf rfl rfl rfl rfl (gf rfl rfl rfl rfl (gf rfl rfl rfl rfl (s0 (x_pickf (v := .bool _) rfl rfl) (s0 (x_assign (v := .bool _) rfl) (c_end (n_then (wp_ret (f_ret rfl rfl ?_)))))))))
  exact ⟨ret_f (by omega), L⟩

theorem s_l1In (n lo hi : Int) (w : World) :
    Calls Tryz.prog 85 [.int .i64 n, .int .i64 lo, .int .i64 hi].toArray w (Ret w (.bool (decide (lo ≤ n ∧ n ≤ hi)))) := by
 have L : Exm [] w w := Exm.rfl'
 refine enter (n := 15) Tryz.func85 rfl rfl rfl ?_
 refine wp_seq (c_reg (s0 (x_assign (v := .bool _) rfl) (c_end (n_then (wp_seq (c_reg (s0 (xmI rfl) (s0 (xmI rfl) ?_))))))))
 refine sb (x_geq rfl rfl) (fun h9 => ?_) (fun h9 => ?_)
 ·refine s0 (x_move (v := .bool _) rfl) (gt rfl rfl rfl rfl (s0 (xmI rfl) (gt rfl rfl rfl rfl (s0 (xmI rfl) (gt rfl rfl rfl rfl (s0 (x_leq rfl rfl) (s0 (x_pickt (v := .bool _) rfl rfl) (s0 (x_assign (v := .bool _) rfl) (c_end (n_then (wp_ret (f_ret rfl rfl ?_))))))))))))
  exact ⟨ret_dec2 (by omega), L⟩
 ·refine s0 (x_move (v := .bool _) rfl) (gf rfl rfl rfl rfl (gf rfl rfl rfl rfl (gf rfl rfl rfl rfl (s0 (x_pickf (v := .bool _) rfl rfl) (s0 (x_assign (v := .bool _) rfl) (c_end (n_then (wp_ret (f_ret rfl rfl ?_)))))))))
  exact ⟨ret_f (by omega), L⟩

theorem i_bitAt (s : ByteArray) (i : Int) (w : World) (hs : s.size ≤ 1048576) :
    Calls Tryz.prog 162 [.string s, .int .i64 i].toArray w (Ret w (.int .i64 (bitAt s i))) := by
 have L : Exm [] w w := Exm.rfl'
 refine enter (n := 24) Tryz.func162 rfl rfl rfl ?_
 refine wp_seq (c_reg (s0 (xaI rfl) (c_end (n_then (wp_seq (wp_seq (c_reg (s0 (xmI rfl) ?_))))))))
 refine sb (x_lss rfl rfl) (fun h6 => ?_) (fun h6 => ?_)
 ·refine s0 (x_move (v := .bool _) rfl) (gf rfl rfl rfl rfl (gf rfl rfl rfl rfl (gf rfl rfl rfl rfl (gf rfl rfl rfl rfl (gf rfl rfl rfl rfl (s0 (x_pickt (v := .bool _) rfl rfl) (c_end (n_then (c_true rfl (wp_seq (c_reg (s0 (xaI rfl) (c_end ?_)))))))))))))
  refine n_then ?_
  refine wp_ret (r_then ?_)
  refine f_ret rfl rfl ?_
  exact ⟨ret_int (bitAt_out (by omega)).symm, L⟩
 ·refine s0 (x_move (v := .bool _) rfl) (gt rfl rfl rfl rfl (s0 (xmI rfl) (gt rfl rfl rfl rfl (s0 (x_move (v := .string _) rfl) (gt rfl rfl rfl rfl (s0 (x_len un9 rfl) (gt rfl rfl rfl rfl (s0 (x_mul rfl rfl (by omega)) (gt rfl rfl rfl rfl ?_)))))))))
  refine sb (x_geq rfl rfl) (fun h12 => ?_) (fun h12 => ?_)
  ·refine s0 (x_pickf (v := .bool _) rfl rfl) (c_end (n_then (c_true rfl (wp_seq (c_reg (s0 (xaI rfl) (c_end (n_then ?_))))))))
   refine wp_ret (r_then ?_)
   refine f_ret rfl rfl ?_
   exact ⟨ret_int (bitAt_out (by omega)).symm, L⟩
  ·refine s0 (x_pickf (v := .bool _) rfl rfl) (c_end (n_then (c_false rfl (c_skipn (n_then (wp_seq ?_))))))
   have hb := byteshift_le (s.data.toList.getD (i / 8).toNat 0) (7 - i % 8).toNat
   refine c_reg (s0 (x_move (v := .string _) rfl) (s0 (xmI rfl) (s0 (x_quo rfl rfl (by omega) (by omega)) (s0 (x_index un9 rfl rfl (by omega) (by omega)) (s0 (xmI rfl) (s0 (x_rem rfl rfl (by omega) (by omega)) (s0 (x_sub rfl rfl (by omega)) ?_)))))))
   refine s0 (x_shr rfl rfl (by simp only [IntKind.bits]; omega)) ?_
   refine s0 (x_convi us5 un3 rfl (by omega)) (s0 (x_and1 rfl rfl (by omega) (by omega)) (s0 (xaI rfl) (c_end (n_then (wp_ret (f_ret rfl rfl ?_))))))
   exact ⟨ret_int (bitAt_in (by omega)).symm, L⟩

theorem i_bits (s : ByteArray) (a n : Int) (w : World) (hs : s.size ≤ 1048576) (hn : 0 ≤ n ∧ n ≤ 62) (ha : -4611686018427387904 ≤ a ∧ a ≤ 4611686018427387904) :
    Calls Tryz.prog 104 [.string s, .int .i64 a, .int .i64 n].toArray w (Ret w (.int .i64 (bitsOf s a n.toNat))) := by
 have L : Exm [] w w := Exm.rfl'
 refine enter (n := 24) Tryz.func104 rfl rfl rfl ?_
 refine wp_seq (c_reg (s0 (xaI rfl) (c_end (n_then (wp_seq (c_reg (s0 (xaI rfl) (c_end (n_then (wp_seq (wp_seq (c_reg (s0 (xmI rfl) ?_)))))))))))))
 refine s0 (xmI rfl) (c_end (n_then (wp_block ?_)))
 refine c_loop (γ := Nat) (fun k => n.toNat - k) (fun (k : Nat) E wl => ∃ E0, E = upd (upd (upd (upd (upd E0 0 (.string s)) 1 (.int .i64 a)) 7 (.int .i64 (bitsOf s a k))) 9 (.int .i64 n)) 10 (.int .i64 (k : Int)) ∧ (Exm [] w wl) ∧ ((k : Int) ≤ n)) 0 ⟨_, upd_self5 rfl rfl rfl rfl rfl, L, (by omega)⟩ ?_
 rintro k E wl1 ⟨E0, rfl, L, hk⟩
 have Lz0 := L.size; have hb := bitsOf_62 s a k (by omega); have hr := bitAt_range s (a + k)
 refine wp_seq (c_reg ?_)
 refine sb (x_lss rfl rfl) (fun h11 => ?_) (fun h11 => ?_)
 ·refine c_end (n_then (wp_seq (c_true rfl (c_skipn (n_then (wp_seq (wp_block (wp_seq (c_reg (s0 (xmI rfl) (s0 (xaI rfl) (c_end (n_then ?_)))))))))))))
  refine c_reg (s0 (xmI rfl) (s0 (x_shlc 1 2 rfl rfl (by decide) (by decide) (by omega)) (s0 (x_move (v := .string _) rfl) (s0 (xmI rfl) (s0 (xmI rfl) (s0 (x_add rfl rfl (by omega)) ?_))))))
  refine sr (zcall cl162 rfl) (i_bitAt _ _ _ (by omega)) ?_
  intro w2 l3
  have z_l3 := l3.size; have L := L.tr l3.up
  refine s0 (x_max rfl rfl) (s0 (x_or1 _ rfl rfl rfl (by omega) (by omega) (by omega) (by omega)) (s0 (xaI rfl) (c_end (n_block (n_then (c_reg (s0 (x_add rfl rfl (by omega)) (s0 (xmI rfl) (c_end ?_)))))))))
  exact c_round (g' := k + 1) (by omega) ⟨_, upd_self5 rfl rfl (vint (by simp only [bitsOf])) rfl (vint (by omega)), L, (by omega)⟩
 ·refine c_end (n_then (wp_seq (c_false rfl ?_)))
  refine wp_exit (e_then (e_then (e_here ?_)))
  refine n_then (wp_seq (c_reg (s0 (xmI rfl) (s0 (xaI rfl) (c_end (n_then (wp_ret (f_ret rfl rfl ?_))))))))
  exact ⟨ret_int (by rw [show n.toNat = k by omega]), L⟩

end Go.Proofs.YtepnknffaecbdaaGreat
