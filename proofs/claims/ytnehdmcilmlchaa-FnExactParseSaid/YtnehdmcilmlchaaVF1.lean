/- What each function of this part returns, for every argument that meets its premises. -/
import Derived.Test.YtnehdmcilmlchaaProg
import Derived.Test.YtnehdmcilmlchaaVSxF
import Derived.Test.YtnehdmcilmlchaaVPlX
namespace Go.Proofs.Ytnehdmcilmlchaa
open Go.Sx Go.Pl Go.RowKit
theorem cl176F1 : Callable Try.prog 176 := callable Try.func176 (by kernel_rfl) rfl
theorem un3F1 : Try.prog.underlying 3 = some (.int .i64) := by kernel_rfl
theorem un9F1 : Try.prog.underlying 9 = some .string := by kernel_rfl
theorem us5F1 : (Try.prog.underlying 5).isSome = true := by kernel_rfl
/-- impl.within -/
theorem i_within (n lo hi : Int) (w : World) :
    Calls Try.prog 88 [.int .i64 n, .int .i64 lo, .int .i64 hi].toArray w (Ret w (.bool (decide (lo ≤ n ∧ n ≤ hi)))) := by
  have L : Exm [] w w := Exm.rfl'
  refine enter (n := 15) Try.func88 rfl rfl rfl ?_
  refine wp_seq ?_
  refine c_reg ?_
  refine s0 (x_assign (v := .bool _) rfl) ?_
  refine c_end ?_
  refine n_then ?_
  refine wp_seq ?_
  refine c_reg ?_
  refine s0 (x_move (v := .int _ _) rfl) ?_
  refine s0 (x_move (v := .int _ _) rfl) ?_
  refine sb (x_leq rfl rfl) (fun h9 => ?_) (fun h9 => ?_)
  · refine s0 (x_move (v := .bool _) rfl) ?_
    refine gt rfl rfl rfl rfl ?_
    refine s0 (x_move (v := .int _ _) rfl) ?_
    refine gt rfl rfl rfl rfl ?_
    refine s0 (x_move (v := .int _ _) rfl) ?_
    refine gt rfl rfl rfl rfl ?_
    refine s0 (x_leq rfl rfl) ?_
    refine s0 (x_pickt (v := .bool _) rfl rfl) ?_
    refine s0 (x_assign (v := .bool _) rfl) ?_
    refine c_end ?_
    refine n_then ?_
    refine wp_ret ?_
    refine f_ret rfl rfl ?_
    exact ⟨ret_dec2 (by omega), L⟩
  · refine s0 (x_move (v := .bool _) rfl) ?_
    refine gf rfl rfl rfl rfl ?_
    refine gf rfl rfl rfl rfl ?_
    refine gf rfl rfl rfl rfl ?_
    refine s0 (x_pickf (v := .bool _) rfl rfl) ?_
    refine s0 (x_assign (v := .bool _) rfl) ?_
    refine c_end ?_
    refine n_then ?_
    refine wp_ret ?_
    refine f_ret rfl rfl ?_
    exact ⟨ret_f (by omega), L⟩

/-- spec.l1In -/
theorem s_l1In (n lo hi : Int) (w : World) :
    Calls Try.prog 95 [.int .i64 n, .int .i64 lo, .int .i64 hi].toArray w (Ret w (.bool (decide (lo ≤ n ∧ n ≤ hi)))) := by
  have L : Exm [] w w := Exm.rfl'
  refine enter (n := 15) Try.func95 rfl rfl rfl ?_
  refine wp_seq ?_
  refine c_reg ?_
  refine s0 (x_assign (v := .bool _) rfl) ?_
  refine c_end ?_
  refine n_then ?_
  refine wp_seq ?_
  refine c_reg ?_
  refine s0 (x_move (v := .int _ _) rfl) ?_
  refine s0 (x_move (v := .int _ _) rfl) ?_
  refine sb (x_geq rfl rfl) (fun h9 => ?_) (fun h9 => ?_)
  · refine s0 (x_move (v := .bool _) rfl) ?_
    refine gt rfl rfl rfl rfl ?_
    refine s0 (x_move (v := .int _ _) rfl) ?_
    refine gt rfl rfl rfl rfl ?_
    refine s0 (x_move (v := .int _ _) rfl) ?_
    refine gt rfl rfl rfl rfl ?_
    refine s0 (x_leq rfl rfl) ?_
    refine s0 (x_pickt (v := .bool _) rfl rfl) ?_
    refine s0 (x_assign (v := .bool _) rfl) ?_
    refine c_end ?_
    refine n_then ?_
    refine wp_ret ?_
    refine f_ret rfl rfl ?_
    exact ⟨ret_dec2 (by omega), L⟩
  · refine s0 (x_move (v := .bool _) rfl) ?_
    refine gf rfl rfl rfl rfl ?_
    refine gf rfl rfl rfl rfl ?_
    refine gf rfl rfl rfl rfl ?_
    refine s0 (x_pickf (v := .bool _) rfl rfl) ?_
    refine s0 (x_assign (v := .bool _) rfl) ?_
    refine c_end ?_
    refine n_then ?_
    refine wp_ret ?_
    refine f_ret rfl rfl ?_
    exact ⟨ret_f (by omega), L⟩

/-- impl.BitAt -/
theorem i_bitAt (s : ByteArray) (i : Int) (w : World) (hs : s.size ≤ 1048576) :
    Calls Try.prog 176 [.string s, .int .i64 i].toArray w (Ret w (.int .i64 (bitAt s i))) := by
  have L : Exm [] w w := Exm.rfl'
  refine enter (n := 24) Try.func176 rfl rfl rfl ?_
  refine wp_seq ?_
  refine c_reg ?_
  refine s0 (x_assign (v := .int _ _) rfl) ?_
  refine c_end ?_
  refine n_then ?_
  refine wp_seq ?_
  refine wp_seq ?_
  refine c_reg ?_
  refine s0 (x_move (v := .int _ _) rfl) ?_
  refine sb (x_lss rfl rfl) (fun h6 => ?_) (fun h6 => ?_)
  · refine s0 (x_move (v := .bool _) rfl) ?_
    refine gf rfl rfl rfl rfl ?_
    refine gf rfl rfl rfl rfl ?_
    refine gf rfl rfl rfl rfl ?_
    refine gf rfl rfl rfl rfl ?_
    refine gf rfl rfl rfl rfl ?_
    refine s0 (x_pickt (v := .bool _) rfl rfl) ?_
    refine c_end ?_
    refine n_then ?_
    refine c_true rfl ?_
    refine wp_seq ?_
    refine c_reg ?_
    refine s0 (x_assign (v := .int _ _) rfl) ?_
    refine c_end ?_
    refine n_then ?_
    refine wp_ret (r_then ?_)
    refine f_ret rfl rfl ?_
    exact ⟨ret_int (bitAt_out (by omega)).symm, L⟩
  · refine s0 (x_move (v := .bool _) rfl) ?_
    refine gt rfl rfl rfl rfl ?_
    refine s0 (x_move (v := .int _ _) rfl) ?_
    refine gt rfl rfl rfl rfl ?_
    refine s0 (x_move (v := .string _) rfl) ?_
    refine gt rfl rfl rfl rfl ?_
    refine s0 (x_len un9F1 rfl) ?_
    refine gt rfl rfl rfl rfl ?_
    refine s0 (x_mul rfl rfl (by omega)) ?_
    refine gt rfl rfl rfl rfl ?_
    refine sb (x_geq rfl rfl) (fun h12 => ?_) (fun h12 => ?_)
    · refine s0 (x_pickf (v := .bool _) rfl rfl) ?_
      refine c_end ?_
      refine n_then ?_
      refine c_true rfl ?_
      refine wp_seq ?_
      refine c_reg ?_
      refine s0 (x_assign (v := .int _ _) rfl) ?_
      refine c_end ?_
      refine n_then ?_
      refine wp_ret (r_then ?_)
      refine f_ret rfl rfl ?_
      exact ⟨ret_int (bitAt_out (by omega)).symm, L⟩
    · refine s0 (x_pickf (v := .bool _) rfl rfl) ?_
      refine c_end ?_
      refine n_then ?_
      refine c_false rfl ?_
      refine c_skipn ?_
      refine n_then ?_
      refine wp_seq ?_
      have hb := byteshift_le (s.data.toList.getD (i / 8).toNat 0) (7 - i % 8).toNat
      refine c_reg ?_
      refine s0 (x_move (v := .string _) rfl) ?_
      refine s0 (x_move (v := .int _ _) rfl) ?_
      refine s0 (x_quo rfl rfl (by omega) (by omega)) ?_
      refine s0 (x_index un9F1 rfl rfl (by omega) (by omega)) ?_
      refine s0 (x_move (v := .int _ _) rfl) ?_
      refine s0 (x_rem rfl rfl (by omega) (by omega)) ?_
      refine s0 (x_sub rfl rfl (by omega)) ?_
      refine s0 (x_shr rfl rfl (by simp only [IntKind.bits]; omega)) ?_
      refine s0 (x_convi us5F1 un3F1 rfl (by omega)) ?_
      refine s0 (x_and1 rfl rfl (by omega) (by omega)) ?_
      refine s0 (x_assign (v := .int _ _) rfl) ?_
      refine c_end ?_
      refine n_then ?_
      refine wp_ret ?_
      refine f_ret rfl rfl ?_
      exact ⟨ret_int (bitAt_in (by omega)).symm, L⟩

/-- spec.BitAt -/
theorem s_bitAt (s : ByteArray) (i : Int) (w : World) (hs : s.size ≤ 1048576) :
    Calls Try.prog 96 [.string s, .int .i64 i].toArray w (Ret w (.int .i64 (bitAt s i))) := by
  have L : Exm [] w w := Exm.rfl'
  refine enter (n := 24) Try.func96 rfl rfl rfl ?_
  refine wp_seq ?_
  refine c_reg ?_
  refine s0 (x_assign (v := .int _ _) rfl) ?_
  refine c_end ?_
  refine n_then ?_
  refine wp_seq ?_
  refine wp_seq ?_
  refine c_reg ?_
  refine s0 (x_move (v := .int _ _) rfl) ?_
  refine sb (x_lss rfl rfl) (fun h6 => ?_) (fun h6 => ?_)
  · refine s0 (x_move (v := .bool _) rfl) ?_
    refine gf rfl rfl rfl rfl ?_
    refine gf rfl rfl rfl rfl ?_
    refine gf rfl rfl rfl rfl ?_
    refine gf rfl rfl rfl rfl ?_
    refine gf rfl rfl rfl rfl ?_
    refine s0 (x_pickt (v := .bool _) rfl rfl) ?_
    refine c_end ?_
    refine n_then ?_
    refine c_true rfl ?_
    refine wp_seq ?_
    refine c_reg ?_
    refine s0 (x_assign (v := .int _ _) rfl) ?_
    refine c_end ?_
    refine n_then ?_
    refine wp_ret (r_then ?_)
    refine f_ret rfl rfl ?_
    exact ⟨ret_int (bitAt_out (by omega)).symm, L⟩
  · refine s0 (x_move (v := .bool _) rfl) ?_
    refine gt rfl rfl rfl rfl ?_
    refine s0 (x_move (v := .int _ _) rfl) ?_
    refine gt rfl rfl rfl rfl ?_
    refine s0 (x_move (v := .string _) rfl) ?_
    refine gt rfl rfl rfl rfl ?_
    refine s0 (x_len un9F1 rfl) ?_
    refine gt rfl rfl rfl rfl ?_
    refine s0 (x_mul rfl rfl (by omega)) ?_
    refine gt rfl rfl rfl rfl ?_
    refine sb (x_geq rfl rfl) (fun h12 => ?_) (fun h12 => ?_)
    · refine s0 (x_pickf (v := .bool _) rfl rfl) ?_
      refine c_end ?_
      refine n_then ?_
      refine c_true rfl ?_
      refine wp_seq ?_
      refine c_reg ?_
      refine s0 (x_assign (v := .int _ _) rfl) ?_
      refine c_end ?_
      refine n_then ?_
      refine wp_ret (r_then ?_)
      refine f_ret rfl rfl ?_
      exact ⟨ret_int (bitAt_out (by omega)).symm, L⟩
    · refine s0 (x_pickf (v := .bool _) rfl rfl) ?_
      refine c_end ?_
      refine n_then ?_
      refine c_false rfl ?_
      refine c_skipn ?_
      refine n_then ?_
      refine wp_seq ?_
      have hb := byteshift_le (s.data.toList.getD (i / 8).toNat 0) (7 - i % 8).toNat
      refine c_reg ?_
      refine s0 (x_move (v := .string _) rfl) ?_
      refine s0 (x_move (v := .int _ _) rfl) ?_
      refine s0 (x_quo rfl rfl (by omega) (by omega)) ?_
      refine s0 (x_index un9F1 rfl rfl (by omega) (by omega)) ?_
      refine s0 (x_convb us5F1 un3F1 rfl) ?_
      refine s0 (x_move (v := .int _ _) rfl) ?_
      refine s0 (x_rem rfl rfl (by omega) (by omega)) ?_
      refine s0 (x_sub rfl rfl (by omega)) ?_
      refine s0 (x_shr rfl rfl (by simp only [IntKind.bits]; omega)) ?_
      refine s0 (x_and1 rfl rfl (by omega) (by omega)) ?_
      refine s0 (x_assign (v := .int _ _) rfl) ?_
      refine c_end ?_
      refine n_then ?_
      refine wp_ret ?_
      refine f_ret rfl rfl ?_
      exact ⟨ret_int (bitAt_in (by omega)).symm, L⟩

/-- impl.bits -/
theorem i_bits (s : ByteArray) (a n : Int) (w : World) (hs : s.size ≤ 1048576) (hn : 0 ≤ n ∧ n ≤ 62) (ha : -4611686018427387904 ≤ a ∧ a ≤ 4611686018427387904) :
    Calls Try.prog 87 [.string s, .int .i64 a, .int .i64 n].toArray w (Ret w (.int .i64 (bitsOf s a n.toNat))) := by
  have L : Exm [] w w := Exm.rfl'
  refine enter (n := 24) Try.func87 rfl rfl rfl ?_
  refine wp_seq ?_
  refine c_reg ?_
  refine s0 (x_assign (v := .int _ _) rfl) ?_
  refine c_end ?_
  refine n_then ?_
  refine wp_seq ?_
  refine c_reg ?_
  refine s0 (x_assign (v := .int _ _) rfl) ?_
  refine c_end ?_
  refine n_then ?_
  refine wp_seq ?_
  refine wp_seq ?_
  refine c_reg ?_
  refine s0 (x_move (v := .int _ _) rfl) ?_
  refine s0 (x_move (v := .int _ _) rfl) ?_
  refine c_end ?_
  refine n_then ?_
  refine wp_block ?_
  refine c_loop (γ := Nat) (fun k => n.toNat - k) (fun (k : Nat) E wl => ∃ E0, E = upd (upd (upd (upd (upd E0 0 (.string s)) 1 (.int .i64 a)) 7 (.int .i64 (bitsOf s a k))) 9 (.int .i64 n)) 10 (.int .i64 (k : Int)) ∧ (Exm [] w wl) ∧ ((k : Int) ≤ n)) 0 ⟨_, upd_self5 rfl rfl rfl rfl rfl, L, (by omega)⟩ ?_
  rintro k E wl1 ⟨E0, rfl, L, hk⟩
  have Lz0 := L.size
  have hb := bitsOf_62 s a k (by omega)
  have hr := bitAt_range s (a + k)
  refine wp_seq ?_
  refine c_reg ?_
  refine sb (x_lss rfl rfl) (fun h11 => ?_) (fun h11 => ?_)
  · refine c_end ?_
    refine n_then ?_
    refine wp_seq ?_
    refine c_true rfl ?_
    refine c_skipn ?_
    refine n_then ?_
    refine wp_seq ?_
    refine wp_block ?_
    refine wp_seq ?_
    refine c_reg ?_
    refine s0 (x_move (v := .int _ _) rfl) ?_
    refine s0 (x_assign (v := .int _ _) rfl) ?_
    refine c_end ?_
    refine n_then ?_
    refine c_reg ?_
    refine s0 (x_move (v := .int _ _) rfl) ?_
    refine s0 (x_shlc 1 2 rfl rfl (by decide) (by decide) (by omega)) ?_
    refine s0 (x_move (v := .string _) rfl) ?_
    refine s0 (x_move (v := .int _ _) rfl) ?_
    refine s0 (x_move (v := .int _ _) rfl) ?_
    refine s0 (x_add rfl rfl (by omega)) ?_
    refine sr (zcall cl176F1 rfl) (i_bitAt _ _ _ (by omega)) ?_
    intro w2 l3
    have z_l3 := l3.size
    have L := L.tr l3.up
    refine s0 (x_max rfl rfl) ?_
    refine s0 (x_or1 _ rfl rfl rfl (by omega) (by omega) (by omega) (by omega)) ?_
    refine s0 (x_assign (v := .int _ _) rfl) ?_
    refine c_end ?_
    refine n_block ?_
    refine n_then ?_
    refine c_reg ?_
    refine s0 (x_add rfl rfl (by omega)) ?_
    refine s0 (x_move (v := .int _ _) rfl) ?_
    refine c_end ?_
    exact c_round (g' := k + 1) (by omega) ⟨_, upd_self5 rfl rfl (vint (by simp only [bitsOf])) rfl (vint (by omega)), L, (by omega)⟩
  · refine c_end ?_
    refine n_then ?_
    refine wp_seq ?_
    refine c_false rfl ?_
    refine wp_exit (e_then (e_then (e_here ?_)))
    refine n_then ?_
    refine wp_seq ?_
    refine c_reg ?_
    refine s0 (x_move (v := .int _ _) rfl) ?_
    refine s0 (x_assign (v := .int _ _) rfl) ?_
    refine c_end ?_
    refine n_then ?_
    refine wp_ret ?_
    refine f_ret rfl rfl ?_
    exact ⟨ret_int (by rw [show n.toNat = k by omega]), L⟩

end Go.Proofs.Ytnehdmcilmlchaa
