/- What each function of this part returns, for every argument that meets its premises. -/
import Derived.Test.YtnehdmcilmlchaaProg
import Derived.Test.YtnehdmcilmlchaaVSxF
import Derived.Test.YtnehdmcilmlchaaVPlX
namespace Go.Proofs.Ytnehdmcilmlchaa
open Go.Sx Go.Pl Go.RowKit
theorem cl176F1 : Callable Try.prog 176 := callable Try.func176 (by kernel_rfl) rfl
theorem cl87F1 : Callable Try.prog 87 := callable Try.func87 (by kernel_rfl) rfl
theorem cl88F1 : Callable Try.prog 88 := callable Try.func88 (by kernel_rfl) rfl
theorem cl95F1 : Callable Try.prog 95 := callable Try.func95 (by kernel_rfl) rfl
theorem cl96F1 : Callable Try.prog 96 := callable Try.func96 (by kernel_rfl) rfl
theorem fa25_0F1 : FieldAt Try.prog 25 0 0 := ⟨_, _, Try.underlying25, rfl, rfl, ⟨0, by unfold Sz; kernel_rfl⟩⟩
theorem fa25_1F1 : FieldAt Try.prog 25 1 1 := ⟨_, _, Try.underlying25, rfl, rfl, ⟨0, by unfold Sz; kernel_rfl⟩⟩
theorem fa25_2F1 : FieldAt Try.prog 25 2 2 := ⟨_, _, Try.underlying25, rfl, rfl, ⟨0, by unfold Sz; kernel_rfl⟩⟩
theorem fa25_3F1 : FieldAt Try.prog 25 3 3 := ⟨_, _, Try.underlying25, rfl, rfl, ⟨0, by unfold Sz; kernel_rfl⟩⟩
theorem sc3F1 : Sc Try.prog 3 := ⟨(.int .i64), by kernel_rfl, trivial⟩
theorem sc9F1 : Sc Try.prog 9 := ⟨.string, by kernel_rfl, trivial⟩
theorem un3F1 : Try.prog.underlying 3 = some (.int .i64) := by kernel_rfl
theorem un9F1 : Try.prog.underlying 9 = some .string := by kernel_rfl
theorem us5F1 : (Try.prog.underlying 5).isSome = true := by kernel_rfl
/-- impl.within -/
theorem i_within (n lo hi : Int) (w : World) :
    Calls Try.prog 88 [.int .i64 n, .int .i64 lo, .int .i64 hi].toArray w (Ret w (.bool (decide (lo ≤ n ∧ n ≤ hi)))) := by
  have L : Exm [] w w := Exm.rfl'
  refine enter (n := 15) Try.func88 rfl rfl rfl ?_
  refine wp_seq ?_
  refine c_reg ?_
  refine s0 (x_assign (v := .bool _) rfl) ?_
  refine c_end ?_
  refine n_then ?_
  refine wp_seq ?_
  refine c_reg ?_
  refine s0 (x_move (v := .int _ _) rfl) ?_
  refine s0 (x_move (v := .int _ _) rfl) ?_
  refine sb (x_leq rfl rfl) (fun h9 => ?_) (fun h9 => ?_)
  · refine s0 (x_move (v := .bool _) rfl) ?_
    refine gt rfl rfl rfl rfl ?_
    refine s0 (x_move (v := .int _ _) rfl) ?_
    refine gt rfl rfl rfl rfl ?_
    refine s0 (x_move (v := .int _ _) rfl) ?_
    refine gt rfl rfl rfl rfl ?_
    refine s0 (x_leq rfl rfl) ?_
    refine s0 (x_pickt (v := .bool _) rfl rfl) ?_
    refine s0 (x_assign (v := .bool _) rfl) ?_
    refine c_end ?_
    refine n_then ?_
    refine wp_ret ?_
    refine f_ret rfl rfl ?_
    exact ⟨ret_dec2 (by omega), L⟩
  · refine s0 (x_move (v := .bool _) rfl) ?_
    refine gf rfl rfl rfl rfl ?_
    refine gf rfl rfl rfl rfl ?_
    refine gf rfl rfl rfl rfl ?_
    refine s0 (x_pickf (v := .bool _) rfl rfl) ?_
    refine s0 (x_assign (v := .bool _) rfl) ?_
    refine c_end ?_
    refine n_then ?_
    refine wp_ret ?_
    refine f_ret rfl rfl ?_
    exact ⟨ret_f (by omega), L⟩

/-- spec.l1In -/
theorem s_l1In (n lo hi : Int) (w : World) :
    Calls Try.prog 95 [.int .i64 n, .int .i64 lo, .int .i64 hi].toArray w (Ret w (.bool (decide (lo ≤ n ∧ n ≤ hi)))) := by
  have L : Exm [] w w := Exm.rfl'
  refine enter (n := 15) Try.func95 rfl rfl rfl ?_
  refine wp_seq ?_
  refine c_reg ?_
  refine s0 (x_assign (v := .bool _) rfl) ?_
  refine c_end ?_
  refine n_then ?_
  refine wp_seq ?_
  refine c_reg ?_
  refine s0 (x_move (v := .int _ _) rfl) ?_
  refine s0 (x_move (v := .int _ _) rfl) ?_
  refine sb (x_geq rfl rfl) (fun h9 => ?_) (fun h9 => ?_)
  · refine s0 (x_move (v := .bool _) rfl) ?_
    refine gt rfl rfl rfl rfl ?_
    refine s0 (x_move (v := .int _ _) rfl) ?_
    refine gt rfl rfl rfl rfl ?_
    refine s0 (x_move (v := .int _ _) rfl) ?_
    refine gt rfl rfl rfl rfl ?_
    refine s0 (x_leq rfl rfl) ?_
    refine s0 (x_pickt (v := .bool _) rfl rfl) ?_
    refine s0 (x_assign (v := .bool _) rfl) ?_
    refine c_end ?_
    refine n_then ?_
    refine wp_ret ?_
    refine f_ret rfl rfl ?_
    exact ⟨ret_dec2 (by omega), L⟩
  · refine s0 (x_move (v := .bool _) rfl) ?_
    refine gf rfl rfl rfl rfl ?_
    refine gf rfl rfl rfl rfl ?_
    refine gf rfl rfl rfl rfl ?_
    refine s0 (x_pickf (v := .bool _) rfl rfl) ?_
    refine s0 (x_assign (v := .bool _) rfl) ?_
    refine c_end ?_
    refine n_then ?_
    refine wp_ret ?_
    refine f_ret rfl rfl ?_
    exact ⟨ret_f (by omega), L⟩

/-- impl.BitAt -/
theorem i_bitAt (s : ByteArray) (i : Int) (w : World) (hs : s.size ≤ 1048576) :
    Calls Try.prog 176 [.string s, .int .i64 i].toArray w (Ret w (.int .i64 (bitAt s i))) := by
  have L : Exm [] w w := Exm.rfl'
  refine enter (n := 24) Try.func176 rfl rfl rfl ?_
  refine wp_seq ?_
  refine c_reg ?_
  refine s0 (x_assign (v := .int _ _) rfl) ?_
  refine c_end ?_
  refine n_then ?_
  refine wp_seq ?_
  refine wp_seq ?_
  refine c_reg ?_
  refine s0 (x_move (v := .int _ _) rfl) ?_
  refine sb (x_lss rfl rfl) (fun h6 => ?_) (fun h6 => ?_)
  · refine s0 (x_move (v := .bool _) rfl) ?_
    refine gf rfl rfl rfl rfl ?_
    refine gf rfl rfl rfl rfl ?_
    refine gf rfl rfl rfl rfl ?_
    refine gf rfl rfl rfl rfl ?_
    refine gf rfl rfl rfl rfl ?_
    refine s0 (x_pickt (v := .bool _) rfl rfl) ?_
    refine c_end ?_
    refine n_then ?_
    refine c_true rfl ?_
    refine wp_seq ?_
    refine c_reg ?_
    refine s0 (x_assign (v := .int _ _) rfl) ?_
    refine c_end ?_
    refine n_then ?_
    refine wp_ret (r_then ?_)
    refine f_ret rfl rfl ?_
    exact ⟨ret_int (bitAt_out (by omega)).symm, L⟩
  · refine s0 (x_move (v := .bool _) rfl) ?_
    refine gt rfl rfl rfl rfl ?_
    refine s0 (x_move (v := .int _ _) rfl) ?_
    refine gt rfl rfl rfl rfl ?_
    refine s0 (x_move (v := .string _) rfl) ?_
    refine gt rfl rfl rfl rfl ?_
    refine s0 (x_len un9F1 rfl) ?_
    refine gt rfl rfl rfl rfl ?_
    refine s0 (x_mul rfl rfl (by omega)) ?_
    refine gt rfl rfl rfl rfl ?_
    refine sb (x_geq rfl rfl) (fun h12 => ?_) (fun h12 => ?_)
    · refine s0 (x_pickf (v := .bool _) rfl rfl) ?_
      refine c_end ?_
      refine n_then ?_
      refine c_true rfl ?_
      refine wp_seq ?_
      refine c_reg ?_
      refine s0 (x_assign (v := .int _ _) rfl) ?_
      refine c_end ?_
      refine n_then ?_
      refine wp_ret (r_then ?_)
      refine f_ret rfl rfl ?_
      exact ⟨ret_int (bitAt_out (by omega)).symm, L⟩
    · refine s0 (x_pickf (v := .bool _) rfl rfl) ?_
      refine c_end ?_
      refine n_then ?_
      refine c_false rfl ?_
      refine c_skipn ?_
      refine n_then ?_
      refine wp_seq ?_
      have hb := byteshift_le (s.data.toList.getD (i / 8).toNat 0) (7 - i % 8).toNat
      refine c_reg ?_
      refine s0 (x_move (v := .string _) rfl) ?_
      refine s0 (x_move (v := .int _ _) rfl) ?_
      refine s0 (x_quo rfl rfl (by omega) (by omega)) ?_
      refine s0 (x_index un9F1 rfl rfl (by omega) (by omega)) ?_
      refine s0 (x_move (v := .int _ _) rfl) ?_
      refine s0 (x_rem rfl rfl (by omega) (by omega)) ?_
      refine s0 (x_sub rfl rfl (by omega)) ?_
      refine s0 (x_shr rfl rfl (by simp only [IntKind.bits]; omega)) ?_
      refine s0 (x_convi us5F1 un3F1 rfl (by omega)) ?_
      refine s0 (x_and1 rfl rfl (by omega) (by omega)) ?_
      refine s0 (x_assign (v := .int _ _) rfl) ?_
      refine c_end ?_
      refine n_then ?_
      refine wp_ret ?_
      refine f_ret rfl rfl ?_
      exact ⟨ret_int (bitAt_in (by omega)).symm, L⟩

/-- spec.BitAt -/
theorem s_bitAt (s : ByteArray) (i : Int) (w : World) (hs : s.size ≤ 1048576) :
    Calls Try.prog 96 [.string s, .int .i64 i].toArray w (Ret w (.int .i64 (bitAt s i))) := by
  have L : Exm [] w w := Exm.rfl'
  refine enter (n := 24) Try.func96 rfl rfl rfl ?_
  refine wp_seq ?_
  refine c_reg ?_
  refine s0 (x_assign (v := .int _ _) rfl) ?_
  refine c_end ?_
  refine n_then ?_
  refine wp_seq ?_
  refine wp_seq ?_
  refine c_reg ?_
  refine s0 (x_move (v := .int _ _) rfl) ?_
  refine sb (x_lss rfl rfl) (fun h6 => ?_) (fun h6 => ?_)
  · refine s0 (x_move (v := .bool _) rfl) ?_
    refine gf rfl rfl rfl rfl ?_
    refine gf rfl rfl rfl rfl ?_
    refine gf rfl rfl rfl rfl ?_
    refine gf rfl rfl rfl rfl ?_
    refine gf rfl rfl rfl rfl ?_
    refine s0 (x_pickt (v := .bool _) rfl rfl) ?_
    refine c_end ?_
    refine n_then ?_
    refine c_true rfl ?_
    refine wp_seq ?_
    refine c_reg ?_
    refine s0 (x_assign (v := .int _ _) rfl) ?_
    refine c_end ?_
    refine n_then ?_
    refine wp_ret (r_then ?_)
    refine f_ret rfl rfl ?_
    exact ⟨ret_int (bitAt_out (by omega)).symm, L⟩
  · refine s0 (x_move (v := .bool _) rfl) ?_
    refine gt rfl rfl rfl rfl ?_
    refine s0 (x_move (v := .int _ _) rfl) ?_
    refine gt rfl rfl rfl rfl ?_
    refine s0 (x_move (v := .string _) rfl) ?_
    refine gt rfl rfl rfl rfl ?_
    refine s0 (x_len un9F1 rfl) ?_
    refine gt rfl rfl rfl rfl ?_
    refine s0 (x_mul rfl rfl (by omega)) ?_
    refine gt rfl rfl rfl rfl ?_
    refine sb (x_geq rfl rfl) (fun h12 => ?_) (fun h12 => ?_)
    · refine s0 (x_pickf (v := .bool _) rfl rfl) ?_
      refine c_end ?_
      refine n_then ?_
      refine c_true rfl ?_
      refine wp_seq ?_
      refine c_reg ?_
      refine s0 (x_assign (v := .int _ _) rfl) ?_
      refine c_end ?_
      refine n_then ?_
      refine wp_ret (r_then ?_)
      refine f_ret rfl rfl ?_
      exact ⟨ret_int (bitAt_out (by omega)).symm, L⟩
    · refine s0 (x_pickf (v := .bool _) rfl rfl) ?_
      refine c_end ?_
      refine n_then ?_
      refine c_false rfl ?_
      refine c_skipn ?_
      refine n_then ?_
      refine wp_seq ?_
      have hb := byteshift_le (s.data.toList.getD (i / 8).toNat 0) (7 - i % 8).toNat
      refine c_reg ?_
      refine s0 (x_move (v := .string _) rfl) ?_
      refine s0 (x_move (v := .int _ _) rfl) ?_
      refine s0 (x_quo rfl rfl (by omega) (by omega)) ?_
      refine s0 (x_index un9F1 rfl rfl (by omega) (by omega)) ?_
      refine s0 (x_convb us5F1 un3F1 rfl) ?_
      refine s0 (x_move (v := .int _ _) rfl) ?_
      refine s0 (x_rem rfl rfl (by omega) (by omega)) ?_
      refine s0 (x_sub rfl rfl (by omega)) ?_
      refine s0 (x_shr rfl rfl (by simp only [IntKind.bits]; omega)) ?_
      refine s0 (x_and1 rfl rfl (by omega) (by omega)) ?_
      refine s0 (x_assign (v := .int _ _) rfl) ?_
      refine c_end ?_
      refine n_then ?_
      refine wp_ret ?_
      refine f_ret rfl rfl ?_
      exact ⟨ret_int (bitAt_in (by omega)).symm, L⟩

/-- impl.bits -/
theorem i_bits (s : ByteArray) (a n : Int) (w : World) (hs : s.size ≤ 1048576) (hn : 0 ≤ n ∧ n ≤ 62) (ha : -4611686018427387904 ≤ a ∧ a ≤ 4611686018427387904) :
    Calls Try.prog 87 [.string s, .int .i64 a, .int .i64 n].toArray w (Ret w (.int .i64 (bitsOf s a n.toNat))) := by
  have L : Exm [] w w := Exm.rfl'
  refine enter (n := 24) Try.func87 rfl rfl rfl ?_
  refine wp_seq ?_
  refine c_reg ?_
  refine s0 (x_assign (v := .int _ _) rfl) ?_
  refine c_end ?_
  refine n_then ?_
  refine wp_seq ?_
  refine c_reg ?_
  refine s0 (x_assign (v := .int _ _) rfl) ?_
  refine c_end ?_
  refine n_then ?_
  refine wp_seq ?_
  refine wp_seq ?_
  refine c_reg ?_
  refine s0 (x_move (v := .int _ _) rfl) ?_
  refine s0 (x_move (v := .int _ _) rfl) ?_
  refine c_end ?_
  refine n_then ?_
  refine wp_block ?_
  refine c_loop (γ := Nat) (fun k => n.toNat - k) (fun (k : Nat) E wl => ∃ E0, E = upd (upd (upd (upd (upd E0 0 (.string s)) 1 (.int .i64 a)) 7 (.int .i64 (bitsOf s a k))) 9 (.int .i64 n)) 10 (.int .i64 (k : Int)) ∧ (Exm [] w wl) ∧ ((k : Int) ≤ n)) 0 ⟨_, upd_self5 rfl rfl rfl rfl rfl, L, (by omega)⟩ ?_
  rintro k E wl1 ⟨E0, rfl, L, hk⟩
  have Lz0 := L.size
  have hb := bitsOf_62 s a k (by omega)
  have hr := bitAt_range s (a + k)
  refine wp_seq ?_
  refine c_reg ?_
  refine sb (x_lss rfl rfl) (fun h11 => ?_) (fun h11 => ?_)
  · refine c_end ?_
    refine n_then ?_
    refine wp_seq ?_
    refine c_true rfl ?_
    refine c_skipn ?_
    refine n_then ?_
    refine wp_seq ?_
    refine wp_block ?_
    refine wp_seq ?_
    refine c_reg ?_
    refine s0 (x_move (v := .int _ _) rfl) ?_
    refine s0 (x_assign (v := .int _ _) rfl) ?_
    refine c_end ?_
    refine n_then ?_
    refine c_reg ?_
    refine s0 (x_move (v := .int _ _) rfl) ?_
    refine s0 (x_shlc 1 2 rfl rfl (by decide) (by decide) (by omega)) ?_
    refine s0 (x_move (v := .string _) rfl) ?_
    refine s0 (x_move (v := .int _ _) rfl) ?_
    refine s0 (x_move (v := .int _ _) rfl) ?_
    refine s0 (x_add rfl rfl (by omega)) ?_
    refine sr (zcall cl176F1 rfl) (i_bitAt _ _ _ (by omega)) ?_
    intro w2 l3
    have z_l3 := l3.size
    have L := L.tr l3.up
    refine s0 (x_max rfl rfl) ?_
    refine s0 (x_or1 _ rfl rfl rfl (by omega) (by omega) (by omega) (by omega)) ?_
    refine s0 (x_assign (v := .int _ _) rfl) ?_
    refine c_end ?_
    refine n_block ?_
    refine n_then ?_
    refine c_reg ?_
    refine s0 (x_add rfl rfl (by omega)) ?_
    refine s0 (x_move (v := .int _ _) rfl) ?_
    refine c_end ?_
    exact c_round (g' := k + 1) (by omega) ⟨_, upd_self5 rfl rfl (vint (by simp only [bitsOf])) rfl (vint (by omega)), L, (by omega)⟩
  · refine c_end ?_
    refine n_then ?_
    refine wp_seq ?_
    refine c_false rfl ?_
    refine wp_exit (e_then (e_then (e_here ?_)))
    refine n_then ?_
    refine wp_seq ?_
    refine c_reg ?_
    refine s0 (x_move (v := .int _ _) rfl) ?_
    refine s0 (x_assign (v := .int _ _) rfl) ?_
    refine c_end ?_
    refine n_then ?_
    refine wp_ret ?_
    refine f_ret rfl rfl ?_
    exact ⟨ret_int (by rw [show n.toNat = k by omega]), L⟩

/-- spec.CacheOk -/
theorem s_cacheOk (s : ByteArray) (pos word hv : Int) (w : World) (hs : s.size ≤ 1048576) :
    Calls Try.prog 17 [.agg [.string s, .int .i64 pos, .int .i64 word, .int .i64 hv].toArray].toArray w (Ret w (.bool (decide (cacheOk s pos word hv)))) := by
  have L : Exm [] w w := Exm.rfl'
  refine enter (n := 50) Try.func17 rfl rfl rfl ?_
  refine wp_seq ?_
  refine c_reg ?_
  refine s_box rfl rfl ?_
  intro b1 w2 lob1 hib1 l3 B1
  have z_l3 := l3.size
  have L := L.tr l3.up
  refine s0 (x_assign (v := .bool _) rfl) ?_
  refine c_end ?_
  refine n_then ?_
  refine wp_seq ?_
  refine wp_seq ?_
  refine c_reg ?_
  refine s0 (x_fieldAddr fa25_1F1 rfl) ?_
  refine st (x_loadB sc3F1 rfl B1 rfl) ?_
  refine s0 (x_fieldAddr fa25_0F1 rfl) ?_
  refine st (x_loadB sc9F1 rfl B1 rfl) ?_
  refine s0 (x_len un9F1 rfl) ?_
  refine srb (zcall cl95F1 rfl) (s_l1In _ _ _ _) (fun h10 w4 l5 => ?_) (fun h10 w4 l5 => ?_)
  · have z_l5 := l5.size
    have L := L.tr l5.up
    have B1 := B1.ext l5
    refine s0 (x_not rfl) ?_
    refine s0 (x_move (v := .bool _) rfl) ?_
    refine gt rfl rfl rfl rfl ?_
    refine s0 (x_fieldAddr fa25_3F1 rfl) ?_
    refine gt rfl rfl rfl rfl ?_
    refine st (x_loadB sc3F1 rfl B1 rfl) ?_
    refine gt rfl rfl rfl rfl ?_
    refine srb (zcall cl95F1 rfl) (s_l1In _ _ _ _) (fun h15 w6 l7 => ?_) (fun h15 w6 l7 => ?_)
    · have z_l7 := l7.size
      have L := L.tr l7.up
      have B1 := B1.ext l7
      refine gt rfl rfl rfl rfl ?_
      refine s0 (x_not rfl) ?_
      refine s0 (x_pickf (v := .bool _) rfl rfl) ?_
      refine s0 (x_move (v := .bool _) rfl) ?_
      refine gt rfl rfl rfl rfl ?_
      refine s0 (x_fieldAddr fa25_3F1 rfl) ?_
      refine gt rfl rfl rfl rfl ?_
      refine st (x_loadB sc3F1 rfl B1 rfl) ?_
      refine gt rfl rfl rfl rfl ?_
      refine s0 (x_fieldAddr fa25_1F1 rfl) ?_
      refine gt rfl rfl rfl rfl ?_
      refine st (x_loadB sc3F1 rfl B1 rfl) ?_
      refine gt rfl rfl rfl rfl ?_
      refine s0 (x_mul rfl rfl (by omega)) ?_
      refine gt rfl rfl rfl rfl ?_
      refine sb (x_gtr rfl rfl) (fun h24 => ?_) (fun h24 => ?_)
      · refine s0 (x_pickf (v := .bool _) rfl rfl) ?_
        refine c_end ?_
        refine n_then ?_
        refine c_true rfl ?_
        refine wp_seq ?_
        refine c_reg ?_
        refine s0 (x_assign (v := .bool _) rfl) ?_
        refine c_end ?_
        refine n_then ?_
        refine wp_ret (r_then ?_)
        refine f_ret rfl rfl ?_
        exact ⟨ret_f (by unfold cacheOk; omega), L⟩
      · refine s0 (x_pickf (v := .bool _) rfl rfl) ?_
        refine c_end ?_
        refine n_then ?_
        refine c_false rfl ?_
        refine c_skipn ?_
        refine n_then ?_
        refine wp_seq ?_
        refine c_reg ?_
        refine s0 (x_assign (v := .int _ _) rfl) ?_
        refine c_end ?_
        refine n_then ?_
        refine wp_seq ?_
        refine wp_seq ?_
        refine c_reg ?_
        refine s0 (x_fieldAddr fa25_1F1 rfl) ?_
        refine st (x_loadB sc3F1 rfl B1 rfl) ?_
        refine s0 (x_mul rfl rfl (by omega)) ?_
        refine s0 (x_fieldAddr fa25_3F1 rfl) ?_
        refine st (x_loadB sc3F1 rfl B1 rfl) ?_
        refine s0 (x_sub rfl rfl (by omega)) ?_
        refine s0 (x_assign (v := .int _ _) rfl) ?_
        refine c_end ?_
        refine n_then ?_
        refine wp_block ?_
        refine c_loop (γ := Nat) (fun k => hv.toNat - k) (fun (k : Nat) E wl => ∃ E0, E = upd (upd (upd E0 1 (pt b1 0)) 3 (.int .i64 (bitsOf s (8 * pos - hv) k))) 4 (.int .i64 (8 * pos - hv + k)) ∧ (Exm [] w wl) ∧ (w6.heap.size ≤ wl.heap.size) ∧ (Bx wl b1 [.string s, .int .i64 pos, .int .i64 word, .int .i64 hv] 25) ∧ ((k : Int) ≤ hv)) 0 ⟨_, upd_self3 rfl rfl (vint (by omega)), L, (by omega), B1, (by omega)⟩ ?_
        rintro k E wl8 ⟨E0, rfl, L, Lz, B1, hk⟩
        have Lz0 := L.size
        have hb := bitsOf_62 s (8 * pos - hv) k (by omega)
        have hr := bitAt_range s (8 * pos - hv + k)
        refine wp_seq ?_
        refine wp_seq ?_
        refine c_reg ?_
        refine s0 (x_move (v := .int _ _) rfl) ?_
        refine s0 (x_fieldAddr fa25_1F1 rfl) ?_
        refine st (x_loadB sc3F1 rfl B1 rfl) ?_
        refine s0 (x_mul rfl rfl (by omega)) ?_
        refine sb (x_lss rfl rfl) (fun h36 => ?_) (fun h36 => ?_)
        · refine c_end ?_
          refine n_then ?_
          refine c_true rfl ?_
          refine c_skipn ?_
          refine n_then ?_
          refine wp_seq ?_
          refine wp_block ?_
          refine c_reg ?_
          refine s0 (x_move (v := .int _ _) rfl) ?_
          refine s0 (x_mul rfl rfl (by omega)) ?_
          refine s0 (x_fieldAddr fa25_0F1 rfl) ?_
          refine st (x_loadB sc9F1 rfl B1 rfl) ?_
          refine s0 (x_move (v := .int _ _) rfl) ?_
          refine sr (zcall cl96F1 rfl) (s_bitAt _ _ _ (by omega)) ?_
          intro w9 l10
          have z_l10 := l10.size
          have L := L.tr l10.up
          have B1 := B1.ext l10
          refine s0 (x_add rfl rfl (by omega)) ?_
          refine s0 (x_assign (v := .int _ _) rfl) ?_
          refine c_end ?_
          refine n_block ?_
          refine n_then ?_
          refine c_reg ?_
          refine s0 (x_move (v := .int _ _) rfl) ?_
          refine s0 (x_add rfl rfl (by omega)) ?_
          refine s0 (x_assign (v := .int _ _) rfl) ?_
          refine c_end ?_
          exact c_round (g' := k + 1) (by omega) ⟨_, upd_self3 rfl (vint (by simp only [bitsOf]; rw [Int.max_eq_left (bitAt_in0 (by omega)).1])) (vint (by omega)), L, (by omega), B1, (by omega)⟩
        · refine c_end ?_
          refine n_then ?_
          refine c_false rfl ?_
          refine wp_exit (e_then (e_then (e_here ?_)))
          refine n_then ?_
          refine wp_seq ?_
          refine c_reg ?_
          refine s0 (x_fieldAddr fa25_2F1 rfl) ?_
          refine st (x_loadB sc3F1 rfl B1 rfl) ?_
          refine s0 (x_move (v := .int _ _) rfl) ?_
          refine s0 (x_eql rfl rfl) ?_
          refine s0 (x_assign (v := .bool _) rfl) ?_
          refine c_end ?_
          refine n_then ?_
          refine wp_ret ?_
          refine f_ret rfl rfl ?_
          exact ⟨ret_dec2 (by unfold cacheOk; rw [show hv.toNat = k by omega]; omega), L⟩
    · have z_l7 := l7.size
      have L := L.tr l7.up
      have B1 := B1.ext l7
      refine gt rfl rfl rfl rfl ?_
      refine s0 (x_not rfl) ?_
      refine s0 (x_pickf (v := .bool _) rfl rfl) ?_
      refine s0 (x_move (v := .bool _) rfl) ?_
      refine gf rfl rfl rfl rfl ?_
      refine gf rfl rfl rfl rfl ?_
      refine gf rfl rfl rfl rfl ?_
      refine gf rfl rfl rfl rfl ?_
      refine gf rfl rfl rfl rfl ?_
      refine gf rfl rfl rfl rfl ?_
      refine s0 (x_pickt (v := .bool _) rfl rfl) ?_
      refine c_end ?_
      refine n_then ?_
      refine c_true rfl ?_
      refine wp_seq ?_
      refine c_reg ?_
      refine s0 (x_assign (v := .bool _) rfl) ?_
      refine c_end ?_
      refine n_then ?_
      refine wp_ret (r_then ?_)
      refine f_ret rfl rfl ?_
      exact ⟨ret_f (by unfold cacheOk; omega), L⟩
  · have z_l5 := l5.size
    have L := L.tr l5.up
    have B1 := B1.ext l5
    refine s0 (x_not rfl) ?_
    refine s0 (x_move (v := .bool _) rfl) ?_
    refine gf rfl rfl rfl rfl ?_
    refine gf rfl rfl rfl rfl ?_
    refine gf rfl rfl rfl rfl ?_
    refine gf rfl rfl rfl rfl ?_
    refine s0 (x_pickt (v := .bool _) rfl rfl) ?_
    refine s0 (x_move (v := .bool _) rfl) ?_
    refine gf rfl rfl rfl rfl ?_
    refine gf rfl rfl rfl rfl ?_
    refine gf rfl rfl rfl rfl ?_
    refine gf rfl rfl rfl rfl ?_
    refine gf rfl rfl rfl rfl ?_
    refine gf rfl rfl rfl rfl ?_
    refine s0 (x_pickt (v := .bool _) rfl rfl) ?_
    refine c_end ?_
    refine n_then ?_
    refine c_true rfl ?_
    refine wp_seq ?_
    refine c_reg ?_
    refine s0 (x_assign (v := .bool _) rfl) ?_
    refine c_end ?_
    refine n_then ?_
    refine wp_ret (r_then ?_)
    refine f_ret rfl rfl ?_
    exact ⟨ret_f (by unfold cacheOk; omega), L⟩

/-- impl.CacheOk -/
theorem i_cacheOk (s : ByteArray) (pos word hv : Int) (w : World) (hs : s.size ≤ 1048576) :
    Calls Try.prog 86 [.agg [.string s, .int .i64 pos, .int .i64 word, .int .i64 hv].toArray].toArray w (Ret w (.bool (decide (cacheOk s pos word hv)))) := by
  have L : Exm [] w w := Exm.rfl'
  refine enter (n := 34) Try.func86 rfl rfl rfl ?_
  refine wp_seq ?_
  refine c_reg ?_
  refine s_box rfl rfl ?_
  intro b1 w2 lob1 hib1 l3 B1
  have z_l3 := l3.size
  have L := L.tr l3.up
  refine s0 (x_assign (v := .bool _) rfl) ?_
  refine c_end ?_
  refine n_then ?_
  refine wp_seq ?_
  refine wp_seq ?_
  refine c_reg ?_
  refine s0 (x_fieldAddr fa25_1F1 rfl) ?_
  refine st (x_loadB sc3F1 rfl B1 rfl) ?_
  refine s0 (x_fieldAddr fa25_0F1 rfl) ?_
  refine st (x_loadB sc9F1 rfl B1 rfl) ?_
  refine s0 (x_len un9F1 rfl) ?_
  refine srb (zcall cl88F1 rfl) (i_within _ _ _ _) (fun h8 w4 l5 => ?_) (fun h8 w4 l5 => ?_)
  · have z_l5 := l5.size
    have L := L.tr l5.up
    have B1 := B1.ext l5
    refine s0 (x_not rfl) ?_
    refine s0 (x_move (v := .bool _) rfl) ?_
    refine gt rfl rfl rfl rfl ?_
    refine s0 (x_fieldAddr fa25_3F1 rfl) ?_
    refine gt rfl rfl rfl rfl ?_
    refine st (x_loadB sc3F1 rfl B1 rfl) ?_
    refine gt rfl rfl rfl rfl ?_
    refine s0 (x_fieldAddr fa25_1F1 rfl) ?_
    refine gt rfl rfl rfl rfl ?_
    refine st (x_loadB sc3F1 rfl B1 rfl) ?_
    refine gt rfl rfl rfl rfl ?_
    refine s0 (x_mul rfl rfl (by omega)) ?_
    refine gt rfl rfl rfl rfl ?_
    refine s0 (x_min rfl rfl) ?_
    refine gt rfl rfl rfl rfl ?_
    refine srb (zcall cl88F1 rfl) (i_within _ _ _ _) (fun h17 w6 l7 => ?_) (fun h17 w6 l7 => ?_)
    · have z_l7 := l7.size
      have L := L.tr l7.up
      have B1 := B1.ext l7
      refine gt rfl rfl rfl rfl ?_
      refine s0 (x_not rfl) ?_
      refine s0 (x_pickf (v := .bool _) rfl rfl) ?_
      refine c_end ?_
      refine n_then ?_
      refine c_false rfl ?_
      refine c_skipn ?_
      refine n_then ?_
      refine wp_seq ?_
      refine c_plan (fun wq => Exm [] w6 wq) 15 (.cons (0, 2) (.cons (1, 1) (.cons (2, 2) (.cons (3, 1) (.cons (4, 2) (.cons (5, 1) (.cons (6, 2) (.cons (7, 2) (.cons (8, 1) (.cons (9, 2) (.cons (10, 2) (.cons (11, 1) (.cons (12, 0) (.cons (13, 2) (.cons (14, 2) .nil))))))))))))))) (by kernel_rfl) (by kernel_rfl) (Exm.drew _) ?_
      obtain ⟨w8, hwd⟩ : ∃ x, x = w6.drew := ⟨_, rfl⟩
      have l9 : Ext w6 w8 := by rw [hwd]; exact Exm.drew _
      rw [← hwd]; clear hwd
      have Lq : Exm [] w6 w8 := l9.up
      have qB1 := B1
      have qL := L
      have z_l9 := l9.size
      have L := L.tr l9.up
      have B1 := B1.ext l9
      refine p0 rfl (x_fieldAddr fa25_2F1 rfl) ?_
      refine ps rfl (fun wq hwq => x_loadB sc3F1 rfl (qB1.ext hwq) rfl) ?_
      refine p0 rfl (x_fieldAddr fa25_0F1 rfl) ?_
      refine ps rfl (fun wq hwq => x_loadB sc9F1 rfl (qB1.ext hwq) rfl) ?_
      refine p0 rfl (x_fieldAddr fa25_1F1 rfl) ?_
      refine ps rfl (fun wq hwq => x_loadB sc3F1 rfl (qB1.ext hwq) rfl) ?_
      refine p0 rfl (x_mul rfl rfl (by omega)) ?_
      refine p0 rfl (x_fieldAddr fa25_3F1 rfl) ?_
      refine ps rfl (fun wq hwq => x_loadB sc3F1 rfl (qB1.ext hwq) rfl) ?_
      refine p0 rfl (x_sub rfl rfl (by omega)) ?_
      refine p0 rfl (x_fieldAddr fa25_3F1 rfl) ?_
      refine ps rfl (fun wq hwq => x_loadB sc3F1 rfl (qB1.ext hwq) rfl) ?_
      refine pu rfl ?_ (by rintro ⟨_, _, h, _⟩; cases h)
      refine sr (zcall cl87F1 rfl) (i_bits _ _ _ _ (by omega) (by omega) (by omega)) ?_
      intro w10 l11
      have z_l11 := l11.size
      have L := L.tr l11.up
      have Lq := Lq.tr l11.up
      have B1 := B1.ext l11
      refine c_end ⟨rfl, fun h hS => Lq, ?_⟩
      refine p0 rfl (x_eql rfl rfl) ?_
      refine p0 rfl (x_assign (v := .bool _) rfl) ?_
      refine p_nil (np_normal ?_)
      refine n_then ?_
      refine wp_ret ?_
      refine f_ret rfl rfl ?_
      exact ⟨ret_dec2 (by unfold cacheOk; omega), L⟩
    · have z_l7 := l7.size
      have L := L.tr l7.up
      have B1 := B1.ext l7
      refine gt rfl rfl rfl rfl ?_
      refine s0 (x_not rfl) ?_
      refine s0 (x_pickf (v := .bool _) rfl rfl) ?_
      refine c_end ?_
      refine n_then ?_
      refine c_true rfl ?_
      refine wp_seq ?_
      refine c_reg ?_
      refine s0 (x_assign (v := .bool _) rfl) ?_
      refine c_end ?_
      refine n_then ?_
      refine wp_ret (r_then ?_)
      refine f_ret rfl rfl ?_
      exact ⟨ret_f (by unfold cacheOk; omega), L⟩
  · have z_l5 := l5.size
    have L := L.tr l5.up
    have B1 := B1.ext l5
    refine s0 (x_not rfl) ?_
    refine s0 (x_move (v := .bool _) rfl) ?_
    refine gf rfl rfl rfl rfl ?_
    refine gf rfl rfl rfl rfl ?_
    refine gf rfl rfl rfl rfl ?_
    refine gf rfl rfl rfl rfl ?_
    refine gf rfl rfl rfl rfl ?_
    refine gf rfl rfl rfl rfl ?_
    refine gf rfl rfl rfl rfl ?_
    refine gf rfl rfl rfl rfl ?_
    refine s0 (x_pickt (v := .bool _) rfl rfl) ?_
    refine c_end ?_
    refine n_then ?_
    refine c_true rfl ?_
    refine wp_seq ?_
    refine c_reg ?_
    refine s0 (x_assign (v := .bool _) rfl) ?_
    refine c_end ?_
    refine n_then ?_
    refine wp_ret (r_then ?_)
    refine f_ret rfl rfl ?_
    exact ⟨ret_f (by unfold cacheOk; omega), L⟩

end Go.Proofs.Ytnehdmcilmlchaa
