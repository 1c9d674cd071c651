/- What each function of this part returns, for every argument that meets its premises. -/
import Derived.Test.YtnehdmcilmlchaaProg
import Derived.Test.YtnehdmcilmlchaaVSxF
import Derived.Test.YtnehdmcilmlchaaVPlY
import Derived.Test.YtnehdmcilmlchaaVF1
import Derived.Test.YtnehdmcilmlchaaVF4
import Derived.Test.YtnehdmcilmlchaaVF7
import Derived.Test.YtnehdmcilmlchaaVF8
import Derived.Test.YtnehdmcilmlchaaVF9
import Derived.Test.YtnehdmcilmlchaaVFB
import Derived.Test.YtnehdmcilmlchaaVFC
import Derived.Test.YtnehdmcilmlchaaVFD
namespace Go.Proofs.Ytnehdmcilmlchaa
open Go.Sx Go.Pl Go.RowKit
theorem ag111FJ : Ag Try.prog 111 2 := ⟨⟨_, Try.underlying111⟩, by kernel_rfl⟩
theorem bd207FJ : Built Try.prog 207 [.int .i64 0, .int .i64 0] #[(0, 1), (1, 1)] := ⟨_, Try.underlying207, by unfold ZeroV; kernel_rfl, fun w => by kernel_rfl⟩
theorem cl119FJ : Callable Try.prog 119 := callable Try.func119 (by kernel_rfl) rfl
theorem cl122FJ : Callable Try.prog 122 := callable Try.func122 (by kernel_rfl) rfl
theorem cl191FJ : Callable Try.prog 191 := callable Try.func191 (by kernel_rfl) rfl
theorem cl195FJ : Callable Try.prog 195 := callable Try.func195 (by kernel_rfl) rfl
theorem cl196FJ : Callable Try.prog 196 := callable Try.func196 (by kernel_rfl) rfl
theorem cl197FJ : Callable Try.prog 197 := callable Try.func197 (by kernel_rfl) rfl
theorem cl204FJ : Callable Try.prog 204 := callable Try.func204 (by kernel_rfl) rfl
theorem cl210FJ : Callable Try.prog 210 := callable Try.func210 (by kernel_rfl) rfl
theorem cl223FJ : Callable Try.prog 223 := callable Try.func223 (by kernel_rfl) rfl
theorem cl235FJ : Callable Try.prog 235 := callable Try.func235 (by kernel_rfl) rfl
theorem cl245FJ : Callable Try.prog 245 := callable Try.func245 (by kernel_rfl) rfl
theorem cl246FJ : Callable Try.prog 246 := callable Try.func246 (by kernel_rfl) rfl
theorem cl95FJ : Callable Try.prog 95 := callable Try.func95 (by kernel_rfl) rfl
theorem fa54_0FJ : FieldAt Try.prog 54 0 0 := ⟨_, _, Try.underlying54, rfl, rfl, ⟨0, by unfold Sz; kernel_rfl⟩⟩
theorem fa54_1FJ : FieldAt Try.prog 54 1 1 := ⟨_, _, Try.underlying54, rfl, rfl, ⟨0, by unfold Sz; kernel_rfl⟩⟩
theorem sc3FJ : Sc Try.prog 3 := ⟨(.int .i64), by kernel_rfl, trivial⟩
theorem sc4FJ : Sc Try.prog 4 := ⟨.bool, by kernel_rfl, trivial⟩
theorem sc40FJ : Sc Try.prog 40 := ⟨(.slice 3), by kernel_rfl, trivial⟩
theorem sc52FJ : Sc Try.prog 52 := ⟨(.slice 111), by kernel_rfl, trivial⟩
theorem so204FJ : SliceOf Try.prog 204 207 2 16 := ⟨by kernel_rfl, by kernel_rfl⟩
theorem so223FJ : SliceOf Try.prog 223 40 1 24 := ⟨by kernel_rfl, by kernel_rfl⟩
theorem so40FJ : SliceOf Try.prog 40 3 1 8 := ⟨by kernel_rfl, by kernel_rfl⟩
theorem so52FJ : SliceOf Try.prog 52 111 2 32 := ⟨by kernel_rfl, by kernel_rfl⟩
theorem sz3FJ : Sz Try.prog 3 1 := by unfold Sz; kernel_rfl
theorem un223FJ : Try.prog.underlying 223 = some (.slice 40) := by kernel_rfl
theorem un3FJ : Try.prog.underlying 3 = some (.int .i64) := by kernel_rfl
theorem un40FJ : Try.prog.underlying 40 = some (.slice 3) := by kernel_rfl
theorem un52FJ : Try.prog.underlying 52 = some (.slice 111) := by kernel_rfl
theorem zr207FJ : ZeroV Try.prog 207 [.int .i64 0, .int .i64 0] := by unfold ZeroV; kernel_rfl
theorem zr3FJ : ZeroV Try.prog 3 [.int .i64 0] := by unfold ZeroV; kernel_rfl
/-- impl.bitOf -/
theorem i_bitOf_t (w : World) :
    Calls Try.prog 133 [.bool true].toArray w (Ret w (.int .i64 (flag true))) := by
  have L : Exm [] w w := Exm.rfl'
  refine enter (n := 4) Try.func133 rfl rfl rfl ?_
  refine wp_seq ?_
  refine c_reg ?_
  refine s0 (x_assign (v := .int _ _) rfl) ?_
  refine c_end ?_
  refine n_then ?_
  refine wp_seq ?_
  refine wp_seq ?_
  refine c_reg ?_
  refine s0 (x_move (v := .bool _) rfl) ?_
  refine c_end ?_
  refine n_then ?_
  refine c_true rfl ?_
  refine wp_seq ?_
  refine c_reg ?_
  refine s0 (x_assign (v := .int _ _) rfl) ?_
  refine c_end ?_
  refine n_then ?_
  refine wp_ret (r_then ?_)
  refine f_ret rfl rfl ?_
  exact ⟨rfl, L⟩

/-- impl.bitOf -/
theorem i_bitOf_f (w : World) :
    Calls Try.prog 133 [.bool false].toArray w (Ret w (.int .i64 (flag false))) := by
  have L : Exm [] w w := Exm.rfl'
  refine enter (n := 4) Try.func133 rfl rfl rfl ?_
  refine wp_seq ?_
  refine c_reg ?_
  refine s0 (x_assign (v := .int _ _) rfl) ?_
  refine c_end ?_
  refine n_then ?_
  refine wp_seq ?_
  refine wp_seq ?_
  refine c_reg ?_
  refine s0 (x_move (v := .bool _) rfl) ?_
  refine c_end ?_
  refine n_then ?_
  refine c_false rfl ?_
  refine c_skipn ?_
  refine n_then ?_
  refine wp_seq ?_
  refine c_reg ?_
  refine s0 (x_assign (v := .int _ _) rfl) ?_
  refine c_end ?_
  refine n_then ?_
  refine wp_ret ?_
  refine f_ret rfl rfl ?_
  exact ⟨rfl, L⟩

theorem i_bitOf (e : Bool) (w : World) : Calls Try.prog 133 [.bool e].toArray w (Ret w (.int .i64 (flag e))) := by
  cases e
  · exact i_bitOf_f w
  · exact i_bitOf_t w

/-- spec.l22Flag -/
theorem s_flag_t (w : World) :
    Calls Try.prog 129 [.bool true].toArray w (Ret w (.int .i64 (flag true))) := by
  have L : Exm [] w w := Exm.rfl'
  refine enter (n := 4) Try.func129 rfl rfl rfl ?_
  refine wp_seq ?_
  refine c_reg ?_
  refine s0 (x_assign (v := .int _ _) rfl) ?_
  refine c_end ?_
  refine n_then ?_
  refine wp_seq ?_
  refine wp_seq ?_
  refine c_reg ?_
  refine s0 (x_move (v := .bool _) rfl) ?_
  refine c_end ?_
  refine n_then ?_
  refine c_true rfl ?_
  refine wp_seq ?_
  refine c_reg ?_
  refine s0 (x_assign (v := .int _ _) rfl) ?_
  refine c_end ?_
  refine n_then ?_
  refine wp_ret (r_then ?_)
  refine f_ret rfl rfl ?_
  exact ⟨rfl, L⟩

/-- spec.l22Flag -/
theorem s_flag_f (w : World) :
    Calls Try.prog 129 [.bool false].toArray w (Ret w (.int .i64 (flag false))) := by
  have L : Exm [] w w := Exm.rfl'
  refine enter (n := 4) Try.func129 rfl rfl rfl ?_
  refine wp_seq ?_
  refine c_reg ?_
  refine s0 (x_assign (v := .int _ _) rfl) ?_
  refine c_end ?_
  refine n_then ?_
  refine wp_seq ?_
  refine wp_seq ?_
  refine c_reg ?_
  refine s0 (x_move (v := .bool _) rfl) ?_
  refine c_end ?_
  refine n_then ?_
  refine c_false rfl ?_
  refine c_skipn ?_
  refine n_then ?_
  refine wp_seq ?_
  refine c_reg ?_
  refine s0 (x_assign (v := .int _ _) rfl) ?_
  refine c_end ?_
  refine n_then ?_
  refine wp_ret ?_
  refine f_ret rfl rfl ?_
  exact ⟨rfl, L⟩

theorem s_flag (e : Bool) (w : World) : Calls Try.prog 129 [.bool e].toArray w (Ret w (.int .i64 (flag e))) := by
  cases e
  · exact s_flag_f w
  · exact s_flag_t w

/-- impl.shape -/
theorem i_shape_t (w : World) :
    Calls Try.prog 122 [.bool true].toArray w (Ret w (.tuple [.int .i64 (manyOf true), .int .i64 (side true)].toArray)) := by
  have L : Exm [] w w := Exm.rfl'
  refine enter (n := 5) Try.func122 rfl rfl rfl ?_
  refine wp_seq ?_
  refine c_reg ?_
  refine s0 (x_assign (v := .int _ _) rfl) ?_
  refine s0 (x_assign (v := .int _ _) rfl) ?_
  refine c_end ?_
  refine n_then ?_
  refine wp_seq ?_
  refine wp_seq ?_
  refine c_reg ?_
  refine s0 (x_move (v := .bool _) rfl) ?_
  refine c_end ?_
  refine n_then ?_
  refine c_true rfl ?_
  refine wp_seq ?_
  refine c_reg ?_
  refine s0 (x_assign (v := .int _ _) rfl) ?_
  refine s0 (x_assign (v := .int _ _) rfl) ?_
  refine c_end ?_
  refine n_then ?_
  refine wp_ret (r_then ?_)
  refine f_rets2 rfl (ro_tmp rfl) (ro_tmp rfl) ?_
  exact ⟨rfl, L⟩

/-- impl.shape -/
theorem i_shape_f (w : World) :
    Calls Try.prog 122 [.bool false].toArray w (Ret w (.tuple [.int .i64 (manyOf false), .int .i64 (side false)].toArray)) := by
  have L : Exm [] w w := Exm.rfl'
  refine enter (n := 5) Try.func122 rfl rfl rfl ?_
  refine wp_seq ?_
  refine c_reg ?_
  refine s0 (x_assign (v := .int _ _) rfl) ?_
  refine s0 (x_assign (v := .int _ _) rfl) ?_
  refine c_end ?_
  refine n_then ?_
  refine wp_seq ?_
  refine wp_seq ?_
  refine c_reg ?_
  refine s0 (x_move (v := .bool _) rfl) ?_
  refine c_end ?_
  refine n_then ?_
  refine c_false rfl ?_
  refine c_skipn ?_
  refine n_then ?_
  refine wp_seq ?_
  refine c_reg ?_
  refine s0 (x_assign (v := .int _ _) rfl) ?_
  refine s0 (x_assign (v := .int _ _) rfl) ?_
  refine c_end ?_
  refine n_then ?_
  refine wp_ret ?_
  refine f_rets2 rfl (ro_tmp rfl) (ro_tmp rfl) ?_
  exact ⟨rfl, L⟩

theorem i_shape (e : Bool) (w : World) : Calls Try.prog 122 [.bool e].toArray w (Ret w (.tuple [.int .i64 (manyOf e), .int .i64 (side e)].toArray)) := by
  cases e
  · exact i_shape_f w
  · exact i_shape_t w

/-- spec.l23Side -/
theorem s_side_t (w : World) :
    Calls Try.prog 119 [.bool true].toArray w (Ret w (.int .i64 (side true))) := by
  have L : Exm [] w w := Exm.rfl'
  refine enter (n := 4) Try.func119 rfl rfl rfl ?_
  refine wp_seq ?_
  refine c_reg ?_
  refine s0 (x_assign (v := .int _ _) rfl) ?_
  refine c_end ?_
  refine n_then ?_
  refine wp_seq ?_
  refine wp_seq ?_
  refine c_reg ?_
  refine s0 (x_move (v := .bool _) rfl) ?_
  refine c_end ?_
  refine n_then ?_
  refine c_true rfl ?_
  refine wp_seq ?_
  refine c_reg ?_
  refine s0 (x_assign (v := .int _ _) rfl) ?_
  refine c_end ?_
  refine n_then ?_
  refine wp_ret (r_then ?_)
  refine f_ret rfl rfl ?_
  exact ⟨rfl, L⟩

/-- spec.l23Side -/
theorem s_side_f (w : World) :
    Calls Try.prog 119 [.bool false].toArray w (Ret w (.int .i64 (side false))) := by
  have L : Exm [] w w := Exm.rfl'
  refine enter (n := 4) Try.func119 rfl rfl rfl ?_
  refine wp_seq ?_
  refine c_reg ?_
  refine s0 (x_assign (v := .int _ _) rfl) ?_
  refine c_end ?_
  refine n_then ?_
  refine wp_seq ?_
  refine wp_seq ?_
  refine c_reg ?_
  refine s0 (x_move (v := .bool _) rfl) ?_
  refine c_end ?_
  refine n_then ?_
  refine c_false rfl ?_
  refine c_skipn ?_
  refine n_then ?_
  refine wp_seq ?_
  refine c_reg ?_
  refine s0 (x_assign (v := .int _ _) rfl) ?_
  refine c_end ?_
  refine n_then ?_
  refine wp_ret ?_
  refine f_ret rfl rfl ?_
  exact ⟨rfl, L⟩

theorem s_side (e : Bool) (w : World) : Calls Try.prog 119 [.bool e].toArray w (Ret w (.int .i64 (side e))) := by
  cases e
  · exact s_side_f w
  · exact s_side_t w

/-- slices.Grow[[]int,int] -/
theorem g_grow (n : Int) (w : World) (hn : 0 ≤ n ∧ n ≤ 1099511627776) :
    Calls Try.prog 246 [.slice none 0 0, .int .i64 n].toArray w (RetP w fun v w' => ∃ p c F, v = .slice p 0 c ∧ Own w' p 0 c 3 1 (ic []) F ∧ Fr w.heap.size F) := by
  have L : Exm [] w w := Exm.rfl'
  refine enter (n := 27) Try.func246 rfl rfl rfl ?_
  refine wp_seq ?_
  refine c_reg ?_
  refine s0 (x_assign (v := .slice _ _ _) rfl) ?_
  refine c_end ?_
  refine n_then ?_
  refine wp_seq ?_
  refine wp_seq ?_
  refine c_reg ?_
  refine s0 (x_move (v := .int _ _) rfl) ?_
  refine sb (x_lss rfl rfl) (fun h6 => ?_) (fun h6 => ?_)
  · omega
  · refine c_end ?_
    refine n_then ?_
    refine c_false rfl ?_
    refine c_skipn ?_
    refine n_then ?_
    refine wp_seq ?_
    refine wp_seq ?_
    refine c_reg ?_
    refine s0 (x_move (v := .int _ _) rfl) ?_
    refine s0 (x_move (v := .slice _ _ _) rfl) ?_
    refine s0 (x_capsl un40FJ rfl) ?_
    refine s0 (x_move (v := .slice _ _ _) rfl) ?_
    refine s0 (x_lensl un40FJ rfl) ?_
    refine s0 (x_sub rfl rfl (by omega)) ?_
    refine s0 (x_sub rfl rfl (by omega)) ?_
    refine s0 (x_assign (v := .int _ _) rfl) ?_
    refine c_end ?_
    refine n_then ?_
    refine wp_seq ?_
    refine c_reg ?_
    refine s0 (x_move (v := .int _ _) rfl) ?_
    refine sb (x_gtr rfl rfl) (fun h16 => ?_) (fun h16 => ?_)
    · refine c_end ?_
      refine n_then ?_
      refine c_true rfl ?_
      refine c_reg ?_
      refine s0 (x_move (v := .slice _ _ _) rfl) ?_
      refine s0 (x_move (v := .slice _ _ _) rfl) ?_
      refine s0 (x_capsl un40FJ rfl) ?_
      refine s0 (x_nilcut so40FJ rfl rfl) ?_
      refine s0 (x_move (v := .int _ _) rfl) ?_
      refine s_appz (B := w.heap.size) so40FJ zr3FJ un3FJ rfl rfl (xs := []) Own.nil Fr.no (by omega) (by omega) (by omega) (by omega) ?_
      intro p22 c22 F22 w1 l2 o22 hn22 k22 f22 g22
      have z_l2 := l2.size
      have L := L.freshL l2 Fr.no (by omega)
      refine s0 (x_move (v := .slice _ _ _) rfl) ?_
      refine s0 (x_lensl un40FJ rfl) ?_
      refine s0 (x_cuthr so40FJ o22.sl.r (by omega) rfl rfl (by omega) (by omega)) ?_
      refine s0 (x_assign (v := .slice _ _ _) rfl) ?_
      refine c_end ?_
      refine n_then ?_
      refine wp_seq ?_
      refine c_reg ?_
      refine s0 (x_move (v := .slice _ _ _) rfl) ?_
      refine s0 (x_assign (v := .slice _ _ _) rfl) ?_
      refine c_end ?_
      refine n_then ?_
      refine wp_ret ?_
      refine f_ret rfl rfl ?_
      exact ⟨_, rfl, L, _, _, _, slice_len (by simp), o22.cut0, f22.mono (by omega)⟩
    · refine c_end ?_
      refine n_then ?_
      refine c_false rfl ?_
      refine c_skipn ?_
      refine n_then ?_
      refine wp_seq ?_
      refine c_reg ?_
      refine s0 (x_move (v := .slice _ _ _) rfl) ?_
      refine s0 (x_assign (v := .slice _ _ _) rfl) ?_
      refine c_end ?_
      refine n_then ?_
      refine wp_ret ?_
      refine f_ret rfl rfl ?_
      exact ⟨_, rfl, L, none, 0, [], rfl, Own.nil, Fr.no⟩

/-- slices.Concat[[]int,int] -/
theorem g_concat (p : Option Addr) (n c : Nat) (ls : List Li) (w : World) (hp : RdL w p n c ls) (hl : n ≤ 65536) (hb : ∀ x ∈ ls, x.xs.length ≤ 65536) :
    Calls Try.prog 200 [.slice p n c].toArray w (RetP w fun v w' => ∃ p c F, v = .slice p (ls.flatMap Li.xs).length c ∧ Own w' p (ls.flatMap Li.xs).length c 3 1 (ic (ls.flatMap Li.xs)) F ∧ Fr w.heap.size F) := by
  have hn : n = ls.length := by have := hp.1.len; rw [rows_length lrow_len] at this; omega
  have L : Exm [] w w := Exm.rfl'
  refine enter (n := 36) Try.func200 rfl rfl rfl ?_
  refine wp_seq ?_
  refine c_reg ?_
  refine s0 (x_assign (v := .slice _ _ _) rfl) ?_
  refine c_end ?_
  refine n_then ?_
  refine wp_seq ?_
  refine c_reg ?_
  refine s0 (x_assign (v := .int _ _) rfl) ?_
  refine c_end ?_
  refine n_then ?_
  refine wp_seq ?_
  refine wp_seq ?_
  refine c_reg ?_
  refine s0 (x_move (v := .slice _ _ _) rfl) ?_
  refine s0 (x_lensl un223FJ rfl) ?_
  refine s0 (x_move (v := .int _ _) rfl) ?_
  refine c_end ?_
  refine n_then ?_
  refine wp_block ?_
  refine c_loop (γ := Nat × Int) (fun g => n - g.1) (fun (g : Nat × Int) E wl => ∃ E0, E = upd (upd (upd (upd (upd E0 0 (.slice p n c)) 3 (.int .i64 g.2)) 9 (.slice p n c)) 10 (.int .i64 n)) 11 (.int .i64 (g.1 : Int)) ∧ (Exm [] w wl) ∧ ((g.1 : Int) ≤ n) ∧ (0 ≤ g.2 ∧ g.2 ≤ 65536 * (g.1 : Int))) (0, 0) ⟨_, upd_self5 rfl rfl rfl rfl rfl, L, (by simp), (by simp)⟩ ?_
  rintro g E wl1 ⟨E0, rfl, L, hk, hs⟩
  have Lz0 := L.size
  refine wp_seq ?_
  refine c_reg ?_
  refine sb (x_lss rfl rfl) (fun h12 => ?_) (fun h12 => ?_)
  · refine c_end ?_
    refine n_then ?_
    refine wp_seq ?_
    refine c_true rfl ?_
    refine c_skipn ?_
    refine n_then ?_
    refine wp_seq ?_
    refine wp_block ?_
    refine wp_seq ?_
    refine c_reg ?_
    refine s0 (x_idx so223FJ rfl rfl hp.1 (by decide) (by omega) (by omega)) ?_
    refine st (x_ldf (k := 0) lrow_len sc40FJ rfl (hp.1.ext L) (by omega) (by omega) (by decide) rfl) ?_
    refine s0 (x_assign (v := .slice _ _ _) rfl) ?_
    refine c_end ?_
    refine n_then ?_
    refine wp_seq ?_
    have hbk := hb _ (getD_mem (xs := ls) (i := (g.1 : Int)) (by omega) (by omega))
    refine c_reg ?_
    refine s0 (x_move (v := .int _ _) rfl) ?_
    refine s0 (x_move (v := .slice _ _ _) rfl) ?_
    refine s0 (x_lensl un40FJ rfl) ?_
    refine s0 (x_add rfl rfl (by omega)) ?_
    refine s0 (x_assign (v := .int _ _) rfl) ?_
    refine c_end ?_
    refine n_then ?_
    refine wp_seq ?_
    refine c_reg ?_
    refine s0 (x_move (v := .int _ _) rfl) ?_
    refine sb (x_lss rfl rfl) (fun h20 => ?_) (fun h20 => ?_)
    · omega
    · refine c_end ?_
      refine n_then ?_
      refine c_false rfl ?_
      refine c_skipn ?_
      refine n_block ?_
      refine n_then ?_
      refine c_reg ?_
      refine s0 (x_add rfl rfl (by omega)) ?_
      refine s0 (x_move (v := .int _ _) rfl) ?_
      refine c_end ?_
      exact c_round (g' := (g.1 + 1, _)) (by show n - (g.1 + 1) < n - g.1; omega) ⟨_, upd_self5 rfl rfl rfl rfl (vint (by show (g.1 : Int) + 1 = ((g.1 + 1 : Nat) : Int); omega)), L, (by show ((g.1 + 1 : Nat) : Int) ≤ _; omega), (⟨by show 0 ≤ g.2 + _; omega, by show g.2 + _ ≤ 65536 * ((g.1 + 1 : Nat) : Int); omega⟩)⟩
  · refine c_end ?_
    refine n_then ?_
    refine wp_seq ?_
    refine c_false rfl ?_
    refine wp_exit (e_then (e_then (e_here ?_)))
    refine n_then ?_
    refine wp_seq ?_
    refine c_reg ?_
    refine s0 (x_move (v := .int _ _) rfl) ?_
    refine sp (zcall cl246FJ rfl) (g_grow _ _ (by omega)) ?_
    rintro v24 w2 l3 ⟨p24, c24, F24, rfl, o24, f24⟩
    have z_l3 := l3.size
    have L := L.tr l3.up
    have g24 := o24.lt
    refine s0 (x_assign (v := .slice _ _ _) rfl) ?_
    refine c_end ?_
    refine n_then ?_
    refine wp_seq ?_
    refine wp_seq ?_
    refine c_reg ?_
    refine s0 (x_move (v := .slice _ _ _) rfl) ?_
    refine s0 (x_lensl un223FJ rfl) ?_
    refine s0 (x_move (v := .int _ _) rfl) ?_
    refine c_end ?_
    refine n_then ?_
    refine wp_block ?_
    refine c_loop (γ := Nat) (fun k => n - k) (fun (k : Nat) E wl => ∃ E0 pz6 cz6 Fz6, E = upd (upd (upd (upd E0 6 (.slice pz6 (((ls.take k).flatMap Li.xs).length) cz6)) 25 (.slice p n c)) 26 (.int .i64 n)) 27 (.int .i64 (k : Int)) ∧ (Exm [] w wl) ∧ (w2.heap.size ≤ wl.heap.size) ∧ (Own wl pz6 (((ls.take k).flatMap Li.xs).length) cz6 3 1 (ic ((ls.take k).flatMap Li.xs)) Fz6) ∧ (Fr (wl1.heap.size) Fz6) ∧ (Lt Fz6 wl.heap.size) ∧ ((k : Int) ≤ n) ∧ (((ls.take k).flatMap Li.xs).length ≤ 65536 * k)) 0 ⟨_, _, _, _, upd_self4 rfl rfl rfl rfl, L, (by omega), o24, (f24.mono (by omega)), (g24.mono (by omega)), (by omega), (by simp)⟩ ?_
    rintro k E wl4 ⟨E0, pz6, cz6, Fz6, rfl, L, Lz, oz6, fz6, gz6, hk, hlen⟩
    have Lz0 := L.size
    refine wp_seq ?_
    refine c_reg ?_
    refine sb (x_lss rfl rfl) (fun h28 => ?_) (fun h28 => ?_)
    · refine c_end ?_
      refine n_then ?_
      refine wp_seq ?_
      refine c_true rfl ?_
      refine c_skipn ?_
      refine n_then ?_
      refine wp_seq ?_
      refine wp_block ?_
      refine wp_seq ?_
      refine c_reg ?_
      refine s0 (x_idx so223FJ rfl rfl hp.1 (by decide) (by omega) (by omega)) ?_
      refine st (x_ldf (k := 0) lrow_len sc40FJ rfl (hp.1.ext L) (by omega) (by omega) (by decide) rfl) ?_
      refine s0 (x_assign (v := .slice _ _ _) rfl) ?_
      refine c_end ?_
      refine n_then ?_
      have hbk := hb _ (getD_mem (xs := ls) (i := (k : Int)) (by omega) (by omega))
      refine c_reg ?_
      refine s0 (x_move (v := .slice _ _ _) rfl) ?_
      refine s0 (x_move (v := .slice _ _ _) rfl) ?_
      refine s_appi (B := wl1.heap.size) so40FJ zr3FJ rfl rfl (xs := _) oz6 ((hp.2 _ (getD_mem (by omega) (by omega))).ext L) fz6 (by omega) (by omega) (by omega) ?_
      intro p33 c33 F33 w5 l6 o33 hn33 k33 f33 g33
      have z_l6 := l6.size
      have L := L.freshL l6 fz6 (by omega)
      refine s0 (x_assign (v := .slice _ _ _) rfl) ?_
      refine c_end ?_
      refine n_block ?_
      refine n_then ?_
      refine c_reg ?_
      refine s0 (x_add rfl rfl (by omega)) ?_
      refine s0 (x_move (v := .int _ _) rfl) ?_
      refine c_end ?_
      rw [Int.toNat_natCast] at o33 hbk
      have hfs := flat_take_succ Li.xs ls (k := k) (by omega)
      exact c_round (g' := k + 1) (by omega) ⟨_, _, _, _, upd_self4 (slice_len (by rw [hfs, Int.toNat_natCast])) rfl rfl (vint (by omega)), L, (by omega), (own_eq hfs.symm o33), (f33.mono (by omega)), (g33.mono (by omega)), (by omega), (by rw [hfs, List.length_append]; omega)⟩
    · refine c_end ?_
      refine n_then ?_
      refine wp_seq ?_
      refine c_false rfl ?_
      refine wp_exit (e_then (e_then (e_here ?_)))
      refine n_then ?_
      refine wp_seq ?_
      refine c_reg ?_
      refine s0 (x_move (v := .slice _ _ _) rfl) ?_
      refine s0 (x_assign (v := .slice _ _ _) rfl) ?_
      refine c_end ?_
      refine n_then ?_
      refine wp_ret ?_
      refine f_ret rfl rfl ?_
      obtain hke : k = ls.length := by omega
      have hall : (ls.take k).flatMap Li.xs = ls.flatMap Li.xs := by rw [hke, List.take_length]
      exact ⟨_, rfl, L, _, _, _, slice_len (by rw [hall]), own_eq hall oz6, fz6.mono (by omega)⟩

/-- spec.UeBits -/
theorem s_ueBits (n : Int) (w : World) :
    Calls Try.prog 172 [.int .i64 n].toArray w (RetP w fun v w' => ∃ p c F, v = .slice p (ueBits n).length c ∧ Own w' p (ueBits n).length c 3 1 (ic (ueBits n)) F ∧ Fr w.heap.size F) := by
  have L : Exm [] w w := Exm.rfl'
  refine enter (n := 18) Try.func172 rfl rfl rfl ?_
  refine wp_seq ?_
  refine c_reg ?_
  refine s0 (x_assign (v := .slice _ _ _) rfl) ?_
  refine c_end ?_
  refine n_then ?_
  refine wp_seq ?_
  refine wp_seq ?_
  refine c_reg ?_
  refine s0 (x_move (v := .int _ _) rfl) ?_
  refine srb (zcall cl95FJ rfl) (s_l1In _ _ _ _) (fun h5 w1 l2 => ?_) (fun h5 w1 l2 => ?_)
  · have z_l2 := l2.size
    have L := L.tr l2.up
    refine s0 (x_not rfl) ?_
    refine c_end ?_
    refine n_then ?_
    refine c_false rfl ?_
    refine c_skipn ?_
    refine n_then ?_
    refine wp_seq ?_
    refine c_reg ?_
    refine s0 (x_move (v := .int _ _) rfl) ?_
    refine sr (zcall cl235FJ rfl) (s_l6Zeros _ _ (by omega)) ?_
    intro w3 l4
    have z_l4 := l4.size
    have L := L.tr l4.up
    refine s0 (x_assign (v := .int _ _) rfl) ?_
    refine c_end ?_
    refine n_then ?_
    refine wp_seq ?_
    have hz := lz_range h5
    have hbi := bitsIn_len (n + 1) (lz n + 1)
    refine c_plan (fun wq => Exm [] w3 wq) 9 (.cons (0, 2) (.cons (2, 2) (.cons (3, 2) (.cons (4, 2) (.cons (5, 2) (.fork 1 6 (.cons (6, 0) (.cons (7, 0) (.cons (8, 2) .nil))) (.cons (1, 0) (.cons (7, 0) (.cons (8, 2) .nil))))))))) (by kernel_rfl) (by kernel_rfl) (Exm.drew _) ?_
    obtain ⟨w5, hwd⟩ : ∃ x, x = w3.drew := ⟨_, rfl⟩
    have l6 : Ext w3 w5 := by rw [hwd]; exact Exm.drew _
    rw [← hwd]; clear hwd
    have Lq : Exm [] w3 w5 := l6.up
    have qL := L
    have z_l6 := l6.size
    have L := L.tr l6.up
    refine p0 rfl (x_move (v := .int _ _) rfl) ?_
    refine p0 rfl (x_move (v := .int _ _) rfl) ?_
    refine p0 rfl (x_add rfl rfl (by omega)) ?_
    refine p0 rfl (x_move (v := .int _ _) rfl) ?_
    refine p0 rfl (x_add rfl rfl (by omega)) ?_
    refine pfork ?_ ?_
    · refine pu rfl ?_ (by rintro ⟨_, _, h, _⟩; cases h)
      refine s_makei so40FJ zr3FJ rfl rfl (by omega) (by omega) (by omega) ?_
      intro p11 F11 w7 l8 o11 f11 g11
      have z_l8 := l8.size
      have L := L.tr l8.up
      have Lq := Lq.tr l8.up
      have hn11 := o11.n1
      refine c_end ⟨rfl, fun h hS => Lq, ?_⟩
      refine pu rfl ?_ (by rintro ⟨_, _, h, _⟩; cases h)
      refine sp (zcall cl204FJ rfl) (s_bitsIn _ _ _ (by omega) (by omega)) ?_
      rintro v16 w9 l10 ⟨p16, c16, F16, rfl, o16, f16⟩
      have z_l10 := l10.size
      have L := L.tr l10.up
      have Lq := Lq.tr l10.up
      have o11 := o11.ext l10
      have g16 := o16.lt
      refine c_end ⟨rfl, fun h hS => Lq, ?_⟩
      refine pu rfl ?_ (by rintro ⟨_, _, h, _⟩; cases h)
      refine s_appi (B := w5.heap.size) so40FJ zr3FJ rfl rfl (xs := _) o11 o16.sl f11 (by omega) (by omega) (by omega) ?_
      intro p17 c17 F17 w11 l12 o17 hn17 k17 f17 g17
      have z_l12 := l12.size
      have L := L.freshL l12 f11 (by omega)
      have Lq := Lq.freshL l12 f11 (by omega)
      have d16_17 : Dj F16 F17 := k17.dj (by first | assumption | exact Dj.symm (by assumption) | exact dj_of f16 g16 f11 g11 (by omega)) g16 (by omega)
      have o16 := o16.exm l12 (by first | assumption | exact Dj.symm (by assumption) | exact dj_of f11 g11 f16 g16 (by omega))
      refine c_end ⟨rfl, fun h hS => Lq, ?_⟩
      refine p0 rfl (x_assign (v := .slice _ _ _) rfl) ?_
      refine p_nil (np_normal ?_)
      refine n_then ?_
      refine wp_ret ?_
      refine f_ret rfl rfl ?_
      have hue := ueBits_zeros h5
      exact ⟨_, rfl, L, _, _, _, slice_len (congrArg List.length hue.symm).symm, own_eq hue.symm o17, f17.mono (by omega)⟩
    · refine pu rfl ?_ (by rintro ⟨_, _, h, _⟩; cases h)
      refine sp (zcall cl204FJ rfl) (s_bitsIn _ _ _ (by omega) (by omega)) ?_
      rintro v16 w13 l14 ⟨p16, c16, F16, rfl, o16, f16⟩
      have z_l14 := l14.size
      have L := L.tr l14.up
      have Lq := Lq.tr l14.up
      have g16 := o16.lt
      refine c_end ⟨rfl, fun h hS => Lq, ?_⟩
      refine pu rfl ?_ (by rintro ⟨_, _, h, _⟩; cases h)
      refine s_makei so40FJ zr3FJ rfl rfl (by omega) (by omega) (by omega) ?_
      intro p11 F11 w15 l16 o11 f11 g11
      have z_l16 := l16.size
      have L := L.tr l16.up
      have Lq := Lq.tr l16.up
      have o16 := o16.ext l16
      have hn11 := o11.n1
      refine c_end ⟨rfl, fun h hS => Lq, ?_⟩
      refine pu rfl ?_ (by rintro ⟨_, _, h, _⟩; cases h)
      refine s_appi (B := w13.heap.size) so40FJ zr3FJ rfl rfl (xs := _) o11 o16.sl f11 (by omega) (by omega) (by omega) ?_
      intro p17 c17 F17 w17 l18 o17 hn17 k17 f17 g17
      have z_l18 := l18.size
      have L := L.freshL l18 f11 (by omega)
      have Lq := Lq.freshL l18 f11 (by omega)
      have d16_17 : Dj F16 F17 := k17.dj (by first | assumption | exact Dj.symm (by assumption) | exact dj_of f16 g16 f11 g11 (by omega)) g16 (by omega)
      have o16 := o16.exm l18 (by first | assumption | exact Dj.symm (by assumption) | exact dj_of f11 g11 f16 g16 (by omega))
      refine c_end ⟨rfl, fun h hS => Lq, ?_⟩
      refine p0 rfl (x_assign (v := .slice _ _ _) rfl) ?_
      refine p_nil (np_normal ?_)
      refine n_then ?_
      refine wp_ret ?_
      refine f_ret rfl rfl ?_
      have hue := ueBits_zeros h5
      exact ⟨_, rfl, L, _, _, _, slice_len (congrArg List.length hue.symm).symm, own_eq hue.symm o17, f17.mono (by omega)⟩
  · have z_l2 := l2.size
    have L := L.tr l2.up
    refine s0 (x_not rfl) ?_
    refine c_end ?_
    refine n_then ?_
    refine c_true rfl ?_
    refine wp_seq ?_
    refine c_reg ?_
    refine s_bs0 so40FJ ?_
    intro p7 F7 w19 l20 o7 f7 g7
    have o7 : Own w19 p7 0 0 3 1 (ic []) F7 := o7
    have z_l20 := l20.size
    have L := L.tr l20.up
    refine s0 (x_assign (v := .slice _ _ _) rfl) ?_
    refine c_end ?_
    refine n_then ?_
    refine wp_ret (r_then ?_)
    refine f_ret rfl rfl ?_
    rw [ueBits_no h5]
    exact ⟨_, rfl, L, _, _, _, rfl, o7, f7.mono (by omega)⟩

/-- slices.IndexFunc[[]impl.Block,impl.Block] -/
theorem g_indexFB (fk : FuncId) (caps : List Value) (φ : Bk → Prop) [DecidablePred φ] (p : Option Addr) (bs : List Bk) (c : Nat) (w : World) (hc : Callable Try.prog fk) (hk : ∀ b ∈ bs, ∀ w', Exm [] w w' → Calls Try.prog fk ([Value.agg (brow b).toArray] ++ caps).toArray w' (Ret w' (.bool (decide (φ b))))) (hp : RdBs w p bs c) (hl : bs.length ≤ 1099511627776) :
    Calls Try.prog 245 [.slice p bs.length c, .func (.func fk) #[] caps.toArray].toArray w (RetP w fun v w' => ∃ r : Int, v = .int .i64 r ∧ (0 ≤ r ↔ ∃ j : Nat, j < bs.length ∧ φ (bs.getD j default))) := by
  have L : Exm [] w w := Exm.rfl'
  refine enter (n := 19) Try.func245 rfl rfl rfl ?_
  refine wp_seq ?_
  refine c_reg ?_
  refine s0 (x_assign (v := .int _ _) rfl) ?_
  refine c_end ?_
  refine n_then ?_
  refine wp_seq ?_
  refine wp_seq ?_
  refine c_reg ?_
  refine s0 (x_move (v := .slice _ _ _) rfl) ?_
  refine s0 (x_lensl un52FJ rfl) ?_
  refine s0 (x_move (v := .int _ _) rfl) ?_
  refine c_end ?_
  refine n_then ?_
  refine wp_block ?_
  refine c_loop (γ := Nat) (fun k => bs.length - k) (fun (k : Nat) E wl => ∃ E0, E = upd (upd (upd (upd E0 0 (.slice p bs.length c)) 1 (.func (.func fk) #[] caps.toArray)) 7 (.int .i64 bs.length)) 8 (.int .i64 (k : Int)) ∧ (Exm [] w wl) ∧ ((k : Int) ≤ bs.length) ∧ (∀ j : Nat, j < k → ¬ φ (bs.getD j default))) 0 ⟨_, upd_self4 rfl rfl rfl rfl, L, (by omega), (by intro j hj; omega)⟩ ?_
  rintro k E wl1 ⟨E0, rfl, L, hk2, hall⟩
  have Lz0 := L.size
  refine wp_seq ?_
  refine c_reg ?_
  refine sb (x_lss rfl rfl) (fun h9 => ?_) (fun h9 => ?_)
  · refine c_end ?_
    refine n_then ?_
    refine wp_seq ?_
    refine c_true rfl ?_
    refine c_skipn ?_
    refine n_then ?_
    refine wp_seq ?_
    refine wp_block ?_
    refine wp_seq ?_
    refine c_reg ?_
    refine s0 (x_move (v := .int _ _) rfl) ?_
    refine s0 (x_assign (v := .int _ _) rfl) ?_
    refine c_end ?_
    refine n_then ?_
    refine wp_seq ?_
    refine c_reg ?_
    refine s0 (x_move (v := .func _ _ _) rfl) ?_
    refine s0 (x_move (v := .slice _ _ _) rfl) ?_
    refine s0 (x_move (v := .int _ _) rfl) ?_
    refine s0 (x_idx so52FJ rfl rfl hp.1 (by decide) (by omega) (by omega)) ?_
    refine st (x_ldr brow_len ag111FJ rfl (hp.1.ext L) (by omega) (by omega)) ?_
    refine srb (zcallv (caps := caps) hc rfl rfl) (hk _ (getD_mem (by omega) (by omega)) _ L) (fun h16 w2 l3 => ?_) (fun h16 w2 l3 => ?_)
    · have z_l3 := l3.size
      have L := L.tr l3.up
      refine c_end ?_
      refine n_then ?_
      refine c_true rfl ?_
      refine wp_seq ?_
      refine c_reg ?_
      refine s0 (x_move (v := .int _ _) rfl) ?_
      refine s0 (x_assign (v := .int _ _) rfl) ?_
      refine c_end ?_
      refine n_then ?_
      refine wp_ret (r_block (r_then (r_then (r_block (r_then ?_)))))
      refine f_ret rfl rfl ?_
      exact ⟨_, rfl, L, _, rfl, ⟨fun _ => ⟨k, by omega, by simpa using h16⟩, fun _ => by omega⟩⟩
    · have z_l3 := l3.size
      have L := L.tr l3.up
      refine c_end ?_
      refine n_then ?_
      refine c_false rfl ?_
      refine c_skipn ?_
      refine n_block ?_
      refine n_then ?_
      refine c_reg ?_
      refine s0 (x_add rfl rfl (by omega)) ?_
      refine s0 (x_move (v := .int _ _) rfl) ?_
      refine c_end ?_
      exact c_round (g' := k + 1) (by omega) ⟨_, upd_self4 rfl rfl rfl (vint (by omega)), L, (by omega), (upto_succ' hall (by simpa using h16))⟩
  · refine c_end ?_
    refine n_then ?_
    refine wp_seq ?_
    refine c_false rfl ?_
    refine wp_exit (e_then (e_then (e_here ?_)))
    refine n_then ?_
    refine wp_seq ?_
    refine c_reg ?_
    refine s0 (x_assign (v := .int _ _) rfl) ?_
    refine c_end ?_
    refine n_then ?_
    refine wp_ret ?_
    refine f_ret rfl rfl ?_
    exact ⟨_, rfl, L, _, rfl, ⟨fun h => by omega, fun ⟨j, hj, h⟩ => absurd h (hall j (by omega))⟩⟩

/-- slices.ContainsFunc[[]impl.Block,impl.Block] -/
theorem g_containsFB (fk : FuncId) (caps : List Value) (φ : Bk → Prop) [DecidablePred φ] (p : Option Addr) (bs : List Bk) (c : Nat) (w : World) (hc : Callable Try.prog fk) (hk : ∀ b ∈ bs, ∀ w', Exm [] w w' → Calls Try.prog fk ([Value.agg (brow b).toArray] ++ caps).toArray w' (Ret w' (.bool (decide (φ b))))) (hp : RdBs w p bs c) (hl : bs.length ≤ 1099511627776) :
    Calls Try.prog 195 [.slice p bs.length c, .func (.func fk) #[] caps.toArray].toArray w (RetP w fun v w' => ∃ r : Bool, v = .bool r ∧ (r = true ↔ ∃ j : Nat, j < bs.length ∧ φ (bs.getD j default))) := by
  have L : Exm [] w w := Exm.rfl'
  refine enter (n := 9) Try.func195 rfl rfl rfl ?_
  refine wp_seq ?_
  refine c_reg ?_
  refine s0 (x_assign (v := .bool _) rfl) ?_
  refine c_end ?_
  refine n_then ?_
  refine wp_seq ?_
  refine c_reg ?_
  refine s0 (x_move (v := .slice _ _ _) rfl) ?_
  refine s0 (x_move (v := .func _ _ _) rfl) ?_
  refine sp (zcall cl245FJ rfl) (g_indexFB _ _ φ _ _ _ _ hc (fun b hb w9 L9 => hk b hb w9 (L.tr L9)) (hp.ext L) (by omega)) ?_
  rintro v7 w1 l2 ⟨r7, rfl, hr7⟩
  have z_l2 := l2.size
  have L := L.tr l2.up
  refine s0 (x_geq rfl rfl) ?_
  refine s0 (x_assign (v := .bool _) rfl) ?_
  refine c_end ?_
  refine n_then ?_
  refine wp_ret ?_
  refine f_ret rfl rfl ?_
  exact ⟨_, rfl, L, _, rfl, by rw [decide_eq_true_iff]; exact hr7⟩

/-- impl.MbOk$1 -/
theorem i_mbOk1 (k : Bk) (bl bn : Nat) (lp : Option Addr) (xs : List Int) (lc : Nat) (n : Int) (w : World) (hB : Bx w bl [.slice lp xs.length lc] 40) (hN : Bx w bn [.int .i64 n] 3) (hx : Sl w lp xs.length lc 1 (ic xs)) (hv : Sl w k.p k.lv.length k.c 1 (ic k.lv)) (hl : xs.length ≤ 1099511627776) (hl2 : k.lv.length ≤ 1099511627776) :
    Calls Try.prog 196 [.agg [.int .i64 k.mode, .slice k.p k.lv.length k.c].toArray, pt bl 0, pt bn 0].toArray w (Ret w (.bool (decide (¬ blockOk k.mode k.lv xs n)))) := by
  have L : Exm [] w w := Exm.rfl'
  refine enter (n := 10) Try.func196 rfl rfl rfl ?_
  refine wp_seq ?_
  refine c_reg ?_
  refine s_box rfl rfl ?_
  intro b1 w2 lob1 hib1 l3 B1
  have z_l3 := l3.size
  have L := L.tr l3.up
  have hB := hB.ext l3
  have hN := hN.ext l3
  refine s0 (x_assign (v := .bool _) rfl) ?_
  refine c_end ?_
  refine n_then ?_
  refine wp_seq ?_
  refine c_reg ?_
  refine st (x_loadAgB ag111FJ rfl B1 rfl) ?_
  refine st (x_loadB sc40FJ rfl hB rfl) ?_
  refine st (x_loadB sc3FJ rfl hN rfl) ?_
  refine sr (zcall cl197FJ rfl) (i_blockOk _ _ _ _ _ _ _ _ _ (hx.ext L) (by omega) (hv.ext L) (by omega)) ?_
  intro w4 l5
  have z_l5 := l5.size
  have L := L.tr l5.up
  have hB := hB.ext l5
  have hN := hN.ext l5
  have B1 := B1.ext l5
  refine s0 (x_not rfl) ?_
  refine s0 (x_assign (v := .bool _) rfl) ?_
  refine c_end ?_
  refine n_then ?_
  refine wp_ret ?_
  refine f_ret rfl rfl ?_
  exact ⟨ret_val (show Value.bool (!decide (blockOk k.mode k.lv xs n)) = .bool (decide (¬ blockOk k.mode k.lv xs n)) by simp), L⟩

/-- impl.MbOk -/
theorem i_mbOk (e : Bool) (p : Option Addr) (bs : List Bk) (c : Nat) (r : Option Addr) (xs : List Int) (d : Nat) (w : World) (hp : RdBs w p bs c) (hx : Sl w r xs.length d 1 (ic xs)) (hl : bs.length ≤ 1099511627776) (hb : ∀ b ∈ bs, b.lv.length ≤ 1099511627776) (hl2 : xs.length ≤ 1099511627776) :
    Calls Try.prog 132 [.agg [.bool e, .slice p bs.length c].toArray, .slice r xs.length d].toArray w (Ret w (.bool (decide (mbOk e (bs.map Bk.pl) xs)))) := by
  have L : Exm [] w w := Exm.rfl'
  refine enter (n := 25) Try.func132 rfl rfl rfl ?_
  refine wp_seq ?_
  refine c_reg ?_
  refine s_box rfl rfl ?_
  intro b1 w2 lob1 hib1 l3 B1
  have z_l3 := l3.size
  have L := L.tr l3.up
  refine s_box rfl rfl ?_
  intro b4 w5 lob4 hib4 l6 B4
  have z_l6 := l6.size
  have L := L.tr l6.up
  have B1 := B1.ext l6
  refine s0 (x_assign (v := .bool _) rfl) ?_
  refine c_end ?_
  refine n_then ?_
  refine wp_seq ?_
  refine c_reg ?_
  refine s0 (x_fieldAddr fa54_0FJ rfl) ?_
  refine st (x_loadB sc4FJ rfl B1 rfl) ?_
  refine sr (zcall cl122FJ rfl) (i_shape _ _) ?_
  intro w7 l8
  have z_l8 := l8.size
  have L := L.tr l8.up
  have B1 := B1.ext l8
  have B4 := B4.ext l8
  refine s0 (x_move (v := .tuple _) rfl) ?_
  refine s0 (x_extract rfl rfl) ?_
  refine s0 (x_extract rfl rfl) ?_
  refine s_alloc zr3FJ ?_
  intro b9 w10 lob9 hib9 l11 B9
  have z_l11 := l11.size
  have L := L.tr l11.up
  have B1 := B1.ext l11
  have B4 := B4.ext l11
  refine s0 (x_assign (v := .int _ _) rfl) ?_
  refine s_store (v := .int _ _) (cs' := [_]) rfl sz3FJ rfl rfl rfl rfl B9 rfl rfl ?_
  intro w12 l13 el13 B9
  have z_l13 := l13.size
  have L := L.fresh l13 (by omega)
  have B1 := B1.ne l13 (by omega)
  have B4 := B4.ne l13 (by omega)
  refine c_end ?_
  refine n_then ?_
  refine wp_seq ?_
  refine c_reg ?_
  refine s0 (x_fieldAddr fa54_1FJ rfl) ?_
  refine st (x_loadB sc52FJ rfl B1 rfl) ?_
  refine s0 (x_lensl un52FJ rfl) ?_
  refine s0 (x_move (v := .int _ _) rfl) ?_
  refine sb (x_eql rfl rfl) (fun h17 => ?_) (fun h17 => ?_)
  · refine s0 (x_move (v := .bool _) rfl) ?_
    refine gt rfl rfl rfl rfl ?_
    refine s0 (x_fieldAddr fa54_1FJ rfl) ?_
    refine gt rfl rfl rfl rfl ?_
    refine st (x_loadB sc52FJ rfl B1 rfl) ?_
    refine gt rfl rfl rfl rfl ?_
    refine s0 (x_makeFunc rfl) ?_
    refine gt rfl rfl rfl rfl ?_
    refine sp (zcall cl195FJ rfl) (g_containsFB _ _ (fun k => ¬ blockOk k.mode k.lv xs (side e)) _ _ _ _ cl196FJ (fun k hk w9 L9 => i_mbOk1 k _ _ _ _ _ _ w9 (B4.ext L9) (B9.ext L9) ((hx.ext L).ext L9) (((hp.ext L).2 k hk).ext L9) (by omega) (hb k hk)) (hp.ext L) (by omega)) ?_
    rintro v22 w14 l15 ⟨r22, rfl, hr22⟩
    have z_l15 := l15.size
    have L := L.tr l15.up
    have B1 := B1.ext l15
    have B4 := B4.ext l15
    have B9 := B9.ext l15
    refine gt rfl rfl rfl rfl ?_
    refine s0 (x_not rfl) ?_
    refine s0 (x_pickt (v := .bool _) rfl rfl) ?_
    refine s0 (x_assign (v := .bool _) rfl) ?_
    refine c_end ?_
    refine n_then ?_
    refine wp_ret ?_
    refine f_ret rfl rfl ?_
    have hm : mbOk e (bs.map Bk.pl) xs ↔ ¬ r22 = true := by rw [hr22, mb_iff]; exact ⟨fun h ⟨j, hj, h2⟩ => h2 (h.2 j hj), fun h => ⟨h17, fun j hj => Classical.not_not.1 fun h2 => h ⟨j, hj, h2⟩⟩⟩
    exact ⟨ret_val (show Value.bool (!r22) = .bool (decide (mbOk e (bs.map Bk.pl) xs)) by cases r22 <;> simp [hm]), L⟩
  · refine s0 (x_move (v := .bool _) rfl) ?_
    refine gf rfl rfl rfl rfl ?_
    refine gf rfl rfl rfl rfl ?_
    refine gf rfl rfl rfl rfl ?_
    refine gf rfl rfl rfl rfl ?_
    refine gf rfl rfl rfl rfl ?_
    refine s0 (x_pickf (v := .bool _) rfl rfl) ?_
    refine s0 (x_assign (v := .bool _) rfl) ?_
    refine c_end ?_
    refine n_then ?_
    refine wp_ret ?_
    refine f_ret rfl rfl ?_
    exact ⟨ret_f (fun h => h17 (mb_iff.1 h).1), L⟩

/-- spec.MbOk -/
theorem s_mbOk (e : Bool) (p : Option Addr) (bs : List Bk) (c : Nat) (r : Option Addr) (xs : List Int) (d : Nat) (w : World) (hp : RdBs w p bs c) (hx : Sl w r xs.length d 1 (ic xs)) (hl : bs.length ≤ 1099511627776) (hb : ∀ b ∈ bs, b.lv.length ≤ 1099511627776) (hl2 : xs.length ≤ 1099511627776) :
    Calls Try.prog 128 [.agg [.bool e, .slice p bs.length c].toArray, .slice r xs.length d].toArray w (Ret w (.bool (decide (mbOk e (bs.map Bk.pl) xs)))) := by
  have L : Exm [] w w := Exm.rfl'
  refine enter (n := 34) Try.func128 rfl rfl rfl ?_
  refine wp_seq ?_
  refine c_reg ?_
  refine s_box rfl rfl ?_
  intro b1 w2 lob1 hib1 l3 B1
  have z_l3 := l3.size
  have L := L.tr l3.up
  refine s0 (x_assign (v := .bool _) rfl) ?_
  refine c_end ?_
  refine n_then ?_
  refine wp_seq ?_
  refine c_reg ?_
  refine s0 (x_fieldAddr fa54_0FJ rfl) ?_
  refine st (x_loadB sc4FJ rfl B1 rfl) ?_
  refine sr (zcall cl119FJ rfl) (s_side _ _) ?_
  intro w4 l5
  have z_l5 := l5.size
  have L := L.tr l5.up
  have B1 := B1.ext l5
  refine s0 (x_assign (v := .int _ _) rfl) ?_
  refine c_end ?_
  refine n_then ?_
  refine wp_seq ?_
  refine wp_seq ?_
  have hs4 := side_in e
  refine c_reg ?_
  refine s0 (x_assign (v := .int _ _) rfl) ?_
  refine c_end ?_
  refine n_then ?_
  refine wp_block ?_
  refine c_loop (γ := Nat) (fun k => bs.length - k) (fun (k : Nat) E wl => ∃ E0, E = upd (upd (upd (upd E0 1 (.slice r xs.length d)) 2 (pt b1 0)) 5 (.int .i64 (side e))) 6 (.int .i64 (k : Int)) ∧ (Exm [] w wl) ∧ (w4.heap.size ≤ wl.heap.size) ∧ (Bx wl b1 [.bool e, .slice p bs.length c] 54) ∧ ((k : Int) ≤ bs.length) ∧ (∀ j : Nat, j < k → blockOk (bs.getD j default).mode (bs.getD j default).lv xs (side e))) 0 ⟨_, upd_self4 rfl rfl rfl rfl, L, (by omega), B1, (by omega), (by intro j hj; omega)⟩ ?_
  rintro k E wl6 ⟨E0, rfl, L, Lz, B1, hk, hall⟩
  have Lz0 := L.size
  refine wp_seq ?_
  refine wp_seq ?_
  refine c_reg ?_
  refine s0 (x_move (v := .int _ _) rfl) ?_
  refine s0 (x_fieldAddr fa54_1FJ rfl) ?_
  refine st (x_loadB sc52FJ rfl B1 rfl) ?_
  refine s0 (x_lensl un52FJ rfl) ?_
  refine sb (x_lss rfl rfl) (fun h14 => ?_) (fun h14 => ?_)
  · refine c_end ?_
    refine n_then ?_
    refine c_true rfl ?_
    refine c_skipn ?_
    refine n_then ?_
    refine wp_seq ?_
    refine wp_block ?_
    refine wp_seq ?_
    have hbk := hb _ (getD_mem (xs := bs) (i := (k : Int)) (by omega) (by omega))
    refine c_reg ?_
    refine s0 (x_fieldAddr fa54_1FJ rfl) ?_
    refine st (x_loadB sc52FJ rfl B1 rfl) ?_
    refine s0 (x_move (v := .int _ _) rfl) ?_
    refine s0 (x_idx so52FJ rfl rfl hp.1 (by decide) (by omega) (by omega)) ?_
    refine st (x_ldr brow_len ag111FJ rfl (hp.1.ext L) (by omega) (by omega)) ?_
    refine s0 (x_move (v := .slice _ _ _) rfl) ?_
    refine s0 (x_move (v := .int _ _) rfl) ?_
    refine srb (zcall cl191FJ rfl) (s_blockOk _ _ _ _ _ _ _ _ _ (hx.ext L) (by omega) ((hp.2 _ (getD_mem (by omega) (by omega))).ext L) (by omega)) (fun h24 w7 l8 => ?_) (fun h24 w7 l8 => ?_)
    · have z_l8 := l8.size
      have L := L.tr l8.up
      have B1 := B1.ext l8
      refine s0 (x_not rfl) ?_
      refine c_end ?_
      refine n_then ?_
      refine c_false rfl ?_
      refine c_skipn ?_
      refine n_block ?_
      refine n_then ?_
      refine c_reg ?_
      refine s0 (x_move (v := .int _ _) rfl) ?_
      refine s0 (x_add rfl rfl (by omega)) ?_
      refine s0 (x_assign (v := .int _ _) rfl) ?_
      refine c_end ?_
      exact c_round (g' := k + 1) (by omega) ⟨_, upd_self4 rfl rfl rfl (vint (by omega)), L, (by omega), B1, (by omega), (upto_succ' hall (by simpa using h24))⟩
    · have z_l8 := l8.size
      have L := L.tr l8.up
      have B1 := B1.ext l8
      refine s0 (x_not rfl) ?_
      refine c_end ?_
      refine n_then ?_
      refine c_true rfl ?_
      refine wp_seq ?_
      refine c_reg ?_
      refine s0 (x_assign (v := .bool _) rfl) ?_
      refine c_end ?_
      refine n_then ?_
      refine wp_ret (r_block (r_then (r_then (r_block (r_then ?_)))))
      refine f_ret rfl rfl ?_
      exact ⟨ret_f (fun h => h24 (by simpa using (mb_iff.1 h).2 k (by omega))), L⟩
  · refine c_end ?_
    refine n_then ?_
    refine c_false rfl ?_
    refine wp_exit (e_then (e_then (e_here ?_)))
    refine n_then ?_
    refine wp_seq ?_
    have hs4 := side_in e
    have hme := many_eq e
    refine c_plan (fun wq => Exm [] wl6 wq) 9 (.cons (0, 2) (.cons (1, 1) (.cons (2, 2) (.cons (3, 2) (.cons (4, 2) (.cons (5, 2) (.cons (6, 2) (.cons (7, 2) (.cons (8, 2) .nil))))))))) (by kernel_rfl) (by kernel_rfl) (Exm.drew _) ?_
    obtain ⟨w9, hwd⟩ : ∃ x, x = wl6.drew := ⟨_, rfl⟩
    have l10 : Ext wl6 w9 := by rw [hwd]; exact Exm.drew _
    rw [← hwd]; clear hwd
    have Lq : Exm [] wl6 w9 := l10.up
    have qB1 := B1
    have qL := L
    have z_l10 := l10.size
    have L := L.tr l10.up
    have B1 := B1.ext l10
    refine p0 rfl (x_fieldAddr fa54_1FJ rfl) ?_
    refine ps rfl (fun wq hwq => x_loadB sc52FJ rfl (qB1.ext hwq) rfl) ?_
    refine p0 rfl (x_lensl un52FJ rfl) ?_
    refine p0 rfl (x_move (v := .int _ _) rfl) ?_
    refine p0 rfl (x_move (v := .int _ _) rfl) ?_
    refine p0 rfl (x_mul rfl rfl (by rcases hs4 with h | h <;> rw [h] <;> decide)) ?_
    refine p0 rfl (x_quo rfl rfl (by omega) (by rcases hs4 with h | h <;> rw [h] <;> decide)) ?_
    refine p0 rfl (x_eql rfl rfl) ?_
    refine p0 rfl (x_assign (v := .bool _) rfl) ?_
    refine p_nil (np_normal ?_)
    refine n_then ?_
    refine wp_ret ?_
    refine f_ret rfl rfl ?_
    exact ⟨ret_dec2 ⟨fun h => mb_iff.2 ⟨by rw [← many_eq]; exact h, fun j hj => hall j (by omega)⟩, fun h => by rw [many_eq]; exact (mb_iff.1 h).1⟩, L⟩

/-- impl.PairsOf -/
theorem i_pairsOf (p : Option Addr) (xs : List Int) (c : Nat) (w : World) (hp : Sl w p xs.length c 1 (ic xs)) (hl : xs.length ≤ 1099511627776) :
    Calls Try.prog 199 [.slice p xs.length c].toArray w (RetP w fun v w' => ∃ p c F, v = .slice p (pairsOf xs).length c ∧ Own w' p (pairsOf xs).length c 207 2 ((pairsOf xs).flatMap erow) F ∧ Fr w.heap.size F) := by
  have L : Exm [] w w := Exm.rfl'
  refine enter (n := 29) Try.func199 rfl rfl rfl ?_
  refine wp_seq ?_
  refine c_reg ?_
  refine s0 (x_assign (v := .slice _ _ _) rfl) ?_
  refine c_end ?_
  refine n_then ?_
  refine wp_seq ?_
  refine wp_seq ?_
  refine c_reg ?_
  refine s0 (x_move (v := .slice _ _ _) rfl) ?_
  refine srb (zcall cl223FJ rfl) (i_levelsOk _ _ _ _ (hp.ext L) (by omega)) (fun h8 w1 l2 => ?_) (fun h8 w1 l2 => ?_)
  · have z_l2 := l2.size
    have L := L.tr l2.up
    refine s0 (x_not rfl) ?_
    refine c_end ?_
    refine n_then ?_
    refine c_false rfl ?_
    refine c_skipn ?_
    refine n_then ?_
    refine wp_seq ?_
    refine c_reg ?_
    refine s_bs0 so204FJ ?_
    intro p10 F10 w3 l4 o10 f10 g10
    have o10 : Own w3 p10 0 0 207 2 (([] : List _).flatMap erow) F10 := o10
    have z_l4 := l4.size
    have L := L.tr l4.up
    refine s0 (x_assign (v := .slice _ _ _) rfl) ?_
    refine s0 (x_assign (v := .int _ _) rfl) ?_
    refine c_end ?_
    refine n_then ?_
    refine wp_seq ?_
    refine wp_seq ?_
    refine c_reg ?_
    refine s0 (x_move (v := .slice _ _ _) rfl) ?_
    refine s0 (x_lensl un40FJ rfl) ?_
    refine s0 (x_move (v := .int _ _) rfl) ?_
    refine c_end ?_
    refine n_then ?_
    refine wp_block ?_
    refine c_loop (γ := Nat) (fun k => xs.length - k) (fun (k : Nat) E wl => ∃ E0 pz3 cz3 Fz3, E = upd (upd (upd (upd (upd E0 3 (.slice pz3 (((prS xs k).1).length) cz3)) 4 (.int .i64 (prS xs k).2)) 11 (.slice p xs.length c)) 12 (.int .i64 xs.length)) 13 (.int .i64 (k : Int)) ∧ (Exm [] w wl) ∧ (w3.heap.size ≤ wl.heap.size) ∧ (Own wl pz3 (((prS xs k).1).length) cz3 207 2 (((prS xs k).1).flatMap erow) Fz3) ∧ (Fr (w1.heap.size) Fz3) ∧ (Lt Fz3 wl.heap.size) ∧ ((k : Int) ≤ xs.length)) 0 ⟨_, _, _, _, upd_self5 rfl rfl rfl rfl rfl, L, (by omega), o10, (f10.mono (by omega)), (g10.mono (by omega)), (by omega)⟩ ?_
    rintro k E wl5 ⟨E0, pz3, cz3, Fz3, rfl, L, Lz, oz3, fz3, gz3, hk⟩
    have Lz0 := L.size
    have hpr := prS_range xs k
    refine wp_seq ?_
    refine c_reg ?_
    refine sb (x_lss rfl rfl) (fun h14 => ?_) (fun h14 => ?_)
    · refine c_end ?_
      refine n_then ?_
      refine wp_seq ?_
      refine c_true rfl ?_
      refine c_skipn ?_
      refine n_then ?_
      refine wp_seq ?_
      refine wp_block ?_
      refine wp_seq ?_
      refine c_reg ?_
      refine s0 (x_idx so40FJ rfl rfl hp (by decide) (by omega) (by omega)) ?_
      refine st (x_ldi sc3FJ rfl (hp.ext L) (by omega) (by omega)) ?_
      refine s0 (x_assign (v := .int _ _) rfl) ?_
      refine c_end ?_
      refine n_then ?_
      refine wp_seq ?_
      refine wp_seq ?_
      refine c_reg ?_
      refine s0 (x_move (v := .int _ _) rfl) ?_
      refine sb (x_eql rfl rfl) (fun h18 => ?_) (fun h18 => ?_)
      · refine c_end ?_
        refine n_then ?_
        refine c_true rfl ?_
        refine wp_seq ?_
        refine c_reg ?_
        refine s0 (x_move (v := .int _ _) rfl) ?_
        refine s0 (x_add rfl rfl (by omega)) ?_
        refine s0 (x_assign (v := .int _ _) rfl) ?_
        refine c_end ?_
        refine n_then ?_
        refine wp_exit (e_then (e_here ?_))
        refine n_then ?_
        refine c_reg ?_
        refine s0 (x_add rfl rfl (by omega)) ?_
        refine s0 (x_move (v := .int _ _) rfl) ?_
        refine c_end ?_
        rw [Int.toNat_natCast] at h18
        try rw [Int.toNat_natCast] at o26
        exact c_round (g' := k + 1) (by omega) ⟨_, _, _, _, upd_self5 (by first | (rw [← (prS_zero h18).1]; rfl) | (rw [← (prS_more h18).1]; exact slice_len (by simp only [List.length_append, List.length_cons, List.length_nil]))) (by first | exact vint (prS_zero h18).2 | exact vint (prS_more h18).2) rfl rfl (vint (by omega)), L, (by omega), (by first | (rw [← (prS_zero h18).1]; exact oz3) | (rw [← (prS_more h18).1]; exact o26)), (fz3.mono (by omega)), (gz3.mono (by omega)), (by omega)⟩
      · refine c_end ?_
        refine n_then ?_
        refine c_false rfl ?_
        refine c_skipn ?_
        refine n_then ?_
        refine wp_seq ?_
        refine c_reg ?_
        refine s0 (x_move (v := .slice _ _ _) rfl) ?_
        refine s0 (x_move (v := .int _ _) rfl) ?_
        refine s0 (x_move (v := .int _ _) rfl) ?_
        refine s0 (x_build (cs := [.int _ _, .int _ _]) bd207FJ (pts_cons (v := .int _ _) rfl (pts_cons (v := .int _ _) rfl pts_nil)) rfl) ?_
        refine s_bsr (g := fun x => .agg (erow x).toArray) (xs := [(_, _)]) (fun _ => rfl) erow_len so204FJ zr207FJ (pts_cons rfl pts_nil) rfl rfl rfl ?_
        intro p25 F25 w6 l7 o25 f25 g25
        have z_l7 := l7.size
        have L := L.tr l7.up
        have oz3 := oz3.ext l7
        have hn25 := o25.nr erow_len (by decide)
        refine s_appr (B := w1.heap.size) (f := erow) erow_len erow_one (by decide) so204FJ zr207FJ rfl rfl rfl oz3 o25.sl fz3 (by omega) (by omega) (by omega) ?_
        intro p26 c26 F26 w8 l9 o26 hn26 k26 f26 g26
        have z_l9 := l9.size
        have L := L.freshL l9 fz3 (by omega)
        have d25_26 : Dj F25 F26 := k26.dj (by first | assumption | exact Dj.symm (by assumption) | exact dj_of f25 g25 fz3 gz3 (by omega)) g25 (by omega)
        have o25 := o25.exm l9 (by first | assumption | exact Dj.symm (by assumption) | exact dj_of fz3 gz3 f25 g25 (by omega))
        refine s0 (x_assign (v := .slice _ _ _) rfl) ?_
        refine c_end ?_
        refine n_then ?_
        refine c_reg ?_
        refine s0 (x_assign (v := .int _ _) rfl) ?_
        refine c_end ?_
        refine n_block ?_
        refine n_then ?_
        refine c_reg ?_
        refine s0 (x_add rfl rfl (by omega)) ?_
        refine s0 (x_move (v := .int _ _) rfl) ?_
        refine c_end ?_
        rw [Int.toNat_natCast] at h18
        try rw [Int.toNat_natCast] at o26
        exact c_round (g' := k + 1) (by omega) ⟨_, _, _, _, upd_self5 (by first | (rw [← (prS_zero h18).1]; rfl) | (rw [← (prS_more h18).1]; exact slice_len (by simp only [List.length_append, List.length_cons, List.length_nil]))) (by first | exact vint (prS_zero h18).2 | exact vint (prS_more h18).2) rfl rfl (vint (by omega)), L, (by omega), (by first | (rw [← (prS_zero h18).1]; exact oz3) | (rw [← (prS_more h18).1]; exact o26)), (f26.mono (by omega)), (g26.mono (by omega)), (by omega)⟩
    · refine c_end ?_
      refine n_then ?_
      refine wp_seq ?_
      refine c_false rfl ?_
      refine wp_exit (e_then (e_then (e_here ?_)))
      refine n_then ?_
      refine wp_seq ?_
      refine c_reg ?_
      refine s0 (x_move (v := .slice _ _ _) rfl) ?_
      refine s0 (x_assign (v := .slice _ _ _) rfl) ?_
      refine c_end ?_
      refine n_then ?_
      refine wp_ret ?_
      refine f_ret rfl rfl ?_
      rw [pairs_yes h8 (k := k) (by omega)]
      exact ⟨_, rfl, L, _, _, _, rfl, oz3, fz3.mono (by omega)⟩
  · have z_l2 := l2.size
    have L := L.tr l2.up
    refine s0 (x_not rfl) ?_
    refine c_end ?_
    refine n_then ?_
    refine c_true rfl ?_
    refine wp_seq ?_
    refine c_reg ?_
    refine s0 (x_assign (v := .slice _ _ _) rfl) ?_
    refine c_end ?_
    refine n_then ?_
    refine wp_ret (r_then ?_)
    refine f_ret rfl rfl ?_
    rw [pairs_no h8]
    exact ⟨_, rfl, L, none, 0, [], rfl, Own.nil, Fr.no⟩

/-- spec.PairsOf -/
theorem s_pairsOf (p : Option Addr) (xs : List Int) (c : Nat) (w : World) (hp : Sl w p xs.length c 1 (ic xs)) (hl : xs.length ≤ 1099511627776) :
    Calls Try.prog 193 [.slice p xs.length c].toArray w (RetP w fun v w' => ∃ p c F, v = .slice p (pairsOf xs).length c ∧ Own w' p (pairsOf xs).length c 207 2 ((pairsOf xs).flatMap erow) F ∧ Fr w.heap.size F) := by
  have L : Exm [] w w := Exm.rfl'
  refine enter (n := 34) Try.func193 rfl rfl rfl ?_
  refine wp_seq ?_
  refine c_reg ?_
  refine s0 (x_assign (v := .slice _ _ _) rfl) ?_
  refine c_end ?_
  refine n_then ?_
  refine wp_seq ?_
  refine c_reg ?_
  refine s_bs0 so204FJ ?_
  intro p6 F6 w1 l2 o6 f6 g6
  have o6 : Own w1 p6 0 0 207 2 (([] : List _).flatMap erow) F6 := o6
  have z_l2 := l2.size
  have L := L.tr l2.up
  refine s0 (x_assign (v := .slice _ _ _) rfl) ?_
  refine c_end ?_
  refine n_then ?_
  refine wp_seq ?_
  refine c_reg ?_
  refine s0 (x_assign (v := .int _ _) rfl) ?_
  refine c_end ?_
  refine n_then ?_
  refine wp_seq ?_
  refine wp_seq ?_
  refine c_reg ?_
  refine s0 (x_assign (v := .int _ _) rfl) ?_
  refine c_end ?_
  refine n_then ?_
  refine wp_block ?_
  refine c_loop (γ := Nat) (fun k => xs.length - k) (fun (k : Nat) E wl => ∃ E0 pz3 cz3 Fz3, E = upd (upd (upd (upd E0 0 (.slice p xs.length c)) 3 (.slice pz3 (((prS xs k).1).length) cz3)) 4 (.int .i64 (prS xs k).2)) 5 (.int .i64 (k : Int)) ∧ (Exm [] w wl) ∧ (w1.heap.size ≤ wl.heap.size) ∧ (Own wl pz3 (((prS xs k).1).length) cz3 207 2 (((prS xs k).1).flatMap erow) Fz3) ∧ (Fr (w.heap.size) Fz3) ∧ (Lt Fz3 wl.heap.size) ∧ ((k : Int) ≤ xs.length) ∧ (0 < k → levelsOk xs)) 0 ⟨_, _, _, _, upd_self4 rfl rfl rfl rfl, L, (by omega), o6, (f6.mono (by omega)), (g6.mono (by omega)), (by omega), (fun h => absurd h (by omega))⟩ ?_
  rintro k E wl3 ⟨E0, pz3, cz3, Fz3, rfl, L, Lz, oz3, fz3, gz3, hk, hlv⟩
  have Lz0 := L.size
  have hpr := prS_range xs k
  refine wp_seq ?_
  refine wp_seq ?_
  refine c_reg ?_
  refine s0 (x_move (v := .int _ _) rfl) ?_
  refine s0 (x_move (v := .slice _ _ _) rfl) ?_
  refine s0 (x_lensl un40FJ rfl) ?_
  refine sb (x_lss rfl rfl) (fun h10 => ?_) (fun h10 => ?_)
  · refine s0 (x_move (v := .bool _) rfl) ?_
    refine gt rfl rfl rfl rfl ?_
    refine s0 (x_move (v := .slice _ _ _) rfl) ?_
    refine gt rfl rfl rfl rfl ?_
    refine srb (zcall cl210FJ rfl) (s_levelsOk _ _ _ _ (hp.ext L) (by omega)) (fun h13 w4 l5 => ?_) (fun h13 w4 l5 => ?_)
    · have z_l5 := l5.size
      have L := L.tr l5.up
      have oz3 := oz3.ext l5
      refine s0 (x_pickt (v := .bool _) rfl rfl) ?_
      refine c_end ?_
      refine n_then ?_
      refine c_true rfl ?_
      refine c_skipn ?_
      refine n_then ?_
      refine wp_seq ?_
      refine wp_block ?_
      refine wp_seq ?_
      refine wp_seq ?_
      refine c_reg ?_
      refine s0 (x_move (v := .slice _ _ _) rfl) ?_
      refine s0 (x_move (v := .int _ _) rfl) ?_
      refine s0 (x_idx so40FJ rfl rfl hp (by decide) (by omega) (by omega)) ?_
      refine st (x_ldi sc3FJ rfl (hp.ext L) (by omega) (by omega)) ?_
      refine sb (x_eql rfl rfl) (fun h21 => ?_) (fun h21 => ?_)
      · refine c_end ?_
        refine n_then ?_
        refine c_true rfl ?_
        refine wp_seq ?_
        refine c_reg ?_
        refine s0 (x_move (v := .int _ _) rfl) ?_
        refine s0 (x_add rfl rfl (by omega)) ?_
        refine s0 (x_assign (v := .int _ _) rfl) ?_
        refine c_end ?_
        refine n_then ?_
        refine wp_exit (e_then (e_here ?_))
        refine n_then ?_
        refine c_reg ?_
        refine s0 (x_move (v := .int _ _) rfl) ?_
        refine s0 (x_add rfl rfl (by omega)) ?_
        refine s0 (x_assign (v := .int _ _) rfl) ?_
        refine c_end ?_
        rw [Int.toNat_natCast] at h21
        try rw [Int.toNat_natCast] at o32
        exact c_round (g' := k + 1) (by omega) ⟨_, _, _, _, upd_self4 rfl (by first | (rw [← (prS_zero h21).1]; rfl) | (rw [← (prS_more h21).1]; exact slice_len (by simp only [List.length_append, List.length_cons, List.length_nil]))) (by first | exact vint (prS_zero h21).2 | exact vint (prS_more h21).2) (vint (by omega)), L, (by omega), (by first | (rw [← (prS_zero h21).1]; exact oz3) | (rw [← (prS_more h21).1]; exact o32)), (fz3.mono (by omega)), (gz3.mono (by omega)), (by omega), (fun _ => h13)⟩
      · refine c_end ?_
        refine n_then ?_
        refine c_false rfl ?_
        refine c_skipn ?_
        refine n_then ?_
        refine wp_seq ?_
        refine c_reg ?_
        refine s0 (x_move (v := .slice _ _ _) rfl) ?_
        refine s0 (x_move (v := .int _ _) rfl) ?_
        refine s0 (x_move (v := .slice _ _ _) rfl) ?_
        refine s0 (x_move (v := .int _ _) rfl) ?_
        refine s0 (x_idx so40FJ rfl rfl hp (by decide) (by omega) (by omega)) ?_
        refine st (x_ldi sc3FJ rfl (hp.ext L) (by omega) (by omega)) ?_
        refine s0 (x_build (cs := [.int _ _, .int _ _]) bd207FJ (pts_cons (v := .int _ _) rfl (pts_cons (v := .int _ _) rfl pts_nil)) rfl) ?_
        refine s_bsr (g := fun x => .agg (erow x).toArray) (xs := [(_, _)]) (fun _ => rfl) erow_len so204FJ zr207FJ (pts_cons rfl pts_nil) rfl rfl rfl ?_
        intro p31 F31 w6 l7 o31 f31 g31
        have z_l7 := l7.size
        have L := L.tr l7.up
        have oz3 := oz3.ext l7
        have hn31 := o31.nr erow_len (by decide)
        refine s_appr (B := w.heap.size) (f := erow) erow_len erow_one (by decide) so204FJ zr207FJ rfl rfl rfl oz3 o31.sl fz3 (by omega) (by omega) (by omega) ?_
        intro p32 c32 F32 w8 l9 o32 hn32 k32 f32 g32
        have z_l9 := l9.size
        have L := L.freshL l9 fz3 (by omega)
        have d31_32 : Dj F31 F32 := k32.dj (by first | assumption | exact Dj.symm (by assumption) | exact dj_of f31 g31 fz3 gz3 (by omega)) g31 (by omega)
        have o31 := o31.exm l9 (by first | assumption | exact Dj.symm (by assumption) | exact dj_of fz3 gz3 f31 g31 (by omega))
        refine s0 (x_assign (v := .slice _ _ _) rfl) ?_
        refine c_end ?_
        refine n_then ?_
        refine c_reg ?_
        refine s0 (x_assign (v := .int _ _) rfl) ?_
        refine c_end ?_
        refine n_block ?_
        refine n_then ?_
        refine c_reg ?_
        refine s0 (x_move (v := .int _ _) rfl) ?_
        refine s0 (x_add rfl rfl (by omega)) ?_
        refine s0 (x_assign (v := .int _ _) rfl) ?_
        refine c_end ?_
        rw [Int.toNat_natCast] at h21
        try rw [Int.toNat_natCast] at o32
        exact c_round (g' := k + 1) (by omega) ⟨_, _, _, _, upd_self4 rfl (by first | (rw [← (prS_zero h21).1]; rfl) | (rw [← (prS_more h21).1]; exact slice_len (by simp only [List.length_append, List.length_cons, List.length_nil]))) (by first | exact vint (prS_zero h21).2 | exact vint (prS_more h21).2) (vint (by omega)), L, (by omega), (by first | (rw [← (prS_zero h21).1]; exact oz3) | (rw [← (prS_more h21).1]; exact o32)), (f32.mono (by omega)), (g32.mono (by omega)), (by omega), (fun _ => h13)⟩
    · have z_l5 := l5.size
      have L := L.tr l5.up
      have oz3 := oz3.ext l5
      refine s0 (x_pickt (v := .bool _) rfl rfl) ?_
      refine c_end ?_
      refine n_then ?_
      refine c_false rfl ?_
      refine wp_exit (e_then (e_then (e_here ?_)))
      refine n_then ?_
      refine wp_seq ?_
      refine c_reg ?_
      refine s0 (x_move (v := .slice _ _ _) rfl) ?_
      refine s0 (x_assign (v := .slice _ _ _) rfl) ?_
      refine c_end ?_
      refine n_then ?_
      refine wp_ret ?_
      refine f_ret rfl rfl ?_
      rw [pairs_end hlv (.inr h13)]
      exact ⟨_, rfl, L, _, _, _, rfl, oz3, fz3.mono (by omega)⟩
  · refine s0 (x_move (v := .bool _) rfl) ?_
    refine gf rfl rfl rfl rfl ?_
    refine gf rfl rfl rfl rfl ?_
    refine s0 (x_pickf (v := .bool _) rfl rfl) ?_
    refine c_end ?_
    refine n_then ?_
    refine c_false rfl ?_
    refine wp_exit (e_then (e_then (e_here ?_)))
    refine n_then ?_
    refine wp_seq ?_
    refine c_reg ?_
    refine s0 (x_move (v := .slice _ _ _) rfl) ?_
    refine s0 (x_assign (v := .slice _ _ _) rfl) ?_
    refine c_end ?_
    refine n_then ?_
    refine wp_ret ?_
    refine f_ret rfl rfl ?_
    rw [pairs_end hlv (.inl (by omega))]
    exact ⟨_, rfl, L, _, _, _, rfl, oz3, fz3.mono (by omega)⟩

/-- spec.NumOfLevel -/
theorem s_numOfLevel (v : Int) (w : World) (hv : -1073741824 ≤ v ∧ v ≤ 1073741824) :
    Calls Try.prog 194 [.int .i64 v].toArray w (Ret w (.int .i64 (numOf v))) := by
  have L : Exm [] w w := Exm.rfl'
  refine enter (n := 13) Try.func194 rfl rfl rfl ?_
  refine wp_seq ?_
  refine c_reg ?_
  refine s0 (x_assign (v := .int _ _) rfl) ?_
  refine c_end ?_
  refine n_then ?_
  refine wp_seq ?_
  refine wp_seq ?_
  refine c_reg ?_
  refine s0 (x_move (v := .int _ _) rfl) ?_
  refine sb (x_gtr rfl rfl) (fun h4 => ?_) (fun h4 => ?_)
  · refine c_end ?_
    refine n_then ?_
    refine c_true rfl ?_
    refine wp_seq ?_
    refine c_reg ?_
    refine s0 (x_move (v := .int _ _) rfl) ?_
    refine s0 (x_mul rfl rfl (by omega)) ?_
    refine s0 (x_sub rfl rfl (by omega)) ?_
    refine s0 (x_assign (v := .int _ _) rfl) ?_
    refine c_end ?_
    refine n_then ?_
    refine wp_ret (r_then ?_)
    refine f_ret rfl rfl ?_
    exact ⟨ret_int (by unfold numOf; rw [if_pos h4]), L⟩
  · refine c_end ?_
    refine n_then ?_
    refine c_false rfl ?_
    refine c_skipn ?_
    refine n_then ?_
    refine wp_seq ?_
    refine wp_seq ?_
    refine c_reg ?_
    refine s0 (x_move (v := .int _ _) rfl) ?_
    refine sb (x_lss rfl rfl) (fun h9 => ?_) (fun h9 => ?_)
    · refine c_end ?_
      refine n_then ?_
      refine c_true rfl ?_
      refine wp_seq ?_
      refine c_reg ?_
      refine s0 (x_move (v := .int _ _) rfl) ?_
      refine s0 (x_mul rfl rfl (by omega)) ?_
      refine s0 (x_sub rfl rfl (by omega)) ?_
      refine s0 (x_assign (v := .int _ _) rfl) ?_
      refine c_end ?_
      refine n_then ?_
      refine wp_ret (r_then ?_)
      refine f_ret rfl rfl ?_
      exact ⟨ret_int (by unfold numOf; rw [if_neg h4, if_pos h9]), L⟩
    · refine c_end ?_
      refine n_then ?_
      refine c_false rfl ?_
      refine c_skipn ?_
      refine n_then ?_
      refine wp_seq ?_
      refine c_reg ?_
      refine s0 (x_assign (v := .int _ _) rfl) ?_
      refine c_end ?_
      refine n_then ?_
      refine wp_ret ?_
      refine f_ret rfl rfl ?_
      exact ⟨ret_int (by unfold numOf; rw [if_neg h4, if_neg h9]), L⟩

end Go.Proofs.Ytnehdmcilmlchaa
