/- What each function of this part returns, for every argument that meets its premises. -/
import Derived.Test.YtepnknffaecbdaaProg
import Derived.Test.YtepnknffaecbdaaVSxF
import Derived.Test.YtepnknffaecbdaaVPlY
import Derived.Test.YtepnknffaecbdaaVF1
import Derived.Test.YtepnknffaecbdaaVF4
import Derived.Test.YtepnknffaecbdaaVF7
import Derived.Test.YtepnknffaecbdaaVFC
import Derived.Test.YtepnknffaecbdaaVFD
namespace Go.Proofs.Ytepnknffaecbdaa
open Go.Sx Go.Pl Go.RowKit
theorem ag106FH : Ag Try.prog 106 3 := ⟨⟨_, Try.underlying106⟩, by kernel_rfl⟩
theorem bd106FH : Built Try.prog 106 [.int .i64 0, .int .i64 0, .slice none 0 0] #[(0, 1), (1, 1), (2, 1)] := ⟨_, Try.underlying106, by unfold ZeroV; kernel_rfl, fun w => by kernel_rfl⟩
theorem cl118FH : Callable Try.prog 118 := callable Try.func118 (by kernel_rfl) rfl
theorem cl152FH : Callable Try.prog 152 := callable Try.func152 (by kernel_rfl) rfl
theorem cl208FH : Callable Try.prog 208 := callable Try.func208 (by kernel_rfl) rfl
theorem cl218FH : Callable Try.prog 218 := callable Try.func218 (by kernel_rfl) rfl
theorem cl230FH : Callable Try.prog 230 := callable Try.func230 (by kernel_rfl) rfl
theorem cl248FH : Callable Try.prog 248 := callable Try.func248 (by kernel_rfl) rfl
theorem cl32FH : Callable Try.prog 32 := callable Try.func32 (by kernel_rfl) rfl
theorem cl36FH : Callable Try.prog 36 := callable Try.func36 (by kernel_rfl) rfl
theorem cl37FH : Callable Try.prog 37 := callable Try.func37 (by kernel_rfl) rfl
theorem cl44FH : Callable Try.prog 44 := callable Try.func44 (by kernel_rfl) rfl
theorem cl88FH : Callable Try.prog 88 := callable Try.func88 (by kernel_rfl) rfl
theorem cl95FH : Callable Try.prog 95 := callable Try.func95 (by kernel_rfl) rfl
theorem fa100_0FH : FieldAt Try.prog 100 0 0 := ⟨_, _, Try.underlying100, rfl, rfl, ⟨0, by unfold Sz; kernel_rfl⟩⟩
theorem fa100_1FH : FieldAt Try.prog 100 1 1 := ⟨_, _, Try.underlying100, rfl, rfl, ⟨0, by unfold Sz; kernel_rfl⟩⟩
theorem fa100_2FH : FieldAt Try.prog 100 2 2 := ⟨_, _, Try.underlying100, rfl, rfl, ⟨0, by unfold Sz; kernel_rfl⟩⟩
theorem fa106_0FH : FieldAt Try.prog 106 0 0 := ⟨_, _, Try.underlying106, rfl, rfl, ⟨0, by unfold Sz; kernel_rfl⟩⟩
theorem fa106_1FH : FieldAt Try.prog 106 1 1 := ⟨_, _, Try.underlying106, rfl, rfl, ⟨0, by unfold Sz; kernel_rfl⟩⟩
theorem fa106_2FH : FieldAt Try.prog 106 2 2 := ⟨_, _, Try.underlying106, rfl, rfl, ⟨0, by unfold Sz; kernel_rfl⟩⟩
theorem sc3FH : Sc Try.prog 3 := ⟨(.int .i64), by kernel_rfl, trivial⟩
theorem sc40FH : Sc Try.prog 40 := ⟨(.slice 3), by kernel_rfl, trivial⟩
theorem so40FH : SliceOf Try.prog 40 3 1 8 := ⟨by kernel_rfl, by kernel_rfl⟩
theorem sz106FH : Sz Try.prog 106 3 := by unfold Sz; kernel_rfl
theorem sz3FH : Sz Try.prog 3 1 := by unfold Sz; kernel_rfl
theorem sz40FH : Sz Try.prog 40 1 := by unfold Sz; kernel_rfl
theorem un40FH : Try.prog.underlying 40 = some (.slice 3) := by kernel_rfl
theorem zr106FH : ZeroV Try.prog 106 [.int .i64 0, .int .i64 0, .slice none 0 0] := by unfold ZeroV; kernel_rfl
theorem zr3FH : ZeroV Try.prog 3 [.int .i64 0] := by unfold ZeroV; kernel_rfl
theorem x_quot {P : Program} {n : Nat} {E : Env} {T T' ty : TypeId} {x y : Operand} {a b : Int} (hx : opd n E x = .int .i64 a) (hy : opd n E y = .int .i64 b) (ha : -9223372036854775807 ≤ a ∧ a ≤ 9223372036854775807) (hb : 0 < b) : X0 P n E (.binOp .quo T x y T') ty (.int .i64 (a.tdiv b)) := by
  have h := x_quok (P := P) (T := T) (T' := T') (ty := ty) hx hy (by omega)
  have h2 := tdiv_range hb ha
  rwa [wrap_in ⟨by omega, by omega⟩] at h

/-- impl.limited -/
theorem i_limited (n lo hi : Int) (w : World) :
    Calls Try.prog 231 [.int .i64 n, .int .i64 lo, .int .i64 hi].toArray w (Ret w (.int .i64 (max lo (min n hi)))) := by
  have L : Exm [] w w := Exm.rfl'
  refine enter (n := 12) Try.func231 rfl rfl rfl ?_
  refine wp_seq ?_
  refine c_reg ?_
  refine s0 (x_assign (v := .int _ _) rfl) ?_
  refine c_end ?_
  refine n_then ?_
  refine wp_seq ?_
  refine c_reg ?_
  refine s0 (x_move (v := .int _ _) rfl) ?_
  refine s0 (x_move (v := .int _ _) rfl) ?_
  refine s0 (x_move (v := .int _ _) rfl) ?_
  refine s0 (x_min rfl rfl) ?_
  refine s0 (x_max rfl rfl) ?_
  refine s0 (x_assign (v := .int _ _) rfl) ?_
  refine c_end ?_
  refine n_then ?_
  refine wp_ret ?_
  refine f_ret rfl rfl ?_
  exact ⟨rfl, L⟩

/-- impl.floorDiv -/
theorem i_floorDiv (a b : Int) (w : World) (ha : -4611686018427387904 ≤ a ∧ a ≤ 4611686018427387904) (hb : 0 < b ∧ b ≤ 1099511627776) :
    Calls Try.prog 261 [.int .i64 a, .int .i64 b].toArray w (Ret w (.int .i64 (a / b))) := by
  have hq := floor_eq (a := a) hb.1
  have htr := tdiv_range (a := a) hb.1 (by omega)
  have hts := tdiv_small (a := a) hb.1 ha
  have L : Exm [] w w := Exm.rfl'
  refine enter (n := 16) Try.func261 rfl rfl rfl ?_
  refine wp_seq ?_
  refine c_reg ?_
  refine s0 (x_assign (v := .int _ _) rfl) ?_
  refine c_end ?_
  refine n_then ?_
  refine wp_seq ?_
  refine c_reg ?_
  refine s0 (x_move (v := .int _ _) rfl) ?_
  refine s0 (x_move (v := .int _ _) rfl) ?_
  refine s0 (x_quot rfl rfl (by omega) (by omega)) ?_
  refine s0 (x_assign (v := .int _ _) rfl) ?_
  refine c_end ?_
  refine n_then ?_
  refine wp_seq ?_
  refine wp_seq ?_
  refine c_reg ?_
  refine s0 (x_move (v := .int _ _) rfl) ?_
  refine s0 (x_move (v := .int _ _) rfl) ?_
  refine s0 (x_remk rfl rfl (by omega)) ?_
  refine sb (x_lss rfl rfl) (fun h12 => ?_) (fun h12 => ?_)
  · refine c_end ?_
    refine n_then ?_
    refine c_true rfl ?_
    refine c_reg ?_
    refine s0 (x_move (v := .int _ _) rfl) ?_
    refine s0 (x_sub rfl rfl (by omega)) ?_
    refine s0 (x_assign (v := .int _ _) rfl) ?_
    refine c_end ?_
    refine n_then ?_
    refine wp_seq ?_
    refine c_reg ?_
    refine s0 (x_move (v := .int _ _) rfl) ?_
    refine s0 (x_assign (v := .int _ _) rfl) ?_
    refine c_end ?_
    refine n_then ?_
    refine wp_ret ?_
    refine f_ret rfl rfl ?_
    exact ⟨ret_int (by rw [if_pos h12] at hq; exact hq), L⟩
  · refine c_end ?_
    refine n_then ?_
    refine c_false rfl ?_
    refine c_skipn ?_
    refine n_then ?_
    refine wp_seq ?_
    refine c_reg ?_
    refine s0 (x_move (v := .int _ _) rfl) ?_
    refine s0 (x_assign (v := .int _ _) rfl) ?_
    refine c_end ?_
    refine n_then ?_
    refine wp_ret ?_
    refine f_ret rfl rfl ?_
    exact ⟨ret_int (by rw [if_neg h12] at hq; exact hq), L⟩

/-- spec.l12Floor -/
theorem s_floor (a b : Int) (w : World) (ha : -4611686018427387904 ≤ a ∧ a ≤ 4611686018427387904) (hb : 0 < b ∧ b ≤ 1099511627776) :
    Calls Try.prog 252 [.int .i64 a, .int .i64 b].toArray w (Ret w (.int .i64 (a / b))) := by
  have hfu := floor_up (a := a) hb.1
  have hdr : a < 0 → 0 ≤ (-a + b - 1) / b ∧ (-a + b - 1) / b ≤ -a + b - 1 := fun h => ⟨Int.ediv_nonneg (by omega) (by omega), Int.ediv_le_self _ (by omega)⟩
  have L : Exm [] w w := Exm.rfl'
  refine enter (n := 18) Try.func252 rfl rfl rfl ?_
  refine wp_seq ?_
  refine c_reg ?_
  refine s0 (x_assign (v := .int _ _) rfl) ?_
  refine c_end ?_
  refine n_then ?_
  refine wp_seq ?_
  refine wp_seq ?_
  refine c_reg ?_
  refine s0 (x_move (v := .int _ _) rfl) ?_
  refine sb (x_lss rfl rfl) (fun h6 => ?_) (fun h6 => ?_)
  · refine c_end ?_
    refine n_then ?_
    refine c_true rfl ?_
    refine wp_seq ?_
    refine c_reg ?_
    refine s0 (x_move (v := .int _ _) rfl) ?_
    refine s0 (x_neg rfl (by omega)) ?_
    refine s0 (x_move (v := .int _ _) rfl) ?_
    refine s0 (x_add rfl rfl (by omega)) ?_
    refine s0 (x_sub rfl rfl (by omega)) ?_
    refine s0 (x_move (v := .int _ _) rfl) ?_
    refine s0 (x_quo rfl rfl (by omega) (by omega)) ?_
    refine s0 (x_neg rfl (by omega)) ?_
    refine s0 (x_assign (v := .int _ _) rfl) ?_
    refine c_end ?_
    refine n_then ?_
    refine wp_ret (r_then ?_)
    refine f_ret rfl rfl ?_
    exact ⟨ret_int hfu, L⟩
  · refine c_end ?_
    refine n_then ?_
    refine c_false rfl ?_
    refine c_skipn ?_
    refine n_then ?_
    refine wp_seq ?_
    refine c_reg ?_
    refine s0 (x_move (v := .int _ _) rfl) ?_
    refine s0 (x_move (v := .int _ _) rfl) ?_
    refine s0 (x_quo rfl rfl (by omega) (by omega)) ?_
    refine s0 (x_assign (v := .int _ _) rfl) ?_
    refine c_end ?_
    refine n_then ?_
    refine wp_ret ?_
    refine f_ret rfl rfl ?_
    exact ⟨rfl, L⟩

/-- spec.l15Clip -/
theorem s_clip (n : Int) (w : World) :
    Calls Try.prog 220 [.int .i64 n].toArray w (Ret w (.int .i64 (clip n))) := by
  have L : Exm [] w w := Exm.rfl'
  refine enter (n := 6) Try.func220 rfl rfl rfl ?_
  refine wp_seq ?_
  refine c_reg ?_
  refine s0 (x_assign (v := .int _ _) rfl) ?_
  refine c_end ?_
  refine n_then ?_
  refine wp_seq ?_
  refine c_reg ?_
  refine s0 (x_move (v := .int _ _) rfl) ?_
  refine s0 (x_min rfl rfl) ?_
  refine s0 (x_max rfl rfl) ?_
  refine s0 (x_assign (v := .int _ _) rfl) ?_
  refine c_end ?_
  refine n_then ?_
  refine wp_ret ?_
  refine f_ret rfl rfl ?_
  exact ⟨ret_int (by unfold clip; omega), L⟩

/-- impl.allWithin -/
theorem i_allWithin (lo hi : Int) (p : Option Addr) (n c : Nat) (xs : List Int) (w : World) (hp : Sl w p n c 1 (ic xs)) (hl : n ≤ 1099511627776) :
    Calls Try.prog 230 [.slice p n c, .int .i64 lo, .int .i64 hi].toArray w (Ret w (.bool (decide (allIn lo hi xs)))) := by
  have hn := hp.n
  have L : Exm [] w w := Exm.rfl'
  refine enter (n := 21) Try.func230 rfl rfl rfl ?_
  refine wp_seq ?_
  refine c_reg ?_
  refine s0 (x_assign (v := .bool _) rfl) ?_
  refine c_end ?_
  refine n_then ?_
  refine wp_seq ?_
  refine wp_seq ?_
  refine c_reg ?_
  refine s0 (x_move (v := .slice _ _ _) rfl) ?_
  refine s0 (x_lensl un40FH rfl) ?_
  refine s0 (x_move (v := .int _ _) rfl) ?_
  refine c_end ?_
  refine n_then ?_
  refine wp_block ?_
  refine c_loop (γ := Nat) (fun k => n - k) (fun (k : Nat) E wl => ∃ E0, E = upd (upd (upd (upd (upd E0 1 (.int .i64 lo)) 2 (.int .i64 hi)) 9 (.slice p n c)) 10 (.int .i64 n)) 11 (.int .i64 (k : Int)) ∧ (Exm [] w wl) ∧ ((k : Int) ≤ n) ∧ (∀ j : Nat, j < k → lo ≤ xs.getD j 0 ∧ xs.getD j 0 ≤ hi)) 0 ⟨_, upd_self5 rfl rfl rfl rfl rfl, L, (by omega), (by intro j hj; omega)⟩ ?_
  rintro k E wl1 ⟨E0, rfl, L, hk, hall⟩
  have Lz0 := L.size
  refine wp_seq ?_
  refine c_reg ?_
  refine sb (x_lss rfl rfl) (fun h12 => ?_) (fun h12 => ?_)
  · refine c_end ?_
    refine n_then ?_
    refine wp_seq ?_
    refine c_true rfl ?_
    refine c_skipn ?_
    refine n_then ?_
    refine wp_seq ?_
    refine wp_block ?_
    refine wp_seq ?_
    refine c_reg ?_
    refine s0 (x_idx so40FH rfl rfl hp (by decide) (by omega) (by omega)) ?_
    refine st (x_ldi sc3FH rfl (hp.ext L) (by omega) (by omega)) ?_
    refine s0 (x_assign (v := .int _ _) rfl) ?_
    refine c_end ?_
    refine n_then ?_
    refine wp_seq ?_
    refine c_reg ?_
    refine s0 (x_move (v := .int _ _) rfl) ?_
    refine s0 (x_move (v := .int _ _) rfl) ?_
    refine s0 (x_move (v := .int _ _) rfl) ?_
    refine srb (zcall cl88FH rfl) (i_within _ _ _ _) (fun h18 w2 l3 => ?_) (fun h18 w2 l3 => ?_)
    · have z_l3 := l3.size
      have L := L.tr l3.up
      refine s0 (x_not rfl) ?_
      refine c_end ?_
      refine n_then ?_
      refine c_false rfl ?_
      refine c_skipn ?_
      refine n_block ?_
      refine n_then ?_
      refine c_reg ?_
      refine s0 (x_add rfl rfl (by omega)) ?_
      refine s0 (x_move (v := .int _ _) rfl) ?_
      refine c_end ?_
      exact c_round (g' := k + 1) (by omega) ⟨_, upd_self5 rfl rfl rfl rfl (vint (by omega)), L, (by omega), (upto_succ' hall (by simpa using h18))⟩
    · have z_l3 := l3.size
      have L := L.tr l3.up
      refine s0 (x_not rfl) ?_
      refine c_end ?_
      refine n_then ?_
      refine c_true rfl ?_
      refine wp_seq ?_
      refine c_reg ?_
      refine s0 (x_assign (v := .bool _) rfl) ?_
      refine c_end ?_
      refine n_then ?_
      refine wp_ret (r_block (r_then (r_then (r_block (r_then ?_)))))
      refine f_ret rfl rfl ?_
      exact ⟨ret_f (fun h => h18 (by simpa using h k (by omega))), L⟩
  · refine c_end ?_
    refine n_then ?_
    refine wp_seq ?_
    refine c_false rfl ?_
    refine wp_exit (e_then (e_then (e_here ?_)))
    refine n_then ?_
    refine wp_seq ?_
    refine c_reg ?_
    refine s0 (x_assign (v := .bool _) rfl) ?_
    refine c_end ?_
    refine n_then ?_
    refine wp_ret ?_
    refine f_ret rfl rfl ?_
    exact ⟨ret_t (fun j hj => hall j (by omega)), L⟩

/-- spec.l14Pix -/
theorem s_pix (p : Option Addr) (n c : Nat) (xs : List Int) (w : World) (hp : Sl w p n c 1 (ic xs)) (hl : n ≤ 1099511627776) :
    Calls Try.prog 218 [.slice p n c].toArray w (Ret w (.bool (decide (allIn 0 255 xs)))) := by
  have hn := hp.n
  have L : Exm [] w w := Exm.rfl'
  refine enter (n := 16) Try.func218 rfl rfl rfl ?_
  refine wp_seq ?_
  refine c_reg ?_
  refine s0 (x_assign (v := .bool _) rfl) ?_
  refine c_end ?_
  refine n_then ?_
  refine wp_seq ?_
  refine wp_seq ?_
  refine c_reg ?_
  refine s0 (x_assign (v := .int _ _) rfl) ?_
  refine c_end ?_
  refine n_then ?_
  refine wp_block ?_
  refine c_loop (γ := Nat) (fun k => n - k) (fun (k : Nat) E wl => ∃ E0, E = upd (upd E0 0 (.slice p n c)) 3 (.int .i64 (k : Int)) ∧ (Exm [] w wl) ∧ ((k : Int) ≤ n) ∧ (∀ j : Nat, j < k → 0 ≤ xs.getD j 0 ∧ xs.getD j 0 ≤ 255)) 0 ⟨_, upd_self2 rfl rfl, L, (by omega), (by intro j hj; omega)⟩ ?_
  rintro k E wl1 ⟨E0, rfl, L, hk, hall⟩
  have Lz0 := L.size
  refine wp_seq ?_
  refine wp_seq ?_
  refine c_reg ?_
  refine s0 (x_move (v := .int _ _) rfl) ?_
  refine s0 (x_move (v := .slice _ _ _) rfl) ?_
  refine s0 (x_lensl un40FH rfl) ?_
  refine sb (x_lss rfl rfl) (fun h7 => ?_) (fun h7 => ?_)
  · refine c_end ?_
    refine n_then ?_
    refine c_true rfl ?_
    refine c_skipn ?_
    refine n_then ?_
    refine wp_seq ?_
    refine wp_block ?_
    refine wp_seq ?_
    refine c_reg ?_
    refine s0 (x_move (v := .slice _ _ _) rfl) ?_
    refine s0 (x_move (v := .int _ _) rfl) ?_
    refine s0 (x_idx so40FH rfl rfl hp (by decide) (by omega) (by omega)) ?_
    refine st (x_ldi sc3FH rfl (hp.ext L) (by omega) (by omega)) ?_
    refine srb (zcall cl95FH rfl) (s_l1In _ _ _ _) (fun h14 w2 l3 => ?_) (fun h14 w2 l3 => ?_)
    · have z_l3 := l3.size
      have L := L.tr l3.up
      refine s0 (x_not rfl) ?_
      refine c_end ?_
      refine n_then ?_
      refine c_false rfl ?_
      refine c_skipn ?_
      refine n_block ?_
      refine n_then ?_
      refine c_reg ?_
      refine s0 (x_move (v := .int _ _) rfl) ?_
      refine s0 (x_add rfl rfl (by omega)) ?_
      refine s0 (x_assign (v := .int _ _) rfl) ?_
      refine c_end ?_
      exact c_round (g' := k + 1) (by omega) ⟨_, upd_self2 rfl (vint (by omega)), L, (by omega), (upto_succ' hall (by simpa using h14))⟩
    · have z_l3 := l3.size
      have L := L.tr l3.up
      refine s0 (x_not rfl) ?_
      refine c_end ?_
      refine n_then ?_
      refine c_true rfl ?_
      refine wp_seq ?_
      refine c_reg ?_
      refine s0 (x_assign (v := .bool _) rfl) ?_
      refine c_end ?_
      refine n_then ?_
      refine wp_ret (r_block (r_then (r_then (r_block (r_then ?_)))))
      refine f_ret rfl rfl ?_
      exact ⟨ret_f (fun h => h14 (by simpa using h k (by omega))), L⟩
  · refine c_end ?_
    refine n_then ?_
    refine c_false rfl ?_
    refine wp_exit (e_then (e_then (e_here ?_)))
    refine n_then ?_
    refine wp_seq ?_
    refine c_reg ?_
    refine s0 (x_assign (v := .bool _) rfl) ?_
    refine c_end ?_
    refine n_then ?_
    refine wp_ret ?_
    refine f_ret rfl rfl ?_
    exact ⟨ret_t (fun j hj => hall j (by omega)), L⟩

/-- impl.FrameOk -/
theorem i_frameOk (W H : Int) (p : Option Addr) (n c : Nat) (xs : List Int) (w : World) (hp : Sl w p n c 1 (ic xs)) (hl : n ≤ 1099511627776) :
    Calls Try.prog 229 [.agg [.int .i64 W, .int .i64 H, .slice p n c].toArray].toArray w (Ret w (.bool (decide (frOk W H xs)))) := by
  have hn := hp.n
  have L : Exm [] w w := Exm.rfl'
  refine enter (n := 24) Try.func229 rfl rfl rfl ?_
  refine wp_seq ?_
  refine c_reg ?_
  refine s_box rfl rfl ?_
  intro b1 w2 lob1 hib1 l3 B1
  have z_l3 := l3.size
  have L := L.tr l3.up
  refine s0 (x_assign (v := .bool _) rfl) ?_
  refine c_end ?_
  refine n_then ?_
  refine wp_seq ?_
  refine c_reg ?_
  refine s0 (x_fieldAddr fa106_0FH rfl) ?_
  refine st (x_loadB sc3FH rfl B1 rfl) ?_
  refine s0 (x_fieldAddr fa106_1FH rfl) ?_
  refine st (x_loadB sc3FH rfl B1 rfl) ?_
  refine srb (zcall cl118FH rfl) (i_sidesOk _ _ _) (fun h7 w4 l5 => ?_) (fun h7 w4 l5 => ?_)
  · have z_l5 := l5.size
    have L := L.tr l5.up
    have B1 := B1.ext l5
    refine s0 (x_move (v := .bool _) rfl) ?_
    refine gt rfl rfl rfl rfl ?_
    refine s0 (x_fieldAddr fa106_2FH rfl) ?_
    refine gt rfl rfl rfl rfl ?_
    refine st (x_loadB sc40FH rfl B1 rfl) ?_
    refine gt rfl rfl rfl rfl ?_
    refine s0 (x_lensl un40FH rfl) ?_
    refine gt rfl rfl rfl rfl ?_
    refine s0 (x_fieldAddr fa106_0FH rfl) ?_
    refine gt rfl rfl rfl rfl ?_
    refine st (x_loadB sc3FH rfl B1 rfl) ?_
    refine gt rfl rfl rfl rfl ?_
    refine s0 (x_fieldAddr fa106_1FH rfl) ?_
    refine gt rfl rfl rfl rfl ?_
    refine st (x_loadB sc3FH rfl B1 rfl) ?_
    refine gt rfl rfl rfl rfl ?_
    refine s0 (x_mul rfl rfl (by have hm := sides_mul h7; omega)) ?_
    refine gt rfl rfl rfl rfl ?_
    refine sb (x_eql rfl rfl) (fun h17 => ?_) (fun h17 => ?_)
    · refine s0 (x_pickt (v := .bool _) rfl rfl) ?_
      refine s0 (x_move (v := .bool _) rfl) ?_
      refine gt rfl rfl rfl rfl ?_
      refine s0 (x_fieldAddr fa106_2FH rfl) ?_
      refine gt rfl rfl rfl rfl ?_
      refine st (x_loadB sc40FH rfl B1 rfl) ?_
      refine gt rfl rfl rfl rfl ?_
      refine sr (zcall cl230FH rfl) (i_allWithin _ _ _ _ _ _ _ (hp.ext L) (by omega)) ?_
      intro w6 l7
      have z_l7 := l7.size
      have L := L.tr l7.up
      have B1 := B1.ext l7
      refine s0 (x_pickt (v := .bool _) rfl rfl) ?_
      refine s0 (x_assign (v := .bool _) rfl) ?_
      refine c_end ?_
      refine n_then ?_
      refine wp_ret ?_
      refine f_ret rfl rfl ?_
      exact ⟨ret_dec2 ⟨fun h => ⟨h7, by omega, h⟩, fun h => h.2.2⟩, L⟩
    · refine s0 (x_pickt (v := .bool _) rfl rfl) ?_
      refine s0 (x_move (v := .bool _) rfl) ?_
      refine gf rfl rfl rfl rfl ?_
      refine gf rfl rfl rfl rfl ?_
      refine gf rfl rfl rfl rfl ?_
      refine s0 (x_pickf (v := .bool _) rfl rfl) ?_
      refine s0 (x_assign (v := .bool _) rfl) ?_
      refine c_end ?_
      refine n_then ?_
      refine wp_ret ?_
      refine f_ret rfl rfl ?_
      exact ⟨ret_f (fun h => h17 (by have := h.2.1; omega)), L⟩
  · have z_l5 := l5.size
    have L := L.tr l5.up
    have B1 := B1.ext l5
    refine s0 (x_move (v := .bool _) rfl) ?_
    refine gf rfl rfl rfl rfl ?_
    refine gf rfl rfl rfl rfl ?_
    refine gf rfl rfl rfl rfl ?_
    refine gf rfl rfl rfl rfl ?_
    refine gf rfl rfl rfl rfl ?_
    refine gf rfl rfl rfl rfl ?_
    refine gf rfl rfl rfl rfl ?_
    refine gf rfl rfl rfl rfl ?_
    refine gf rfl rfl rfl rfl ?_
    refine s0 (x_pickf (v := .bool _) rfl rfl) ?_
    refine s0 (x_move (v := .bool _) rfl) ?_
    refine gf rfl rfl rfl rfl ?_
    refine gf rfl rfl rfl rfl ?_
    refine gf rfl rfl rfl rfl ?_
    refine s0 (x_pickf (v := .bool _) rfl rfl) ?_
    refine s0 (x_assign (v := .bool _) rfl) ?_
    refine c_end ?_
    refine n_then ?_
    refine wp_ret ?_
    refine f_ret rfl rfl ?_
    exact ⟨ret_f (fun h => h7 h.1), L⟩

/-- spec.FrameOk -/
theorem s_frameOk (W H : Int) (p : Option Addr) (n c : Nat) (xs : List Int) (w : World) (hp : Sl w p n c 1 (ic xs)) (hl : n ≤ 1099511627776) :
    Calls Try.prog 217 [.agg [.int .i64 W, .int .i64 H, .slice p n c].toArray].toArray w (Ret w (.bool (decide (frOk W H xs)))) := by
  have hn := hp.n
  have L : Exm [] w w := Exm.rfl'
  refine enter (n := 24) Try.func217 rfl rfl rfl ?_
  refine wp_seq ?_
  refine c_reg ?_
  refine s_box rfl rfl ?_
  intro b1 w2 lob1 hib1 l3 B1
  have z_l3 := l3.size
  have L := L.tr l3.up
  refine s0 (x_assign (v := .bool _) rfl) ?_
  refine c_end ?_
  refine n_then ?_
  refine wp_seq ?_
  refine c_reg ?_
  refine s0 (x_fieldAddr fa106_0FH rfl) ?_
  refine st (x_loadB sc3FH rfl B1 rfl) ?_
  refine s0 (x_fieldAddr fa106_1FH rfl) ?_
  refine st (x_loadB sc3FH rfl B1 rfl) ?_
  refine srb (zcall cl248FH rfl) (s_sidesOk _ _ _) (fun h7 w4 l5 => ?_) (fun h7 w4 l5 => ?_)
  · have z_l5 := l5.size
    have L := L.tr l5.up
    have B1 := B1.ext l5
    refine s0 (x_move (v := .bool _) rfl) ?_
    refine gt rfl rfl rfl rfl ?_
    refine s0 (x_fieldAddr fa106_2FH rfl) ?_
    refine gt rfl rfl rfl rfl ?_
    refine st (x_loadB sc40FH rfl B1 rfl) ?_
    refine gt rfl rfl rfl rfl ?_
    refine s0 (x_lensl un40FH rfl) ?_
    refine gt rfl rfl rfl rfl ?_
    refine s0 (x_fieldAddr fa106_0FH rfl) ?_
    refine gt rfl rfl rfl rfl ?_
    refine st (x_loadB sc3FH rfl B1 rfl) ?_
    refine gt rfl rfl rfl rfl ?_
    refine s0 (x_fieldAddr fa106_1FH rfl) ?_
    refine gt rfl rfl rfl rfl ?_
    refine st (x_loadB sc3FH rfl B1 rfl) ?_
    refine gt rfl rfl rfl rfl ?_
    refine s0 (x_mul rfl rfl (by have hm := sides_mul h7; omega)) ?_
    refine gt rfl rfl rfl rfl ?_
    refine sb (x_eql rfl rfl) (fun h17 => ?_) (fun h17 => ?_)
    · refine s0 (x_pickt (v := .bool _) rfl rfl) ?_
      refine s0 (x_move (v := .bool _) rfl) ?_
      refine gt rfl rfl rfl rfl ?_
      refine s0 (x_fieldAddr fa106_2FH rfl) ?_
      refine gt rfl rfl rfl rfl ?_
      refine st (x_loadB sc40FH rfl B1 rfl) ?_
      refine gt rfl rfl rfl rfl ?_
      refine sr (zcall cl218FH rfl) (s_pix _ _ _ _ _ (hp.ext L) (by omega)) ?_
      intro w6 l7
      have z_l7 := l7.size
      have L := L.tr l7.up
      have B1 := B1.ext l7
      refine s0 (x_pickt (v := .bool _) rfl rfl) ?_
      refine s0 (x_assign (v := .bool _) rfl) ?_
      refine c_end ?_
      refine n_then ?_
      refine wp_ret ?_
      refine f_ret rfl rfl ?_
      exact ⟨ret_dec2 ⟨fun h => ⟨h7, by omega, h⟩, fun h => h.2.2⟩, L⟩
    · refine s0 (x_pickt (v := .bool _) rfl rfl) ?_
      refine s0 (x_move (v := .bool _) rfl) ?_
      refine gf rfl rfl rfl rfl ?_
      refine gf rfl rfl rfl rfl ?_
      refine gf rfl rfl rfl rfl ?_
      refine s0 (x_pickf (v := .bool _) rfl rfl) ?_
      refine s0 (x_assign (v := .bool _) rfl) ?_
      refine c_end ?_
      refine n_then ?_
      refine wp_ret ?_
      refine f_ret rfl rfl ?_
      exact ⟨ret_f (fun h => h17 (by have := h.2.1; omega)), L⟩
  · have z_l5 := l5.size
    have L := L.tr l5.up
    have B1 := B1.ext l5
    refine s0 (x_move (v := .bool _) rfl) ?_
    refine gf rfl rfl rfl rfl ?_
    refine gf rfl rfl rfl rfl ?_
    refine gf rfl rfl rfl rfl ?_
    refine gf rfl rfl rfl rfl ?_
    refine gf rfl rfl rfl rfl ?_
    refine gf rfl rfl rfl rfl ?_
    refine gf rfl rfl rfl rfl ?_
    refine gf rfl rfl rfl rfl ?_
    refine gf rfl rfl rfl rfl ?_
    refine s0 (x_pickf (v := .bool _) rfl rfl) ?_
    refine s0 (x_move (v := .bool _) rfl) ?_
    refine gf rfl rfl rfl rfl ?_
    refine gf rfl rfl rfl rfl ?_
    refine gf rfl rfl rfl rfl ?_
    refine s0 (x_pickf (v := .bool _) rfl rfl) ?_
    refine s0 (x_assign (v := .bool _) rfl) ?_
    refine c_end ?_
    refine n_then ?_
    refine wp_ret ?_
    refine f_ret rfl rfl ?_
    exact ⟨ret_f (fun h => h7 h.1), L⟩

/-- (impl.Frame).own -/
theorem i_own (W H : Int) (p : Option Addr) (n c : Nat) (xs : List Int) (w : World) (hp : Sl w p n c 1 (ic xs)) (hl : n ≤ 1099511627776) :
    Calls Try.prog 165 [.agg [.int .i64 W, .int .i64 H, .slice p n c].toArray].toArray w (RetP w fun v w' => ∃ p' c' F', v = .agg [.int .i64 W, .int .i64 H, .slice p' n c'].toArray ∧ Own w' p' n c' 3 1 (ic xs) F' ∧ Fr w.heap.size F') := by
  obtain rfl : n = xs.length := hp.n
  have L : Exm [] w w := Exm.rfl'
  refine enter (n := 11) Try.func165 rfl rfl rfl ?_
  refine wp_seq ?_
  refine c_reg ?_
  refine s_box rfl rfl ?_
  intro b1 w2 lob1 hib1 l3 B1
  have z_l3 := l3.size
  have L := L.tr l3.up
  refine s_alloc zr106FH ?_
  intro b4 w5 lob4 hib4 l6 B4
  have z_l6 := l6.size
  have L := L.tr l6.up
  have B1 := B1.ext l6
  refine c_end ?_
  refine n_then ?_
  refine wp_seq ?_
  refine c_plan (fun wq => Exm [b4] w5 wq) 9 (.cons (0, 2) (.cons (1, 1) (.cons (2, 2) (.cons (3, 1) (.cons (4, 2) (.cons (5, 1) (.cons (6, 0) (.cons (7, 2) (.cons (8, 0) .nil))))))))) (by kernel_rfl) (by kernel_rfl) (Exm.drew _) ?_
  obtain ⟨w7, hwd⟩ : ∃ x, x = w5.drew := ⟨_, rfl⟩
  have l8 : Ext w5 w7 := by rw [hwd]; exact Exm.drew _
  rw [← hwd]; clear hwd
  have Lq : Exm [b4] w5 w7 := l8.up
  have qB1 := B1
  have qB4 := B4
  have qL := L
  have z_l8 := l8.size
  have L := L.tr l8.up
  have B1 := B1.ext l8
  have B4 := B4.ext l8
  refine p0 rfl (x_fieldAddr fa106_0FH rfl) ?_
  refine ps rfl (fun wq hwq => x_loadB sc3FH rfl (qB1.ne hwq (by omega)) rfl) ?_
  refine p0 rfl (x_fieldAddr fa106_1FH rfl) ?_
  refine ps rfl (fun wq hwq => x_loadB sc3FH rfl (qB1.ne hwq (by omega)) rfl) ?_
  refine p0 rfl (x_fieldAddr fa106_2FH rfl) ?_
  refine ps rfl (fun wq hwq => x_loadB sc40FH rfl (qB1.ne hwq (by omega)) rfl) ?_
  refine pu rfl ?_ (by rintro ⟨_, _, h, _⟩; cases h)
  refine sp (zcall cl208FH rfl) (g_clone _ _ _ _ (hp.ext L) (by omega)) ?_
  rintro v9 w9 l10 ⟨p9, c9, F9, rfl, o9, f9⟩
  have z_l10 := l10.size
  have L := L.tr l10.up
  have Lq := Lq.tr l10.up
  have B1 := B1.ext l10
  have B4 := B4.ext l10
  have g9 := o9.lt
  refine c_end ⟨rfl, fun h hS => Lq, ?_⟩
  refine p0 rfl (x_build (cs := [.int _ _, .int _ _, .slice _ _ _]) bd106FH (pts_cons (v := .int _ _) rfl (pts_cons (v := .int _ _) rfl (pts_cons (v := .slice _ _ _) rfl pts_nil))) rfl) ?_
  refine pu rfl ?_ (by rintro ⟨_, _, h, _⟩; cases h)
  refine s_storeAg rfl sz106FH rfl rfl B4 rfl rfl rfl ?_
  intro w11 l12 el12 B4
  have z_l12 := l12.size
  have L := L.fresh l12 (by omega)
  have Lq := Lq.within l12 (by simp)
  have B1 := B1.ne l12 (by omega)
  have o9 := o9.ne l12 (by first | assumption | exact nin_of f9 g9 (by omega))
  refine c_end ⟨rfl, fun h hS => Lq, ?_⟩
  refine p_nil (np_normal ?_)
  refine n_then ?_
  refine wp_ret ?_
  refine f_retc rfl rfl ag106FH B4 rfl ?_
  exact ⟨_, rfl, L, _, _, _, rfl, o9, f9.mono (by omega)⟩

/-- spec.l18Copy -/
theorem s_copy (W H : Int) (p : Option Addr) (n c : Nat) (xs : List Int) (w : World) (hp : Sl w p n c 1 (ic xs)) (hl : n ≤ 1099511627776) :
    Calls Try.prog 157 [.agg [.int .i64 W, .int .i64 H, .slice p n c].toArray].toArray w (RetP w fun v w' => ∃ p' c' F', v = .agg [.int .i64 W, .int .i64 H, .slice p' n c'].toArray ∧ Own w' p' n c' 3 1 (ic xs) F' ∧ Fr w.heap.size F') := by
  obtain rfl : n = xs.length := hp.n
  have L : Exm [] w w := Exm.rfl'
  refine enter (n := 12) Try.func157 rfl rfl rfl ?_
  refine wp_seq ?_
  refine c_reg ?_
  refine s_box rfl rfl ?_
  intro b1 w2 lob1 hib1 l3 B1
  have z_l3 := l3.size
  have L := L.tr l3.up
  refine s_alloc zr106FH ?_
  intro b4 w5 lob4 hib4 l6 B4
  have z_l6 := l6.size
  have L := L.tr l6.up
  have B1 := B1.ext l6
  refine c_end ?_
  refine n_then ?_
  refine wp_seq ?_
  refine c_plan (fun wq => Exm [b4] w5 wq) 10 (.cons (0, 2) (.cons (1, 1) (.cons (2, 2) (.cons (3, 1) (.cons (5, 2) (.cons (6, 1) (.cons (4, 0) (.cons (7, 0) (.cons (8, 2) (.cons (9, 0) .nil)))))))))) (by kernel_rfl) (by kernel_rfl) (Exm.drew _) ?_
  obtain ⟨w7, hwd⟩ : ∃ x, x = w5.drew := ⟨_, rfl⟩
  have l8 : Ext w5 w7 := by rw [hwd]; exact Exm.drew _
  rw [← hwd]; clear hwd
  have Lq : Exm [b4] w5 w7 := l8.up
  have qB1 := B1
  have qB4 := B4
  have qL := L
  have z_l8 := l8.size
  have L := L.tr l8.up
  have B1 := B1.ext l8
  have B4 := B4.ext l8
  refine p0 rfl (x_fieldAddr fa106_0FH rfl) ?_
  refine ps rfl (fun wq hwq => x_loadB sc3FH rfl (qB1.ne hwq (by omega)) rfl) ?_
  refine p0 rfl (x_fieldAddr fa106_1FH rfl) ?_
  refine ps rfl (fun wq hwq => x_loadB sc3FH rfl (qB1.ne hwq (by omega)) rfl) ?_
  refine p0 rfl (x_fieldAddr fa106_2FH rfl) ?_
  refine ps rfl (fun wq hwq => x_loadB sc40FH rfl (qB1.ne hwq (by omega)) rfl) ?_
  refine pu rfl ?_ (by rintro ⟨_, _, h, _⟩; cases h)
  refine s_bs0 so40FH ?_
  intro p7 F7 w9 l10 o7 f7 g7
  have o7 : Own w9 p7 0 0 3 1 (ic []) F7 := o7
  have z_l10 := l10.size
  have L := L.tr l10.up
  have Lq := Lq.tr l10.up
  have B1 := B1.ext l10
  have B4 := B4.ext l10
  refine c_end ⟨rfl, fun h hS => Lq, ?_⟩
  refine pu rfl ?_ (by rintro ⟨_, _, h, _⟩; cases h)
  refine s_appi (B := w7.heap.size) so40FH zr3FH rfl rfl (xs := _) o7 (hp.ext L) f7 (by omega) (by omega) (by omega) ?_
  intro p10 c10 F10 w11 l12 o10 hn10 k10 f10 g10
  have ab1_10 : b1 ∉ F10 := k10.nin (by first | assumption | exact nin_of f7 g7 (by omega)) (by omega)
  have B1 := B1.exm l12 (by first | assumption | exact nin_of f7 g7 (by omega))
  have ab4_10 : b4 ∉ F10 := k10.nin (by first | assumption | exact nin_of f7 g7 (by omega)) (by omega)
  have B4 := B4.exm l12 (by first | assumption | exact nin_of f7 g7 (by omega))
  have z_l12 := l12.size
  have L := L.freshL l12 f7 (by omega)
  have Lq := Lq.freshL l12 f7 (by omega)
  refine c_end ⟨rfl, fun h hS => Lq, ?_⟩
  refine p0 rfl (x_build (cs := [.int _ _, .int _ _, .slice _ _ _]) bd106FH (pts_cons (v := .int _ _) rfl (pts_cons (v := .int _ _) rfl (pts_cons (v := .slice _ _ _) rfl pts_nil))) rfl) ?_
  refine pu rfl ?_ (by rintro ⟨_, _, h, _⟩; cases h)
  refine s_storeAg rfl sz106FH rfl rfl B4 rfl rfl rfl ?_
  intro w13 l14 el14 B4
  have z_l14 := l14.size
  have L := L.fresh l14 (by omega)
  have Lq := Lq.within l14 (by simp)
  have B1 := B1.ne l14 (by omega)
  have o10 := o10.ne l14 (by first | assumption | exact nin_of f10 g10 (by omega))
  refine c_end ⟨rfl, fun h hS => Lq, ?_⟩
  refine p_nil (np_normal ?_)
  refine n_then ?_
  refine wp_ret ?_
  refine f_retc rfl rfl ag106FH B4 rfl ?_
  exact ⟨_, rfl, L, _, _, _, rfl, (by simpa using o10), f10.mono (by omega)⟩

/-- laws.szFrame -/
theorem l_szFrame (W H : Int) (p : Option Addr) (n c : Nat) (left : Int) (w : World) (hs : n ≤ 9223372036854775807) (hl : 0 ≤ left ∧ left ≤ 9223372036854775807) :
    Calls Try.prog 65 [.agg [.int .i64 W, .int .i64 H, .slice p n c].toArray, .int .i64 left].toArray w (Ret w (.int .i64 (szOf left n))) := by
  have L : Exm [] w w := Exm.rfl'
  refine enter (n := 12) Try.func65 rfl rfl rfl ?_
  refine wp_seq ?_
  refine c_reg ?_
  refine s_box rfl rfl ?_
  intro b1 w2 lob1 hib1 l3 B1
  have z_l3 := l3.size
  have L := L.tr l3.up
  refine s0 (x_assign (v := .int _ _) rfl) ?_
  refine c_end ?_
  refine n_then ?_
  refine wp_seq ?_
  refine c_reg ?_
  refine s0 (x_fieldAddr fa100_2FH rfl) ?_
  refine st (x_loadB sc40FH rfl B1 rfl) ?_
  refine s0 (x_move (v := .int _ _) rfl) ?_
  refine sr (zcall cl152FH rfl) (l_szIntS _ _ _ _ _ (by omega) (by omega)) ?_
  intro w4 l5
  have z_l5 := l5.size
  have L := L.tr l5.up
  have B1 := B1.ext l5
  refine s0 (x_assign (v := .int _ _) rfl) ?_
  refine c_end ?_
  refine n_then ?_
  refine wp_seq ?_
  refine wp_seq ?_
  refine c_reg ?_
  refine s0 (x_move (v := .int _ _) rfl) ?_
  refine sb (x_lss rfl rfl) (fun h10 => ?_) (fun h10 => ?_)
  · refine c_end ?_
    refine n_then ?_
    refine c_true rfl ?_
    refine wp_seq ?_
    refine c_reg ?_
    refine s0 (x_assign (v := .int _ _) rfl) ?_
    refine c_end ?_
    refine n_then ?_
    refine wp_ret (r_then ?_)
    refine f_ret rfl rfl ?_
    exact ⟨ret_int (by unfold szOf at h10 ⊢; split at h10 <;> simp_all <;> omega), L⟩
  · refine c_end ?_
    refine n_then ?_
    refine c_false rfl ?_
    refine c_skipn ?_
    refine n_then ?_
    refine wp_seq ?_
    refine c_reg ?_
    refine s0 (x_move (v := .int _ _) rfl) ?_
    refine s0 (x_assign (v := .int _ _) rfl) ?_
    refine c_end ?_
    refine n_then ?_
    refine wp_ret ?_
    refine f_ret rfl rfl ?_
    exact ⟨rfl, L⟩

/-- laws.toFrame -/
theorem l_toFrame (W H : Int) (p : Option Addr) (n c : Nat) (xs : List Int) (w : World) (hp : Sl w p n c 1 (ic xs)) (hl : n ≤ 1099511627776) :
    Calls Try.prog 69 [.agg [.int .i64 W, .int .i64 H, .slice p n c].toArray].toArray w (RetP w fun v w' => ∃ p' c' F', v = .agg [.int .i64 W, .int .i64 H, .slice p' n c'].toArray ∧ Own w' p' n c' 3 1 (ic xs) F' ∧ Fr w.heap.size F') := by
  obtain rfl : n = xs.length := hp.n
  have L : Exm [] w w := Exm.rfl'
  refine enter (n := 15) Try.func69 rfl rfl rfl ?_
  refine wp_seq ?_
  refine c_reg ?_
  refine s_box rfl rfl ?_
  intro b1 w2 lob1 hib1 l3 B1
  have z_l3 := l3.size
  have L := L.tr l3.up
  refine s_alloc zr106FH ?_
  intro b4 w5 lob4 hib4 l6 B4
  have z_l6 := l6.size
  have L := L.tr l6.up
  have B1 := B1.ext l6
  refine c_end ?_
  refine n_then ?_
  refine wp_seq ?_
  refine c_reg ?_
  refine s_alloc zr106FH ?_
  intro b7 w8 lob7 hib7 l9 B7
  have z_l9 := l9.size
  have L := L.tr l9.up
  have B1 := B1.ext l9
  have B4 := B4.ext l9
  refine c_end ?_
  refine n_then ?_
  refine wp_seq ?_
  refine c_reg ?_
  refine s0 (x_fieldAddr fa100_0FH rfl) ?_
  refine st (x_loadB sc3FH rfl B1 rfl) ?_
  refine s0 (x_fieldAddr fa106_0FH rfl) ?_
  refine s_store (v := .int _ _) (cs' := [_, _, _]) rfl sz3FH rfl rfl rfl rfl B7 rfl rfl ?_
  intro w10 l11 el11 B7
  have z_l11 := l11.size
  have L := L.fresh l11 (by omega)
  have B1 := B1.ne l11 (by omega)
  have B4 := B4.ne l11 (by omega)
  refine c_end ?_
  refine n_then ?_
  refine wp_seq ?_
  refine c_reg ?_
  refine s0 (x_fieldAddr fa100_1FH rfl) ?_
  refine st (x_loadB sc3FH rfl B1 rfl) ?_
  refine s0 (x_fieldAddr fa106_1FH rfl) ?_
  refine s_store (v := .int _ _) (cs' := [_, _, _]) rfl sz3FH rfl rfl rfl rfl B7 rfl rfl ?_
  intro w12 l13 el13 B7
  have z_l13 := l13.size
  have L := L.fresh l13 (by omega)
  have B1 := B1.ne l13 (by omega)
  have B4 := B4.ne l13 (by omega)
  refine c_end ?_
  refine n_then ?_
  refine wp_seq ?_
  refine c_reg ?_
  refine s0 (x_fieldAddr fa100_2FH rfl) ?_
  refine st (x_loadB sc40FH rfl B1 rfl) ?_
  refine sp (zcall cl32FH rfl) (l_toIntS _ _ _ _ (hp.ext L) (by omega)) ?_
  rintro v12 w14 l15 ⟨p12, c12, F12, rfl, o12, f12⟩
  have z_l15 := l15.size
  have L := L.tr l15.up
  have B1 := B1.ext l15
  have B4 := B4.ext l15
  have B7 := B7.ext l15
  have g12 := o12.lt
  refine s0 (x_fieldAddr fa106_2FH rfl) ?_
  refine s_store (v := .slice _ _ _) (cs' := [_, _, _]) rfl sz40FH rfl rfl rfl rfl B7 rfl rfl ?_
  intro w16 l17 el17 B7
  have z_l17 := l17.size
  have L := L.fresh l17 (by omega)
  have B1 := B1.ne l17 (by omega)
  have B4 := B4.ne l17 (by omega)
  have o12 := o12.ne l17 (by first | assumption | exact nin_of f12 g12 (by omega))
  refine c_end ?_
  refine n_then ?_
  refine wp_seq ?_
  refine c_reg ?_
  refine st (x_loadAgB ag106FH rfl B7 rfl) ?_
  refine s_storeAg rfl sz106FH rfl rfl B4 rfl rfl rfl ?_
  intro w18 l19 el19 B4
  have z_l19 := l19.size
  have L := L.fresh l19 (by omega)
  have B1 := B1.ne l19 (by omega)
  have B7 := B7.ne l19 (by omega)
  have o12 := o12.ne l19 (by first | assumption | exact nin_of f12 g12 (by omega))
  refine c_end ?_
  refine n_then ?_
  refine wp_ret ?_
  refine f_retc rfl rfl ag106FH B4 rfl ?_
  exact ⟨_, rfl, L, _, _, _, rfl, o12, f12.mono (by omega)⟩

/-- laws.eqFrame -/
theorem l_eqFrame (W H W' H' : Int) (p q : Option Addr) (n m c d : Nat) (xs ys : List Int) (w : World) (hp : Sl w p n c 1 (ic xs)) (hq : Sl w q m d 1 (ic ys)) (hl : n ≤ 1099511627776) :
    Calls Try.prog 73 [.agg [.int .i64 W, .int .i64 H, .slice p n c].toArray, .agg [.int .i64 W', .int .i64 H', .slice q m d].toArray].toArray w (Ret w (.bool (decide (W = W' ∧ H = H' ∧ xs = ys)))) := by
  obtain rfl : n = xs.length := hp.n
  obtain rfl : m = ys.length := hq.n
  have L : Exm [] w w := Exm.rfl'
  refine enter (n := 21) Try.func73 rfl rfl rfl ?_
  refine wp_seq ?_
  refine c_reg ?_
  refine s_box rfl rfl ?_
  intro b1 w2 lob1 hib1 l3 B1
  have z_l3 := l3.size
  have L := L.tr l3.up
  refine s_box rfl rfl ?_
  intro b4 w5 lob4 hib4 l6 B4
  have z_l6 := l6.size
  have L := L.tr l6.up
  have B1 := B1.ext l6
  refine s0 (x_assign (v := .bool _) rfl) ?_
  refine c_end ?_
  refine n_then ?_
  refine wp_seq ?_
  refine wp_seq ?_
  refine c_reg ?_
  refine s0 (x_fieldAddr fa106_0FH rfl) ?_
  refine st (x_loadB sc3FH rfl B1 rfl) ?_
  refine s0 (x_fieldAddr fa106_0FH rfl) ?_
  refine st (x_loadB sc3FH rfl B4 rfl) ?_
  refine sb (x_neq rfl rfl) (fun h9 => ?_) (fun h9 => ?_)
  · refine c_end ?_
    refine n_then ?_
    refine c_true rfl ?_
    refine wp_seq ?_
    refine c_reg ?_
    refine s0 (x_assign (v := .bool _) rfl) ?_
    refine c_end ?_
    refine n_then ?_
    refine wp_ret (r_then ?_)
    refine f_ret rfl rfl ?_
    exact ⟨ret_f (by simp_all), L⟩
  · refine c_end ?_
    refine n_then ?_
    refine c_false rfl ?_
    refine c_skipn ?_
    refine n_then ?_
    refine wp_seq ?_
    refine wp_seq ?_
    refine c_reg ?_
    refine s0 (x_fieldAddr fa106_1FH rfl) ?_
    refine st (x_loadB sc3FH rfl B1 rfl) ?_
    refine s0 (x_fieldAddr fa106_1FH rfl) ?_
    refine st (x_loadB sc3FH rfl B4 rfl) ?_
    refine sb (x_neq rfl rfl) (fun h14 => ?_) (fun h14 => ?_)
    · refine c_end ?_
      refine n_then ?_
      refine c_true rfl ?_
      refine wp_seq ?_
      refine c_reg ?_
      refine s0 (x_assign (v := .bool _) rfl) ?_
      refine c_end ?_
      refine n_then ?_
      refine wp_ret (r_then ?_)
      refine f_ret rfl rfl ?_
      exact ⟨ret_f (by simp_all), L⟩
    · refine c_end ?_
      refine n_then ?_
      refine c_false rfl ?_
      refine c_skipn ?_
      refine n_then ?_
      refine wp_seq ?_
      refine wp_seq ?_
      refine c_reg ?_
      refine s0 (x_fieldAddr fa106_2FH rfl) ?_
      refine st (x_loadB sc40FH rfl B1 rfl) ?_
      refine s0 (x_fieldAddr fa106_2FH rfl) ?_
      refine st (x_loadB sc40FH rfl B4 rfl) ?_
      refine srb (zcall cl36FH rfl) (l_eqIntS _ _ _ _ _ _ _ (hp.ext L) (hq.ext L) (by omega)) (fun h19 w7 l8 => ?_) (fun h19 w7 l8 => ?_)
      · have z_l8 := l8.size
        have L := L.tr l8.up
        have B1 := B1.ext l8
        have B4 := B4.ext l8
        refine s0 (x_not rfl) ?_
        refine c_end ?_
        refine n_then ?_
        refine c_false rfl ?_
        refine c_skipn ?_
        refine n_then ?_
        refine wp_seq ?_
        refine c_reg ?_
        refine s0 (x_assign (v := .bool _) rfl) ?_
        refine c_end ?_
        refine n_then ?_
        refine wp_ret ?_
        refine f_ret rfl rfl ?_
        exact ⟨ret_t (by simp_all), L⟩
      · have z_l8 := l8.size
        have L := L.tr l8.up
        have B1 := B1.ext l8
        have B4 := B4.ext l8
        refine s0 (x_not rfl) ?_
        refine c_end ?_
        refine n_then ?_
        refine c_true rfl ?_
        refine wp_seq ?_
        refine c_reg ?_
        refine s0 (x_assign (v := .bool _) rfl) ?_
        refine c_end ?_
        refine n_then ?_
        refine wp_ret (r_then ?_)
        refine f_ret rfl rfl ?_
        exact ⟨ret_f (by simp_all), L⟩

/-- laws.markFrame -/
theorem l_markFrame (W H : Int) (pA : Option Addr) (n c : Nat) (xs : List Int) (k : Int) (FA : List Nat) (w : World) (oA : Own w pA n c 3 1 (ic xs) FA) (hl : n ≤ 1099511627776) (hk : 0 ≤ k ∧ k ≤ 1099511627776) :
    Calls Try.prog 75 [.agg [.int .i64 W, .int .i64 H, .slice pA n c].toArray, .int .i64 k].toArray w (RetM FA w fun v w' => v = .int .i64 (k + n) ∧ Own w' pA n c 3 1 (ic (mkI k n)) FA) := by
  obtain rfl : n = xs.length := oA.n1
  have fA : Fr 0 FA := fun _ _ => Nat.zero_le _
  have gA := oA.lt
  have hnA := oA.n1
  have L : Exm FA w w := Exm.rfl'
  refine enter (n := 10) Try.func75 rfl rfl rfl ?_
  refine wp_seq ?_
  refine c_reg ?_
  refine s_box rfl rfl ?_
  intro b1 w2 lob1 hib1 l3 B1
  have z_l3 := l3.size
  have L := L.tr l3.up
  have oA := oA.ext l3
  refine s0 (x_assign (v := .int _ _) rfl) ?_
  refine c_end ?_
  refine n_then ?_
  refine wp_seq ?_
  refine c_reg ?_
  refine s0 (x_fieldAddr fa106_2FH rfl) ?_
  refine st (x_loadB sc40FH rfl B1 rfl) ?_
  refine s0 (x_move (v := .int _ _) rfl) ?_
  refine spm (zcall cl37FH rfl) (l_markIntS _ _ _ _ _ _ oA (by omega) (by omega)) ?_
  rintro v8 w4 l5 ⟨rfl, oA⟩
  have z_l5 := l5.size
  have L := L.withinL l5 (by simp)
  have B1 := B1.exm l5 (by first | assumption | exact nin_of fA gA (by omega))
  refine s0 (x_assign (v := .int _ _) rfl) ?_
  refine c_end ?_
  refine n_then ?_
  refine wp_seq ?_
  refine c_reg ?_
  refine s0 (x_move (v := .int _ _) rfl) ?_
  refine s0 (x_assign (v := .int _ _) rfl) ?_
  refine c_end ?_
  refine n_then ?_
  refine wp_ret ?_
  refine f_ret rfl rfl ?_
  exact ⟨_, rfl, L, rfl, oA⟩

/-- laws.heldFrame -/
theorem l_heldFrame (W H : Int) (p : Option Addr) (n c : Nat) (k : Int) (w : World) (hp : Sl w p n c 1 (ic (mkI k n))) (hl : n ≤ 1099511627776) (hk : 0 ≤ k ∧ k ≤ 1099511627776) :
    Calls Try.prog 77 [.agg [.int .i64 W, .int .i64 H, .slice p n c].toArray, .int .i64 k].toArray w (Ret w (.int .i64 (k + n))) := by
  have L : Exm [] w w := Exm.rfl'
  refine enter (n := 12) Try.func77 rfl rfl rfl ?_
  refine wp_seq ?_
  refine c_reg ?_
  refine s_box rfl rfl ?_
  intro b1 w2 lob1 hib1 l3 B1
  have z_l3 := l3.size
  have L := L.tr l3.up
  refine s0 (x_assign (v := .int _ _) rfl) ?_
  refine c_end ?_
  refine n_then ?_
  refine wp_seq ?_
  refine c_reg ?_
  refine s0 (x_fieldAddr fa106_2FH rfl) ?_
  refine st (x_loadB sc40FH rfl B1 rfl) ?_
  refine s0 (x_move (v := .int _ _) rfl) ?_
  refine sr (zcall cl44FH rfl) (l_heldIntS _ _ _ _ _ (hp.ext L) (by omega) (by omega)) ?_
  intro w4 l5
  have z_l5 := l5.size
  have L := L.tr l5.up
  have B1 := B1.ext l5
  refine s0 (x_assign (v := .int _ _) rfl) ?_
  refine c_end ?_
  refine n_then ?_
  refine wp_seq ?_
  refine wp_seq ?_
  refine c_reg ?_
  refine s0 (x_move (v := .int _ _) rfl) ?_
  refine sb (x_lss rfl rfl) (fun h10 => ?_) (fun h10 => ?_)
  · omega
  · refine c_end ?_
    refine n_then ?_
    refine c_false rfl ?_
    refine c_skipn ?_
    refine n_then ?_
    refine wp_seq ?_
    refine c_reg ?_
    refine s0 (x_move (v := .int _ _) rfl) ?_
    refine s0 (x_assign (v := .int _ _) rfl) ?_
    refine c_end ?_
    refine n_then ?_
    refine wp_ret ?_
    refine f_ret rfl rfl ?_
    exact ⟨rfl, L⟩

end Go.Proofs.Ytepnknffaecbdaa
