/- What each function of this part returns, for every argument that meets its premises. -/
import Derived.Test.YtepnknffaecbdaaProg
import Derived.Test.YtepnknffaecbdaaVSxF
import Derived.Test.YtepnknffaecbdaaVPlX
import Derived.Test.YtepnknffaecbdaaVF1
namespace Go.Proofs.Ytepnknffaecbdaa
open Go.Sx Go.Pl Go.RowKit
theorem ag42F4 : Ag Try.prog 42 6 := ⟨⟨_, Try.underlying42⟩, by kernel_rfl⟩
theorem cl152F4 : Callable Try.prog 152 := callable Try.func152 (by kernel_rfl) rfl
theorem cl32F4 : Callable Try.prog 32 := callable Try.func32 (by kernel_rfl) rfl
theorem cl36F4 : Callable Try.prog 36 := callable Try.func36 (by kernel_rfl) rfl
theorem cl88F4 : Callable Try.prog 88 := callable Try.func88 (by kernel_rfl) rfl
theorem cl95F4 : Callable Try.prog 95 := callable Try.func95 (by kernel_rfl) rfl
theorem fa42_0F4 : FieldAt Try.prog 42 0 0 := ⟨_, _, Try.underlying42, rfl, rfl, ⟨0, by unfold Sz; kernel_rfl⟩⟩
theorem fa42_1F4 : FieldAt Try.prog 42 1 1 := ⟨_, _, Try.underlying42, rfl, rfl, ⟨0, by unfold Sz; kernel_rfl⟩⟩
theorem fa42_2F4 : FieldAt Try.prog 42 2 2 := ⟨_, _, Try.underlying42, rfl, rfl, ⟨0, by unfold Sz; kernel_rfl⟩⟩
theorem fa42_3F4 : FieldAt Try.prog 42 3 3 := ⟨_, _, Try.underlying42, rfl, rfl, ⟨0, by unfold Sz; kernel_rfl⟩⟩
theorem fa42_4F4 : FieldAt Try.prog 42 4 4 := ⟨_, _, Try.underlying42, rfl, rfl, ⟨0, by unfold Sz; kernel_rfl⟩⟩
theorem fa42_5F4 : FieldAt Try.prog 42 5 5 := ⟨_, _, Try.underlying42, rfl, rfl, ⟨0, by unfold Sz; kernel_rfl⟩⟩
theorem fa91_0F4 : FieldAt Try.prog 91 0 0 := ⟨_, _, Try.underlying91, rfl, rfl, ⟨0, by unfold Sz; kernel_rfl⟩⟩
theorem fa91_1F4 : FieldAt Try.prog 91 1 1 := ⟨_, _, Try.underlying91, rfl, rfl, ⟨0, by unfold Sz; kernel_rfl⟩⟩
theorem fa91_2F4 : FieldAt Try.prog 91 2 2 := ⟨_, _, Try.underlying91, rfl, rfl, ⟨0, by unfold Sz; kernel_rfl⟩⟩
theorem fa91_3F4 : FieldAt Try.prog 91 3 3 := ⟨_, _, Try.underlying91, rfl, rfl, ⟨0, by unfold Sz; kernel_rfl⟩⟩
theorem fa91_4F4 : FieldAt Try.prog 91 4 4 := ⟨_, _, Try.underlying91, rfl, rfl, ⟨0, by unfold Sz; kernel_rfl⟩⟩
theorem fa91_5F4 : FieldAt Try.prog 91 5 5 := ⟨_, _, Try.underlying91, rfl, rfl, ⟨0, by unfold Sz; kernel_rfl⟩⟩
theorem sc3F4 : Sc Try.prog 3 := ⟨(.int .i64), by kernel_rfl, trivial⟩
theorem sc4F4 : Sc Try.prog 4 := ⟨.bool, by kernel_rfl, trivial⟩
theorem sc40F4 : Sc Try.prog 40 := ⟨(.slice 3), by kernel_rfl, trivial⟩
theorem so40F4 : SliceOf Try.prog 40 3 1 8 := ⟨by kernel_rfl, by kernel_rfl⟩
theorem sz3F4 : Sz Try.prog 3 1 := by unfold Sz; kernel_rfl
theorem sz4F4 : Sz Try.prog 4 1 := by unfold Sz; kernel_rfl
theorem sz40F4 : Sz Try.prog 40 1 := by unfold Sz; kernel_rfl
theorem sz42F4 : Sz Try.prog 42 6 := by unfold Sz; kernel_rfl
theorem un4F4 : Try.prog.underlying 4 = some .bool := by kernel_rfl
theorem un40F4 : Try.prog.underlying 40 = some (.slice 3) := by kernel_rfl
theorem zr3F4 : ZeroV Try.prog 3 [.int .i64 0] := by unfold ZeroV; kernel_rfl
theorem zr42F4 : ZeroV Try.prog 42 [.int .i64 0, .int .i64 0, .int .i64 0, .bool false, .bool false, .slice none 0 0] := by unfold ZeroV; kernel_rfl
/-- laws.szIntS -/
theorem l_szIntS (p : Option Addr) (n c : Nat) (left : Int) (w : World) (hs : n ≤ 9223372036854775807) (hl : 0 ≤ left ∧ left ≤ 9223372036854775807) :
    Calls Try.prog 152 [.slice p n c, .int .i64 left].toArray w (Ret w (.int .i64 (szOf left n))) := by
  have L : Exm [] w w := Exm.rfl'
  refine enter (n := 12) Try.func152 rfl rfl rfl ?_
  refine wp_seq ?_
  refine c_reg ?_
  refine s0 (x_assign (v := .int _ _) rfl) ?_
  refine c_end ?_
  refine n_then ?_
  refine wp_seq ?_
  refine c_reg ?_
  refine s0 (x_move (v := .int _ _) rfl) ?_
  refine s0 (x_move (v := .slice _ _ _) rfl) ?_
  refine s0 (x_lensl un40F4 rfl) ?_
  refine s0 (x_sub rfl rfl (by omega)) ?_
  refine s0 (x_assign (v := .int _ _) rfl) ?_
  refine c_end ?_
  refine n_then ?_
  refine wp_seq ?_
  refine wp_seq ?_
  refine c_reg ?_
  refine s0 (x_move (v := .int _ _) rfl) ?_
  refine sb (x_lss rfl rfl) (fun h10 => ?_) (fun h10 => ?_)
  · refine c_end ?_
    refine n_then ?_
    refine c_true rfl ?_
    refine wp_seq ?_
    refine c_reg ?_
    refine s0 (x_assign (v := .int _ _) rfl) ?_
    refine c_end ?_
    refine n_then ?_
    refine wp_ret (r_then ?_)
    refine f_ret rfl rfl ?_
    exact ⟨ret_int (by unfold szOf; rw [if_pos (by omega)]), L⟩
  · refine c_end ?_
    refine n_then ?_
    refine c_false rfl ?_
    refine c_skipn ?_
    refine n_then ?_
    refine wp_seq ?_
    refine c_reg ?_
    refine s0 (x_move (v := .int _ _) rfl) ?_
    refine s0 (x_assign (v := .int _ _) rfl) ?_
    refine c_end ?_
    refine n_then ?_
    refine wp_ret ?_
    refine f_ret rfl rfl ?_
    exact ⟨ret_int (by unfold szOf; rw [if_neg (by omega)]), L⟩

/-- laws.toIntS -/
theorem l_toIntS (p : Option Addr) (xs : List Int) (c : Nat) (w : World) (hp : Sl w p xs.length c 1 (ic xs)) (hl : xs.length ≤ 1099511627776) :
    Calls Try.prog 32 [.slice p xs.length c].toArray w (RetP w fun v w' => ∃ p' c' F', v = .slice p' xs.length c' ∧ Own w' p' xs.length c' 3 1 (ic xs) F' ∧ Fr w.heap.size F') := by
  have L : Exm [] w w := Exm.rfl'
  refine enter (n := 22) Try.func32 rfl rfl rfl ?_
  refine wp_seq ?_
  refine c_reg ?_
  refine s0 (x_assign (v := .slice _ _ _) rfl) ?_
  refine c_end ?_
  refine n_then ?_
  refine wp_seq ?_
  refine c_reg ?_
  refine s0 (x_move (v := .slice _ _ _) rfl) ?_
  refine s0 (x_lensl un40F4 rfl) ?_
  refine s_makei so40F4 zr3F4 rfl rfl (by omega) (by omega) (by omega) ?_
  intro p7 F7 w1 l2 o7 f7 g7
  have z_l2 := l2.size
  have L := L.tr l2.up
  have hn7 := o7.n1
  refine s0 (x_assign (v := .slice _ _ _) rfl) ?_
  refine c_end ?_
  refine n_then ?_
  refine wp_seq ?_
  refine wp_seq ?_
  refine c_reg ?_
  refine s0 (x_assign (v := .int _ _) rfl) ?_
  refine c_end ?_
  refine n_then ?_
  refine wp_block ?_
  refine c_loop (γ := Nat) (fun k => xs.length - k) (fun (k : Nat) E wl => ∃ E0, E = upd (upd (upd E0 0 (.slice p xs.length c)) 3 (.slice p7 xs.length xs.length)) 4 (.int .i64 (k : Int)) ∧ (Exm [] w wl) ∧ (w1.heap.size ≤ wl.heap.size) ∧ (Own wl p7 xs.length xs.length 3 1 (ic (fillk xs k)) F7) ∧ ((k : Int) ≤ xs.length)) 0 ⟨_, upd_self3 rfl rfl rfl, L, (by omega), (by rw [← fill0]; exact o7), (by omega)⟩ ?_
  rintro k E wl3 ⟨E0, rfl, L, Lz, o7, hk⟩
  have Lz0 := L.size
  have hfl := fill_length xs k (by omega)
  refine wp_seq ?_
  refine wp_seq ?_
  refine c_reg ?_
  refine s0 (x_move (v := .int _ _) rfl) ?_
  refine s0 (x_move (v := .slice _ _ _) rfl) ?_
  refine s0 (x_lensl un40F4 rfl) ?_
  refine sb (x_lss rfl rfl) (fun h11 => ?_) (fun h11 => ?_)
  · refine c_end ?_
    refine n_then ?_
    refine c_true rfl ?_
    refine c_skipn ?_
    refine n_then ?_
    refine wp_seq ?_
    refine wp_block ?_
    refine c_reg ?_
    refine s0 (x_move (v := .slice _ _ _) rfl) ?_
    refine s0 (x_move (v := .int _ _) rfl) ?_
    refine s0 (x_move (v := .slice _ _ _) rfl) ?_
    refine s0 (x_move (v := .int _ _) rfl) ?_
    refine s0 (x_idx so40F4 rfl rfl hp (by decide) (by omega) (by omega)) ?_
    refine st (x_ldi sc3F4 rfl (hp.ext L) (by omega) (by omega)) ?_
    refine s0 (x_idx so40F4 rfl rfl o7.sl (by decide) (by omega) (by omega)) ?_
    refine s_stoi rfl sz3F4 rfl rfl o7 (by omega) (by omega) ?_
    intro w4 l5 el5 o7
    have z_l5 := l5.size
    have L := L.freshL l5 f7 (by omega)
    have hnl5 := o7.n1
    refine c_end ?_
    refine n_block ?_
    refine n_then ?_
    refine c_reg ?_
    refine s0 (x_move (v := .int _ _) rfl) ?_
    refine s0 (x_add rfl rfl (by omega)) ?_
    refine s0 (x_assign (v := .int _ _) rfl) ?_
    refine c_end ?_
    rw [Int.toNat_natCast, fill_set xs k (by omega)] at o7
    exact c_round (g' := k + 1) (by omega) ⟨_, upd_self3 rfl rfl (vint (by omega)), L, (by omega), o7, (by omega)⟩
  · refine c_end ?_
    refine n_then ?_
    refine c_false rfl ?_
    refine wp_exit (e_then (e_then (e_here ?_)))
    refine n_then ?_
    refine wp_seq ?_
    refine c_reg ?_
    refine s0 (x_move (v := .slice _ _ _) rfl) ?_
    refine s0 (x_assign (v := .slice _ _ _) rfl) ?_
    refine c_end ?_
    refine n_then ?_
    refine wp_ret ?_
    refine f_ret rfl rfl ?_
    exact ⟨_, rfl, L, _, _, _, rfl, (by rw [show k = xs.length by omega, fill_all] at o7; exact o7), f7.mono (by omega)⟩

/-- laws.eqIntS -/
theorem l_eqIntS (p q : Option Addr) (xs ys : List Int) (c d : Nat) (w : World) (hp : Sl w p xs.length c 1 (ic xs)) (hq : Sl w q ys.length d 1 (ic ys)) (hl : xs.length ≤ 1099511627776) :
    Calls Try.prog 36 [.slice p xs.length c, .slice q ys.length d].toArray w (Ret w (.bool (decide (xs = ys)))) := by
  have L : Exm [] w w := Exm.rfl'
  refine enter (n := 26) Try.func36 rfl rfl rfl ?_
  refine wp_seq ?_
  refine c_reg ?_
  refine s0 (x_assign (v := .bool _) rfl) ?_
  refine c_end ?_
  refine n_then ?_
  refine wp_seq ?_
  refine wp_seq ?_
  refine c_reg ?_
  refine s0 (x_move (v := .slice _ _ _) rfl) ?_
  refine s0 (x_lensl un40F4 rfl) ?_
  refine s0 (x_move (v := .slice _ _ _) rfl) ?_
  refine s0 (x_lensl un40F4 rfl) ?_
  refine sb (x_neq rfl rfl) (fun h10 => ?_) (fun h10 => ?_)
  · refine c_end ?_
    refine n_then ?_
    refine c_true rfl ?_
    refine wp_seq ?_
    refine c_reg ?_
    refine s0 (x_assign (v := .bool _) rfl) ?_
    refine c_end ?_
    refine n_then ?_
    refine wp_ret (r_then ?_)
    refine f_ret rfl rfl ?_
    exact ⟨ret_f (fun h => h10 (by rw [h])), L⟩
  · refine c_end ?_
    refine n_then ?_
    refine c_false rfl ?_
    refine c_skipn ?_
    refine n_then ?_
    refine wp_seq ?_
    refine wp_seq ?_
    refine c_reg ?_
    refine s0 (x_assign (v := .int _ _) rfl) ?_
    refine c_end ?_
    refine n_then ?_
    refine wp_block ?_
    refine c_loop (γ := Nat) (fun k => xs.length - k) (fun (k : Nat) E wl => ∃ E0, E = upd (upd (upd E0 0 (.slice p xs.length c)) 1 (.slice q ys.length d)) 5 (.int .i64 (k : Int)) ∧ (Exm [] w wl) ∧ ((k : Int) ≤ xs.length) ∧ (∀ j : Nat, j < k → xs.getD j 0 = ys.getD j 0)) 0 ⟨_, upd_self3 rfl rfl rfl, L, (by omega), (by intro j hj; omega)⟩ ?_
    rintro k E wl1 ⟨E0, rfl, L, hk, heq⟩
    have Lz0 := L.size
    refine wp_seq ?_
    refine wp_seq ?_
    refine c_reg ?_
    refine s0 (x_move (v := .int _ _) rfl) ?_
    refine s0 (x_move (v := .slice _ _ _) rfl) ?_
    refine s0 (x_lensl un40F4 rfl) ?_
    refine sb (x_lss rfl rfl) (fun h14 => ?_) (fun h14 => ?_)
    · refine c_end ?_
      refine n_then ?_
      refine c_true rfl ?_
      refine c_skipn ?_
      refine n_then ?_
      refine wp_seq ?_
      refine wp_block ?_
      refine wp_seq ?_
      refine c_plan (fun wq => Exm [] wl1 wq) 9 (.cons (0, 2) (.cons (1, 2) (.cons (2, 2) (.cons (3, 1) (.cons (4, 2) (.cons (5, 2) (.cons (6, 2) (.cons (7, 1) (.cons (8, 2) .nil))))))))) (by kernel_rfl) (by kernel_rfl) (Exm.drew _) ?_
      obtain ⟨w2, hwd⟩ : ∃ x, x = wl1.drew := ⟨_, rfl⟩
      have l3 : Ext wl1 w2 := by rw [hwd]; exact Exm.drew _
      rw [← hwd]; clear hwd
      have Lq : Exm [] wl1 w2 := l3.up
      have qL := L
      have z_l3 := l3.size
      have L := L.tr l3.up
      refine p0 rfl (x_move (v := .slice _ _ _) rfl) ?_
      refine p0 rfl (x_move (v := .int _ _) rfl) ?_
      refine p0 rfl (x_idx so40F4 rfl rfl hp (by decide) (by omega) (by omega)) ?_
      refine ps rfl (fun wq hwq => x_ldi sc3F4 rfl ((hp.ext qL).ext hwq) (by omega) (by omega)) ?_
      refine p0 rfl (x_move (v := .slice _ _ _) rfl) ?_
      refine p0 rfl (x_move (v := .int _ _) rfl) ?_
      refine p0 rfl (x_idx so40F4 rfl rfl hq (by decide) (by omega) (by omega)) ?_
      refine ps rfl (fun wq hwq => x_ldi sc3F4 rfl ((hq.ext qL).ext hwq) (by omega) (by omega)) ?_
      refine pb rfl (x_neq rfl rfl) (fun h25 => ?_) (fun h25 => ?_)
      · refine p_nil (np_normal ?_)
        refine n_then ?_
        refine c_true rfl ?_
        refine wp_seq ?_
        refine c_reg ?_
        refine s0 (x_assign (v := .bool _) rfl) ?_
        refine c_end ?_
        refine n_then ?_
        refine wp_ret (r_block (r_then (r_then (r_block (r_then ?_)))))
        refine f_ret rfl rfl ?_
        exact ⟨ret_f (fun h => h25 (by rw [h])), L⟩
      · refine p_nil (np_normal ?_)
        refine n_then ?_
        refine c_false rfl ?_
        refine c_skipn ?_
        refine n_block ?_
        refine n_then ?_
        refine c_reg ?_
        refine s0 (x_move (v := .int _ _) rfl) ?_
        refine s0 (x_add rfl rfl (by omega)) ?_
        refine s0 (x_assign (v := .int _ _) rfl) ?_
        refine c_end ?_
        exact c_round (g' := k + 1) (by omega) ⟨_, upd_self3 rfl rfl (vint (by omega)), L, (by omega), (upto_succ heq (by simpa using h25))⟩
    · refine c_end ?_
      refine n_then ?_
      refine c_false rfl ?_
      refine wp_exit (e_then (e_then (e_here ?_)))
      refine n_then ?_
      refine wp_seq ?_
      refine c_reg ?_
      refine s0 (x_assign (v := .bool _) rfl) ?_
      refine c_end ?_
      refine n_then ?_
      refine wp_ret ?_
      refine f_ret rfl rfl ?_
      exact ⟨ret_t (getD_ext (by omega) fun j hj => heq j (by omega)), L⟩

/-- spec.StepOf -/
theorem s_stepOf (q : Int) (w : World) :
    Calls Try.prog 211 [.int .i64 q].toArray w (Ret w (.int .i64 (stepOf q))) := by
  have L : Exm [] w w := Exm.rfl'
  refine enter (n := 15) Try.func211 rfl rfl rfl ?_
  refine wp_seq ?_
  refine c_reg ?_
  refine s0 (x_assign (v := .int _ _) rfl) ?_
  refine c_end ?_
  refine n_then ?_
  refine wp_seq ?_
  refine wp_seq ?_
  refine c_reg ?_
  refine s0 (x_move (v := .int _ _) rfl) ?_
  refine srb (zcall cl95F4 rfl) (s_l1In _ _ _ _) (fun h4 w1 l2 => ?_) (fun h4 w1 l2 => ?_)
  · have z_l2 := l2.size
    have L := L.tr l2.up
    refine s0 (x_not rfl) ?_
    refine c_end ?_
    refine n_then ?_
    refine c_false rfl ?_
    refine c_skipn ?_
    refine n_then ?_
    refine wp_seq ?_
    have hst := step_range q h4
    have hsr := step_row q
    refine c_reg ?_
    refine s_bsi (xs := [_, _, _, _, _, _]) so40F4 zr3F4 (pts_cons rfl (pts_cons rfl (pts_cons rfl (pts_cons rfl (pts_cons rfl (pts_cons rfl pts_nil)))))) rfl rfl rfl ?_
    intro p6 F6 w3 l4 o6 f6 g6
    have z_l4 := l4.size
    have L := L.tr l4.up
    have hn6 := o6.n1
    refine s0 (x_move (v := .int _ _) rfl) ?_
    refine s0 (x_rem rfl rfl (by omega) (by omega)) ?_
    refine s0 (x_idx so40F4 rfl rfl o6.sl (by decide) (by omega) (by omega)) ?_
    refine st (x_ldi sc3F4 rfl o6.sl (by omega) (by omega)) ?_
    refine s0 (x_move (v := .int _ _) rfl) ?_
    refine s0 (x_quo rfl rfl (by omega) (by omega)) ?_
    refine s0 (x_shl rfl rfl (by omega) (by omega)) ?_
    refine s0 (x_quo rfl rfl (by omega) (by omega)) ?_
    refine s0 (x_assign (v := .int _ _) rfl) ?_
    refine c_end ?_
    refine n_then ?_
    refine wp_ret ?_
    refine f_ret rfl rfl ?_
    exact ⟨ret_int (by unfold stepOf; rw [if_pos h4]), L⟩
  · have z_l2 := l2.size
    have L := L.tr l2.up
    refine s0 (x_not rfl) ?_
    refine c_end ?_
    refine n_then ?_
    refine c_true rfl ?_
    refine wp_seq ?_
    refine c_reg ?_
    refine s0 (x_assign (v := .int _ _) rfl) ?_
    refine c_end ?_
    refine n_then ?_
    refine wp_ret (r_then ?_)
    refine f_ret rfl rfl ?_
    exact ⟨ret_int (by unfold stepOf; rw [if_neg h4]), L⟩

/-- impl.SidesOk -/
theorem i_sidesOk (a b : Int) (w : World) :
    Calls Try.prog 118 [.int .i64 a, .int .i64 b].toArray w (Ret w (.bool (decide (sidesOk a b)))) := by
  have L : Exm [] w w := Exm.rfl'
  refine enter (n := 21) Try.func118 rfl rfl rfl ?_
  refine wp_seq ?_
  refine c_reg ?_
  refine s0 (x_assign (v := .bool _) rfl) ?_
  refine c_end ?_
  refine n_then ?_
  refine wp_seq ?_
  refine c_reg ?_
  refine s0 (x_move (v := .int _ _) rfl) ?_
  refine srb (zcall cl88F4 rfl) (i_within _ _ _ _) (fun h6 w1 l2 => ?_) (fun h6 w1 l2 => ?_)
  · have z_l2 := l2.size
    have L := L.tr l2.up
    refine s0 (x_move (v := .bool _) rfl) ?_
    refine gt rfl rfl rfl rfl ?_
    refine s0 (x_move (v := .int _ _) rfl) ?_
    refine gt rfl rfl rfl rfl ?_
    refine srb (zcall cl88F4 rfl) (i_within _ _ _ _) (fun h9 w3 l4 => ?_) (fun h9 w3 l4 => ?_)
    · have z_l4 := l4.size
      have L := L.tr l4.up
      refine s0 (x_pickt (v := .bool _) rfl rfl) ?_
      refine s0 (x_move (v := .bool _) rfl) ?_
      refine gt rfl rfl rfl rfl ?_
      refine s0 (x_move (v := .int _ _) rfl) ?_
      refine gt rfl rfl rfl rfl ?_
      refine s0 (x_rem rfl rfl (by omega) (by omega)) ?_
      refine gt rfl rfl rfl rfl ?_
      refine sb (x_eql rfl rfl) (fun h14 => ?_) (fun h14 => ?_)
      · refine s0 (x_pickt (v := .bool _) rfl rfl) ?_
        refine s0 (x_move (v := .bool _) rfl) ?_
        refine gt rfl rfl rfl rfl ?_
        refine s0 (x_move (v := .int _ _) rfl) ?_
        refine gt rfl rfl rfl rfl ?_
        refine s0 (x_rem rfl rfl (by omega) (by omega)) ?_
        refine gt rfl rfl rfl rfl ?_
        refine s0 (x_eql rfl rfl) ?_
        refine s0 (x_pickt (v := .bool _) rfl rfl) ?_
        refine s0 (x_assign (v := .bool _) rfl) ?_
        refine c_end ?_
        refine n_then ?_
        refine wp_ret ?_
        refine f_ret rfl rfl ?_
        exact ⟨ret_dec2 (by unfold sidesOk; omega), L⟩
      · refine s0 (x_pickt (v := .bool _) rfl rfl) ?_
        refine s0 (x_move (v := .bool _) rfl) ?_
        refine gf rfl rfl rfl rfl ?_
        refine gf rfl rfl rfl rfl ?_
        refine gf rfl rfl rfl rfl ?_
        refine s0 (x_pickf (v := .bool _) rfl rfl) ?_
        refine s0 (x_assign (v := .bool _) rfl) ?_
        refine c_end ?_
        refine n_then ?_
        refine wp_ret ?_
        refine f_ret rfl rfl ?_
        exact ⟨ret_f (by unfold sidesOk; omega), L⟩
    · have z_l4 := l4.size
      have L := L.tr l4.up
      refine s0 (x_pickt (v := .bool _) rfl rfl) ?_
      refine s0 (x_move (v := .bool _) rfl) ?_
      refine gf rfl rfl rfl rfl ?_
      refine gf rfl rfl rfl rfl ?_
      refine gf rfl rfl rfl rfl ?_
      refine s0 (x_pickf (v := .bool _) rfl rfl) ?_
      refine s0 (x_move (v := .bool _) rfl) ?_
      refine gf rfl rfl rfl rfl ?_
      refine gf rfl rfl rfl rfl ?_
      refine gf rfl rfl rfl rfl ?_
      refine s0 (x_pickf (v := .bool _) rfl rfl) ?_
      refine s0 (x_assign (v := .bool _) rfl) ?_
      refine c_end ?_
      refine n_then ?_
      refine wp_ret ?_
      refine f_ret rfl rfl ?_
      exact ⟨ret_f (by unfold sidesOk; omega), L⟩
  · have z_l2 := l2.size
    have L := L.tr l2.up
    refine s0 (x_move (v := .bool _) rfl) ?_
    refine gf rfl rfl rfl rfl ?_
    refine gf rfl rfl rfl rfl ?_
    refine s0 (x_pickf (v := .bool _) rfl rfl) ?_
    refine s0 (x_move (v := .bool _) rfl) ?_
    refine gf rfl rfl rfl rfl ?_
    refine gf rfl rfl rfl rfl ?_
    refine gf rfl rfl rfl rfl ?_
    refine s0 (x_pickf (v := .bool _) rfl rfl) ?_
    refine s0 (x_move (v := .bool _) rfl) ?_
    refine gf rfl rfl rfl rfl ?_
    refine gf rfl rfl rfl rfl ?_
    refine gf rfl rfl rfl rfl ?_
    refine s0 (x_pickf (v := .bool _) rfl rfl) ?_
    refine s0 (x_assign (v := .bool _) rfl) ?_
    refine c_end ?_
    refine n_then ?_
    refine wp_ret ?_
    refine f_ret rfl rfl ?_
    exact ⟨ret_f (by unfold sidesOk; omega), L⟩

/-- spec.SidesOk -/
theorem s_sidesOk (a b : Int) (w : World) :
    Calls Try.prog 248 [.int .i64 a, .int .i64 b].toArray w (Ret w (.bool (decide (sidesOk a b)))) := by
  have L : Exm [] w w := Exm.rfl'
  refine enter (n := 21) Try.func248 rfl rfl rfl ?_
  refine wp_seq ?_
  refine c_reg ?_
  refine s0 (x_assign (v := .bool _) rfl) ?_
  refine c_end ?_
  refine n_then ?_
  refine wp_seq ?_
  refine c_reg ?_
  refine s0 (x_move (v := .int _ _) rfl) ?_
  refine srb (zcall cl95F4 rfl) (s_l1In _ _ _ _) (fun h6 w1 l2 => ?_) (fun h6 w1 l2 => ?_)
  · have z_l2 := l2.size
    have L := L.tr l2.up
    refine s0 (x_move (v := .bool _) rfl) ?_
    refine gt rfl rfl rfl rfl ?_
    refine s0 (x_move (v := .int _ _) rfl) ?_
    refine gt rfl rfl rfl rfl ?_
    refine srb (zcall cl95F4 rfl) (s_l1In _ _ _ _) (fun h9 w3 l4 => ?_) (fun h9 w3 l4 => ?_)
    · have z_l4 := l4.size
      have L := L.tr l4.up
      refine s0 (x_pickt (v := .bool _) rfl rfl) ?_
      refine s0 (x_move (v := .bool _) rfl) ?_
      refine gt rfl rfl rfl rfl ?_
      refine s0 (x_move (v := .int _ _) rfl) ?_
      refine gt rfl rfl rfl rfl ?_
      refine s0 (x_rem rfl rfl (by omega) (by omega)) ?_
      refine gt rfl rfl rfl rfl ?_
      refine sb (x_eql rfl rfl) (fun h14 => ?_) (fun h14 => ?_)
      · refine s0 (x_pickt (v := .bool _) rfl rfl) ?_
        refine s0 (x_move (v := .bool _) rfl) ?_
        refine gt rfl rfl rfl rfl ?_
        refine s0 (x_move (v := .int _ _) rfl) ?_
        refine gt rfl rfl rfl rfl ?_
        refine s0 (x_rem rfl rfl (by omega) (by omega)) ?_
        refine gt rfl rfl rfl rfl ?_
        refine s0 (x_eql rfl rfl) ?_
        refine s0 (x_pickt (v := .bool _) rfl rfl) ?_
        refine s0 (x_assign (v := .bool _) rfl) ?_
        refine c_end ?_
        refine n_then ?_
        refine wp_ret ?_
        refine f_ret rfl rfl ?_
        exact ⟨ret_dec2 (by unfold sidesOk; omega), L⟩
      · refine s0 (x_pickt (v := .bool _) rfl rfl) ?_
        refine s0 (x_move (v := .bool _) rfl) ?_
        refine gf rfl rfl rfl rfl ?_
        refine gf rfl rfl rfl rfl ?_
        refine gf rfl rfl rfl rfl ?_
        refine s0 (x_pickf (v := .bool _) rfl rfl) ?_
        refine s0 (x_assign (v := .bool _) rfl) ?_
        refine c_end ?_
        refine n_then ?_
        refine wp_ret ?_
        refine f_ret rfl rfl ?_
        exact ⟨ret_f (by unfold sidesOk; omega), L⟩
    · have z_l4 := l4.size
      have L := L.tr l4.up
      refine s0 (x_pickt (v := .bool _) rfl rfl) ?_
      refine s0 (x_move (v := .bool _) rfl) ?_
      refine gf rfl rfl rfl rfl ?_
      refine gf rfl rfl rfl rfl ?_
      refine gf rfl rfl rfl rfl ?_
      refine s0 (x_pickf (v := .bool _) rfl rfl) ?_
      refine s0 (x_move (v := .bool _) rfl) ?_
      refine gf rfl rfl rfl rfl ?_
      refine gf rfl rfl rfl rfl ?_
      refine gf rfl rfl rfl rfl ?_
      refine s0 (x_pickf (v := .bool _) rfl rfl) ?_
      refine s0 (x_assign (v := .bool _) rfl) ?_
      refine c_end ?_
      refine n_then ?_
      refine wp_ret ?_
      refine f_ret rfl rfl ?_
      exact ⟨ret_f (by unfold sidesOk; omega), L⟩
  · have z_l2 := l2.size
    have L := L.tr l2.up
    refine s0 (x_move (v := .bool _) rfl) ?_
    refine gf rfl rfl rfl rfl ?_
    refine gf rfl rfl rfl rfl ?_
    refine s0 (x_pickf (v := .bool _) rfl rfl) ?_
    refine s0 (x_move (v := .bool _) rfl) ?_
    refine gf rfl rfl rfl rfl ?_
    refine gf rfl rfl rfl rfl ?_
    refine gf rfl rfl rfl rfl ?_
    refine s0 (x_pickf (v := .bool _) rfl rfl) ?_
    refine s0 (x_move (v := .bool _) rfl) ?_
    refine gf rfl rfl rfl rfl ?_
    refine gf rfl rfl rfl rfl ?_
    refine gf rfl rfl rfl rfl ?_
    refine s0 (x_pickf (v := .bool _) rfl rfl) ?_
    refine s0 (x_assign (v := .bool _) rfl) ?_
    refine c_end ?_
    refine n_then ?_
    refine wp_ret ?_
    refine f_ret rfl rfl ?_
    exact ⟨ret_f (by unfold sidesOk; omega), L⟩

/-- laws.szHeader -/
theorem l_szHeader (a b q : Int) (y z : Bool) (p : Option Addr) (n c : Nat) (left : Int) (w : World) (hs : n ≤ 9223372036854775807) (hl : 0 ≤ left ∧ left ≤ 9223372036854775807) :
    Calls Try.prog 66 [.agg [.int .i64 a, .int .i64 b, .int .i64 q, .bool y, .bool z, .slice p n c].toArray, .int .i64 left].toArray w (Ret w (.int .i64 (szOf left n))) := by
  have L : Exm [] w w := Exm.rfl'
  refine enter (n := 12) Try.func66 rfl rfl rfl ?_
  refine wp_seq ?_
  refine c_reg ?_
  refine s_box rfl rfl ?_
  intro b1 w2 lob1 hib1 l3 B1
  have z_l3 := l3.size
  have L := L.tr l3.up
  refine s0 (x_assign (v := .int _ _) rfl) ?_
  refine c_end ?_
  refine n_then ?_
  refine wp_seq ?_
  refine c_reg ?_
  refine s0 (x_fieldAddr fa91_5F4 rfl) ?_
  refine st (x_loadB sc40F4 rfl B1 rfl) ?_
  refine s0 (x_move (v := .int _ _) rfl) ?_
  refine sr (zcall cl152F4 rfl) (l_szIntS _ _ _ _ _ (by omega) (by omega)) ?_
  intro w4 l5
  have z_l5 := l5.size
  have L := L.tr l5.up
  have B1 := B1.ext l5
  refine s0 (x_assign (v := .int _ _) rfl) ?_
  refine c_end ?_
  refine n_then ?_
  refine wp_seq ?_
  refine wp_seq ?_
  refine c_reg ?_
  refine s0 (x_move (v := .int _ _) rfl) ?_
  refine sb (x_lss rfl rfl) (fun h10 => ?_) (fun h10 => ?_)
  · refine c_end ?_
    refine n_then ?_
    refine c_true rfl ?_
    refine wp_seq ?_
    refine c_reg ?_
    refine s0 (x_assign (v := .int _ _) rfl) ?_
    refine c_end ?_
    refine n_then ?_
    refine wp_ret (r_then ?_)
    refine f_ret rfl rfl ?_
    exact ⟨ret_int (by unfold szOf at h10 ⊢; split at h10 <;> simp_all <;> omega), L⟩
  · refine c_end ?_
    refine n_then ?_
    refine c_false rfl ?_
    refine c_skipn ?_
    refine n_then ?_
    refine wp_seq ?_
    refine c_reg ?_
    refine s0 (x_move (v := .int _ _) rfl) ?_
    refine s0 (x_assign (v := .int _ _) rfl) ?_
    refine c_end ?_
    refine n_then ?_
    refine wp_ret ?_
    refine f_ret rfl rfl ?_
    exact ⟨rfl, L⟩

/-- laws.toHeader -/
theorem l_toHeader (a b q : Int) (y z : Bool) (p : Option Addr) (xs : List Int) (c : Nat) (w : World) (hp : Sl w p xs.length c 1 (ic xs)) (hl : xs.length ≤ 1099511627776) :
    Calls Try.prog 70 [.agg [.int .i64 a, .int .i64 b, .int .i64 q, .bool y, .bool z, .slice p xs.length c].toArray].toArray w (RetP w fun v w' => ∃ p' c' F', v = .agg [.int .i64 a, .int .i64 b, .int .i64 q, .bool y, .bool z, .slice p' xs.length c'].toArray ∧ Own w' p' xs.length c' 3 1 (ic xs) F' ∧ Fr w.heap.size F') := by
  have L : Exm [] w w := Exm.rfl'
  refine enter (n := 24) Try.func70 rfl rfl rfl ?_
  refine wp_seq ?_
  refine c_reg ?_
  refine s_box rfl rfl ?_
  intro b1 w2 lob1 hib1 l3 B1
  have z_l3 := l3.size
  have L := L.tr l3.up
  refine s_alloc zr42F4 ?_
  intro b4 w5 lob4 hib4 l6 B4
  have z_l6 := l6.size
  have L := L.tr l6.up
  have B1 := B1.ext l6
  refine c_end ?_
  refine n_then ?_
  refine wp_seq ?_
  refine c_reg ?_
  refine s_alloc zr42F4 ?_
  intro b7 w8 lob7 hib7 l9 B7
  have z_l9 := l9.size
  have L := L.tr l9.up
  have B1 := B1.ext l9
  have B4 := B4.ext l9
  refine c_end ?_
  refine n_then ?_
  refine wp_seq ?_
  refine c_reg ?_
  refine s0 (x_fieldAddr fa91_0F4 rfl) ?_
  refine st (x_loadB sc3F4 rfl B1 rfl) ?_
  refine s0 (x_fieldAddr fa42_0F4 rfl) ?_
  refine s_store (v := .int _ _) (cs' := [_, _, _, _, _, _]) rfl sz3F4 rfl rfl rfl rfl B7 rfl rfl ?_
  intro w10 l11 el11 B7
  have z_l11 := l11.size
  have L := L.fresh l11 (by omega)
  have B1 := B1.ne l11 (by omega)
  have B4 := B4.ne l11 (by omega)
  refine c_end ?_
  refine n_then ?_
  refine wp_seq ?_
  refine c_reg ?_
  refine s0 (x_fieldAddr fa91_1F4 rfl) ?_
  refine st (x_loadB sc3F4 rfl B1 rfl) ?_
  refine s0 (x_fieldAddr fa42_1F4 rfl) ?_
  refine s_store (v := .int _ _) (cs' := [_, _, _, _, _, _]) rfl sz3F4 rfl rfl rfl rfl B7 rfl rfl ?_
  intro w12 l13 el13 B7
  have z_l13 := l13.size
  have L := L.fresh l13 (by omega)
  have B1 := B1.ne l13 (by omega)
  have B4 := B4.ne l13 (by omega)
  refine c_end ?_
  refine n_then ?_
  refine wp_seq ?_
  refine c_reg ?_
  refine s0 (x_fieldAddr fa91_2F4 rfl) ?_
  refine st (x_loadB sc3F4 rfl B1 rfl) ?_
  refine s0 (x_fieldAddr fa42_2F4 rfl) ?_
  refine s_store (v := .int _ _) (cs' := [_, _, _, _, _, _]) rfl sz3F4 rfl rfl rfl rfl B7 rfl rfl ?_
  intro w14 l15 el15 B7
  have z_l15 := l15.size
  have L := L.fresh l15 (by omega)
  have B1 := B1.ne l15 (by omega)
  have B4 := B4.ne l15 (by omega)
  refine c_end ?_
  refine n_then ?_
  refine wp_seq ?_
  refine c_reg ?_
  refine s0 (x_fieldAddr fa91_3F4 rfl) ?_
  refine st (x_loadB sc4F4 rfl B1 rfl) ?_
  refine s0 (x_fieldAddr fa42_3F4 rfl) ?_
  refine s_store (v := .bool _) (cs' := [_, _, _, _, _, _]) rfl sz4F4 rfl rfl rfl rfl B7 rfl rfl ?_
  intro w16 l17 el17 B7
  have z_l17 := l17.size
  have L := L.fresh l17 (by omega)
  have B1 := B1.ne l17 (by omega)
  have B4 := B4.ne l17 (by omega)
  refine c_end ?_
  refine n_then ?_
  refine wp_seq ?_
  refine c_reg ?_
  refine s0 (x_fieldAddr fa91_4F4 rfl) ?_
  refine st (x_loadB sc4F4 rfl B1 rfl) ?_
  refine s0 (x_fieldAddr fa42_4F4 rfl) ?_
  refine s_store (v := .bool _) (cs' := [_, _, _, _, _, _]) rfl sz4F4 rfl rfl rfl rfl B7 rfl rfl ?_
  intro w18 l19 el19 B7
  have z_l19 := l19.size
  have L := L.fresh l19 (by omega)
  have B1 := B1.ne l19 (by omega)
  have B4 := B4.ne l19 (by omega)
  refine c_end ?_
  refine n_then ?_
  refine wp_seq ?_
  refine c_reg ?_
  refine s0 (x_fieldAddr fa91_5F4 rfl) ?_
  refine st (x_loadB sc40F4 rfl B1 rfl) ?_
  refine sp (zcall cl32F4 rfl) (l_toIntS _ _ _ _ (hp.ext L) (by omega)) ?_
  rintro v21 w20 l21 ⟨p21, c21, F21, rfl, o21, f21⟩
  have z_l21 := l21.size
  have L := L.tr l21.up
  have B1 := B1.ext l21
  have B4 := B4.ext l21
  have B7 := B7.ext l21
  have g21 := o21.lt
  refine s0 (x_fieldAddr fa42_5F4 rfl) ?_
  refine s_store (v := .slice _ _ _) (cs' := [_, _, _, _, _, _]) rfl sz40F4 rfl rfl rfl rfl B7 rfl rfl ?_
  intro w22 l23 el23 B7
  have z_l23 := l23.size
  have L := L.fresh l23 (by omega)
  have B1 := B1.ne l23 (by omega)
  have B4 := B4.ne l23 (by omega)
  have o21 := o21.ne l23 (by first | assumption | exact nin_of f21 g21 (by omega))
  refine c_end ?_
  refine n_then ?_
  refine wp_seq ?_
  refine c_reg ?_
  refine st (x_loadAgB ag42F4 rfl B7 rfl) ?_
  refine s_storeAg rfl sz42F4 rfl rfl B4 rfl rfl rfl ?_
  intro w24 l25 el25 B4
  have z_l25 := l25.size
  have L := L.fresh l25 (by omega)
  have B1 := B1.ne l25 (by omega)
  have B7 := B7.ne l25 (by omega)
  have o21 := o21.ne l25 (by first | assumption | exact nin_of f21 g21 (by omega))
  refine c_end ?_
  refine n_then ?_
  refine wp_ret ?_
  refine f_retc rfl rfl ag42F4 B4 rfl ?_
  exact ⟨_, rfl, L, _, _, _, rfl, o21, f21.mono (by omega)⟩

/-- laws.eqHeader -/
theorem l_eqHeader (a b q a' b' q' : Int) (y z y' z' : Bool) (p p2 : Option Addr) (xs ys : List Int) (c d : Nat) (w : World) (hp : Sl w p xs.length c 1 (ic xs)) (hq : Sl w p2 ys.length d 1 (ic ys)) (hl : xs.length ≤ 1099511627776) :
    Calls Try.prog 51 [.agg [.int .i64 a, .int .i64 b, .int .i64 q, .bool y, .bool z, .slice p xs.length c].toArray, .agg [.int .i64 a', .int .i64 b', .int .i64 q', .bool y', .bool z', .slice p2 ys.length d].toArray].toArray w (Ret w (.bool (decide (a = a' ∧ b = b' ∧ q = q' ∧ y = y' ∧ z = z' ∧ xs = ys)))) := by
  have L : Exm [] w w := Exm.rfl'
  refine enter (n := 36) Try.func51 rfl rfl rfl ?_
  refine wp_seq ?_
  refine c_reg ?_
  refine s_box rfl rfl ?_
  intro b1 w2 lob1 hib1 l3 B1
  have z_l3 := l3.size
  have L := L.tr l3.up
  refine s_box rfl rfl ?_
  intro b4 w5 lob4 hib4 l6 B4
  have z_l6 := l6.size
  have L := L.tr l6.up
  have B1 := B1.ext l6
  refine s0 (x_assign (v := .bool _) rfl) ?_
  refine c_end ?_
  refine n_then ?_
  refine wp_seq ?_
  refine wp_seq ?_
  refine c_reg ?_
  refine s0 (x_fieldAddr fa42_0F4 rfl) ?_
  refine st (x_loadB sc3F4 rfl B1 rfl) ?_
  refine s0 (x_fieldAddr fa42_0F4 rfl) ?_
  refine st (x_loadB sc3F4 rfl B4 rfl) ?_
  refine sb (x_neq rfl rfl) (fun h9 => ?_) (fun h9 => ?_)
  · refine c_end ?_
    refine n_then ?_
    refine c_true rfl ?_
    refine wp_seq ?_
    refine c_reg ?_
    refine s0 (x_assign (v := .bool _) rfl) ?_
    refine c_end ?_
    refine n_then ?_
    refine wp_ret (r_then ?_)
    refine f_ret rfl rfl ?_
    exact ⟨ret_f (by simp_all), L⟩
  · refine c_end ?_
    refine n_then ?_
    refine c_false rfl ?_
    refine c_skipn ?_
    refine n_then ?_
    refine wp_seq ?_
    refine wp_seq ?_
    refine c_reg ?_
    refine s0 (x_fieldAddr fa42_1F4 rfl) ?_
    refine st (x_loadB sc3F4 rfl B1 rfl) ?_
    refine s0 (x_fieldAddr fa42_1F4 rfl) ?_
    refine st (x_loadB sc3F4 rfl B4 rfl) ?_
    refine sb (x_neq rfl rfl) (fun h14 => ?_) (fun h14 => ?_)
    · refine c_end ?_
      refine n_then ?_
      refine c_true rfl ?_
      refine wp_seq ?_
      refine c_reg ?_
      refine s0 (x_assign (v := .bool _) rfl) ?_
      refine c_end ?_
      refine n_then ?_
      refine wp_ret (r_then ?_)
      refine f_ret rfl rfl ?_
      exact ⟨ret_f (by simp_all), L⟩
    · refine c_end ?_
      refine n_then ?_
      refine c_false rfl ?_
      refine c_skipn ?_
      refine n_then ?_
      refine wp_seq ?_
      refine wp_seq ?_
      refine c_reg ?_
      refine s0 (x_fieldAddr fa42_2F4 rfl) ?_
      refine st (x_loadB sc3F4 rfl B1 rfl) ?_
      refine s0 (x_fieldAddr fa42_2F4 rfl) ?_
      refine st (x_loadB sc3F4 rfl B4 rfl) ?_
      refine sb (x_neq rfl rfl) (fun h19 => ?_) (fun h19 => ?_)
      · refine c_end ?_
        refine n_then ?_
        refine c_true rfl ?_
        refine wp_seq ?_
        refine c_reg ?_
        refine s0 (x_assign (v := .bool _) rfl) ?_
        refine c_end ?_
        refine n_then ?_
        refine wp_ret (r_then ?_)
        refine f_ret rfl rfl ?_
        exact ⟨ret_f (by simp_all), L⟩
      · refine c_end ?_
        refine n_then ?_
        refine c_false rfl ?_
        refine c_skipn ?_
        refine n_then ?_
        refine wp_seq ?_
        refine wp_seq ?_
        refine c_reg ?_
        refine s0 (x_fieldAddr fa42_3F4 rfl) ?_
        refine st (x_loadB sc4F4 rfl B1 rfl) ?_
        refine s0 (x_fieldAddr fa42_3F4 rfl) ?_
        refine st (x_loadB sc4F4 rfl B4 rfl) ?_
        refine sb (x_neqb un4F4 rfl rfl) (fun h24 => ?_) (fun h24 => ?_)
        · refine c_end ?_
          refine n_then ?_
          refine c_true rfl ?_
          refine wp_seq ?_
          refine c_reg ?_
          refine s0 (x_assign (v := .bool _) rfl) ?_
          refine c_end ?_
          refine n_then ?_
          refine wp_ret (r_then ?_)
          refine f_ret rfl rfl ?_
          exact ⟨ret_f (by simp_all), L⟩
        · refine c_end ?_
          refine n_then ?_
          refine c_false rfl ?_
          refine c_skipn ?_
          refine n_then ?_
          refine wp_seq ?_
          refine wp_seq ?_
          refine c_reg ?_
          refine s0 (x_fieldAddr fa42_4F4 rfl) ?_
          refine st (x_loadB sc4F4 rfl B1 rfl) ?_
          refine s0 (x_fieldAddr fa42_4F4 rfl) ?_
          refine st (x_loadB sc4F4 rfl B4 rfl) ?_
          refine sb (x_neqb un4F4 rfl rfl) (fun h29 => ?_) (fun h29 => ?_)
          · refine c_end ?_
            refine n_then ?_
            refine c_true rfl ?_
            refine wp_seq ?_
            refine c_reg ?_
            refine s0 (x_assign (v := .bool _) rfl) ?_
            refine c_end ?_
            refine n_then ?_
            refine wp_ret (r_then ?_)
            refine f_ret rfl rfl ?_
            exact ⟨ret_f (by simp_all), L⟩
          · refine c_end ?_
            refine n_then ?_
            refine c_false rfl ?_
            refine c_skipn ?_
            refine n_then ?_
            refine wp_seq ?_
            refine wp_seq ?_
            refine c_reg ?_
            refine s0 (x_fieldAddr fa42_5F4 rfl) ?_
            refine st (x_loadB sc40F4 rfl B1 rfl) ?_
            refine s0 (x_fieldAddr fa42_5F4 rfl) ?_
            refine st (x_loadB sc40F4 rfl B4 rfl) ?_
            refine srb (zcall cl36F4 rfl) (l_eqIntS _ _ _ _ _ _ _ (hp.ext L) (hq.ext L) (by omega)) (fun h34 w7 l8 => ?_) (fun h34 w7 l8 => ?_)
            · have z_l8 := l8.size
              have L := L.tr l8.up
              have B1 := B1.ext l8
              have B4 := B4.ext l8
              refine s0 (x_not rfl) ?_
              refine c_end ?_
              refine n_then ?_
              refine c_false rfl ?_
              refine c_skipn ?_
              refine n_then ?_
              refine wp_seq ?_
              refine c_reg ?_
              refine s0 (x_assign (v := .bool _) rfl) ?_
              refine c_end ?_
              refine n_then ?_
              refine wp_ret ?_
              refine f_ret rfl rfl ?_
              exact ⟨ret_t (by simp_all), L⟩
            · have z_l8 := l8.size
              have L := L.tr l8.up
              have B1 := B1.ext l8
              have B4 := B4.ext l8
              refine s0 (x_not rfl) ?_
              refine c_end ?_
              refine n_then ?_
              refine c_true rfl ?_
              refine wp_seq ?_
              refine c_reg ?_
              refine s0 (x_assign (v := .bool _) rfl) ?_
              refine c_end ?_
              refine n_then ?_
              refine wp_ret (r_then ?_)
              refine f_ret rfl rfl ?_
              exact ⟨ret_f (by simp_all), L⟩

end Go.Proofs.Ytepnknffaecbdaa
