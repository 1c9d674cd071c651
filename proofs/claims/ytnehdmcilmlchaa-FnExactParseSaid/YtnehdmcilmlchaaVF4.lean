/- What each function of this part returns, for every argument that meets its premises. -/
import Derived.Test.YtnehdmcilmlchaaProg
import Derived.Test.YtnehdmcilmlchaaVSxF
import Derived.Test.YtnehdmcilmlchaaVPlX
import Derived.Test.YtnehdmcilmlchaaVF1
namespace Go.Proofs.Ytnehdmcilmlchaa
open Go.Sx Go.Pl Go.RowKit
theorem cl36F4 : Callable Try.prog 36 := callable Try.func36 (by kernel_rfl) rfl
theorem cl88F4 : Callable Try.prog 88 := callable Try.func88 (by kernel_rfl) rfl
theorem cl95F4 : Callable Try.prog 95 := callable Try.func95 (by kernel_rfl) rfl
theorem fa42_0F4 : FieldAt Try.prog 42 0 0 := ⟨_, _, Try.underlying42, rfl, rfl, ⟨0, by unfold Sz; kernel_rfl⟩⟩
theorem fa42_1F4 : FieldAt Try.prog 42 1 1 := ⟨_, _, Try.underlying42, rfl, rfl, ⟨0, by unfold Sz; kernel_rfl⟩⟩
theorem fa42_2F4 : FieldAt Try.prog 42 2 2 := ⟨_, _, Try.underlying42, rfl, rfl, ⟨0, by unfold Sz; kernel_rfl⟩⟩
theorem fa42_3F4 : FieldAt Try.prog 42 3 3 := ⟨_, _, Try.underlying42, rfl, rfl, ⟨0, by unfold Sz; kernel_rfl⟩⟩
theorem fa42_4F4 : FieldAt Try.prog 42 4 4 := ⟨_, _, Try.underlying42, rfl, rfl, ⟨0, by unfold Sz; kernel_rfl⟩⟩
theorem fa42_5F4 : FieldAt Try.prog 42 5 5 := ⟨_, _, Try.underlying42, rfl, rfl, ⟨0, by unfold Sz; kernel_rfl⟩⟩
theorem sc3F4 : Sc Try.prog 3 := ⟨(.int .i64), by kernel_rfl, trivial⟩
theorem sc4F4 : Sc Try.prog 4 := ⟨.bool, by kernel_rfl, trivial⟩
theorem sc40F4 : Sc Try.prog 40 := ⟨(.slice 3), by kernel_rfl, trivial⟩
theorem so40F4 : SliceOf Try.prog 40 3 1 8 := ⟨by kernel_rfl, by kernel_rfl⟩
theorem un4F4 : Try.prog.underlying 4 = some .bool := by kernel_rfl
theorem un40F4 : Try.prog.underlying 40 = some (.slice 3) := by kernel_rfl
/-- laws.eqIntS -/
theorem l_eqIntS (p q : Option Addr) (xs ys : List Int) (c d : Nat) (w : World) (hp : Sl w p xs.length c 1 (ic xs)) (hq : Sl w q ys.length d 1 (ic ys)) (hl : xs.length ≤ 1099511627776) :
    Calls Try.prog 36 [.slice p xs.length c, .slice q ys.length d].toArray w (Ret w (.bool (decide (xs = ys)))) := by
  have L : Exm [] w w := Exm.rfl'
  refine enter (n := 26) Try.func36 rfl rfl rfl ?_
  refine wp_seq ?_
  refine c_reg ?_
  refine s0 (x_assign (v := .bool _) rfl) ?_
  refine c_end ?_
  refine n_then ?_
  refine wp_seq ?_
  refine wp_seq ?_
  refine c_reg ?_
  refine s0 (x_move (v := .slice _ _ _) rfl) ?_
  refine s0 (x_lensl un40F4 rfl) ?_
  refine s0 (x_move (v := .slice _ _ _) rfl) ?_
  refine s0 (x_lensl un40F4 rfl) ?_
  refine sb (x_neq rfl rfl) (fun h10 => ?_) (fun h10 => ?_)
  · refine c_end ?_
    refine n_then ?_
    refine c_true rfl ?_
    refine wp_seq ?_
    refine c_reg ?_
    refine s0 (x_assign (v := .bool _) rfl) ?_
    refine c_end ?_
    refine n_then ?_
    refine wp_ret (r_then ?_)
    refine f_ret rfl rfl ?_
    exact ⟨ret_f (fun h => h10 (by rw [h])), L⟩
  · refine c_end ?_
    refine n_then ?_
    refine c_false rfl ?_
    refine c_skipn ?_
    refine n_then ?_
    refine wp_seq ?_
    refine wp_seq ?_
    refine c_reg ?_
    refine s0 (x_assign (v := .int _ _) rfl) ?_
    refine c_end ?_
    refine n_then ?_
    refine wp_block ?_
    refine c_loop (γ := Nat) (fun k => xs.length - k) (fun (k : Nat) E wl => ∃ E0, E = upd (upd (upd E0 0 (.slice p xs.length c)) 1 (.slice q ys.length d)) 5 (.int .i64 (k : Int)) ∧ (Exm [] w wl) ∧ ((k : Int) ≤ xs.length) ∧ (∀ j : Nat, j < k → xs.getD j 0 = ys.getD j 0)) 0 ⟨_, upd_self3 rfl rfl rfl, L, (by omega), (by intro j hj; omega)⟩ ?_
    rintro k E wl1 ⟨E0, rfl, L, hk, heq⟩
    have Lz0 := L.size
    refine wp_seq ?_
    refine wp_seq ?_
    refine c_reg ?_
    refine s0 (x_move (v := .int _ _) rfl) ?_
    refine s0 (x_move (v := .slice _ _ _) rfl) ?_
    refine s0 (x_lensl un40F4 rfl) ?_
    refine sb (x_lss rfl rfl) (fun h14 => ?_) (fun h14 => ?_)
    · refine c_end ?_
      refine n_then ?_
      refine c_true rfl ?_
      refine c_skipn ?_
      refine n_then ?_
      refine wp_seq ?_
      refine wp_block ?_
      refine wp_seq ?_
      refine c_plan (fun wq => Exm [] wl1 wq) 9 (.cons (0, 2) (.cons (1, 2) (.cons (2, 2) (.cons (3, 1) (.cons (4, 2) (.cons (5, 2) (.cons (6, 2) (.cons (7, 1) (.cons (8, 2) .nil))))))))) (by kernel_rfl) (by kernel_rfl) (Exm.drew _) ?_
      obtain ⟨w2, hwd⟩ : ∃ x, x = wl1.drew := ⟨_, rfl⟩
      have l3 : Ext wl1 w2 := by rw [hwd]; exact Exm.drew _
      rw [← hwd]; clear hwd
      have Lq : Exm [] wl1 w2 := l3.up
      have qL := L
      have z_l3 := l3.size
      have L := L.tr l3.up
      refine p0 rfl (x_move (v := .slice _ _ _) rfl) ?_
      refine p0 rfl (x_move (v := .int _ _) rfl) ?_
      refine p0 rfl (x_idx so40F4 rfl rfl hp (by decide) (by omega) (by omega)) ?_
      refine ps rfl (fun wq hwq => x_ldi sc3F4 rfl ((hp.ext qL).ext hwq) (by omega) (by omega)) ?_
      refine p0 rfl (x_move (v := .slice _ _ _) rfl) ?_
      refine p0 rfl (x_move (v := .int _ _) rfl) ?_
      refine p0 rfl (x_idx so40F4 rfl rfl hq (by decide) (by omega) (by omega)) ?_
      refine ps rfl (fun wq hwq => x_ldi sc3F4 rfl ((hq.ext qL).ext hwq) (by omega) (by omega)) ?_
      refine pb rfl (x_neq rfl rfl) (fun h25 => ?_) (fun h25 => ?_)
      · refine p_nil (np_normal ?_)
        refine n_then ?_
        refine c_true rfl ?_
        refine wp_seq ?_
        refine c_reg ?_
        refine s0 (x_assign (v := .bool _) rfl) ?_
        refine c_end ?_
        refine n_then ?_
        refine wp_ret (r_block (r_then (r_then (r_block (r_then ?_)))))
        refine f_ret rfl rfl ?_
        exact ⟨ret_f (fun h => h25 (by rw [h])), L⟩
      · refine p_nil (np_normal ?_)
        refine n_then ?_
        refine c_false rfl ?_
        refine c_skipn ?_
        refine n_block ?_
        refine n_then ?_
        refine c_reg ?_
        refine s0 (x_move (v := .int _ _) rfl) ?_
        refine s0 (x_add rfl rfl (by omega)) ?_
        refine s0 (x_assign (v := .int _ _) rfl) ?_
        refine c_end ?_
        exact c_round (g' := k + 1) (by omega) ⟨_, upd_self3 rfl rfl (vint (by omega)), L, (by omega), (upto_succ heq (by simpa using h25))⟩
    · refine c_end ?_
      refine n_then ?_
      refine c_false rfl ?_
      refine wp_exit (e_then (e_then (e_here ?_)))
      refine n_then ?_
      refine wp_seq ?_
      refine c_reg ?_
      refine s0 (x_assign (v := .bool _) rfl) ?_
      refine c_end ?_
      refine n_then ?_
      refine wp_ret ?_
      refine f_ret rfl rfl ?_
      exact ⟨ret_t (getD_ext (by omega) fun j hj => heq j (by omega)), L⟩

/-- impl.CodeOk -/
theorem i_codeOk (p : Option Addr) (xs : List Int) (c : Nat) (w : World) (hp : Sl w p xs.length c 1 (ic xs)) (hl : xs.length ≤ 1099511627776) :
    Calls Try.prog 114 [.slice p xs.length c].toArray w (Ret w (.bool (decide (codeOk xs)))) := by
  have L : Exm [] w w := Exm.rfl'
  refine enter (n := 30) Try.func114 rfl rfl rfl ?_
  refine wp_seq ?_
  refine c_reg ?_
  refine s0 (x_assign (v := .bool _) rfl) ?_
  refine c_end ?_
  refine n_then ?_
  refine wp_seq ?_
  refine c_reg ?_
  refine s0 (x_assign (v := .int _ _) rfl) ?_
  refine c_end ?_
  refine n_then ?_
  refine wp_seq ?_
  refine wp_seq ?_
  refine c_reg ?_
  refine s0 (x_move (v := .slice _ _ _) rfl) ?_
  refine s0 (x_lensl un40F4 rfl) ?_
  refine s0 (x_move (v := .int _ _) rfl) ?_
  refine c_end ?_
  refine n_then ?_
  refine wp_block ?_
  refine c_loop (γ := Nat) (fun k => xs.length - k) (fun (k : Nat) E wl => ∃ E0, E = upd (upd (upd (upd (upd E0 0 (.slice p xs.length c)) 3 (.int .i64 (kraft (xs.take k)))) 6 (.slice p xs.length c)) 7 (.int .i64 xs.length)) 8 (.int .i64 (k : Int)) ∧ (Exm [] w wl) ∧ ((k : Int) ≤ xs.length) ∧ (∀ j : Nat, j < k → 0 ≤ xs.getD j 0 ∧ xs.getD j 0 ≤ 7)) 0 ⟨_, upd_self5 rfl rfl rfl rfl rfl, L, (by omega), (by intro j hj; omega)⟩ ?_
  rintro k E wl1 ⟨E0, rfl, L, hk, hall⟩
  have Lz0 := L.size
  have hkr := kraft_take_range xs k
  refine wp_seq ?_
  refine c_reg ?_
  refine sb (x_lss rfl rfl) (fun h9 => ?_) (fun h9 => ?_)
  · refine c_end ?_
    refine n_then ?_
    refine wp_seq ?_
    refine c_true rfl ?_
    refine c_skipn ?_
    refine n_then ?_
    refine wp_seq ?_
    refine wp_block ?_
    refine wp_seq ?_
    refine c_reg ?_
    refine s0 (x_idx so40F4 rfl rfl hp (by decide) (by omega) (by omega)) ?_
    refine st (x_ldi sc3F4 rfl (hp.ext L) (by omega) (by omega)) ?_
    refine s0 (x_assign (v := .int _ _) rfl) ?_
    refine c_end ?_
    refine n_then ?_
    refine wp_seq ?_
    refine wp_seq ?_
    refine c_reg ?_
    refine s0 (x_move (v := .int _ _) rfl) ?_
    refine srb (zcall cl88F4 rfl) (i_within _ _ _ _) (fun h13 w2 l3 => ?_) (fun h13 w2 l3 => ?_)
    · have z_l3 := l3.size
      have L := L.tr l3.up
      refine s0 (x_not rfl) ?_
      refine c_end ?_
      refine n_then ?_
      refine c_false rfl ?_
      refine c_skipn ?_
      refine n_then ?_
      refine wp_seq ?_
      refine c_reg ?_
      refine s0 (x_move (v := .int _ _) rfl) ?_
      refine sb (x_gtr rfl rfl) (fun h16 => ?_) (fun h16 => ?_)
      · refine c_end ?_
        refine n_then ?_
        refine c_true rfl ?_
        have hpw := pow7 _ h16
        refine c_reg ?_
        refine s0 (x_move (v := .int _ _) rfl) ?_
        refine s0 (x_move (v := .int _ _) rfl) ?_
        refine s0 (x_sub rfl rfl (by omega)) ?_
        refine s0 (x_shl rfl rfl (by omega) (by omega)) ?_
        refine s0 (x_add rfl rfl (by omega)) ?_
        refine s0 (x_assign (v := .int _ _) rfl) ?_
        refine c_end ?_
        refine n_block ?_
        refine n_then ?_
        refine c_reg ?_
        refine s0 (x_add rfl rfl (by omega)) ?_
        refine s0 (x_move (v := .int _ _) rfl) ?_
        refine c_end ?_
        have hkt := kraft_take xs k (by omega)
        rw [Int.toNat_natCast] at h13 h16
        first | rw [if_pos h16] at hkt | rw [if_neg h16] at hkt
        exact c_round (g' := k + 1) (by omega) ⟨_, upd_self5 rfl (vint (by first | omega | (rw [Int.toNat_natCast]; omega))) rfl rfl (vint (by omega)), L, (by omega), (upto_succ hall (by simpa using h13))⟩
      · refine c_end ?_
        refine n_then ?_
        refine c_false rfl ?_
        refine c_skipn ?_
        refine n_block ?_
        refine n_then ?_
        refine c_reg ?_
        refine s0 (x_add rfl rfl (by omega)) ?_
        refine s0 (x_move (v := .int _ _) rfl) ?_
        refine c_end ?_
        have hkt := kraft_take xs k (by omega)
        rw [Int.toNat_natCast] at h13 h16
        first | rw [if_pos h16] at hkt | rw [if_neg h16] at hkt
        exact c_round (g' := k + 1) (by omega) ⟨_, upd_self5 rfl (vint (by first | omega | (rw [Int.toNat_natCast]; omega))) rfl rfl (vint (by omega)), L, (by omega), (upto_succ hall (by simpa using h13))⟩
    · have z_l3 := l3.size
      have L := L.tr l3.up
      refine s0 (x_not rfl) ?_
      refine c_end ?_
      refine n_then ?_
      refine c_true rfl ?_
      refine wp_seq ?_
      refine c_reg ?_
      refine s0 (x_assign (v := .bool _) rfl) ?_
      refine c_end ?_
      refine n_then ?_
      refine wp_ret (r_then (r_block (r_then (r_then (r_block (r_then ?_))))))
      refine f_ret rfl rfl ?_
      exact ⟨ret_f (fun h => h13 (by simpa using h.1 k (by omega))), L⟩
  · refine c_end ?_
    refine n_then ?_
    refine wp_seq ?_
    refine c_false rfl ?_
    refine wp_exit (e_then (e_then (e_here ?_)))
    refine n_then ?_
    refine wp_seq ?_
    refine c_reg ?_
    refine s0 (x_move (v := .slice _ _ _) rfl) ?_
    refine s0 (x_lensl un40F4 rfl) ?_
    refine sb (x_eql rfl rfl) (fun h25 => ?_) (fun h25 => ?_)
    · refine s0 (x_move (v := .bool _) rfl) ?_
      refine gt rfl rfl rfl rfl ?_
      refine s0 (x_move (v := .int _ _) rfl) ?_
      refine gt rfl rfl rfl rfl ?_
      refine s0 (x_eql rfl rfl) ?_
      refine s0 (x_pickt (v := .bool _) rfl rfl) ?_
      refine s0 (x_assign (v := .bool _) rfl) ?_
      refine c_end ?_
      refine n_then ?_
      refine wp_ret ?_
      refine f_ret rfl rfl ?_
      have hkl : xs.take k = xs := by rw [show k = xs.length by omega]; simp
      rw [hkl]
      exact ⟨ret_dec2 ⟨fun h => ⟨fun j hj => hall j (by omega), by omega, h⟩, fun h => h.2.2⟩, L⟩
    · refine s0 (x_move (v := .bool _) rfl) ?_
      refine gf rfl rfl rfl rfl ?_
      refine gf rfl rfl rfl rfl ?_
      refine s0 (x_pickf (v := .bool _) rfl rfl) ?_
      refine s0 (x_assign (v := .bool _) rfl) ?_
      refine c_end ?_
      refine n_then ?_
      refine wp_ret ?_
      refine f_ret rfl rfl ?_
      exact ⟨ret_f (fun h => h25 (by have := h.2.1; omega)), L⟩

/-- spec.CodeOk -/
theorem s_codeOk (p : Option Addr) (xs : List Int) (c : Nat) (w : World) (hp : Sl w p xs.length c 1 (ic xs)) (hl : xs.length ≤ 1099511627776) :
    Calls Try.prog 182 [.slice p xs.length c].toArray w (Ret w (.bool (decide (codeOk xs)))) := by
  have L : Exm [] w w := Exm.rfl'
  refine enter (n := 37) Try.func182 rfl rfl rfl ?_
  refine wp_seq ?_
  refine c_reg ?_
  refine s0 (x_assign (v := .bool _) rfl) ?_
  refine c_end ?_
  refine n_then ?_
  refine wp_seq ?_
  refine c_reg ?_
  refine s0 (x_assign (v := .int _ _) rfl) ?_
  refine c_end ?_
  refine n_then ?_
  refine wp_seq ?_
  refine wp_seq ?_
  refine c_reg ?_
  refine s0 (x_assign (v := .int _ _) rfl) ?_
  refine c_end ?_
  refine n_then ?_
  refine wp_block ?_
  refine c_loop (γ := Nat) (fun k => xs.length - k) (fun (k : Nat) E wl => ∃ E0, E = upd (upd (upd E0 0 (.slice p xs.length c)) 3 (.int .i64 (kraft (xs.take k)))) 4 (.int .i64 (k : Int)) ∧ (Exm [] w wl) ∧ ((k : Int) ≤ xs.length) ∧ (∀ j : Nat, j < k → 0 ≤ xs.getD j 0 ∧ xs.getD j 0 ≤ 7)) 0 ⟨_, upd_self3 rfl rfl rfl, L, (by omega), (by intro j hj; omega)⟩ ?_
  rintro k E wl1 ⟨E0, rfl, L, hk, hall⟩
  have Lz0 := L.size
  have hkr := kraft_take_range xs k
  refine wp_seq ?_
  refine wp_seq ?_
  refine c_reg ?_
  refine s0 (x_move (v := .int _ _) rfl) ?_
  refine s0 (x_move (v := .slice _ _ _) rfl) ?_
  refine s0 (x_lensl un40F4 rfl) ?_
  refine sb (x_lss rfl rfl) (fun h8 => ?_) (fun h8 => ?_)
  · refine c_end ?_
    refine n_then ?_
    refine c_true rfl ?_
    refine c_skipn ?_
    refine n_then ?_
    refine wp_seq ?_
    refine wp_block ?_
    refine wp_seq ?_
    refine wp_seq ?_
    refine c_reg ?_
    refine s0 (x_move (v := .slice _ _ _) rfl) ?_
    refine s0 (x_move (v := .int _ _) rfl) ?_
    refine s0 (x_idx so40F4 rfl rfl hp (by decide) (by omega) (by omega)) ?_
    refine st (x_ldi sc3F4 rfl (hp.ext L) (by omega) (by omega)) ?_
    refine srb (zcall cl95F4 rfl) (s_l1In _ _ _ _) (fun h15 w2 l3 => ?_) (fun h15 w2 l3 => ?_)
    · have z_l3 := l3.size
      have L := L.tr l3.up
      refine s0 (x_not rfl) ?_
      refine c_end ?_
      refine n_then ?_
      refine c_false rfl ?_
      refine c_skipn ?_
      refine n_then ?_
      refine wp_seq ?_
      refine c_reg ?_
      refine s0 (x_move (v := .slice _ _ _) rfl) ?_
      refine s0 (x_move (v := .int _ _) rfl) ?_
      refine s0 (x_idx so40F4 rfl rfl hp (by decide) (by omega) (by omega)) ?_
      refine st (x_ldi sc3F4 rfl (hp.ext L) (by omega) (by omega)) ?_
      refine sb (x_gtr rfl rfl) (fun h21 => ?_) (fun h21 => ?_)
      · refine c_end ?_
        refine n_then ?_
        refine c_true rfl ?_
        have hpw := pow7 _ h21
        refine c_reg ?_
        refine s0 (x_move (v := .int _ _) rfl) ?_
        refine s0 (x_move (v := .slice _ _ _) rfl) ?_
        refine s0 (x_move (v := .int _ _) rfl) ?_
        refine s0 (x_idx so40F4 rfl rfl hp (by decide) (by omega) (by omega)) ?_
        refine st (x_ldi sc3F4 rfl (hp.ext L) (by omega) (by omega)) ?_
        refine s0 (x_sub rfl rfl (by omega)) ?_
        refine s0 (x_shl rfl rfl (by omega) (by omega)) ?_
        refine s0 (x_add rfl rfl (by omega)) ?_
        refine s0 (x_assign (v := .int _ _) rfl) ?_
        refine c_end ?_
        refine n_block ?_
        refine n_then ?_
        refine c_reg ?_
        refine s0 (x_move (v := .int _ _) rfl) ?_
        refine s0 (x_add rfl rfl (by omega)) ?_
        refine s0 (x_assign (v := .int _ _) rfl) ?_
        refine c_end ?_
        have hkt := kraft_take xs k (by omega)
        rw [Int.toNat_natCast] at h15 h21
        first | rw [if_pos h21] at hkt | rw [if_neg h21] at hkt
        exact c_round (g' := k + 1) (by omega) ⟨_, upd_self3 rfl (vint (by first | omega | (rw [Int.toNat_natCast]; omega))) (vint (by omega)), L, (by omega), (upto_succ hall (by simpa using h15))⟩
      · refine c_end ?_
        refine n_then ?_
        refine c_false rfl ?_
        refine c_skipn ?_
        refine n_block ?_
        refine n_then ?_
        refine c_reg ?_
        refine s0 (x_move (v := .int _ _) rfl) ?_
        refine s0 (x_add rfl rfl (by omega)) ?_
        refine s0 (x_assign (v := .int _ _) rfl) ?_
        refine c_end ?_
        have hkt := kraft_take xs k (by omega)
        rw [Int.toNat_natCast] at h15 h21
        first | rw [if_pos h21] at hkt | rw [if_neg h21] at hkt
        exact c_round (g' := k + 1) (by omega) ⟨_, upd_self3 rfl (vint (by first | omega | (rw [Int.toNat_natCast]; omega))) (vint (by omega)), L, (by omega), (upto_succ hall (by simpa using h15))⟩
    · have z_l3 := l3.size
      have L := L.tr l3.up
      refine s0 (x_not rfl) ?_
      refine c_end ?_
      refine n_then ?_
      refine c_true rfl ?_
      refine wp_seq ?_
      refine c_reg ?_
      refine s0 (x_assign (v := .bool _) rfl) ?_
      refine c_end ?_
      refine n_then ?_
      refine wp_ret (r_then (r_block (r_then (r_then (r_block (r_then ?_))))))
      refine f_ret rfl rfl ?_
      exact ⟨ret_f (fun h => h15 (by simpa using h.1 k (by omega))), L⟩
  · refine c_end ?_
    refine n_then ?_
    refine c_false rfl ?_
    refine wp_exit (e_then (e_then (e_here ?_)))
    refine n_then ?_
    refine wp_seq ?_
    refine c_reg ?_
    refine s0 (x_move (v := .slice _ _ _) rfl) ?_
    refine s0 (x_lensl un40F4 rfl) ?_
    refine sb (x_eql rfl rfl) (fun h32 => ?_) (fun h32 => ?_)
    · refine s0 (x_move (v := .bool _) rfl) ?_
      refine gt rfl rfl rfl rfl ?_
      refine s0 (x_move (v := .int _ _) rfl) ?_
      refine gt rfl rfl rfl rfl ?_
      refine s0 (x_eql rfl rfl) ?_
      refine s0 (x_pickt (v := .bool _) rfl rfl) ?_
      refine s0 (x_assign (v := .bool _) rfl) ?_
      refine c_end ?_
      refine n_then ?_
      refine wp_ret ?_
      refine f_ret rfl rfl ?_
      have hkl : xs.take k = xs := by rw [show k = xs.length by omega]; simp
      rw [hkl]
      exact ⟨ret_dec2 ⟨fun h => ⟨fun j hj => hall j (by omega), by omega, h⟩, fun h => h.2.2⟩, L⟩
    · refine s0 (x_move (v := .bool _) rfl) ?_
      refine gf rfl rfl rfl rfl ?_
      refine gf rfl rfl rfl rfl ?_
      refine s0 (x_pickf (v := .bool _) rfl rfl) ?_
      refine s0 (x_assign (v := .bool _) rfl) ?_
      refine c_end ?_
      refine n_then ?_
      refine wp_ret ?_
      refine f_ret rfl rfl ?_
      exact ⟨ret_f (fun h => h32 (by have := h.2.1; omega)), L⟩

/-- laws.eqHeader -/
theorem l_eqHeader (a b q a' b' q' : Int) (y z y' z' : Bool) (p p2 : Option Addr) (xs ys : List Int) (c d : Nat) (w : World) (hp : Sl w p xs.length c 1 (ic xs)) (hq : Sl w p2 ys.length d 1 (ic ys)) (hl : xs.length ≤ 1099511627776) :
    Calls Try.prog 51 [.agg [.int .i64 a, .int .i64 b, .int .i64 q, .bool y, .bool z, .slice p xs.length c].toArray, .agg [.int .i64 a', .int .i64 b', .int .i64 q', .bool y', .bool z', .slice p2 ys.length d].toArray].toArray w (Ret w (.bool (decide (a = a' ∧ b = b' ∧ q = q' ∧ y = y' ∧ z = z' ∧ xs = ys)))) := by
  have L : Exm [] w w := Exm.rfl'
  refine enter (n := 36) Try.func51 rfl rfl rfl ?_
  refine wp_seq ?_
  refine c_reg ?_
  refine s_box rfl rfl ?_
  intro b1 w2 lob1 hib1 l3 B1
  have z_l3 := l3.size
  have L := L.tr l3.up
  refine s_box rfl rfl ?_
  intro b4 w5 lob4 hib4 l6 B4
  have z_l6 := l6.size
  have L := L.tr l6.up
  have B1 := B1.ext l6
  refine s0 (x_assign (v := .bool _) rfl) ?_
  refine c_end ?_
  refine n_then ?_
  refine wp_seq ?_
  refine wp_seq ?_
  refine c_reg ?_
  refine s0 (x_fieldAddr fa42_0F4 rfl) ?_
  refine st (x_loadB sc3F4 rfl B1 rfl) ?_
  refine s0 (x_fieldAddr fa42_0F4 rfl) ?_
  refine st (x_loadB sc3F4 rfl B4 rfl) ?_
  refine sb (x_neq rfl rfl) (fun h9 => ?_) (fun h9 => ?_)
  · refine c_end ?_
    refine n_then ?_
    refine c_true rfl ?_
    refine wp_seq ?_
    refine c_reg ?_
    refine s0 (x_assign (v := .bool _) rfl) ?_
    refine c_end ?_
    refine n_then ?_
    refine wp_ret (r_then ?_)
    refine f_ret rfl rfl ?_
    exact ⟨ret_f (by simp_all), L⟩
  · refine c_end ?_
    refine n_then ?_
    refine c_false rfl ?_
    refine c_skipn ?_
    refine n_then ?_
    refine wp_seq ?_
    refine wp_seq ?_
    refine c_reg ?_
    refine s0 (x_fieldAddr fa42_1F4 rfl) ?_
    refine st (x_loadB sc3F4 rfl B1 rfl) ?_
    refine s0 (x_fieldAddr fa42_1F4 rfl) ?_
    refine st (x_loadB sc3F4 rfl B4 rfl) ?_
    refine sb (x_neq rfl rfl) (fun h14 => ?_) (fun h14 => ?_)
    · refine c_end ?_
      refine n_then ?_
      refine c_true rfl ?_
      refine wp_seq ?_
      refine c_reg ?_
      refine s0 (x_assign (v := .bool _) rfl) ?_
      refine c_end ?_
      refine n_then ?_
      refine wp_ret (r_then ?_)
      refine f_ret rfl rfl ?_
      exact ⟨ret_f (by simp_all), L⟩
    · refine c_end ?_
      refine n_then ?_
      refine c_false rfl ?_
      refine c_skipn ?_
      refine n_then ?_
      refine wp_seq ?_
      refine wp_seq ?_
      refine c_reg ?_
      refine s0 (x_fieldAddr fa42_2F4 rfl) ?_
      refine st (x_loadB sc3F4 rfl B1 rfl) ?_
      refine s0 (x_fieldAddr fa42_2F4 rfl) ?_
      refine st (x_loadB sc3F4 rfl B4 rfl) ?_
      refine sb (x_neq rfl rfl) (fun h19 => ?_) (fun h19 => ?_)
      · refine c_end ?_
        refine n_then ?_
        refine c_true rfl ?_
        refine wp_seq ?_
        refine c_reg ?_
        refine s0 (x_assign (v := .bool _) rfl) ?_
        refine c_end ?_
        refine n_then ?_
        refine wp_ret (r_then ?_)
        refine f_ret rfl rfl ?_
        exact ⟨ret_f (by simp_all), L⟩
      · refine c_end ?_
        refine n_then ?_
        refine c_false rfl ?_
        refine c_skipn ?_
        refine n_then ?_
        refine wp_seq ?_
        refine wp_seq ?_
        refine c_reg ?_
        refine s0 (x_fieldAddr fa42_3F4 rfl) ?_
        refine st (x_loadB sc4F4 rfl B1 rfl) ?_
        refine s0 (x_fieldAddr fa42_3F4 rfl) ?_
        refine st (x_loadB sc4F4 rfl B4 rfl) ?_
        refine sb (x_neqb un4F4 rfl rfl) (fun h24 => ?_) (fun h24 => ?_)
        · refine c_end ?_
          refine n_then ?_
          refine c_true rfl ?_
          refine wp_seq ?_
          refine c_reg ?_
          refine s0 (x_assign (v := .bool _) rfl) ?_
          refine c_end ?_
          refine n_then ?_
          refine wp_ret (r_then ?_)
          refine f_ret rfl rfl ?_
          exact ⟨ret_f (by simp_all), L⟩
        · refine c_end ?_
          refine n_then ?_
          refine c_false rfl ?_
          refine c_skipn ?_
          refine n_then ?_
          refine wp_seq ?_
          refine wp_seq ?_
          refine c_reg ?_
          refine s0 (x_fieldAddr fa42_4F4 rfl) ?_
          refine st (x_loadB sc4F4 rfl B1 rfl) ?_
          refine s0 (x_fieldAddr fa42_4F4 rfl) ?_
          refine st (x_loadB sc4F4 rfl B4 rfl) ?_
          refine sb (x_neqb un4F4 rfl rfl) (fun h29 => ?_) (fun h29 => ?_)
          · refine c_end ?_
            refine n_then ?_
            refine c_true rfl ?_
            refine wp_seq ?_
            refine c_reg ?_
            refine s0 (x_assign (v := .bool _) rfl) ?_
            refine c_end ?_
            refine n_then ?_
            refine wp_ret (r_then ?_)
            refine f_ret rfl rfl ?_
            exact ⟨ret_f (by simp_all), L⟩
          · refine c_end ?_
            refine n_then ?_
            refine c_false rfl ?_
            refine c_skipn ?_
            refine n_then ?_
            refine wp_seq ?_
            refine wp_seq ?_
            refine c_reg ?_
            refine s0 (x_fieldAddr fa42_5F4 rfl) ?_
            refine st (x_loadB sc40F4 rfl B1 rfl) ?_
            refine s0 (x_fieldAddr fa42_5F4 rfl) ?_
            refine st (x_loadB sc40F4 rfl B4 rfl) ?_
            refine srb (zcall cl36F4 rfl) (l_eqIntS _ _ _ _ _ _ _ (hp.ext L) (hq.ext L) (by omega)) (fun h34 w7 l8 => ?_) (fun h34 w7 l8 => ?_)
            · have z_l8 := l8.size
              have L := L.tr l8.up
              have B1 := B1.ext l8
              have B4 := B4.ext l8
              refine s0 (x_not rfl) ?_
              refine c_end ?_
              refine n_then ?_
              refine c_false rfl ?_
              refine c_skipn ?_
              refine n_then ?_
              refine wp_seq ?_
              refine c_reg ?_
              refine s0 (x_assign (v := .bool _) rfl) ?_
              refine c_end ?_
              refine n_then ?_
              refine wp_ret ?_
              refine f_ret rfl rfl ?_
              exact ⟨ret_t (by simp_all), L⟩
            · have z_l8 := l8.size
              have L := L.tr l8.up
              have B1 := B1.ext l8
              have B4 := B4.ext l8
              refine s0 (x_not rfl) ?_
              refine c_end ?_
              refine n_then ?_
              refine c_true rfl ?_
              refine wp_seq ?_
              refine c_reg ?_
              refine s0 (x_assign (v := .bool _) rfl) ?_
              refine c_end ?_
              refine n_then ?_
              refine wp_ret (r_then ?_)
              refine f_ret rfl rfl ?_
              exact ⟨ret_f (by simp_all), L⟩

end Go.Proofs.Ytnehdmcilmlchaa
