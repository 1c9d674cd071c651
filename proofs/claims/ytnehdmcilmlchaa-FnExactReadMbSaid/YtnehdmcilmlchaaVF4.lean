/- What each function of this part returns, for every argument that meets its premises. -/
import Derived.Test.YtnehdmcilmlchaaProg
import Derived.Test.YtnehdmcilmlchaaVSxF
import Derived.Test.YtnehdmcilmlchaaVPlX
import Derived.Test.YtnehdmcilmlchaaVF1
namespace Go.Proofs.Ytnehdmcilmlchaa
open Go.Sx Go.Pl Go.RowKit
theorem cl88F4 : Callable Try.prog 88 := callable Try.func88 (by kernel_rfl) rfl
theorem cl95F4 : Callable Try.prog 95 := callable Try.func95 (by kernel_rfl) rfl
theorem sc3F4 : Sc Try.prog 3 := ⟨(.int .i64), by kernel_rfl, trivial⟩
theorem so40F4 : SliceOf Try.prog 40 3 1 8 := ⟨by kernel_rfl, by kernel_rfl⟩
theorem sz3F4 : Sz Try.prog 3 1 := by unfold Sz; kernel_rfl
theorem un40F4 : Try.prog.underlying 40 = some (.slice 3) := by kernel_rfl
theorem zr3F4 : ZeroV Try.prog 3 [.int .i64 0] := by unfold ZeroV; kernel_rfl
/-- laws.toIntS -/
theorem l_toIntS (p : Option Addr) (xs : List Int) (c : Nat) (w : World) (hp : Sl w p xs.length c 1 (ic xs)) (hl : xs.length ≤ 1099511627776) :
    Calls Try.prog 32 [.slice p xs.length c].toArray w (RetP w fun v w' => ∃ p' c' F', v = .slice p' xs.length c' ∧ Own w' p' xs.length c' 3 1 (ic xs) F' ∧ Fr w.heap.size F') := by
  have L : Exm [] w w := Exm.rfl'
  refine enter (n := 22) Try.func32 rfl rfl rfl ?_
  refine wp_seq ?_
  refine c_reg ?_
  refine s0 (x_assign (v := .slice _ _ _) rfl) ?_
  refine c_end ?_
  refine n_then ?_
  refine wp_seq ?_
  refine c_reg ?_
  refine s0 (x_move (v := .slice _ _ _) rfl) ?_
  refine s0 (x_lensl un40F4 rfl) ?_
  refine s_makei so40F4 zr3F4 rfl rfl (by omega) (by omega) (by omega) ?_
  intro p7 F7 w1 l2 o7 f7 g7
  have z_l2 := l2.size
  have L := L.tr l2.up
  have hn7 := o7.n1
  refine s0 (x_assign (v := .slice _ _ _) rfl) ?_
  refine c_end ?_
  refine n_then ?_
  refine wp_seq ?_
  refine wp_seq ?_
  refine c_reg ?_
  refine s0 (x_assign (v := .int _ _) rfl) ?_
  refine c_end ?_
  refine n_then ?_
  refine wp_block ?_
  refine c_loop (γ := Nat) (fun k => xs.length - k) (fun (k : Nat) E wl => ∃ E0, E = upd (upd (upd E0 0 (.slice p xs.length c)) 3 (.slice p7 xs.length xs.length)) 4 (.int .i64 (k : Int)) ∧ (Exm [] w wl) ∧ (w1.heap.size ≤ wl.heap.size) ∧ (Own wl p7 xs.length xs.length 3 1 (ic (fillk xs k)) F7) ∧ ((k : Int) ≤ xs.length)) 0 ⟨_, upd_self3 rfl rfl rfl, L, (by omega), (by rw [← fill0]; exact o7), (by omega)⟩ ?_
  rintro k E wl3 ⟨E0, rfl, L, Lz, o7, hk⟩
  have Lz0 := L.size
  have hfl := fill_length xs k (by omega)
  refine wp_seq ?_
  refine wp_seq ?_
  refine c_reg ?_
  refine s0 (x_move (v := .int _ _) rfl) ?_
  refine s0 (x_move (v := .slice _ _ _) rfl) ?_
  refine s0 (x_lensl un40F4 rfl) ?_
  refine sb (x_lss rfl rfl) (fun h11 => ?_) (fun h11 => ?_)
  · refine c_end ?_
    refine n_then ?_
    refine c_true rfl ?_
    refine c_skipn ?_
    refine n_then ?_
    refine wp_seq ?_
    refine wp_block ?_
    refine c_reg ?_
    refine s0 (x_move (v := .slice _ _ _) rfl) ?_
    refine s0 (x_move (v := .int _ _) rfl) ?_
    refine s0 (x_move (v := .slice _ _ _) rfl) ?_
    refine s0 (x_move (v := .int _ _) rfl) ?_
    refine s0 (x_idx so40F4 rfl rfl hp (by decide) (by omega) (by omega)) ?_
    refine st (x_ldi sc3F4 rfl (hp.ext L) (by omega) (by omega)) ?_
    refine s0 (x_idx so40F4 rfl rfl o7.sl (by decide) (by omega) (by omega)) ?_
    refine s_stoi rfl sz3F4 rfl rfl o7 (by omega) (by omega) ?_
    intro w4 l5 el5 o7
    have z_l5 := l5.size
    have L := L.freshL l5 f7 (by omega)
    have hnl5 := o7.n1
    refine c_end ?_
    refine n_block ?_
    refine n_then ?_
    refine c_reg ?_
    refine s0 (x_move (v := .int _ _) rfl) ?_
    refine s0 (x_add rfl rfl (by omega)) ?_
    refine s0 (x_assign (v := .int _ _) rfl) ?_
    refine c_end ?_
    rw [Int.toNat_natCast, fill_set xs k (by omega)] at o7
    exact c_round (g' := k + 1) (by omega) ⟨_, upd_self3 rfl rfl (vint (by omega)), L, (by omega), o7, (by omega)⟩
  · refine c_end ?_
    refine n_then ?_
    refine c_false rfl ?_
    refine wp_exit (e_then (e_then (e_here ?_)))
    refine n_then ?_
    refine wp_seq ?_
    refine c_reg ?_
    refine s0 (x_move (v := .slice _ _ _) rfl) ?_
    refine s0 (x_assign (v := .slice _ _ _) rfl) ?_
    refine c_end ?_
    refine n_then ?_
    refine wp_ret ?_
    refine f_ret rfl rfl ?_
    exact ⟨_, rfl, L, _, _, _, rfl, (by rw [show k = xs.length by omega, fill_all] at o7; exact o7), f7.mono (by omega)⟩

/-- laws.eqIntS -/
theorem l_eqIntS (p q : Option Addr) (xs ys : List Int) (c d : Nat) (w : World) (hp : Sl w p xs.length c 1 (ic xs)) (hq : Sl w q ys.length d 1 (ic ys)) (hl : xs.length ≤ 1099511627776) :
    Calls Try.prog 36 [.slice p xs.length c, .slice q ys.length d].toArray w (Ret w (.bool (decide (xs = ys)))) := by
  have L : Exm [] w w := Exm.rfl'
  refine enter (n := 26) Try.func36 rfl rfl rfl ?_
  refine wp_seq ?_
  refine c_reg ?_
  refine s0 (x_assign (v := .bool _) rfl) ?_
  refine c_end ?_
  refine n_then ?_
  refine wp_seq ?_
  refine wp_seq ?_
  refine c_reg ?_
  refine s0 (x_move (v := .slice _ _ _) rfl) ?_
  refine s0 (x_lensl un40F4 rfl) ?_
  refine s0 (x_move (v := .slice _ _ _) rfl) ?_
  refine s0 (x_lensl un40F4 rfl) ?_
  refine sb (x_neq rfl rfl) (fun h10 => ?_) (fun h10 => ?_)
  · refine c_end ?_
    refine n_then ?_
    refine c_true rfl ?_
    refine wp_seq ?_
    refine c_reg ?_
    refine s0 (x_assign (v := .bool _) rfl) ?_
    refine c_end ?_
    refine n_then ?_
    refine wp_ret (r_then ?_)
    refine f_ret rfl rfl ?_
    exact ⟨ret_f (fun h => h10 (by rw [h])), L⟩
  · refine c_end ?_
    refine n_then ?_
    refine c_false rfl ?_
    refine c_skipn ?_
    refine n_then ?_
    refine wp_seq ?_
    refine wp_seq ?_
    refine c_reg ?_
    refine s0 (x_assign (v := .int _ _) rfl) ?_
    refine c_end ?_
    refine n_then ?_
    refine wp_block ?_
    refine c_loop (γ := Nat) (fun k => xs.length - k) (fun (k : Nat) E wl => ∃ E0, E = upd (upd (upd E0 0 (.slice p xs.length c)) 1 (.slice q ys.length d)) 5 (.int .i64 (k : Int)) ∧ (Exm [] w wl) ∧ ((k : Int) ≤ xs.length) ∧ (∀ j : Nat, j < k → xs.getD j 0 = ys.getD j 0)) 0 ⟨_, upd_self3 rfl rfl rfl, L, (by omega), (by intro j hj; omega)⟩ ?_
    rintro k E wl1 ⟨E0, rfl, L, hk, heq⟩
    have Lz0 := L.size
    refine wp_seq ?_
    refine wp_seq ?_
    refine c_reg ?_
    refine s0 (x_move (v := .int _ _) rfl) ?_
    refine s0 (x_move (v := .slice _ _ _) rfl) ?_
    refine s0 (x_lensl un40F4 rfl) ?_
    refine sb (x_lss rfl rfl) (fun h14 => ?_) (fun h14 => ?_)
    · refine c_end ?_
      refine n_then ?_
      refine c_true rfl ?_
      refine c_skipn ?_
      refine n_then ?_
      refine wp_seq ?_
      refine wp_block ?_
      refine wp_seq ?_
      refine c_plan (fun wq => Exm [] wl1 wq) 9 (.cons (0, 2) (.cons (1, 2) (.cons (2, 2) (.cons (3, 1) (.cons (4, 2) (.cons (5, 2) (.cons (6, 2) (.cons (7, 1) (.cons (8, 2) .nil))))))))) (by kernel_rfl) (by kernel_rfl) (Exm.drew _) ?_
      obtain ⟨w2, hwd⟩ : ∃ x, x = wl1.drew := ⟨_, rfl⟩
      have l3 : Ext wl1 w2 := by rw [hwd]; exact Exm.drew _
      rw [← hwd]; clear hwd
      have Lq : Exm [] wl1 w2 := l3.up
      have qL := L
      have z_l3 := l3.size
      have L := L.tr l3.up
      refine p0 rfl (x_move (v := .slice _ _ _) rfl) ?_
      refine p0 rfl (x_move (v := .int _ _) rfl) ?_
      refine p0 rfl (x_idx so40F4 rfl rfl hp (by decide) (by omega) (by omega)) ?_
      refine ps rfl (fun wq hwq => x_ldi sc3F4 rfl ((hp.ext qL).ext hwq) (by omega) (by omega)) ?_
      refine p0 rfl (x_move (v := .slice _ _ _) rfl) ?_
      refine p0 rfl (x_move (v := .int _ _) rfl) ?_
      refine p0 rfl (x_idx so40F4 rfl rfl hq (by decide) (by omega) (by omega)) ?_
      refine ps rfl (fun wq hwq => x_ldi sc3F4 rfl ((hq.ext qL).ext hwq) (by omega) (by omega)) ?_
      refine pb rfl (x_neq rfl rfl) (fun h25 => ?_) (fun h25 => ?_)
      · refine p_nil (np_normal ?_)
        refine n_then ?_
        refine c_true rfl ?_
        refine wp_seq ?_
        refine c_reg ?_
        refine s0 (x_assign (v := .bool _) rfl) ?_
        refine c_end ?_
        refine n_then ?_
        refine wp_ret (r_block (r_then (r_then (r_block (r_then ?_)))))
        refine f_ret rfl rfl ?_
        exact ⟨ret_f (fun h => h25 (by rw [h])), L⟩
      · refine p_nil (np_normal ?_)
        refine n_then ?_
        refine c_false rfl ?_
        refine c_skipn ?_
        refine n_block ?_
        refine n_then ?_
        refine c_reg ?_
        refine s0 (x_move (v := .int _ _) rfl) ?_
        refine s0 (x_add rfl rfl (by omega)) ?_
        refine s0 (x_assign (v := .int _ _) rfl) ?_
        refine c_end ?_
        exact c_round (g' := k + 1) (by omega) ⟨_, upd_self3 rfl rfl (vint (by omega)), L, (by omega), (upto_succ heq (by simpa using h25))⟩
    · refine c_end ?_
      refine n_then ?_
      refine c_false rfl ?_
      refine wp_exit (e_then (e_then (e_here ?_)))
      refine n_then ?_
      refine wp_seq ?_
      refine c_reg ?_
      refine s0 (x_assign (v := .bool _) rfl) ?_
      refine c_end ?_
      refine n_then ?_
      refine wp_ret ?_
      refine f_ret rfl rfl ?_
      exact ⟨ret_t (getD_ext (by omega) fun j hj => heq j (by omega)), L⟩

/-- impl.CodeOk -/
theorem i_codeOk (p : Option Addr) (xs : List Int) (c : Nat) (w : World) (hp : Sl w p xs.length c 1 (ic xs)) (hl : xs.length ≤ 1099511627776) :
    Calls Try.prog 114 [.slice p xs.length c].toArray w (Ret w (.bool (decide (codeOk xs)))) := by
  have L : Exm [] w w := Exm.rfl'
  refine enter (n := 30) Try.func114 rfl rfl rfl ?_
  refine wp_seq ?_
  refine c_reg ?_
  refine s0 (x_assign (v := .bool _) rfl) ?_
  refine c_end ?_
  refine n_then ?_
  refine wp_seq ?_
  refine c_reg ?_
  refine s0 (x_assign (v := .int _ _) rfl) ?_
  refine c_end ?_
  refine n_then ?_
  refine wp_seq ?_
  refine wp_seq ?_
  refine c_reg ?_
  refine s0 (x_move (v := .slice _ _ _) rfl) ?_
  refine s0 (x_lensl un40F4 rfl) ?_
  refine s0 (x_move (v := .int _ _) rfl) ?_
  refine c_end ?_
  refine n_then ?_
  refine wp_block ?_
  refine c_loop (γ := Nat) (fun k => xs.length - k) (fun (k : Nat) E wl => ∃ E0, E = upd (upd (upd (upd (upd E0 0 (.slice p xs.length c)) 3 (.int .i64 (kraft (xs.take k)))) 6 (.slice p xs.length c)) 7 (.int .i64 xs.length)) 8 (.int .i64 (k : Int)) ∧ (Exm [] w wl) ∧ ((k : Int) ≤ xs.length) ∧ (∀ j : Nat, j < k → 0 ≤ xs.getD j 0 ∧ xs.getD j 0 ≤ 7)) 0 ⟨_, upd_self5 rfl rfl rfl rfl rfl, L, (by omega), (by intro j hj; omega)⟩ ?_
  rintro k E wl1 ⟨E0, rfl, L, hk, hall⟩
  have Lz0 := L.size
  have hkr := kraft_take_range xs k
  refine wp_seq ?_
  refine c_reg ?_
  refine sb (x_lss rfl rfl) (fun h9 => ?_) (fun h9 => ?_)
  · refine c_end ?_
    refine n_then ?_
    refine wp_seq ?_
    refine c_true rfl ?_
    refine c_skipn ?_
    refine n_then ?_
    refine wp_seq ?_
    refine wp_block ?_
    refine wp_seq ?_
    refine c_reg ?_
    refine s0 (x_idx so40F4 rfl rfl hp (by decide) (by omega) (by omega)) ?_
    refine st (x_ldi sc3F4 rfl (hp.ext L) (by omega) (by omega)) ?_
    refine s0 (x_assign (v := .int _ _) rfl) ?_
    refine c_end ?_
    refine n_then ?_
    refine wp_seq ?_
    refine wp_seq ?_
    refine c_reg ?_
    refine s0 (x_move (v := .int _ _) rfl) ?_
    refine srb (zcall cl88F4 rfl) (i_within _ _ _ _) (fun h13 w2 l3 => ?_) (fun h13 w2 l3 => ?_)
    · have z_l3 := l3.size
      have L := L.tr l3.up
      refine s0 (x_not rfl) ?_
      refine c_end ?_
      refine n_then ?_
      refine c_false rfl ?_
      refine c_skipn ?_
      refine n_then ?_
      refine wp_seq ?_
      refine c_reg ?_
      refine s0 (x_move (v := .int _ _) rfl) ?_
      refine sb (x_gtr rfl rfl) (fun h16 => ?_) (fun h16 => ?_)
      · refine c_end ?_
        refine n_then ?_
        refine c_true rfl ?_
        have hpw := pow7 _ h16
        refine c_reg ?_
        refine s0 (x_move (v := .int _ _) rfl) ?_
        refine s0 (x_move (v := .int _ _) rfl) ?_
        refine s0 (x_sub rfl rfl (by omega)) ?_
        refine s0 (x_shl rfl rfl (by omega) (by omega)) ?_
        refine s0 (x_add rfl rfl (by omega)) ?_
        refine s0 (x_assign (v := .int _ _) rfl) ?_
        refine c_end ?_
        refine n_block ?_
        refine n_then ?_
        refine c_reg ?_
        refine s0 (x_add rfl rfl (by omega)) ?_
        refine s0 (x_move (v := .int _ _) rfl) ?_
        refine c_end ?_
        have hkt := kraft_take xs k (by omega)
        rw [Int.toNat_natCast] at h13 h16
        first | rw [if_pos h16] at hkt | rw [if_neg h16] at hkt
        exact c_round (g' := k + 1) (by omega) ⟨_, upd_self5 rfl (vint (by first | omega | (rw [Int.toNat_natCast]; omega))) rfl rfl (vint (by omega)), L, (by omega), (upto_succ hall (by simpa using h13))⟩
      · refine c_end ?_
        refine n_then ?_
        refine c_false rfl ?_
        refine c_skipn ?_
        refine n_block ?_
        refine n_then ?_
        refine c_reg ?_
        refine s0 (x_add rfl rfl (by omega)) ?_
        refine s0 (x_move (v := .int _ _) rfl) ?_
        refine c_end ?_
        have hkt := kraft_take xs k (by omega)
        rw [Int.toNat_natCast] at h13 h16
        first | rw [if_pos h16] at hkt | rw [if_neg h16] at hkt
        exact c_round (g' := k + 1) (by omega) ⟨_, upd_self5 rfl (vint (by first | omega | (rw [Int.toNat_natCast]; omega))) rfl rfl (vint (by omega)), L, (by omega), (upto_succ hall (by simpa using h13))⟩
    · have z_l3 := l3.size
      have L := L.tr l3.up
      refine s0 (x_not rfl) ?_
      refine c_end ?_
      refine n_then ?_
      refine c_true rfl ?_
      refine wp_seq ?_
      refine c_reg ?_
      refine s0 (x_assign (v := .bool _) rfl) ?_
      refine c_end ?_
      refine n_then ?_
      refine wp_ret (r_then (r_block (r_then (r_then (r_block (r_then ?_))))))
      refine f_ret rfl rfl ?_
      exact ⟨ret_f (fun h => h13 (by simpa using h.1 k (by omega))), L⟩
  · refine c_end ?_
    refine n_then ?_
    refine wp_seq ?_
    refine c_false rfl ?_
    refine wp_exit (e_then (e_then (e_here ?_)))
    refine n_then ?_
    refine wp_seq ?_
    refine c_reg ?_
    refine s0 (x_move (v := .slice _ _ _) rfl) ?_
    refine s0 (x_lensl un40F4 rfl) ?_
    refine sb (x_eql rfl rfl) (fun h25 => ?_) (fun h25 => ?_)
    · refine s0 (x_move (v := .bool _) rfl) ?_
      refine gt rfl rfl rfl rfl ?_
      refine s0 (x_move (v := .int _ _) rfl) ?_
      refine gt rfl rfl rfl rfl ?_
      refine s0 (x_eql rfl rfl) ?_
      refine s0 (x_pickt (v := .bool _) rfl rfl) ?_
      refine s0 (x_assign (v := .bool _) rfl) ?_
      refine c_end ?_
      refine n_then ?_
      refine wp_ret ?_
      refine f_ret rfl rfl ?_
      have hkl : xs.take k = xs := by rw [show k = xs.length by omega]; simp
      rw [hkl]
      exact ⟨ret_dec2 ⟨fun h => ⟨fun j hj => hall j (by omega), by omega, h⟩, fun h => h.2.2⟩, L⟩
    · refine s0 (x_move (v := .bool _) rfl) ?_
      refine gf rfl rfl rfl rfl ?_
      refine gf rfl rfl rfl rfl ?_
      refine s0 (x_pickf (v := .bool _) rfl rfl) ?_
      refine s0 (x_assign (v := .bool _) rfl) ?_
      refine c_end ?_
      refine n_then ?_
      refine wp_ret ?_
      refine f_ret rfl rfl ?_
      exact ⟨ret_f (fun h => h25 (by have := h.2.1; omega)), L⟩

/-- spec.CodeOk -/
theorem s_codeOk (p : Option Addr) (xs : List Int) (c : Nat) (w : World) (hp : Sl w p xs.length c 1 (ic xs)) (hl : xs.length ≤ 1099511627776) :
    Calls Try.prog 182 [.slice p xs.length c].toArray w (Ret w (.bool (decide (codeOk xs)))) := by
  have L : Exm [] w w := Exm.rfl'
  refine enter (n := 37) Try.func182 rfl rfl rfl ?_
  refine wp_seq ?_
  refine c_reg ?_
  refine s0 (x_assign (v := .bool _) rfl) ?_
  refine c_end ?_
  refine n_then ?_
  refine wp_seq ?_
  refine c_reg ?_
  refine s0 (x_assign (v := .int _ _) rfl) ?_
  refine c_end ?_
  refine n_then ?_
  refine wp_seq ?_
  refine wp_seq ?_
  refine c_reg ?_
  refine s0 (x_assign (v := .int _ _) rfl) ?_
  refine c_end ?_
  refine n_then ?_
  refine wp_block ?_
  refine c_loop (γ := Nat) (fun k => xs.length - k) (fun (k : Nat) E wl => ∃ E0, E = upd (upd (upd E0 0 (.slice p xs.length c)) 3 (.int .i64 (kraft (xs.take k)))) 4 (.int .i64 (k : Int)) ∧ (Exm [] w wl) ∧ ((k : Int) ≤ xs.length) ∧ (∀ j : Nat, j < k → 0 ≤ xs.getD j 0 ∧ xs.getD j 0 ≤ 7)) 0 ⟨_, upd_self3 rfl rfl rfl, L, (by omega), (by intro j hj; omega)⟩ ?_
  rintro k E wl1 ⟨E0, rfl, L, hk, hall⟩
  have Lz0 := L.size
  have hkr := kraft_take_range xs k
  refine wp_seq ?_
  refine wp_seq ?_
  refine c_reg ?_
  refine s0 (x_move (v := .int _ _) rfl) ?_
  refine s0 (x_move (v := .slice _ _ _) rfl) ?_
  refine s0 (x_lensl un40F4 rfl) ?_
  refine sb (x_lss rfl rfl) (fun h8 => ?_) (fun h8 => ?_)
  · refine c_end ?_
    refine n_then ?_
    refine c_true rfl ?_
    refine c_skipn ?_
    refine n_then ?_
    refine wp_seq ?_
    refine wp_block ?_
    refine wp_seq ?_
    refine wp_seq ?_
    refine c_reg ?_
    refine s0 (x_move (v := .slice _ _ _) rfl) ?_
    refine s0 (x_move (v := .int _ _) rfl) ?_
    refine s0 (x_idx so40F4 rfl rfl hp (by decide) (by omega) (by omega)) ?_
    refine st (x_ldi sc3F4 rfl (hp.ext L) (by omega) (by omega)) ?_
    refine srb (zcall cl95F4 rfl) (s_l1In _ _ _ _) (fun h15 w2 l3 => ?_) (fun h15 w2 l3 => ?_)
    · have z_l3 := l3.size
      have L := L.tr l3.up
      refine s0 (x_not rfl) ?_
      refine c_end ?_
      refine n_then ?_
      refine c_false rfl ?_
      refine c_skipn ?_
      refine n_then ?_
      refine wp_seq ?_
      refine c_reg ?_
      refine s0 (x_move (v := .slice _ _ _) rfl) ?_
      refine s0 (x_move (v := .int _ _) rfl) ?_
      refine s0 (x_idx so40F4 rfl rfl hp (by decide) (by omega) (by omega)) ?_
      refine st (x_ldi sc3F4 rfl (hp.ext L) (by omega) (by omega)) ?_
      refine sb (x_gtr rfl rfl) (fun h21 => ?_) (fun h21 => ?_)
      · refine c_end ?_
        refine n_then ?_
        refine c_true rfl ?_
        have hpw := pow7 _ h21
        refine c_reg ?_
        refine s0 (x_move (v := .int _ _) rfl) ?_
        refine s0 (x_move (v := .slice _ _ _) rfl) ?_
        refine s0 (x_move (v := .int _ _) rfl) ?_
        refine s0 (x_idx so40F4 rfl rfl hp (by decide) (by omega) (by omega)) ?_
        refine st (x_ldi sc3F4 rfl (hp.ext L) (by omega) (by omega)) ?_
        refine s0 (x_sub rfl rfl (by omega)) ?_
        refine s0 (x_shl rfl rfl (by omega) (by omega)) ?_
        refine s0 (x_add rfl rfl (by omega)) ?_
        refine s0 (x_assign (v := .int _ _) rfl) ?_
        refine c_end ?_
        refine n_block ?_
        refine n_then ?_
        refine c_reg ?_
        refine s0 (x_move (v := .int _ _) rfl) ?_
        refine s0 (x_add rfl rfl (by omega)) ?_
        refine s0 (x_assign (v := .int _ _) rfl) ?_
        refine c_end ?_
        have hkt := kraft_take xs k (by omega)
        rw [Int.toNat_natCast] at h15 h21
        first | rw [if_pos h21] at hkt | rw [if_neg h21] at hkt
        exact c_round (g' := k + 1) (by omega) ⟨_, upd_self3 rfl (vint (by first | omega | (rw [Int.toNat_natCast]; omega))) (vint (by omega)), L, (by omega), (upto_succ hall (by simpa using h15))⟩
      · refine c_end ?_
        refine n_then ?_
        refine c_false rfl ?_
        refine c_skipn ?_
        refine n_block ?_
        refine n_then ?_
        refine c_reg ?_
        refine s0 (x_move (v := .int _ _) rfl) ?_
        refine s0 (x_add rfl rfl (by omega)) ?_
        refine s0 (x_assign (v := .int _ _) rfl) ?_
        refine c_end ?_
        have hkt := kraft_take xs k (by omega)
        rw [Int.toNat_natCast] at h15 h21
        first | rw [if_pos h21] at hkt | rw [if_neg h21] at hkt
        exact c_round (g' := k + 1) (by omega) ⟨_, upd_self3 rfl (vint (by first | omega | (rw [Int.toNat_natCast]; omega))) (vint (by omega)), L, (by omega), (upto_succ hall (by simpa using h15))⟩
    · have z_l3 := l3.size
      have L := L.tr l3.up
      refine s0 (x_not rfl) ?_
      refine c_end ?_
      refine n_then ?_
      refine c_true rfl ?_
      refine wp_seq ?_
      refine c_reg ?_
      refine s0 (x_assign (v := .bool _) rfl) ?_
      refine c_end ?_
      refine n_then ?_
      refine wp_ret (r_then (r_block (r_then (r_then (r_block (r_then ?_))))))
      refine f_ret rfl rfl ?_
      exact ⟨ret_f (fun h => h15 (by simpa using h.1 k (by omega))), L⟩
  · refine c_end ?_
    refine n_then ?_
    refine c_false rfl ?_
    refine wp_exit (e_then (e_then (e_here ?_)))
    refine n_then ?_
    refine wp_seq ?_
    refine c_reg ?_
    refine s0 (x_move (v := .slice _ _ _) rfl) ?_
    refine s0 (x_lensl un40F4 rfl) ?_
    refine sb (x_eql rfl rfl) (fun h32 => ?_) (fun h32 => ?_)
    · refine s0 (x_move (v := .bool _) rfl) ?_
      refine gt rfl rfl rfl rfl ?_
      refine s0 (x_move (v := .int _ _) rfl) ?_
      refine gt rfl rfl rfl rfl ?_
      refine s0 (x_eql rfl rfl) ?_
      refine s0 (x_pickt (v := .bool _) rfl rfl) ?_
      refine s0 (x_assign (v := .bool _) rfl) ?_
      refine c_end ?_
      refine n_then ?_
      refine wp_ret ?_
      refine f_ret rfl rfl ?_
      have hkl : xs.take k = xs := by rw [show k = xs.length by omega]; simp
      rw [hkl]
      exact ⟨ret_dec2 ⟨fun h => ⟨fun j hj => hall j (by omega), by omega, h⟩, fun h => h.2.2⟩, L⟩
    · refine s0 (x_move (v := .bool _) rfl) ?_
      refine gf rfl rfl rfl rfl ?_
      refine gf rfl rfl rfl rfl ?_
      refine s0 (x_pickf (v := .bool _) rfl rfl) ?_
      refine s0 (x_assign (v := .bool _) rfl) ?_
      refine c_end ?_
      refine n_then ?_
      refine wp_ret ?_
      refine f_ret rfl rfl ?_
      exact ⟨ret_f (fun h => h32 (by have := h.2.1; omega)), L⟩

end Go.Proofs.Ytnehdmcilmlchaa
