/- What each function of this part returns, for every argument that meets its premises. -/
import Derived.Test.YtnehdmcilmlchaaProg
import Derived.Test.YtnehdmcilmlchaaVSxF
import Derived.Test.YtnehdmcilmlchaaVPlX
import Derived.Test.YtnehdmcilmlchaaVF4
namespace Go.Proofs.Ytnehdmcilmlchaa
open Go.Sx Go.Pl Go.RowKit
theorem sc3F7 : Sc Try.prog 3 := ⟨(.int .i64), by kernel_rfl, trivial⟩
theorem so40F7 : SliceOf Try.prog 40 3 1 8 := ⟨by kernel_rfl, by kernel_rfl⟩
theorem un40F7 : Try.prog.underlying 40 = some (.slice 3) := by kernel_rfl
/-- laws.sameInts -/
theorem l_sameInts (p q : Option Addr) (xs ys : List Int) (c d : Nat) (w : World) (hp : Sl w p xs.length c 1 (ic xs)) (hq : Sl w q ys.length d 1 (ic ys)) (hl : xs.length ≤ 1099511627776) :
    Calls Try.prog 117 [.slice p xs.length c, .slice q ys.length d].toArray w (Ret w (.bool (decide (xs = ys)))) := by
  have L : Exm [] w w := Exm.rfl'
  refine enter (n := 26) Try.func117 rfl rfl rfl ?_
  refine wp_seq ?_
  refine c_reg ?_
  refine s0 (x_assign (v := .bool _) rfl) ?_
  refine c_end ?_
  refine n_then ?_
  refine wp_seq ?_
  refine wp_seq ?_
  refine c_reg ?_
  refine s0 (x_move (v := .slice _ _ _) rfl) ?_
  refine s0 (x_lensl un40F7 rfl) ?_
  refine s0 (x_move (v := .slice _ _ _) rfl) ?_
  refine s0 (x_lensl un40F7 rfl) ?_
  refine sb (x_neq rfl rfl) (fun h10 => ?_) (fun h10 => ?_)
  · refine c_end ?_
    refine n_then ?_
    refine c_true rfl ?_
    refine wp_seq ?_
    refine c_reg ?_
    refine s0 (x_assign (v := .bool _) rfl) ?_
    refine c_end ?_
    refine n_then ?_
    refine wp_ret (r_then ?_)
    refine f_ret rfl rfl ?_
    exact ⟨ret_f (fun h => h10 (by rw [h])), L⟩
  · refine c_end ?_
    refine n_then ?_
    refine c_false rfl ?_
    refine c_skipn ?_
    refine n_then ?_
    refine wp_seq ?_
    refine wp_seq ?_
    refine c_reg ?_
    refine s0 (x_assign (v := .int _ _) rfl) ?_
    refine c_end ?_
    refine n_then ?_
    refine wp_block ?_
    refine c_loop (γ := Nat) (fun k => xs.length - k) (fun (k : Nat) E wl => ∃ E0, E = upd (upd (upd E0 0 (.slice p xs.length c)) 1 (.slice q ys.length d)) 5 (.int .i64 (k : Int)) ∧ (Exm [] w wl) ∧ ((k : Int) ≤ xs.length) ∧ (∀ j : Nat, j < k → xs.getD j 0 = ys.getD j 0)) 0 ⟨_, upd_self3 rfl rfl rfl, L, (by omega), (by intro j hj; omega)⟩ ?_
    rintro k E wl1 ⟨E0, rfl, L, hk, heq⟩
    have Lz0 := L.size
    refine wp_seq ?_
    refine wp_seq ?_
    refine c_reg ?_
    refine s0 (x_move (v := .int _ _) rfl) ?_
    refine s0 (x_move (v := .slice _ _ _) rfl) ?_
    refine s0 (x_lensl un40F7 rfl) ?_
    refine sb (x_lss rfl rfl) (fun h14 => ?_) (fun h14 => ?_)
    · refine c_end ?_
      refine n_then ?_
      refine c_true rfl ?_
      refine c_skipn ?_
      refine n_then ?_
      refine wp_seq ?_
      refine wp_block ?_
      refine wp_seq ?_
      refine c_plan (fun wq => Exm [] wl1 wq) 9 (.cons (0, 2) (.cons (1, 2) (.cons (2, 2) (.cons (3, 1) (.cons (4, 2) (.cons (5, 2) (.cons (6, 2) (.cons (7, 1) (.cons (8, 2) .nil))))))))) (by kernel_rfl) (by kernel_rfl) (Exm.drew _) ?_
      obtain ⟨w2, hwd⟩ : ∃ x, x = wl1.drew := ⟨_, rfl⟩
      have l3 : Ext wl1 w2 := by rw [hwd]; exact Exm.drew _
      rw [← hwd]; clear hwd
      have Lq : Exm [] wl1 w2 := l3.up
      have qL := L
      have z_l3 := l3.size
      have L := L.tr l3.up
      refine p0 rfl (x_move (v := .slice _ _ _) rfl) ?_
      refine p0 rfl (x_move (v := .int _ _) rfl) ?_
      refine p0 rfl (x_idx so40F7 rfl rfl hp (by decide) (by omega) (by omega)) ?_
      refine ps rfl (fun wq hwq => x_ldi sc3F7 rfl ((hp.ext qL).ext hwq) (by omega) (by omega)) ?_
      refine p0 rfl (x_move (v := .slice _ _ _) rfl) ?_
      refine p0 rfl (x_move (v := .int _ _) rfl) ?_
      refine p0 rfl (x_idx so40F7 rfl rfl hq (by decide) (by omega) (by omega)) ?_
      refine ps rfl (fun wq hwq => x_ldi sc3F7 rfl ((hq.ext qL).ext hwq) (by omega) (by omega)) ?_
      refine pb rfl (x_neq rfl rfl) (fun h25 => ?_) (fun h25 => ?_)
      · refine p_nil (np_normal ?_)
        refine n_then ?_
        refine c_true rfl ?_
        refine wp_seq ?_
        refine c_reg ?_
        refine s0 (x_assign (v := .bool _) rfl) ?_
        refine c_end ?_
        refine n_then ?_
        refine wp_ret (r_block (r_then (r_then (r_block (r_then ?_)))))
        refine f_ret rfl rfl ?_
        exact ⟨ret_f (fun h => h25 (by rw [h])), L⟩
      · refine p_nil (np_normal ?_)
        refine n_then ?_
        refine c_false rfl ?_
        refine c_skipn ?_
        refine n_block ?_
        refine n_then ?_
        refine c_reg ?_
        refine s0 (x_move (v := .int _ _) rfl) ?_
        refine s0 (x_add rfl rfl (by omega)) ?_
        refine s0 (x_assign (v := .int _ _) rfl) ?_
        refine c_end ?_
        exact c_round (g' := k + 1) (by omega) ⟨_, upd_self3 rfl rfl (vint (by omega)), L, (by omega), (upto_succ heq (by simpa using h25))⟩
    · refine c_end ?_
      refine n_then ?_
      refine c_false rfl ?_
      refine wp_exit (e_then (e_then (e_here ?_)))
      refine n_then ?_
      refine wp_seq ?_
      refine c_reg ?_
      refine s0 (x_assign (v := .bool _) rfl) ?_
      refine c_end ?_
      refine n_then ?_
      refine wp_ret ?_
      refine f_ret rfl rfl ?_
      exact ⟨ret_t (getD_ext (by omega) fun j hj => heq j (by omega)), L⟩

theorem map_ext {α β : Type} [Inhabited α] {f : α → β} {xs ys : List α} (hl : xs.length = ys.length) (h : ∀ j : Nat, j < xs.length → f (xs.getD j default) = f (ys.getD j default)) : xs.map f = ys.map f := by
  apply List.ext_getElem
  · simp [hl]
  · intro j h1 h2
    have := h j (by simpa using h1)
    have h3 : j < xs.length := by simpa using h1
    have h4 : j < ys.length := by simpa using h2
    simpa [List.getD, h3, h4] using this
theorem upto_succ' {φ : Nat → Prop} {k : Nat} (h : ∀ j : Nat, j < k → φ j) (h1 : φ k) : ∀ j : Nat, j < k + 1 → φ j := fun j hj => by
  rcases Nat.lt_or_ge j k with h2 | h2
  · exact h j h2
  · obtain rfl : j = k := by omega
    exact h1

end Go.Proofs.Ytnehdmcilmlchaa
