/- What each function of this part returns, for every argument that meets its premises. -/
import Derived.Test.YtnehdmcilmlchaaProg
import Derived.Test.YtnehdmcilmlchaaVSxF
import Derived.Test.YtnehdmcilmlchaaVPlX
import Derived.Test.YtnehdmcilmlchaaVF7
import Derived.Test.YtnehdmcilmlchaaVF8
import Derived.Test.YtnehdmcilmlchaaVF9
namespace Go.Proofs.Ytnehdmcilmlchaa
open Go.Sx Go.Pl Go.RowKit
theorem ag128FA : Ag Try.prog 128 2 := ⟨⟨_, Try.underlying128⟩, by kernel_rfl⟩
theorem cl14FA : Callable Try.prog 14 := callable Try.func14 (by kernel_rfl) rfl
theorem cl93FA : Callable Try.prog 93 := callable Try.func93 (by kernel_rfl) rfl
theorem cl94FA : Callable Try.prog 94 := callable Try.func94 (by kernel_rfl) rfl
theorem sc3FA : Sc Try.prog 3 := ⟨(.int .i64), by kernel_rfl, trivial⟩
theorem so26FA : SliceOf Try.prog 26 128 2 16 := ⟨by kernel_rfl, by kernel_rfl⟩
theorem un26FA : Try.prog.underlying 26 = some (.slice 128) := by kernel_rfl
theorem un3FA : Try.prog.underlying 3 = some (.int .i64) := by kernel_rfl
theorem fe128FA {a0 b0 : Int} {a1 b1 : Int} : StEq Try.prog 128 [.int .i64 a0, .int .i64 a1] [.int .i64 b0, .int .i64 b1] (a0 = b0 ∧ a1 = b1 ∧ True) := ⟨_, Try.underlying128, by kernel_rfl, by kernel_rfl, (fe_int (by decide) sc3FA un3FA rfl rfl (fe_int (by decide) sc3FA un3FA rfl rfl fe_nil))⟩
theorem ent_eq {k : Nat} {xs ys : List (Int × Int)} (h : ¬ ¬ ((xs.getD (k : Int).toNat default).1 = (ys.getD (k : Int).toNat default).1 ∧ (xs.getD (k : Int).toNat default).2 = (ys.getD (k : Int).toNat default).2 ∧ True)) : xs.getD k default = ys.getD k default := by
  have h := Classical.not_not.1 h
  simp only [Int.toNat_natCast] at h
  exact Prod.ext h.1 h.2.1
theorem ueTab_len {xs : List (Int × Int)} (h : xs = ueTab) : xs.length = 512 := by rw [h]; unfold ueTab; rw [List.length_map, List.length_range]

/-- slices.Equal[[]impl.Entry,impl.Entry] -/
theorem g_equalE (p q : Option Addr) (xs ys : List (Int × Int)) (c d : Nat) (w : World) (hp : Sl w p xs.length c 2 (xs.flatMap erow)) (hq : Sl w q ys.length d 2 (ys.flatMap erow)) (hl : xs.length ≤ 1099511627776) :
    Calls Try.prog 93 [.slice p xs.length c, .slice q ys.length d].toArray w (Ret w (.bool (decide (xs = ys)))) := by
  have L : Exm [] w w := Exm.rfl'
  refine enter (n := 26) Try.func93 rfl rfl rfl ?_
  refine wp_seq ?_
  refine c_reg ?_
  refine s0 (x_assign (v := .bool _) rfl) ?_
  refine c_end ?_
  refine n_then ?_
  refine wp_seq ?_
  refine wp_seq ?_
  refine c_reg ?_
  refine s0 (x_move (v := .slice _ _ _) rfl) ?_
  refine s0 (x_lensl un26FA rfl) ?_
  refine s0 (x_move (v := .slice _ _ _) rfl) ?_
  refine s0 (x_lensl un26FA rfl) ?_
  refine sb (x_neq rfl rfl) (fun h10 => ?_) (fun h10 => ?_)
  · refine c_end ?_
    refine n_then ?_
    refine c_true rfl ?_
    refine wp_seq ?_
    refine c_reg ?_
    refine s0 (x_assign (v := .bool _) rfl) ?_
    refine c_end ?_
    refine n_then ?_
    refine wp_ret (r_then ?_)
    refine f_ret rfl rfl ?_
    exact ⟨ret_f (fun h => h10 (by rw [h])), L⟩
  · refine c_end ?_
    refine n_then ?_
    refine c_false rfl ?_
    refine c_skipn ?_
    refine n_then ?_
    refine wp_seq ?_
    refine wp_seq ?_
    refine c_reg ?_
    refine s0 (x_move (v := .slice _ _ _) rfl) ?_
    refine s0 (x_lensl un26FA rfl) ?_
    refine s0 (x_move (v := .int _ _) rfl) ?_
    refine c_end ?_
    refine n_then ?_
    refine wp_block ?_
    refine c_loop (γ := Nat) (fun k => xs.length - k) (fun (k : Nat) E wl => ∃ E0, E = upd (upd (upd (upd E0 0 (.slice p xs.length c)) 1 (.slice q ys.length d)) 12 (.int .i64 xs.length)) 13 (.int .i64 (k : Int)) ∧ (Exm [] w wl) ∧ ((k : Int) ≤ xs.length) ∧ (∀ j : Nat, j < k → xs.getD j default = ys.getD j default)) 0 ⟨_, upd_self4 rfl rfl rfl rfl, L, (by omega), (by intro j hj; omega)⟩ ?_
    rintro k E wl1 ⟨E0, rfl, L, hk, heq⟩
    have Lz0 := L.size
    refine wp_seq ?_
    refine c_reg ?_
    refine sb (x_lss rfl rfl) (fun h14 => ?_) (fun h14 => ?_)
    · refine c_end ?_
      refine n_then ?_
      refine wp_seq ?_
      refine c_true rfl ?_
      refine c_skipn ?_
      refine n_then ?_
      refine wp_seq ?_
      refine wp_block ?_
      refine wp_seq ?_
      refine c_reg ?_
      refine s0 (x_move (v := .int _ _) rfl) ?_
      refine s0 (x_assign (v := .int _ _) rfl) ?_
      refine c_end ?_
      refine n_then ?_
      refine wp_seq ?_
      refine c_plan (fun wq => Exm [] wl1 wq) 9 (.cons (0, 2) (.cons (1, 2) (.cons (2, 2) (.cons (3, 1) (.cons (4, 2) (.cons (5, 2) (.cons (6, 2) (.cons (7, 1) (.cons (8, 2) .nil))))))))) (by kernel_rfl) (by kernel_rfl) (Exm.drew _) ?_
      obtain ⟨w2, hwd⟩ : ∃ x, x = wl1.drew := ⟨_, rfl⟩
      have l3 : Ext wl1 w2 := by rw [hwd]; exact Exm.drew _
      rw [← hwd]; clear hwd
      have Lq : Exm [] wl1 w2 := l3.up
      have qL := L
      have z_l3 := l3.size
      have L := L.tr l3.up
      refine p0 rfl (x_move (v := .slice _ _ _) rfl) ?_
      refine p0 rfl (x_move (v := .int _ _) rfl) ?_
      refine p0 rfl (x_idx so26FA rfl rfl hp (by decide) (by omega) (by omega)) ?_
      refine ps rfl (fun wq hwq => x_ldr erow_len ag128FA rfl ((hp.ext qL).ext hwq) (by omega) (by omega)) ?_
      refine p0 rfl (x_move (v := .slice _ _ _) rfl) ?_
      refine p0 rfl (x_move (v := .int _ _) rfl) ?_
      refine p0 rfl (x_idx so26FA rfl rfl hq (by decide) (by omega) (by omega)) ?_
      refine ps rfl (fun wq hwq => x_ldr erow_len ag128FA rfl ((hq.ext qL).ext hwq) (by omega) (by omega)) ?_
      refine pb rfl (x_neqa fe128FA rfl rfl) (fun h24 => ?_) (fun h24 => ?_)
      · refine p_nil (np_normal ?_)
        refine n_then ?_
        refine c_true rfl ?_
        refine wp_seq ?_
        refine c_reg ?_
        refine s0 (x_assign (v := .bool _) rfl) ?_
        refine c_end ?_
        refine n_then ?_
        refine wp_ret (r_block (r_then (r_then (r_block (r_then ?_)))))
        refine f_ret rfl rfl ?_
        exact ⟨ret_f (fun h => h24 (by rw [h]; exact ⟨rfl, rfl, trivial⟩)), L⟩
      · refine p_nil (np_normal ?_)
        refine n_then ?_
        refine c_false rfl ?_
        refine c_skipn ?_
        refine n_block ?_
        refine n_then ?_
        refine c_reg ?_
        refine s0 (x_add rfl rfl (by omega)) ?_
        refine s0 (x_move (v := .int _ _) rfl) ?_
        refine c_end ?_
        exact c_round (g' := k + 1) (by omega) ⟨_, upd_self4 rfl rfl rfl (vint (by omega)), L, (by omega), (upto_succ' heq (ent_eq h24))⟩
    · refine c_end ?_
      refine n_then ?_
      refine wp_seq ?_
      refine c_false rfl ?_
      refine wp_exit (e_then (e_then (e_here ?_)))
      refine n_then ?_
      refine wp_seq ?_
      refine c_reg ?_
      refine s0 (x_assign (v := .bool _) rfl) ?_
      refine c_end ?_
      refine n_then ?_
      refine wp_ret ?_
      refine f_ret rfl rfl ?_
      exact ⟨ret_t (ext_getD (by omega) fun j hj => heq j (by omega)), L⟩

/-- impl.TableOk -/
theorem i_tableOk (p : Option Addr) (xs : List (Int × Int)) (c : Nat) (w : World) (hp : Sl w p xs.length c 2 (xs.flatMap erow)) (hl : xs.length ≤ 1099511627776) :
    Calls Try.prog 15 [.slice p xs.length c].toArray w (Ret w (.bool (decide (xs = ueTab)))) := by
  have L : Exm [] w w := Exm.rfl'
  refine enter (n := 6) Try.func15 rfl rfl rfl ?_
  refine wp_seq ?_
  refine c_reg ?_
  refine s0 (x_assign (v := .bool _) rfl) ?_
  refine c_end ?_
  refine n_then ?_
  refine wp_seq ?_
  refine c_reg ?_
  refine s0 (x_move (v := .slice _ _ _) rfl) ?_
  refine sp (zcall cl14FA rfl) (i_ueTable _) ?_
  rintro v4 w1 l2 ⟨xs4, hx4, p4, c4, F4, rfl, o4, f4⟩
  have z_l2 := l2.size
  have L := L.tr l2.up
  have hl4 := ueTab_len hx4
  have g4 := o4.lt
  refine sr (zcall cl93FA rfl) (g_equalE _ _ _ _ _ _ _ (hp.ext L) o4.sl (by omega)) ?_
  intro w3 l4
  have z_l4 := l4.size
  have L := L.tr l4.up
  have o4 := o4.ext l4
  refine s0 (x_assign (v := .bool _) rfl) ?_
  refine c_end ?_
  refine n_then ?_
  refine wp_ret ?_
  refine f_ret rfl rfl ?_
  exact ⟨ret_dec2 (by rw [hx4]), L⟩

/-- spec.TableOk -/
theorem s_tableOk (p : Option Addr) (xs : List (Int × Int)) (c : Nat) (w : World) (hp : Sl w p xs.length c 2 (xs.flatMap erow)) (hl : xs.length ≤ 1099511627776) :
    Calls Try.prog 16 [.slice p xs.length c].toArray w (Ret w (.bool (decide (xs = ueTab)))) := by
  have L : Exm [] w w := Exm.rfl'
  refine enter (n := 32) Try.func16 rfl rfl rfl ?_
  refine wp_seq ?_
  refine c_reg ?_
  refine s0 (x_assign (v := .bool _) rfl) ?_
  refine c_end ?_
  refine n_then ?_
  refine wp_seq ?_
  refine c_reg ?_
  refine sp (zcall cl94FA rfl) (s_ueTable _) ?_
  rintro v5 w1 l2 ⟨xs5, hx5, p5, c5, F5, rfl, o5, f5⟩
  have z_l2 := l2.size
  have L := L.tr l2.up
  have hl5 := ueTab_len hx5
  have g5 := o5.lt
  refine s0 (x_assign (v := .slice _ _ _) rfl) ?_
  refine c_end ?_
  refine n_then ?_
  refine wp_seq ?_
  refine wp_seq ?_
  refine c_reg ?_
  refine s0 (x_assign (v := .int _ _) rfl) ?_
  refine c_end ?_
  refine n_then ?_
  refine wp_block ?_
  refine c_loop (γ := Nat) (fun k => xs.length - k) (fun (k : Nat) E wl => ∃ E0, E = upd (upd (upd E0 0 (.slice p xs.length c)) 3 (.slice p5 xs5.length c5)) 4 (.int .i64 (k : Int)) ∧ (Exm [] w wl) ∧ (w1.heap.size ≤ wl.heap.size) ∧ (Own wl p5 xs5.length c5 128 2 (xs5.flatMap erow) F5) ∧ ((k : Int) ≤ xs.length ∧ (k : Int) ≤ xs5.length) ∧ (∀ j : Nat, j < k → xs.getD j default = xs5.getD j default)) 0 ⟨_, upd_self3 rfl rfl rfl, L, (by omega), o5, (by omega), (by intro j hj; omega)⟩ ?_
  rintro k E wl3 ⟨E0, rfl, L, Lz, o5, hk, heq⟩
  have Lz0 := L.size
  refine wp_seq ?_
  refine wp_seq ?_
  refine c_reg ?_
  refine s0 (x_move (v := .int _ _) rfl) ?_
  refine s0 (x_move (v := .slice _ _ _) rfl) ?_
  refine s0 (x_lensl un26FA rfl) ?_
  refine sb (x_lss rfl rfl) (fun h9 => ?_) (fun h9 => ?_)
  · refine s0 (x_move (v := .bool _) rfl) ?_
    refine gt rfl rfl rfl rfl ?_
    refine s0 (x_move (v := .int _ _) rfl) ?_
    refine gt rfl rfl rfl rfl ?_
    refine s0 (x_move (v := .slice _ _ _) rfl) ?_
    refine gt rfl rfl rfl rfl ?_
    refine s0 (x_lensl un26FA rfl) ?_
    refine gt rfl rfl rfl rfl ?_
    refine sb (x_lss rfl rfl) (fun h14 => ?_) (fun h14 => ?_)
    · refine s0 (x_pickt (v := .bool _) rfl rfl) ?_
      refine c_end ?_
      refine n_then ?_
      refine c_true rfl ?_
      refine c_skipn ?_
      refine n_then ?_
      refine wp_seq ?_
      refine wp_block ?_
      refine wp_seq ?_
      refine c_plan (fun wq => Exm [] wl3 wq) 9 (.cons (0, 2) (.cons (1, 2) (.cons (2, 2) (.cons (3, 1) (.cons (4, 2) (.cons (5, 2) (.cons (6, 2) (.cons (7, 1) (.cons (8, 2) .nil))))))))) (by kernel_rfl) (by kernel_rfl) (Exm.drew _) ?_
      obtain ⟨w4, hwd⟩ : ∃ x, x = wl3.drew := ⟨_, rfl⟩
      have l5 : Ext wl3 w4 := by rw [hwd]; exact Exm.drew _
      rw [← hwd]; clear hwd
      have Lq : Exm [] wl3 w4 := l5.up
      have qo5 := o5
      have qL := L
      have z_l5 := l5.size
      have L := L.tr l5.up
      have o5 := o5.ext l5
      refine p0 rfl (x_move (v := .slice _ _ _) rfl) ?_
      refine p0 rfl (x_move (v := .int _ _) rfl) ?_
      refine p0 rfl (x_idx so26FA rfl rfl hp (by decide) (by omega) (by omega)) ?_
      refine ps rfl (fun wq hwq => x_ldr erow_len ag128FA rfl ((hp.ext qL).ext hwq) (by omega) (by omega)) ?_
      refine p0 rfl (x_move (v := .slice _ _ _) rfl) ?_
      refine p0 rfl (x_move (v := .int _ _) rfl) ?_
      refine p0 rfl (x_idx so26FA rfl rfl o5.sl (by decide) (by omega) (by omega)) ?_
      refine ps rfl (fun wq hwq => x_ldr erow_len ag128FA rfl (qo5.ext hwq).sl (by omega) (by omega)) ?_
      refine pb rfl (x_neqa fe128FA rfl rfl) (fun h26 => ?_) (fun h26 => ?_)
      · refine p_nil (np_normal ?_)
        refine n_then ?_
        refine c_true rfl ?_
        refine wp_seq ?_
        refine c_reg ?_
        refine s0 (x_assign (v := .bool _) rfl) ?_
        refine c_end ?_
        refine n_then ?_
        refine wp_ret (r_block (r_then (r_then (r_block (r_then ?_)))))
        refine f_ret rfl rfl ?_
        exact ⟨ret_f (fun h => h26 (by rw [h, hx5]; exact ⟨rfl, rfl, trivial⟩)), L⟩
      · refine p_nil (np_normal ?_)
        refine n_then ?_
        refine c_false rfl ?_
        refine c_skipn ?_
        refine n_block ?_
        refine n_then ?_
        refine c_reg ?_
        refine s0 (x_move (v := .int _ _) rfl) ?_
        refine s0 (x_add rfl rfl (by omega)) ?_
        refine s0 (x_assign (v := .int _ _) rfl) ?_
        refine c_end ?_
        exact c_round (g' := k + 1) (by omega) ⟨_, upd_self3 rfl rfl (vint (by omega)), L, (by omega), o5, (by omega), (upto_succ' heq (ent_eq h26))⟩
    · refine s0 (x_pickt (v := .bool _) rfl rfl) ?_
      refine c_end ?_
      refine n_then ?_
      refine c_false rfl ?_
      refine wp_exit (e_then (e_then (e_here ?_)))
      refine n_then ?_
      refine wp_seq ?_
      refine c_reg ?_
      refine s0 (x_move (v := .slice _ _ _) rfl) ?_
      refine s0 (x_lensl un26FA rfl) ?_
      refine s0 (x_move (v := .slice _ _ _) rfl) ?_
      refine s0 (x_lensl un26FA rfl) ?_
      refine s0 (x_eql rfl rfl) ?_
      refine s0 (x_assign (v := .bool _) rfl) ?_
      refine c_end ?_
      refine n_then ?_
      refine wp_ret ?_
      refine f_ret rfl rfl ?_
      exact ⟨ret_dec2 ⟨fun h => (ext_getD (by omega) fun j hj => heq j (by omega)).trans hx5, fun h => by rw [h, hx5]⟩, L⟩
  · refine s0 (x_move (v := .bool _) rfl) ?_
    refine gf rfl rfl rfl rfl ?_
    refine gf rfl rfl rfl rfl ?_
    refine gf rfl rfl rfl rfl ?_
    refine gf rfl rfl rfl rfl ?_
    refine s0 (x_pickf (v := .bool _) rfl rfl) ?_
    refine c_end ?_
    refine n_then ?_
    refine c_false rfl ?_
    refine wp_exit (e_then (e_then (e_here ?_)))
    refine n_then ?_
    refine wp_seq ?_
    refine c_reg ?_
    refine s0 (x_move (v := .slice _ _ _) rfl) ?_
    refine s0 (x_lensl un26FA rfl) ?_
    refine s0 (x_move (v := .slice _ _ _) rfl) ?_
    refine s0 (x_lensl un26FA rfl) ?_
    refine s0 (x_eql rfl rfl) ?_
    refine s0 (x_assign (v := .bool _) rfl) ?_
    refine c_end ?_
    refine n_then ?_
    refine wp_ret ?_
    refine f_ret rfl rfl ?_
    exact ⟨ret_dec2 ⟨fun h => (ext_getD (by omega) fun j hj => heq j (by omega)).trans hx5, fun h => by rw [h, hx5]⟩, L⟩

end Go.Proofs.Ytnehdmcilmlchaa
