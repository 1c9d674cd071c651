/- What each function of this part returns, for every argument that meets its premises. -/
import Derived.Test.YtepnknffaecbdaaGreatProg
import Derived.Test.YtepnknffaecbdaaGreatVSxA
import Derived.Test.YtepnknffaecbdaaGreatVPlA
import Derived.Test.YtepnknffaecbdaaGreatVF1
namespace Go.Proofs.YtepnknffaecbdaaGreat
open Go.Sx Go.Pl Go.RowKit
theorem ag26F4 : Ag Tryz.prog 26 6 := ⟨⟨_, Tryz.underlying26⟩, by kernel_rfl⟩
theorem cl100F4 : Callable Tryz.prog 100 := callable Tryz.func100 (by kernel_rfl) rfl
theorem cl105F4 : Callable Tryz.prog 105 := callable Tryz.func105 (by kernel_rfl) rfl
theorem cl119F4 : Callable Tryz.prog 119 := callable Tryz.func119 (by kernel_rfl) rfl
theorem cl36F4 : Callable Tryz.prog 36 := callable Tryz.func36 (by kernel_rfl) rfl
theorem cl54F4 : Callable Tryz.prog 54 := callable Tryz.func54 (by kernel_rfl) rfl
theorem cl66F4 : Callable Tryz.prog 66 := callable Tryz.func66 (by kernel_rfl) rfl
theorem cl67F4 : Callable Tryz.prog 67 := callable Tryz.func67 (by kernel_rfl) rfl
theorem cl73F4 : Callable Tryz.prog 73 := callable Tryz.func73 (by kernel_rfl) rfl
theorem cl77F4 : Callable Tryz.prog 77 := callable Tryz.func77 (by kernel_rfl) rfl
theorem cl85F4 : Callable Tryz.prog 85 := callable Tryz.func85 (by kernel_rfl) rfl
theorem fa26_0F4 : FieldAt Tryz.prog 26 0 0 := ⟨_, _, Tryz.underlying26, rfl, rfl, ⟨0, by unfold Sz; kernel_rfl⟩⟩
theorem fa26_1F4 : FieldAt Tryz.prog 26 1 1 := ⟨_, _, Tryz.underlying26, rfl, rfl, ⟨0, by unfold Sz; kernel_rfl⟩⟩
theorem fa26_2F4 : FieldAt Tryz.prog 26 2 2 := ⟨_, _, Tryz.underlying26, rfl, rfl, ⟨0, by unfold Sz; kernel_rfl⟩⟩
theorem fa26_3F4 : FieldAt Tryz.prog 26 3 3 := ⟨_, _, Tryz.underlying26, rfl, rfl, ⟨0, by unfold Sz; kernel_rfl⟩⟩
theorem fa26_4F4 : FieldAt Tryz.prog 26 4 4 := ⟨_, _, Tryz.underlying26, rfl, rfl, ⟨0, by unfold Sz; kernel_rfl⟩⟩
theorem fa26_5F4 : FieldAt Tryz.prog 26 5 5 := ⟨_, _, Tryz.underlying26, rfl, rfl, ⟨0, by unfold Sz; kernel_rfl⟩⟩
theorem fa45_0F4 : FieldAt Tryz.prog 45 0 0 := ⟨_, _, Tryz.underlying45, rfl, rfl, ⟨0, by unfold Sz; kernel_rfl⟩⟩
theorem fa45_1F4 : FieldAt Tryz.prog 45 1 1 := ⟨_, _, Tryz.underlying45, rfl, rfl, ⟨0, by unfold Sz; kernel_rfl⟩⟩
theorem fa45_2F4 : FieldAt Tryz.prog 45 2 2 := ⟨_, _, Tryz.underlying45, rfl, rfl, ⟨0, by unfold Sz; kernel_rfl⟩⟩
theorem fa45_3F4 : FieldAt Tryz.prog 45 3 3 := ⟨_, _, Tryz.underlying45, rfl, rfl, ⟨0, by unfold Sz; kernel_rfl⟩⟩
theorem fa45_4F4 : FieldAt Tryz.prog 45 4 4 := ⟨_, _, Tryz.underlying45, rfl, rfl, ⟨0, by unfold Sz; kernel_rfl⟩⟩
theorem fa45_5F4 : FieldAt Tryz.prog 45 5 5 := ⟨_, _, Tryz.underlying45, rfl, rfl, ⟨0, by unfold Sz; kernel_rfl⟩⟩
theorem sc24F4 : Sc Tryz.prog 24 := ⟨(.slice 3), by kernel_rfl, trivial⟩
theorem sc3F4 : Sc Tryz.prog 3 := ⟨(.int .i64), by kernel_rfl, trivial⟩
theorem sc4F4 : Sc Tryz.prog 4 := ⟨.bool, by kernel_rfl, trivial⟩
theorem so24F4 : SliceOf Tryz.prog 24 3 1 8 := ⟨by kernel_rfl, by kernel_rfl⟩
theorem sz24F4 : Sz Tryz.prog 24 1 := by unfold Sz; kernel_rfl
theorem sz26F4 : Sz Tryz.prog 26 6 := by unfold Sz; kernel_rfl
theorem sz3F4 : Sz Tryz.prog 3 1 := by unfold Sz; kernel_rfl
theorem sz4F4 : Sz Tryz.prog 4 1 := by unfold Sz; kernel_rfl
theorem un24F4 : Tryz.prog.underlying 24 = some (.slice 3) := by kernel_rfl
theorem un4F4 : Tryz.prog.underlying 4 = some .bool := by kernel_rfl
theorem zr26F4 : ZeroV Tryz.prog 26 [.int .i64 0, .int .i64 0, .int .i64 0, .bool false, .bool false, .slice none 0 0] := by unfold ZeroV; kernel_rfl
theorem zr3F4 : ZeroV Tryz.prog 3 [.int .i64 0] := by unfold ZeroV; kernel_rfl
/-- laws.szIntS -/
theorem l_szIntS (p : Option Addr) (n c : Nat) (left : Int) (w : World) (hs : n ≤ 9223372036854775807) (hl : 0 ≤ left ∧ left ≤ 9223372036854775807) :
    Calls Tryz.prog 105 [.slice p n c, .int .i64 left].toArray w (Ret w (.int .i64 (szOf left n))) := by
 have L : Exm [] w w := Exm.rfl'
 refine enter (n := 12) Tryz.func105 rfl rfl rfl ?_
 refine wp_seq (c_reg (s0 (xaI rfl) (c_end (n_then (wp_seq (c_reg (s0 (xmI rfl) (s0 (xmS rfl) (s0 (x_lensl un24F4 rfl) (s0 (x_sub rfl rfl (by omega)) (s0 (xaI rfl) (c_end (n_then ?_)))))))))))))
 refine wp_seq (wp_seq (c_reg (s0 (xmI rfl) ?_)))
 refine sb (x_lss rfl rfl) (fun h10 => ?_) (fun h10 => ?_)
 ·refine c_end (n_then (c_true rfl (wp_seq (c_reg (s0 (xaI rfl) (c_end (n_then ?_)))))))
  refine wp_ret (r_then ?_)
  refine f_ret rfl rfl ?_
  exact ⟨ret_int (by unfold szOf; rw [if_pos (by omega)]), L⟩
 ·refine c_end (n_then (c_false rfl (c_skipn (n_then (wp_seq (c_reg (s0 (xmI rfl) (s0 (xaI rfl) (c_end (n_then (wp_ret (f_ret rfl rfl ?_))))))))))))
  exact ⟨ret_int (by unfold szOf; rw [if_neg (by omega)]), L⟩

/-- laws.toIntS -/
theorem l_toIntS (p : Option Addr) (xs : List Int) (c : Nat) (w : World) (hp : Sl w p xs.length c 1 (ic xs)) (hl : xs.length ≤ 1099511627776) :
    Calls Tryz.prog 119 [.slice p xs.length c].toArray w (RetP w fun v w' => ∃ p' c' F', v = .slice p' xs.length c' ∧ Own w' p' xs.length c' 3 1 (ic xs) F' ∧ Fr w.heap.size F') := by
 have L : Exm [] w w := Exm.rfl'
 refine enter (n := 22) Tryz.func119 rfl rfl rfl ?_
 refine wp_seq (c_reg (s0 (xaS rfl) (c_end (n_then (wp_seq (c_reg (s0 (xmS rfl) (s0 (x_lensl un24F4 rfl) (s_makei so24F4 zr3F4 rfl rfl (by omega) (by omega) (by omega) ?_)))))))))
 intro p7 F7 w1 l2 o7 f7 g7
 have z_l2 := l2.size; have L := L.tr l2.up; have hn7 := o7.n1
 refine s0 (xaS rfl) (c_end (n_then (wp_seq (wp_seq (c_reg (s0 (xaI rfl) (c_end (n_then (wp_block ?_)))))))))
 refine c_loop (γ := Nat) (fun k => xs.length - k) (fun (k : Nat) E wl => ∃ E0, E = upd (upd (upd E0 0 (.slice p xs.length c)) 3 (.slice p7 xs.length xs.length)) 4 (.int .i64 (k : Int)) ∧ (Exm [] w wl) ∧ (w1.heap.size ≤ wl.heap.size) ∧ (Own wl p7 xs.length xs.length 3 1 (ic (fillk xs k)) F7) ∧ ((k : Int) ≤ xs.length)) 0 ⟨_, upd_self3 rfl rfl rfl, L, (by omega), (by rw [← fill0]; exact o7), (by omega)⟩ ?_
 rintro k E wl3 ⟨E0, rfl, L, Lz, o7, hk⟩
 have Lz0 := L.size; have hfl := fill_length xs k (by omega)
 refine wp_seq (wp_seq (c_reg (s0 (xmI rfl) (s0 (xmS rfl) (s0 (x_lensl un24F4 rfl) ?_)))))
 refine sb (x_lss rfl rfl) (fun h11 => ?_) (fun h11 => ?_)
 ·refine c_end (n_then (c_true rfl (c_skipn (n_then (wp_seq (wp_block (c_reg (s0 (xmS rfl) (s0 (xmI rfl) (s0 (xmS rfl) (s0 (xmI rfl) (s0 (x_idx so24F4 rfl rfl hp (by decide) (by omega) (by omega)) (st (x_ldi sc3F4 rfl (hp.ext L) (by omega) (by omega)) ?_)))))))))))))
  refine s0 (x_idx so24F4 rfl rfl o7.sl (by decide) (by omega) (by omega)) (s_stoi rfl sz3F4 rfl rfl o7 (by omega) (by omega) ?_)
  intro w4 l5 el5 o7
  have z_l5 := l5.size; have L := L.freshL l5 f7 (by omega); have hnl5 := o7.n1
  refine c_end (n_block (n_then (c_reg (s0 (xmI rfl) (s0 (x_add rfl rfl (by omega)) (s0 (xaI rfl) (c_end ?_)))))))
  rw [Int.toNat_natCast, fill_set xs k (by omega)] at o7
  exact c_round (g' := k + 1) (by omega) ⟨_, upd_self3 rfl rfl (vint (by omega)), L, (by omega), o7, (by omega)⟩
 ·refine c_end (n_then (c_false rfl ?_))
  refine wp_exit (e_then (e_then (e_here ?_)))
  refine n_then (wp_seq (c_reg (s0 (xmS rfl) (s0 (xaS rfl) (c_end (n_then (wp_ret (f_ret rfl rfl ?_))))))))
  exact ⟨_, rfl, L, _, _, _, rfl, (by rw [show k = xs.length by omega, fill_all] at o7; exact o7), f7.mono (by omega)⟩

/-- laws.eqIntS -/
theorem l_eqIntS (p q : Option Addr) (xs ys : List Int) (c d : Nat) (w : World) (hp : Sl w p xs.length c 1 (ic xs)) (hq : Sl w q ys.length d 1 (ic ys)) (hl : xs.length ≤ 1099511627776) :
    Calls Tryz.prog 54 [.slice p xs.length c, .slice q ys.length d].toArray w (Ret w (.bool (decide (xs = ys)))) := by
 have L : Exm [] w w := Exm.rfl'
 refine enter (n := 26) Tryz.func54 rfl rfl rfl ?_
 refine wp_seq (c_reg (s0 (x_assign (v := .bool _) rfl) (c_end (n_then (wp_seq (wp_seq (c_reg (s0 (xmS rfl) (s0 (x_lensl un24F4 rfl) (s0 (xmS rfl) (s0 (x_lensl un24F4 rfl) ?_)))))))))))
 refine sb (x_neq rfl rfl) (fun h10 => ?_) (fun h10 => ?_)
 ·refine c_end (n_then (c_true rfl (wp_seq (c_reg (s0 (x_assign (v := .bool _) rfl) (c_end (n_then ?_)))))))
  refine wp_ret (r_then ?_)
  refine f_ret rfl rfl ?_
  exact ⟨ret_f (fun h => h10 (by rw [h])), L⟩
 ·refine c_end (n_then (c_false rfl (c_skipn (n_then (wp_seq (wp_seq (c_reg (s0 (xaI rfl) (c_end (n_then (wp_block ?_)))))))))))
  refine c_loop (γ := Nat) (fun k => xs.length - k) (fun (k : Nat) E wl => ∃ E0, E = upd (upd (upd E0 0 (.slice p xs.length c)) 1 (.slice q ys.length d)) 5 (.int .i64 (k : Int)) ∧ (Exm [] w wl) ∧ ((k : Int) ≤ xs.length) ∧ (∀ j : Nat, j < k → xs.getD j 0 = ys.getD j 0)) 0 ⟨_, upd_self3 rfl rfl rfl, L, (by omega), (by intro j hj; omega)⟩ ?_
  rintro k E wl1 ⟨E0, rfl, L, hk, heq⟩
  have Lz0 := L.size
  refine wp_seq (wp_seq (c_reg (s0 (xmI rfl) (s0 (xmS rfl) (s0 (x_lensl un24F4 rfl) ?_)))))
  refine sb (x_lss rfl rfl) (fun h14 => ?_) (fun h14 => ?_)
  ·refine c_end (n_then (c_true rfl (c_skipn (n_then (wp_seq (wp_block (wp_seq ?_)))))))
   refine c_plan (fun wq => Exm [] wl1 wq) 9 (.cons (0, 2) (.cons (1, 2) (.cons (2, 2) (.cons (3, 1) (.cons (4, 2) (.cons (5, 2) (.cons (6, 2) (.cons (7, 1) (.cons (8, 2) .nil))))))))) (by kernel_rfl) (by kernel_rfl) (Exm.drew _) ?_
   obtain ⟨w2, hwd⟩ : ∃ x, x = wl1.drew := ⟨_, rfl⟩
   have l3 : Ext wl1 w2 := by rw [hwd]; exact Exm.drew _
   rw [← hwd]; clear hwd
   have Lq : Exm [] wl1 w2 := l3.up; have qL := L; have z_l3 := l3.size; have L := L.tr l3.up
   refine p0 rfl (xmS rfl) (p0 rfl (xmI rfl) (p0 rfl (x_idx so24F4 rfl rfl hp (by decide) (by omega) (by omega)) ?_))
   refine ps rfl (fun wq hwq => x_ldi sc3F4 rfl ((hp.ext qL).ext hwq) (by omega) (by omega)) ?_
   refine p0 rfl (xmS rfl) (p0 rfl (xmI rfl) (p0 rfl (x_idx so24F4 rfl rfl hq (by decide) (by omega) (by omega)) ?_))
   refine ps rfl (fun wq hwq => x_ldi sc3F4 rfl ((hq.ext qL).ext hwq) (by omega) (by omega)) ?_
   refine pb rfl (x_neq rfl rfl) (fun h25 => ?_) (fun h25 => ?_)
   ·refine p_nil (np_normal ?_)
    refine n_then (c_true rfl (wp_seq (c_reg (s0 (x_assign (v := .bool _) rfl) (c_end (n_then ?_))))))
    refine wp_ret (r_block (r_then (r_then (r_block (r_then ?_)))))
    refine f_ret rfl rfl ?_
    exact ⟨ret_f (fun h => h25 (by rw [h])), L⟩
   ·refine p_nil (np_normal ?_)
    refine n_then (c_false rfl (c_skipn (n_block (n_then (c_reg (s0 (xmI rfl) (s0 (x_add rfl rfl (by omega)) (s0 (xaI rfl) (c_end ?_)))))))))
    exact c_round (g' := k + 1) (by omega) ⟨_, upd_self3 rfl rfl (vint (by omega)), L, (by omega), (upto_succ heq (by simpa using h25))⟩
  ·refine c_end (n_then (c_false rfl ?_))
   refine wp_exit (e_then (e_then (e_here ?_)))
   refine n_then (wp_seq (c_reg (s0 (x_assign (v := .bool _) rfl) (c_end (n_then (wp_ret (f_ret rfl rfl ?_)))))))
   exact ⟨ret_t (getD_ext (by omega) fun j hj => heq j (by omega)), L⟩

/-- impl.CodeOk -/
theorem i_codeOk (p : Option Addr) (xs : List Int) (c : Nat) (w : World) (hp : Sl w p xs.length c 1 (ic xs)) (hl : xs.length ≤ 1099511627776) :
    Calls Tryz.prog 100 [.slice p xs.length c].toArray w (Ret w (.bool (decide (codeOk xs)))) := by
 have L : Exm [] w w := Exm.rfl'
 refine enter (n := 30) Tryz.func100 rfl rfl rfl ?_
 refine wp_seq (c_reg (s0 (x_assign (v := .bool _) rfl) (c_end (n_then (wp_seq (c_reg (s0 (xaI rfl) (c_end (n_then (wp_seq (wp_seq (c_reg (s0 (xmS rfl) ?_)))))))))))))
 refine s0 (x_lensl un24F4 rfl) (s0 (xmI rfl) (c_end (n_then (wp_block ?_))))
 refine c_loop (γ := Nat) (fun k => xs.length - k) (fun (k : Nat) E wl => ∃ E0, E = upd (upd (upd (upd (upd E0 0 (.slice p xs.length c)) 3 (.int .i64 (kraft (xs.take k)))) 6 (.slice p xs.length c)) 7 (.int .i64 xs.length)) 8 (.int .i64 (k : Int)) ∧ (Exm [] w wl) ∧ ((k : Int) ≤ xs.length) ∧ (∀ j : Nat, j < k → 0 ≤ xs.getD j 0 ∧ xs.getD j 0 ≤ 7)) 0 ⟨_, upd_self5 rfl rfl rfl rfl rfl, L, (by omega), (by intro j hj; omega)⟩ ?_
 rintro k E wl1 ⟨E0, rfl, L, hk, hall⟩
 have Lz0 := L.size; have hkr := kraft_take_range xs k
 refine wp_seq (c_reg ?_)
 refine sb (x_lss rfl rfl) (fun h9 => ?_) (fun h9 => ?_)
 ·refine c_end (n_then (wp_seq (c_true rfl (c_skipn (n_then (wp_seq (wp_block (wp_seq (c_reg (s0 (x_idx so24F4 rfl rfl hp (by decide) (by omega) (by omega)) (st (x_ldi sc3F4 rfl (hp.ext L) (by omega) (by omega)) (s0 (xaI rfl) (c_end ?_)))))))))))))
  refine n_then (wp_seq (wp_seq (c_reg (s0 (xmI rfl) ?_))))
  refine srb (zcall cl77F4 rfl) (i_within _ _ _ _) (fun h13 w2 l3 => ?_) (fun h13 w2 l3 => ?_)
  ·have z_l3 := l3.size
   have L := L.tr l3.up
   refine s0 (x_not rfl) (c_end (n_then (c_false rfl (c_skipn (n_then (wp_seq (c_reg (s0 (xmI rfl) ?_))))))))
   refine sb (x_gtr rfl rfl) (fun h16 => ?_) (fun h16 => ?_)
   ·refine c_end (n_then (c_true rfl ?_))
    have hpw := pow7 _ h16
    refine c_reg (s0 (xmI rfl) (s0 (xmI rfl) (s0 (x_sub rfl rfl (by omega)) (s0 (x_shl rfl rfl (by omega) (by omega)) (s0 (x_add rfl rfl (by omega)) (s0 (xaI rfl) (c_end (n_block (n_then (c_reg (s0 (x_add rfl rfl (by omega)) (s0 (xmI rfl) (c_end ?_)))))))))))))
    have hkt := kraft_take xs k (by omega)
    rw [Int.toNat_natCast] at h13 h16
    first | rw [if_pos h16] at hkt | rw [if_neg h16] at hkt
    exact c_round (g' := k + 1) (by omega) ⟨_, upd_self5 rfl (vint (by first | omega | (rw [Int.toNat_natCast]; omega))) rfl rfl (vint (by omega)), L, (by omega), (upto_succ hall (by simpa using h13))⟩
   ·refine c_end (n_then (c_false rfl (c_skipn (n_block (n_then (c_reg (s0 (x_add rfl rfl (by omega)) (s0 (xmI rfl) (c_end ?_)))))))))
    have hkt := kraft_take xs k (by omega)
    rw [Int.toNat_natCast] at h13 h16
    first | rw [if_pos h16] at hkt | rw [if_neg h16] at hkt
    exact c_round (g' := k + 1) (by omega) ⟨_, upd_self5 rfl (vint (by first | omega | (rw [Int.toNat_natCast]; omega))) rfl rfl (vint (by omega)), L, (by omega), (upto_succ hall (by simpa using h13))⟩
  ·have z_l3 := l3.size
   have L := L.tr l3.up
   refine s0 (x_not rfl) (c_end (n_then (c_true rfl (wp_seq (c_reg (s0 (x_assign (v := .bool _) rfl) (c_end (n_then ?_))))))))
   refine wp_ret (r_then (r_block (r_then (r_then (r_block (r_then ?_))))))
   refine f_ret rfl rfl ?_
   exact ⟨ret_f (fun h => h13 (by simpa using h.1 k (by omega))), L⟩
 ·refine c_end (n_then (wp_seq (c_false rfl ?_)))
  refine wp_exit (e_then (e_then (e_here ?_)))
  refine n_then (wp_seq (c_reg (s0 (xmS rfl) (s0 (x_lensl un24F4 rfl) ?_))))
  refine sb (x_eql rfl rfl) (fun h25 => ?_) (fun h25 => ?_)
  ·refine s0 (x_move (v := .bool _) rfl) (gt rfl rfl rfl rfl (s0 (xmI rfl) (gt rfl rfl rfl rfl (s0 (x_eql rfl rfl) (s0 (x_pickt (v := .bool _) rfl rfl) (s0 (x_assign (v := .bool _) rfl) (c_end (n_then (wp_ret (f_ret rfl rfl ?_))))))))))
   have hkl : xs.take k = xs := by rw [show k = xs.length by omega]; simp
   rw [hkl]
   exact ⟨ret_dec2 ⟨fun h => ⟨fun j hj => hall j (by omega), by omega, h⟩, fun h => h.2.2⟩, L⟩
  ·refine s0 (x_move (v := .bool _) rfl) (gf rfl rfl rfl rfl (gf rfl rfl rfl rfl (s0 (x_pickf (v := .bool _) rfl rfl) (s0 (x_assign (v := .bool _) rfl) (c_end (n_then (wp_ret (f_ret rfl rfl ?_))))))))
   exact ⟨ret_f (fun h => h25 (by have := h.2.1; omega)), L⟩

/-- spec.CodeOk -/
theorem s_codeOk (p : Option Addr) (xs : List Int) (c : Nat) (w : World) (hp : Sl w p xs.length c 1 (ic xs)) (hl : xs.length ≤ 1099511627776) :
    Calls Tryz.prog 67 [.slice p xs.length c].toArray w (Ret w (.bool (decide (codeOk xs)))) := by
 have L : Exm [] w w := Exm.rfl'
 refine enter (n := 37) Tryz.func67 rfl rfl rfl ?_
 refine wp_seq (c_reg (s0 (x_assign (v := .bool _) rfl) (c_end (n_then (wp_seq (c_reg (s0 (xaI rfl) (c_end (n_then (wp_seq (wp_seq (c_reg (s0 (xaI rfl) ?_)))))))))))))
 refine c_end (n_then (wp_block ?_))
 refine c_loop (γ := Nat) (fun k => xs.length - k) (fun (k : Nat) E wl => ∃ E0, E = upd (upd (upd E0 0 (.slice p xs.length c)) 3 (.int .i64 (kraft (xs.take k)))) 4 (.int .i64 (k : Int)) ∧ (Exm [] w wl) ∧ ((k : Int) ≤ xs.length) ∧ (∀ j : Nat, j < k → 0 ≤ xs.getD j 0 ∧ xs.getD j 0 ≤ 7)) 0 ⟨_, upd_self3 rfl rfl rfl, L, (by omega), (by intro j hj; omega)⟩ ?_
 rintro k E wl1 ⟨E0, rfl, L, hk, hall⟩
 have Lz0 := L.size; have hkr := kraft_take_range xs k
 refine wp_seq (wp_seq (c_reg (s0 (xmI rfl) (s0 (xmS rfl) (s0 (x_lensl un24F4 rfl) ?_)))))
 refine sb (x_lss rfl rfl) (fun h8 => ?_) (fun h8 => ?_)
 ·refine c_end (n_then (c_true rfl (c_skipn (n_then (wp_seq (wp_block (wp_seq (wp_seq (c_reg (s0 (xmS rfl) (s0 (xmI rfl) (s0 (x_idx so24F4 rfl rfl hp (by decide) (by omega) (by omega)) (st (x_ldi sc3F4 rfl (hp.ext L) (by omega) (by omega)) ?_)))))))))))))
  refine srb (zcall cl85F4 rfl) (s_l1In _ _ _ _) (fun h15 w2 l3 => ?_) (fun h15 w2 l3 => ?_)
  ·have z_l3 := l3.size
   have L := L.tr l3.up
   refine s0 (x_not rfl) (c_end (n_then (c_false rfl (c_skipn (n_then (wp_seq (c_reg (s0 (xmS rfl) (s0 (xmI rfl) (s0 (x_idx so24F4 rfl rfl hp (by decide) (by omega) (by omega)) (st (x_ldi sc3F4 rfl (hp.ext L) (by omega) (by omega)) ?_)))))))))))
   refine sb (x_gtr rfl rfl) (fun h21 => ?_) (fun h21 => ?_)
   ·refine c_end (n_then (c_true rfl ?_))
    have hpw := pow7 _ h21
    refine c_reg (s0 (xmI rfl) (s0 (xmS rfl) (s0 (xmI rfl) (s0 (x_idx so24F4 rfl rfl hp (by decide) (by omega) (by omega)) (st (x_ldi sc3F4 rfl (hp.ext L) (by omega) (by omega)) (s0 (x_sub rfl rfl (by omega)) (s0 (x_shl rfl rfl (by omega) (by omega)) (s0 (x_add rfl rfl (by omega)) (s0 (xaI rfl) (c_end (n_block (n_then (c_reg ?_)))))))))))))
    refine s0 (xmI rfl) (s0 (x_add rfl rfl (by omega)) (s0 (xaI rfl) (c_end ?_)))
    have hkt := kraft_take xs k (by omega)
    rw [Int.toNat_natCast] at h15 h21
    first | rw [if_pos h21] at hkt | rw [if_neg h21] at hkt
    exact c_round (g' := k + 1) (by omega) ⟨_, upd_self3 rfl (vint (by first | omega | (rw [Int.toNat_natCast]; omega))) (vint (by omega)), L, (by omega), (upto_succ hall (by simpa using h15))⟩
   ·refine c_end (n_then (c_false rfl (c_skipn (n_block (n_then (c_reg (s0 (xmI rfl) (s0 (x_add rfl rfl (by omega)) (s0 (xaI rfl) (c_end ?_))))))))))
    have hkt := kraft_take xs k (by omega)
    rw [Int.toNat_natCast] at h15 h21
    first | rw [if_pos h21] at hkt | rw [if_neg h21] at hkt
    exact c_round (g' := k + 1) (by omega) ⟨_, upd_self3 rfl (vint (by first | omega | (rw [Int.toNat_natCast]; omega))) (vint (by omega)), L, (by omega), (upto_succ hall (by simpa using h15))⟩
  ·have z_l3 := l3.size
   have L := L.tr l3.up
   refine s0 (x_not rfl) (c_end (n_then (c_true rfl (wp_seq (c_reg (s0 (x_assign (v := .bool _) rfl) (c_end (n_then ?_))))))))
   refine wp_ret (r_then (r_block (r_then (r_then (r_block (r_then ?_))))))
   refine f_ret rfl rfl ?_
   exact ⟨ret_f (fun h => h15 (by simpa using h.1 k (by omega))), L⟩
 ·refine c_end (n_then (c_false rfl ?_))
  refine wp_exit (e_then (e_then (e_here ?_)))
  refine n_then (wp_seq (c_reg (s0 (xmS rfl) (s0 (x_lensl un24F4 rfl) ?_))))
  refine sb (x_eql rfl rfl) (fun h32 => ?_) (fun h32 => ?_)
  ·refine s0 (x_move (v := .bool _) rfl) (gt rfl rfl rfl rfl (s0 (xmI rfl) (gt rfl rfl rfl rfl (s0 (x_eql rfl rfl) (s0 (x_pickt (v := .bool _) rfl rfl) (s0 (x_assign (v := .bool _) rfl) (c_end (n_then (wp_ret (f_ret rfl rfl ?_))))))))))
   have hkl : xs.take k = xs := by rw [show k = xs.length by omega]; simp
   rw [hkl]
   exact ⟨ret_dec2 ⟨fun h => ⟨fun j hj => hall j (by omega), by omega, h⟩, fun h => h.2.2⟩, L⟩
  ·refine s0 (x_move (v := .bool _) rfl) (gf rfl rfl rfl rfl (gf rfl rfl rfl rfl (s0 (x_pickf (v := .bool _) rfl rfl) (s0 (x_assign (v := .bool _) rfl) (c_end (n_then (wp_ret (f_ret rfl rfl ?_))))))))
   exact ⟨ret_f (fun h => h32 (by have := h.2.1; omega)), L⟩

/-- spec.StepOf -/
theorem s_stepOf (q : Int) (w : World) :
    Calls Tryz.prog 66 [.int .i64 q].toArray w (Ret w (.int .i64 (stepOf q))) := by
 have L : Exm [] w w := Exm.rfl'
 refine enter (n := 15) Tryz.func66 rfl rfl rfl ?_
 refine wp_seq (c_reg (s0 (xaI rfl) (c_end (n_then (wp_seq (wp_seq (c_reg (s0 (xmI rfl) ?_))))))))
 refine srb (zcall cl85F4 rfl) (s_l1In _ _ _ _) (fun h4 w1 l2 => ?_) (fun h4 w1 l2 => ?_)
 ·have z_l2 := l2.size
  have L := L.tr l2.up
  refine s0 (x_not rfl) (c_end (n_then (c_false rfl (c_skipn (n_then (wp_seq ?_))))))
  have hst := step_range q h4; have hsr := step_row q
  refine c_reg ?_
  refine s_bsi (xs := [_, _, _, _, _, _]) so24F4 zr3F4 (pts_cons rfl (pts_cons rfl (pts_cons rfl (pts_cons rfl (pts_cons rfl (pts_cons rfl pts_nil)))))) rfl rfl rfl ?_
  intro p6 F6 w3 l4 o6 f6 g6
  have z_l4 := l4.size; have L := L.tr l4.up; have hn6 := o6.n1
  refine s0 (xmI rfl) (s0 (x_rem rfl rfl (by omega) (by omega)) (s0 (x_idx so24F4 rfl rfl o6.sl (by decide) (by omega) (by omega)) (st (x_ldi sc3F4 rfl o6.sl (by omega) (by omega)) (s0 (xmI rfl) (s0 (x_quo rfl rfl (by omega) (by omega)) (s0 (x_shl rfl rfl (by omega) (by omega)) (s0 (x_quo rfl rfl (by omega) (by omega)) (s0 (xaI rfl) (c_end (n_then (wp_ret (f_ret rfl rfl ?_))))))))))))
  exact ⟨ret_int (by unfold stepOf; rw [if_pos h4]), L⟩
 ·have z_l2 := l2.size
  have L := L.tr l2.up
  refine s0 (x_not rfl) (c_end (n_then (c_true rfl (wp_seq (c_reg (s0 (xaI rfl) (c_end (n_then ?_))))))))
  refine wp_ret (r_then ?_)
  refine f_ret rfl rfl ?_
  exact ⟨ret_int (by unfold stepOf; rw [if_neg h4]), L⟩

/-- impl.SidesOk -/
theorem i_sidesOk (a b : Int) (w : World) :
    Calls Tryz.prog 73 [.int .i64 a, .int .i64 b].toArray w (Ret w (.bool (decide (sidesOk a b)))) := by
 have L : Exm [] w w := Exm.rfl'
 refine enter (n := 21) Tryz.func73 rfl rfl rfl ?_
 refine wp_seq (c_reg (s0 (x_assign (v := .bool _) rfl) (c_end (n_then (wp_seq (c_reg (s0 (xmI rfl) ?_)))))))
 refine srb (zcall cl77F4 rfl) (i_within _ _ _ _) (fun h6 w1 l2 => ?_) (fun h6 w1 l2 => ?_)
 ·have z_l2 := l2.size
  have L := L.tr l2.up
  refine s0 (x_move (v := .bool _) rfl) (gt rfl rfl rfl rfl (s0 (xmI rfl) (gt rfl rfl rfl rfl ?_)))
  refine srb (zcall cl77F4 rfl) (i_within _ _ _ _) (fun h9 w3 l4 => ?_) (fun h9 w3 l4 => ?_)
  ·have z_l4 := l4.size
   have L := L.tr l4.up
   refine s0 (x_pickt (v := .bool _) rfl rfl) (s0 (x_move (v := .bool _) rfl) (gt rfl rfl rfl rfl (s0 (xmI rfl) (gt rfl rfl rfl rfl (s0 (x_rem rfl rfl (by omega) (by omega)) (gt rfl rfl rfl rfl ?_))))))
   refine sb (x_eql rfl rfl) (fun h14 => ?_) (fun h14 => ?_)
   ·refine s0 (x_pickt (v := .bool _) rfl rfl) (s0 (x_move (v := .bool _) rfl) (gt rfl rfl rfl rfl (s0 (xmI rfl) (gt rfl rfl rfl rfl (s0 (x_rem rfl rfl (by omega) (by omega)) (gt rfl rfl rfl rfl (s0 (x_eql rfl rfl) (s0 (x_pickt (v := .bool _) rfl rfl) (s0 (x_assign (v := .bool _) rfl) (c_end (n_then (wp_ret (f_ret rfl rfl ?_)))))))))))))
    exact ⟨ret_dec2 (by unfold sidesOk; omega), L⟩
   ·refine s0 (x_pickt (v := .bool _) rfl rfl) (s0 (x_move (v := .bool _) rfl) (gf rfl rfl rfl rfl (gf rfl rfl rfl rfl (gf rfl rfl rfl rfl (s0 (x_pickf (v := .bool _) rfl rfl) (s0 (x_assign (v := .bool _) rfl) (c_end (n_then (wp_ret (f_ret rfl rfl ?_))))))))))
    exact ⟨ret_f (by unfold sidesOk; omega), L⟩
  ·have z_l4 := l4.size
   have L := L.tr l4.up
   refine s0 (x_pickt (v := .bool _) rfl rfl) (s0 (x_move (v := .bool _) rfl) (gf rfl rfl rfl rfl (gf rfl rfl rfl rfl (gf rfl rfl rfl rfl (s0 (x_pickf (v := .bool _) rfl rfl) (s0 (x_move (v := .bool _) rfl) (gf rfl rfl rfl rfl (gf rfl rfl rfl rfl (gf rfl rfl rfl rfl (s0 (x_pickf (v := .bool _) rfl rfl) (s0 (x_assign (v := .bool _) rfl) (c_end (n_then ?_)))))))))))))
   refine wp_ret (f_ret rfl rfl ?_)
   exact ⟨ret_f (by unfold sidesOk; omega), L⟩
 ·have z_l2 := l2.size
  have L := L.tr l2.up
  refine s0 (x_move (v := .bool _) rfl) (gf rfl rfl rfl rfl (gf rfl rfl rfl rfl (s0 (x_pickf (v := .bool _) rfl rfl) (s0 (x_move (v := .bool _) rfl) (gf rfl rfl rfl rfl (gf rfl rfl rfl rfl (gf rfl rfl rfl rfl (s0 (x_pickf (v := .bool _) rfl rfl) (s0 (x_move (v := .bool _) rfl) (gf rfl rfl rfl rfl (gf rfl rfl rfl rfl (gf rfl rfl rfl rfl (s0 (x_pickf (v := .bool _) rfl rfl) ?_)))))))))))))
  refine s0 (x_assign (v := .bool _) rfl) (c_end (n_then (wp_ret (f_ret rfl rfl ?_))))
  exact ⟨ret_f (by unfold sidesOk; omega), L⟩

/-- spec.SidesOk -/
theorem s_sidesOk (a b : Int) (w : World) :
    Calls Tryz.prog 36 [.int .i64 a, .int .i64 b].toArray w (Ret w (.bool (decide (sidesOk a b)))) := by
 have L : Exm [] w w := Exm.rfl'
 refine enter (n := 21) Tryz.func36 rfl rfl rfl ?_
 refine wp_seq (c_reg (s0 (x_assign (v := .bool _) rfl) (c_end (n_then (wp_seq (c_reg (s0 (xmI rfl) ?_)))))))
 refine srb (zcall cl85F4 rfl) (s_l1In _ _ _ _) (fun h6 w1 l2 => ?_) (fun h6 w1 l2 => ?_)
 ·have z_l2 := l2.size
  have L := L.tr l2.up
  refine s0 (x_move (v := .bool _) rfl) (gt rfl rfl rfl rfl (s0 (xmI rfl) (gt rfl rfl rfl rfl ?_)))
  refine srb (zcall cl85F4 rfl) (s_l1In _ _ _ _) (fun h9 w3 l4 => ?_) (fun h9 w3 l4 => ?_)
  ·have z_l4 := l4.size
   have L := L.tr l4.up
   refine s0 (x_pickt (v := .bool _) rfl rfl) (s0 (x_move (v := .bool _) rfl) (gt rfl rfl rfl rfl (s0 (xmI rfl) (gt rfl rfl rfl rfl (s0 (x_rem rfl rfl (by omega) (by omega)) (gt rfl rfl rfl rfl ?_))))))
   refine sb (x_eql rfl rfl) (fun h14 => ?_) (fun h14 => ?_)
   ·refine s0 (x_pickt (v := .bool _) rfl rfl) (s0 (x_move (v := .bool _) rfl) (gt rfl rfl rfl rfl (s0 (xmI rfl) (gt rfl rfl rfl rfl (s0 (x_rem rfl rfl (by omega) (by omega)) (gt rfl rfl rfl rfl (s0 (x_eql rfl rfl) (s0 (x_pickt (v := .bool _) rfl rfl) (s0 (x_assign (v := .bool _) rfl) (c_end (n_then (wp_ret (f_ret rfl rfl ?_)))))))))))))
    exact ⟨ret_dec2 (by unfold sidesOk; omega), L⟩
   ·refine s0 (x_pickt (v := .bool _) rfl rfl) (s0 (x_move (v := .bool _) rfl) (gf rfl rfl rfl rfl (gf rfl rfl rfl rfl (gf rfl rfl rfl rfl (s0 (x_pickf (v := .bool _) rfl rfl) (s0 (x_assign (v := .bool _) rfl) (c_end (n_then (wp_ret (f_ret rfl rfl ?_))))))))))
    exact ⟨ret_f (by unfold sidesOk; omega), L⟩
  ·have z_l4 := l4.size
   have L := L.tr l4.up
   refine s0 (x_pickt (v := .bool _) rfl rfl) (s0 (x_move (v := .bool _) rfl) (gf rfl rfl rfl rfl (gf rfl rfl rfl rfl (gf rfl rfl rfl rfl (s0 (x_pickf (v := .bool _) rfl rfl) (s0 (x_move (v := .bool _) rfl) (gf rfl rfl rfl rfl (gf rfl rfl rfl rfl (gf rfl rfl rfl rfl (s0 (x_pickf (v := .bool _) rfl rfl) (s0 (x_assign (v := .bool _) rfl) (c_end (n_then ?_)))))))))))))
   refine wp_ret (f_ret rfl rfl ?_)
   exact ⟨ret_f (by unfold sidesOk; omega), L⟩
 ·have z_l2 := l2.size
  have L := L.tr l2.up
  refine s0 (x_move (v := .bool _) rfl) (gf rfl rfl rfl rfl (gf rfl rfl rfl rfl (s0 (x_pickf (v := .bool _) rfl rfl) (s0 (x_move (v := .bool _) rfl) (gf rfl rfl rfl rfl (gf rfl rfl rfl rfl (gf rfl rfl rfl rfl (s0 (x_pickf (v := .bool _) rfl rfl) (s0 (x_move (v := .bool _) rfl) (gf rfl rfl rfl rfl (gf rfl rfl rfl rfl (gf rfl rfl rfl rfl (s0 (x_pickf (v := .bool _) rfl rfl) ?_)))))))))))))
  refine s0 (x_assign (v := .bool _) rfl) (c_end (n_then (wp_ret (f_ret rfl rfl ?_))))
  exact ⟨ret_f (by unfold sidesOk; omega), L⟩

/-- impl.HeaderOk -/
theorem i_headerOk (a b q : Int) (y z : Bool) (p : Option Addr) (xs : List Int) (c : Nat) (w : World) (hp : Sl w p xs.length c 1 (ic xs)) (hl : xs.length ≤ 1099511627776) :
    Calls Tryz.prog 69 [.agg [.int .i64 a, .int .i64 b, .int .i64 q, .bool y, .bool z, .slice p xs.length c].toArray].toArray w (Ret w (.bool (decide (headOk a b q xs)))) := by
 have L : Exm [] w w := Exm.rfl'
 refine enter (n := 18) Tryz.func69 rfl rfl rfl ?_
 refine wp_seq (c_reg (s_box rfl rfl ?_))
 intro b1 w2 lob1 hib1 l3 B1
 have z_l3 := l3.size; have L := L.tr l3.up
 refine s0 (x_assign (v := .bool _) rfl) (c_end (n_then (wp_seq (c_reg (s0 (x_fieldAddr fa26_0F4 rfl) (st (x_loadB sc3F4 rfl B1 rfl) (s0 (x_fieldAddr fa26_1F4 rfl) (st (x_loadB sc3F4 rfl B1 rfl) ?_))))))))
 refine srb (zcall cl73F4 rfl) (i_sidesOk _ _ _) (fun h7 w4 l5 => ?_) (fun h7 w4 l5 => ?_)
 ·have z_l5 := l5.size
  have L := L.tr l5.up; have B1 := B1.ext l5
  refine s0 (x_move (v := .bool _) rfl) (gt rfl rfl rfl rfl (s0 (x_fieldAddr fa26_2F4 rfl) (gt rfl rfl rfl rfl (st (x_loadB sc3F4 rfl B1 rfl) (gt rfl rfl rfl rfl ?_)))))
  refine srb (zcall cl77F4 rfl) (i_within _ _ _ _) (fun h11 w6 l7 => ?_) (fun h11 w6 l7 => ?_)
  ·have z_l7 := l7.size
   have L := L.tr l7.up; have B1 := B1.ext l7
   refine s0 (x_pickt (v := .bool _) rfl rfl) (s0 (x_move (v := .bool _) rfl) (gt rfl rfl rfl rfl (s0 (x_fieldAddr fa26_5F4 rfl) (gt rfl rfl rfl rfl (st (x_loadB sc24F4 rfl B1 rfl) (gt rfl rfl rfl rfl ?_))))))
   refine sr (zcall cl100F4 rfl) (i_codeOk _ _ _ _ (hp.ext L) (by omega)) ?_
   intro w8 l9
   have z_l9 := l9.size; have L := L.tr l9.up
   refine s0 (x_pickt (v := .bool _) rfl rfl) (s0 (x_assign (v := .bool _) rfl) (c_end (n_then (wp_ret (f_ret rfl rfl ?_)))))
   exact ⟨ret_dec2 ⟨fun h => ⟨h7, h11, h⟩, fun h => h.2.2⟩, L⟩
  ·have z_l7 := l7.size
   have L := L.tr l7.up
   refine s0 (x_pickt (v := .bool _) rfl rfl) (s0 (x_move (v := .bool _) rfl) (gf rfl rfl rfl rfl (gf rfl rfl rfl rfl (gf rfl rfl rfl rfl (s0 (x_pickf (v := .bool _) rfl rfl) (s0 (x_assign (v := .bool _) rfl) (c_end (n_then (wp_ret (f_ret rfl rfl ?_))))))))))
   exact ⟨ret_f (fun h => h11 h.2.1), L⟩
 ·have z_l5 := l5.size
  have L := L.tr l5.up
  refine s0 (x_move (v := .bool _) rfl) (gf rfl rfl rfl rfl (gf rfl rfl rfl rfl (gf rfl rfl rfl rfl (s0 (x_pickf (v := .bool _) rfl rfl) (s0 (x_move (v := .bool _) rfl) (gf rfl rfl rfl rfl (gf rfl rfl rfl rfl (gf rfl rfl rfl rfl (s0 (x_pickf (v := .bool _) rfl rfl) (s0 (x_assign (v := .bool _) rfl) (c_end (n_then (wp_ret ?_)))))))))))))
  refine f_ret rfl rfl ?_
  exact ⟨ret_f (fun h => h7 h.1), L⟩

/-- spec.HeaderOk -/
theorem s_headerOk (a b q : Int) (y z : Bool) (p : Option Addr) (xs : List Int) (c : Nat) (w : World) (hp : Sl w p xs.length c 1 (ic xs)) (hl : xs.length ≤ 1099511627776) :
    Calls Tryz.prog 28 [.agg [.int .i64 a, .int .i64 b, .int .i64 q, .bool y, .bool z, .slice p xs.length c].toArray].toArray w (Ret w (.bool (decide (headOk a b q xs)))) := by
 have L : Exm [] w w := Exm.rfl'
 refine enter (n := 19) Tryz.func28 rfl rfl rfl ?_
 refine wp_seq (c_reg (s_box rfl rfl ?_))
 intro b1 w2 lob1 hib1 l3 B1
 have z_l3 := l3.size; have L := L.tr l3.up
 refine s0 (x_assign (v := .bool _) rfl) (c_end (n_then (wp_seq (c_reg (s0 (x_fieldAddr fa26_0F4 rfl) (st (x_loadB sc3F4 rfl B1 rfl) (s0 (x_fieldAddr fa26_1F4 rfl) (st (x_loadB sc3F4 rfl B1 rfl) ?_))))))))
 refine srb (zcall cl36F4 rfl) (s_sidesOk _ _ _) (fun h7 w4 l5 => ?_) (fun h7 w4 l5 => ?_)
 ·have z_l5 := l5.size
  have L := L.tr l5.up; have B1 := B1.ext l5
  refine s0 (x_move (v := .bool _) rfl) (gt rfl rfl rfl rfl (s0 (x_fieldAddr fa26_2F4 rfl) (gt rfl rfl rfl rfl (st (x_loadB sc3F4 rfl B1 rfl) (gt rfl rfl rfl rfl ?_)))))
  refine sr (zcall cl66F4 rfl) (s_stepOf _ _) ?_
  intro w6 l7
  have z_l7 := l7.size; have L := L.tr l7.up; have B1 := B1.ext l7
  refine gt rfl rfl rfl rfl ?_
  refine sb (x_gtr rfl rfl) (fun h12 => ?_) (fun h12 => ?_)
  ·refine s0 (x_pickt (v := .bool _) rfl rfl) (s0 (x_move (v := .bool _) rfl) (gt rfl rfl rfl rfl (s0 (x_fieldAddr fa26_5F4 rfl) (gt rfl rfl rfl rfl (st (x_loadB sc24F4 rfl B1 rfl) (gt rfl rfl rfl rfl ?_))))))
   refine sr (zcall cl67F4 rfl) (s_codeOk _ _ _ _ (hp.ext L) (by omega)) ?_
   intro w8 l9
   have z_l9 := l9.size; have L := L.tr l9.up
   refine s0 (x_pickt (v := .bool _) rfl rfl) (s0 (x_assign (v := .bool _) rfl) (c_end (n_then (wp_ret (f_ret rfl rfl ?_)))))
   exact ⟨ret_dec2 ⟨fun h => ⟨h7, (step_pos q).1 h12, h⟩, fun h => h.2.2⟩, L⟩
  ·refine s0 (x_pickt (v := .bool _) rfl rfl) (s0 (x_move (v := .bool _) rfl) (gf rfl rfl rfl rfl (gf rfl rfl rfl rfl (gf rfl rfl rfl rfl (s0 (x_pickf (v := .bool _) rfl rfl) (s0 (x_assign (v := .bool _) rfl) (c_end (n_then (wp_ret (f_ret rfl rfl ?_))))))))))
   exact ⟨ret_f (fun h => h12 ((step_pos q).2 h.2.1)), L⟩
 ·have z_l5 := l5.size
  have L := L.tr l5.up
  refine s0 (x_move (v := .bool _) rfl) (gf rfl rfl rfl rfl (gf rfl rfl rfl rfl (gf rfl rfl rfl rfl (gf rfl rfl rfl rfl (s0 (x_pickf (v := .bool _) rfl rfl) (s0 (x_move (v := .bool _) rfl) (gf rfl rfl rfl rfl (gf rfl rfl rfl rfl (gf rfl rfl rfl rfl (s0 (x_pickf (v := .bool _) rfl rfl) (s0 (x_assign (v := .bool _) rfl) (c_end (n_then ?_)))))))))))))
  refine wp_ret (f_ret rfl rfl ?_)
  exact ⟨ret_f (fun h => h7 h.1), L⟩

/-- laws.szHeader -/
theorem l_szHeader (a b q : Int) (y z : Bool) (p : Option Addr) (n c : Nat) (left : Int) (w : World) (hs : n ≤ 9223372036854775807) (hl : 0 ≤ left ∧ left ≤ 9223372036854775807) :
    Calls Tryz.prog 45 [.agg [.int .i64 a, .int .i64 b, .int .i64 q, .bool y, .bool z, .slice p n c].toArray, .int .i64 left].toArray w (Ret w (.int .i64 (szOf left n))) := by
 have L : Exm [] w w := Exm.rfl'
 refine enter (n := 12) Tryz.func45 rfl rfl rfl ?_
 refine wp_seq (c_reg (s_box rfl rfl ?_))
 intro b1 w2 lob1 hib1 l3 B1
 have z_l3 := l3.size; have L := L.tr l3.up
 refine s0 (xaI rfl) (c_end (n_then (wp_seq (c_reg (s0 (x_fieldAddr fa45_5F4 rfl) (st (x_loadB sc24F4 rfl B1 rfl) (s0 (xmI rfl) ?_)))))))
 refine sr (zcall cl105F4 rfl) (l_szIntS _ _ _ _ _ (by omega) (by omega)) ?_
 intro w4 l5
 have z_l5 := l5.size; have L := L.tr l5.up
 refine s0 (xaI rfl) (c_end (n_then (wp_seq (wp_seq (c_reg (s0 (xmI rfl) ?_))))))
 refine sb (x_lss rfl rfl) (fun h10 => ?_) (fun h10 => ?_)
 ·refine c_end (n_then (c_true rfl (wp_seq (c_reg (s0 (xaI rfl) (c_end (n_then ?_)))))))
  refine wp_ret (r_then ?_)
  refine f_ret rfl rfl ?_
  exact ⟨ret_int (by unfold szOf at h10 ⊢; split at h10 <;> simp_all <;> omega), L⟩
 ·refine c_end (n_then (c_false rfl (c_skipn (n_then (wp_seq (c_reg (s0 (xmI rfl) (s0 (xaI rfl) (c_end (n_then (wp_ret (f_ret rfl rfl ?_))))))))))))
  exact ⟨rfl, L⟩

/-- laws.toHeader -/
theorem l_toHeader (a b q : Int) (y z : Bool) (p : Option Addr) (xs : List Int) (c : Nat) (w : World) (hp : Sl w p xs.length c 1 (ic xs)) (hl : xs.length ≤ 1099511627776) :
    Calls Tryz.prog 52 [.agg [.int .i64 a, .int .i64 b, .int .i64 q, .bool y, .bool z, .slice p xs.length c].toArray].toArray w (RetP w fun v w' => ∃ p' c' F', v = .agg [.int .i64 a, .int .i64 b, .int .i64 q, .bool y, .bool z, .slice p' xs.length c'].toArray ∧ Own w' p' xs.length c' 3 1 (ic xs) F' ∧ Fr w.heap.size F') := by
 have L : Exm [] w w := Exm.rfl'
 refine enter (n := 24) Tryz.func52 rfl rfl rfl ?_
 refine wp_seq (c_reg (s_box rfl rfl ?_))
 intro b1 w2 lob1 hib1 l3 B1
 have z_l3 := l3.size; have L := L.tr l3.up
 refine s_alloc zr26F4 ?_
 intro b4 w5 lob4 hib4 l6 B4
 have z_l6 := l6.size; have L := L.tr l6.up; have B1 := B1.ext l6
 refine c_end (n_then (wp_seq (c_reg (s_alloc zr26F4 ?_))))
 intro b7 w8 lob7 hib7 l9 B7
 have z_l9 := l9.size; have L := L.tr l9.up; have B1 := B1.ext l9; have B4 := B4.ext l9
 refine c_end (n_then (wp_seq (c_reg (s0 (x_fieldAddr fa45_0F4 rfl) (st (x_loadB sc3F4 rfl B1 rfl) (s0 (x_fieldAddr fa26_0F4 rfl) ?_))))))
 refine s_store (v := .int _ _) (cs' := [_, _, _, _, _, _]) rfl sz3F4 rfl rfl rfl rfl B7 rfl rfl ?_
 intro w10 l11 el11 B7
 have z_l11 := l11.size; have L := L.fresh l11 (by omega); have B1 := B1.ne l11 (by omega); have B4 := B4.ne l11 (by omega)
 refine c_end (n_then (wp_seq (c_reg (s0 (x_fieldAddr fa45_1F4 rfl) (st (x_loadB sc3F4 rfl B1 rfl) (s0 (x_fieldAddr fa26_1F4 rfl) ?_))))))
 refine s_store (v := .int _ _) (cs' := [_, _, _, _, _, _]) rfl sz3F4 rfl rfl rfl rfl B7 rfl rfl ?_
 intro w12 l13 el13 B7
 have z_l13 := l13.size; have L := L.fresh l13 (by omega); have B1 := B1.ne l13 (by omega); have B4 := B4.ne l13 (by omega)
 refine c_end (n_then (wp_seq (c_reg (s0 (x_fieldAddr fa45_2F4 rfl) (st (x_loadB sc3F4 rfl B1 rfl) (s0 (x_fieldAddr fa26_2F4 rfl) ?_))))))
 refine s_store (v := .int _ _) (cs' := [_, _, _, _, _, _]) rfl sz3F4 rfl rfl rfl rfl B7 rfl rfl ?_
 intro w14 l15 el15 B7
 have z_l15 := l15.size; have L := L.fresh l15 (by omega); have B1 := B1.ne l15 (by omega); have B4 := B4.ne l15 (by omega)
 refine c_end (n_then (wp_seq (c_reg (s0 (x_fieldAddr fa45_3F4 rfl) (st (x_loadB sc4F4 rfl B1 rfl) (s0 (x_fieldAddr fa26_3F4 rfl) ?_))))))
 refine s_store (v := .bool _) (cs' := [_, _, _, _, _, _]) rfl sz4F4 rfl rfl rfl rfl B7 rfl rfl ?_
 intro w16 l17 el17 B7
 have z_l17 := l17.size; have L := L.fresh l17 (by omega); have B1 := B1.ne l17 (by omega); have B4 := B4.ne l17 (by omega)
 refine c_end (n_then (wp_seq (c_reg (s0 (x_fieldAddr fa45_4F4 rfl) (st (x_loadB sc4F4 rfl B1 rfl) (s0 (x_fieldAddr fa26_4F4 rfl) ?_))))))
 refine s_store (v := .bool _) (cs' := [_, _, _, _, _, _]) rfl sz4F4 rfl rfl rfl rfl B7 rfl rfl ?_
 intro w18 l19 el19 B7
 have z_l19 := l19.size; have L := L.fresh l19 (by omega); have B1 := B1.ne l19 (by omega); have B4 := B4.ne l19 (by omega)
 refine c_end (n_then (wp_seq (c_reg (s0 (x_fieldAddr fa45_5F4 rfl) (st (x_loadB sc24F4 rfl B1 rfl) ?_)))))
 refine sp (zcall cl119F4 rfl) (l_toIntS _ _ _ _ (hp.ext L) (by omega)) ?_
 rintro v21 w20 l21 ⟨p21, c21, F21, rfl, o21, f21⟩
 have z_l21 := l21.size; have L := L.tr l21.up; have B1 := B1.ext l21; have B4 := B4.ext l21; have B7 := B7.ext l21; have g21 := o21.lt
 refine s0 (x_fieldAddr fa26_5F4 rfl) ?_
 refine s_store (v := .slice _ _ _) (cs' := [_, _, _, _, _, _]) rfl sz24F4 rfl rfl rfl rfl B7 rfl rfl ?_
 intro w22 l23 el23 B7
 have z_l23 := l23.size; have L := L.fresh l23 (by omega); have B1 := B1.ne l23 (by omega); have B4 := B4.ne l23 (by omega); have o21 := o21.ne l23 (by first|assumption|exact nin_of f21 g21 (by omega))
 refine c_end (n_then (wp_seq (c_reg (st (x_loadAgB ag26F4 rfl B7 rfl) (s_storeAg rfl sz26F4 rfl rfl B4 rfl rfl rfl ?_)))))
 intro w24 l25 el25 B4
 have z_l25 := l25.size; have L := L.fresh l25 (by omega); have B1 := B1.ne l25 (by omega); have B7 := B7.ne l25 (by omega); have o21 := o21.ne l25 (by first|assumption|exact nin_of f21 g21 (by omega))
 refine c_end (n_then (wp_ret (f_retc rfl rfl ag26F4 B4 rfl ?_)))
 exact ⟨_, rfl, L, _, _, _, rfl, o21, f21.mono (by omega)⟩

/-- laws.eqHeader -/
theorem l_eqHeader (a b q a' b' q' : Int) (y z y' z' : Bool) (p p2 : Option Addr) (xs ys : List Int) (c d : Nat) (w : World) (hp : Sl w p xs.length c 1 (ic xs)) (hq : Sl w p2 ys.length d 1 (ic ys)) (hl : xs.length ≤ 1099511627776) :
    Calls Tryz.prog 55 [.agg [.int .i64 a, .int .i64 b, .int .i64 q, .bool y, .bool z, .slice p xs.length c].toArray, .agg [.int .i64 a', .int .i64 b', .int .i64 q', .bool y', .bool z', .slice p2 ys.length d].toArray].toArray w (Ret w (.bool (decide (a = a' ∧ b = b' ∧ q = q' ∧ y = y' ∧ z = z' ∧ xs = ys)))) := by
 have L : Exm [] w w := Exm.rfl'
 refine enter (n := 36) Tryz.func55 rfl rfl rfl ?_
 refine wp_seq (c_reg (s_box rfl rfl ?_))
 intro b1 w2 lob1 hib1 l3 B1
 have z_l3 := l3.size; have L := L.tr l3.up
 refine s_box rfl rfl ?_
 intro b4 w5 lob4 hib4 l6 B4
 have z_l6 := l6.size; have L := L.tr l6.up; have B1 := B1.ext l6
 refine s0 (x_assign (v := .bool _) rfl) (c_end (n_then (wp_seq (wp_seq (c_reg (s0 (x_fieldAddr fa26_0F4 rfl) (st (x_loadB sc3F4 rfl B1 rfl) (s0 (x_fieldAddr fa26_0F4 rfl) (st (x_loadB sc3F4 rfl B4 rfl) ?_)))))))))
 refine sb (x_neq rfl rfl) (fun h9 => ?_) (fun h9 => ?_)
 ·refine c_end (n_then (c_true rfl (wp_seq (c_reg (s0 (x_assign (v := .bool _) rfl) (c_end (n_then ?_)))))))
  refine wp_ret (r_then ?_)
  refine f_ret rfl rfl ?_
  exact ⟨ret_f (by simp_all), L⟩
 ·refine c_end (n_then (c_false rfl (c_skipn (n_then (wp_seq (wp_seq (c_reg (s0 (x_fieldAddr fa26_1F4 rfl) (st (x_loadB sc3F4 rfl B1 rfl) (s0 (x_fieldAddr fa26_1F4 rfl) (st (x_loadB sc3F4 rfl B4 rfl) ?_)))))))))))
  refine sb (x_neq rfl rfl) (fun h14 => ?_) (fun h14 => ?_)
  ·refine c_end (n_then (c_true rfl (wp_seq (c_reg (s0 (x_assign (v := .bool _) rfl) (c_end (n_then ?_)))))))
   refine wp_ret (r_then ?_)
   refine f_ret rfl rfl ?_
   exact ⟨ret_f (by simp_all), L⟩
  ·refine c_end (n_then (c_false rfl (c_skipn (n_then (wp_seq (wp_seq (c_reg (s0 (x_fieldAddr fa26_2F4 rfl) (st (x_loadB sc3F4 rfl B1 rfl) (s0 (x_fieldAddr fa26_2F4 rfl) (st (x_loadB sc3F4 rfl B4 rfl) ?_)))))))))))
   refine sb (x_neq rfl rfl) (fun h19 => ?_) (fun h19 => ?_)
   ·refine c_end (n_then (c_true rfl (wp_seq (c_reg (s0 (x_assign (v := .bool _) rfl) (c_end (n_then ?_)))))))
    refine wp_ret (r_then ?_)
    refine f_ret rfl rfl ?_
    exact ⟨ret_f (by simp_all), L⟩
   ·refine c_end (n_then (c_false rfl (c_skipn (n_then (wp_seq (wp_seq (c_reg (s0 (x_fieldAddr fa26_3F4 rfl) (st (x_loadB sc4F4 rfl B1 rfl) (s0 (x_fieldAddr fa26_3F4 rfl) (st (x_loadB sc4F4 rfl B4 rfl) ?_)))))))))))
    refine sb (x_neqb un4F4 rfl rfl) (fun h24 => ?_) (fun h24 => ?_)
    ·refine c_end (n_then (c_true rfl (wp_seq (c_reg (s0 (x_assign (v := .bool _) rfl) (c_end (n_then ?_)))))))
     refine wp_ret (r_then ?_)
     refine f_ret rfl rfl ?_
     exact ⟨ret_f (by simp_all), L⟩
    ·refine c_end (n_then (c_false rfl (c_skipn (n_then (wp_seq (wp_seq (c_reg (s0 (x_fieldAddr fa26_4F4 rfl) (st (x_loadB sc4F4 rfl B1 rfl) (s0 (x_fieldAddr fa26_4F4 rfl) (st (x_loadB sc4F4 rfl B4 rfl) ?_)))))))))))
     refine sb (x_neqb un4F4 rfl rfl) (fun h29 => ?_) (fun h29 => ?_)
     ·refine c_end (n_then (c_true rfl (wp_seq (c_reg (s0 (x_assign (v := .bool _) rfl) (c_end (n_then ?_)))))))
      refine wp_ret (r_then ?_)
      refine f_ret rfl rfl ?_
      exact ⟨ret_f (by simp_all), L⟩
     ·refine c_end (n_then (c_false rfl (c_skipn (n_then (wp_seq (wp_seq (c_reg (s0 (x_fieldAddr fa26_5F4 rfl) (st (x_loadB sc24F4 rfl B1 rfl) (s0 (x_fieldAddr fa26_5F4 rfl) (st (x_loadB sc24F4 rfl B4 rfl) ?_)))))))))))
      refine srb (zcall cl54F4 rfl) (l_eqIntS _ _ _ _ _ _ _ (hp.ext L) (hq.ext L) (by omega)) (fun h34 w7 l8 => ?_) (fun h34 w7 l8 => ?_)
      ·have z_l8 := l8.size
       have L := L.tr l8.up
       refine s0 (x_not rfl) (c_end (n_then (c_false rfl (c_skipn (n_then (wp_seq (c_reg (s0 (x_assign (v := .bool _) rfl) (c_end (n_then (wp_ret (f_ret rfl rfl ?_))))))))))))
       exact ⟨ret_t (by simp_all), L⟩
      ·have z_l8 := l8.size
       have L := L.tr l8.up
       refine s0 (x_not rfl) (c_end (n_then (c_true rfl (wp_seq (c_reg (s0 (x_assign (v := .bool _) rfl) (c_end (n_then ?_))))))))
       refine wp_ret (r_then ?_)
       refine f_ret rfl rfl ?_
       exact ⟨ret_f (by simp_all), L⟩

end Go.Proofs.YtepnknffaecbdaaGreat
