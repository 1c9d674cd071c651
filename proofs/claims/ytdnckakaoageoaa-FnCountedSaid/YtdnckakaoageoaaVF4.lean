/- What each function of this part returns, for every argument that meets its premises. -/
import Derived.Test.YtdnckakaoageoaaProg
import Derived.Test.YtdnckakaoageoaaVSxF
import Derived.Test.YtdnckakaoageoaaVPlX
import Derived.Test.YtdnckakaoageoaaVF1
namespace Go.Proofs.Ytdnckakaoageoaa
open Go.Sx Go.Pl Go.RowKit
theorem cl103F4 : Callable Try.prog 103 := callable Try.func103 (by kernel_rfl) rfl
theorem cl104F4 : Callable Try.prog 104 := callable Try.func104 (by kernel_rfl) rfl
theorem sc3F4 : Sc Try.prog 3 := ⟨(.int .i64), by kernel_rfl, trivial⟩
theorem so22F4 : SliceOf Try.prog 22 3 1 8 := ⟨by kernel_rfl, by kernel_rfl⟩
theorem un22F4 : Try.prog.underlying 22 = some (.slice 3) := by kernel_rfl
/-- impl.CodeOk -/
theorem i_codeOk (p : Option Addr) (xs : List Int) (c : Nat) (w : World) (hp : Sl w p xs.length c 1 (ic xs)) (hl : xs.length ≤ 1099511627776) :
    Calls Try.prog 146 [.slice p xs.length c].toArray w (Ret w (.bool (decide (codeOk xs)))) := by
  have L : Exm [] w w := Exm.rfl'
  refine enter (n := 30) Try.func146 rfl rfl rfl ?_
  refine wp_seq ?_
  refine c_reg ?_
  refine s0 (x_assign (v := .bool _) rfl) ?_
  refine c_end ?_
  refine n_then ?_
  refine wp_seq ?_
  refine c_reg ?_
  refine s0 (x_assign (v := .int _ _) rfl) ?_
  refine c_end ?_
  refine n_then ?_
  refine wp_seq ?_
  refine wp_seq ?_
  refine c_reg ?_
  refine s0 (x_move (v := .slice _ _ _) rfl) ?_
  refine s0 (x_lensl un22F4 rfl) ?_
  refine s0 (x_move (v := .int _ _) rfl) ?_
  refine c_end ?_
  refine n_then ?_
  refine wp_block ?_
  refine c_loop (γ := Nat) (fun k => xs.length - k) (fun (k : Nat) E wl => ∃ E0, E = upd (upd (upd (upd (upd E0 0 (.slice p xs.length c)) 3 (.int .i64 (kraft (xs.take k)))) 6 (.slice p xs.length c)) 7 (.int .i64 xs.length)) 8 (.int .i64 (k : Int)) ∧ (Exm [] w wl) ∧ ((k : Int) ≤ xs.length) ∧ (∀ j : Nat, j < k → 0 ≤ xs.getD j 0 ∧ xs.getD j 0 ≤ 7)) 0 ⟨_, upd_self5 rfl rfl rfl rfl rfl, L, (by omega), (by intro j hj; omega)⟩ ?_
  rintro k E wl1 ⟨E0, rfl, L, hk, hall⟩
  have Lz0 := L.size
  have hkr := kraft_take_range xs k
  refine wp_seq ?_
  refine c_reg ?_
  refine sb (x_lss rfl rfl) (fun h9 => ?_) (fun h9 => ?_)
  · refine c_end ?_
    refine n_then ?_
    refine wp_seq ?_
    refine c_true rfl ?_
    refine c_skipn ?_
    refine n_then ?_
    refine wp_seq ?_
    refine wp_block ?_
    refine wp_seq ?_
    refine c_reg ?_
    refine s0 (x_idx so22F4 rfl rfl hp (by decide) (by omega) (by omega)) ?_
    refine st (x_ldi sc3F4 rfl (hp.ext L) (by omega) (by omega)) ?_
    refine s0 (x_assign (v := .int _ _) rfl) ?_
    refine c_end ?_
    refine n_then ?_
    refine wp_seq ?_
    refine wp_seq ?_
    refine c_reg ?_
    refine s0 (x_move (v := .int _ _) rfl) ?_
    refine srb (zcall cl103F4 rfl) (i_within _ _ _ _) (fun h13 w2 l3 => ?_) (fun h13 w2 l3 => ?_)
    · have z_l3 := l3.size
      have L := L.tr l3.up
      refine s0 (x_not rfl) ?_
      refine c_end ?_
      refine n_then ?_
      refine c_false rfl ?_
      refine c_skipn ?_
      refine n_then ?_
      refine wp_seq ?_
      refine c_reg ?_
      refine s0 (x_move (v := .int _ _) rfl) ?_
      refine sb (x_gtr rfl rfl) (fun h16 => ?_) (fun h16 => ?_)
      · refine c_end ?_
        refine n_then ?_
        refine c_true rfl ?_
        have hpw := pow7 _ h16
        refine c_reg ?_
        refine s0 (x_move (v := .int _ _) rfl) ?_
        refine s0 (x_move (v := .int _ _) rfl) ?_
        refine s0 (x_sub rfl rfl (by omega)) ?_
        refine s0 (x_shl rfl rfl (by omega) (by omega)) ?_
        refine s0 (x_add rfl rfl (by omega)) ?_
        refine s0 (x_assign (v := .int _ _) rfl) ?_
        refine c_end ?_
        refine n_block ?_
        refine n_then ?_
        refine c_reg ?_
        refine s0 (x_add rfl rfl (by omega)) ?_
        refine s0 (x_move (v := .int _ _) rfl) ?_
        refine c_end ?_
        have hkt := kraft_take xs k (by omega)
        rw [Int.toNat_natCast] at h13 h16
        first | rw [if_pos h16] at hkt | rw [if_neg h16] at hkt
        exact c_round (g' := k + 1) (by omega) ⟨_, upd_self5 rfl (vint (by first | omega | (rw [Int.toNat_natCast]; omega))) rfl rfl (vint (by omega)), L, (by omega), (upto_succ hall (by simpa using h13))⟩
      · refine c_end ?_
        refine n_then ?_
        refine c_false rfl ?_
        refine c_skipn ?_
        refine n_block ?_
        refine n_then ?_
        refine c_reg ?_
        refine s0 (x_add rfl rfl (by omega)) ?_
        refine s0 (x_move (v := .int _ _) rfl) ?_
        refine c_end ?_
        have hkt := kraft_take xs k (by omega)
        rw [Int.toNat_natCast] at h13 h16
        first | rw [if_pos h16] at hkt | rw [if_neg h16] at hkt
        exact c_round (g' := k + 1) (by omega) ⟨_, upd_self5 rfl (vint (by first | omega | (rw [Int.toNat_natCast]; omega))) rfl rfl (vint (by omega)), L, (by omega), (upto_succ hall (by simpa using h13))⟩
    · have z_l3 := l3.size
      have L := L.tr l3.up
      refine s0 (x_not rfl) ?_
      refine c_end ?_
      refine n_then ?_
      refine c_true rfl ?_
      refine wp_seq ?_
      refine c_reg ?_
      refine s0 (x_assign (v := .bool _) rfl) ?_
      refine c_end ?_
      refine n_then ?_
      refine wp_ret (r_then (r_block (r_then (r_then (r_block (r_then ?_))))))
      refine f_ret rfl rfl ?_
      exact ⟨ret_f (fun h => h13 (by simpa using h.1 k (by omega))), L⟩
  · refine c_end ?_
    refine n_then ?_
    refine wp_seq ?_
    refine c_false rfl ?_
    refine wp_exit (e_then (e_then (e_here ?_)))
    refine n_then ?_
    refine wp_seq ?_
    refine c_reg ?_
    refine s0 (x_move (v := .slice _ _ _) rfl) ?_
    refine s0 (x_lensl un22F4 rfl) ?_
    refine sb (x_eql rfl rfl) (fun h25 => ?_) (fun h25 => ?_)
    · refine s0 (x_move (v := .bool _) rfl) ?_
      refine gt rfl rfl rfl rfl ?_
      refine s0 (x_move (v := .int _ _) rfl) ?_
      refine gt rfl rfl rfl rfl ?_
      refine s0 (x_eql rfl rfl) ?_
      refine s0 (x_pickt (v := .bool _) rfl rfl) ?_
      refine s0 (x_assign (v := .bool _) rfl) ?_
      refine c_end ?_
      refine n_then ?_
      refine wp_ret ?_
      refine f_ret rfl rfl ?_
      have hkl : xs.take k = xs := by rw [show k = xs.length by omega]; simp
      rw [hkl]
      exact ⟨ret_dec2 ⟨fun h => ⟨fun j hj => hall j (by omega), by omega, h⟩, fun h => h.2.2⟩, L⟩
    · refine s0 (x_move (v := .bool _) rfl) ?_
      refine gf rfl rfl rfl rfl ?_
      refine gf rfl rfl rfl rfl ?_
      refine s0 (x_pickf (v := .bool _) rfl rfl) ?_
      refine s0 (x_assign (v := .bool _) rfl) ?_
      refine c_end ?_
      refine n_then ?_
      refine wp_ret ?_
      refine f_ret rfl rfl ?_
      exact ⟨ret_f (fun h => h25 (by have := h.2.1; omega)), L⟩

/-- spec.CodeOk -/
theorem s_codeOk (p : Option Addr) (xs : List Int) (c : Nat) (w : World) (hp : Sl w p xs.length c 1 (ic xs)) (hl : xs.length ≤ 1099511627776) :
    Calls Try.prog 65 [.slice p xs.length c].toArray w (Ret w (.bool (decide (codeOk xs)))) := by
  have L : Exm [] w w := Exm.rfl'
  refine enter (n := 37) Try.func65 rfl rfl rfl ?_
  refine wp_seq ?_
  refine c_reg ?_
  refine s0 (x_assign (v := .bool _) rfl) ?_
  refine c_end ?_
  refine n_then ?_
  refine wp_seq ?_
  refine c_reg ?_
  refine s0 (x_assign (v := .int _ _) rfl) ?_
  refine c_end ?_
  refine n_then ?_
  refine wp_seq ?_
  refine wp_seq ?_
  refine c_reg ?_
  refine s0 (x_assign (v := .int _ _) rfl) ?_
  refine c_end ?_
  refine n_then ?_
  refine wp_block ?_
  refine c_loop (γ := Nat) (fun k => xs.length - k) (fun (k : Nat) E wl => ∃ E0, E = upd (upd (upd E0 0 (.slice p xs.length c)) 3 (.int .i64 (kraft (xs.take k)))) 4 (.int .i64 (k : Int)) ∧ (Exm [] w wl) ∧ ((k : Int) ≤ xs.length) ∧ (∀ j : Nat, j < k → 0 ≤ xs.getD j 0 ∧ xs.getD j 0 ≤ 7)) 0 ⟨_, upd_self3 rfl rfl rfl, L, (by omega), (by intro j hj; omega)⟩ ?_
  rintro k E wl1 ⟨E0, rfl, L, hk, hall⟩
  have Lz0 := L.size
  have hkr := kraft_take_range xs k
  refine wp_seq ?_
  refine wp_seq ?_
  refine c_reg ?_
  refine s0 (x_move (v := .int _ _) rfl) ?_
  refine s0 (x_move (v := .slice _ _ _) rfl) ?_
  refine s0 (x_lensl un22F4 rfl) ?_
  refine sb (x_lss rfl rfl) (fun h8 => ?_) (fun h8 => ?_)
  · refine c_end ?_
    refine n_then ?_
    refine c_true rfl ?_
    refine c_skipn ?_
    refine n_then ?_
    refine wp_seq ?_
    refine wp_block ?_
    refine wp_seq ?_
    refine wp_seq ?_
    refine c_reg ?_
    refine s0 (x_move (v := .slice _ _ _) rfl) ?_
    refine s0 (x_move (v := .int _ _) rfl) ?_
    refine s0 (x_idx so22F4 rfl rfl hp (by decide) (by omega) (by omega)) ?_
    refine st (x_ldi sc3F4 rfl (hp.ext L) (by omega) (by omega)) ?_
    refine srb (zcall cl104F4 rfl) (s_l1In _ _ _ _) (fun h15 w2 l3 => ?_) (fun h15 w2 l3 => ?_)
    · have z_l3 := l3.size
      have L := L.tr l3.up
      refine s0 (x_not rfl) ?_
      refine c_end ?_
      refine n_then ?_
      refine c_false rfl ?_
      refine c_skipn ?_
      refine n_then ?_
      refine wp_seq ?_
      refine c_reg ?_
      refine s0 (x_move (v := .slice _ _ _) rfl) ?_
      refine s0 (x_move (v := .int _ _) rfl) ?_
      refine s0 (x_idx so22F4 rfl rfl hp (by decide) (by omega) (by omega)) ?_
      refine st (x_ldi sc3F4 rfl (hp.ext L) (by omega) (by omega)) ?_
      refine sb (x_gtr rfl rfl) (fun h21 => ?_) (fun h21 => ?_)
      · refine c_end ?_
        refine n_then ?_
        refine c_true rfl ?_
        have hpw := pow7 _ h21
        refine c_reg ?_
        refine s0 (x_move (v := .int _ _) rfl) ?_
        refine s0 (x_move (v := .slice _ _ _) rfl) ?_
        refine s0 (x_move (v := .int _ _) rfl) ?_
        refine s0 (x_idx so22F4 rfl rfl hp (by decide) (by omega) (by omega)) ?_
        refine st (x_ldi sc3F4 rfl (hp.ext L) (by omega) (by omega)) ?_
        refine s0 (x_sub rfl rfl (by omega)) ?_
        refine s0 (x_shl rfl rfl (by omega) (by omega)) ?_
        refine s0 (x_add rfl rfl (by omega)) ?_
        refine s0 (x_assign (v := .int _ _) rfl) ?_
        refine c_end ?_
        refine n_block ?_
        refine n_then ?_
        refine c_reg ?_
        refine s0 (x_move (v := .int _ _) rfl) ?_
        refine s0 (x_add rfl rfl (by omega)) ?_
        refine s0 (x_assign (v := .int _ _) rfl) ?_
        refine c_end ?_
        have hkt := kraft_take xs k (by omega)
        rw [Int.toNat_natCast] at h15 h21
        first | rw [if_pos h21] at hkt | rw [if_neg h21] at hkt
        exact c_round (g' := k + 1) (by omega) ⟨_, upd_self3 rfl (vint (by first | omega | (rw [Int.toNat_natCast]; omega))) (vint (by omega)), L, (by omega), (upto_succ hall (by simpa using h15))⟩
      · refine c_end ?_
        refine n_then ?_
        refine c_false rfl ?_
        refine c_skipn ?_
        refine n_block ?_
        refine n_then ?_
        refine c_reg ?_
        refine s0 (x_move (v := .int _ _) rfl) ?_
        refine s0 (x_add rfl rfl (by omega)) ?_
        refine s0 (x_assign (v := .int _ _) rfl) ?_
        refine c_end ?_
        have hkt := kraft_take xs k (by omega)
        rw [Int.toNat_natCast] at h15 h21
        first | rw [if_pos h21] at hkt | rw [if_neg h21] at hkt
        exact c_round (g' := k + 1) (by omega) ⟨_, upd_self3 rfl (vint (by first | omega | (rw [Int.toNat_natCast]; omega))) (vint (by omega)), L, (by omega), (upto_succ hall (by simpa using h15))⟩
    · have z_l3 := l3.size
      have L := L.tr l3.up
      refine s0 (x_not rfl) ?_
      refine c_end ?_
      refine n_then ?_
      refine c_true rfl ?_
      refine wp_seq ?_
      refine c_reg ?_
      refine s0 (x_assign (v := .bool _) rfl) ?_
      refine c_end ?_
      refine n_then ?_
      refine wp_ret (r_then (r_block (r_then (r_then (r_block (r_then ?_))))))
      refine f_ret rfl rfl ?_
      exact ⟨ret_f (fun h => h15 (by simpa using h.1 k (by omega))), L⟩
  · refine c_end ?_
    refine n_then ?_
    refine c_false rfl ?_
    refine wp_exit (e_then (e_then (e_here ?_)))
    refine n_then ?_
    refine wp_seq ?_
    refine c_reg ?_
    refine s0 (x_move (v := .slice _ _ _) rfl) ?_
    refine s0 (x_lensl un22F4 rfl) ?_
    refine sb (x_eql rfl rfl) (fun h32 => ?_) (fun h32 => ?_)
    · refine s0 (x_move (v := .bool _) rfl) ?_
      refine gt rfl rfl rfl rfl ?_
      refine s0 (x_move (v := .int _ _) rfl) ?_
      refine gt rfl rfl rfl rfl ?_
      refine s0 (x_eql rfl rfl) ?_
      refine s0 (x_pickt (v := .bool _) rfl rfl) ?_
      refine s0 (x_assign (v := .bool _) rfl) ?_
      refine c_end ?_
      refine n_then ?_
      refine wp_ret ?_
      refine f_ret rfl rfl ?_
      have hkl : xs.take k = xs := by rw [show k = xs.length by omega]; simp
      rw [hkl]
      exact ⟨ret_dec2 ⟨fun h => ⟨fun j hj => hall j (by omega), by omega, h⟩, fun h => h.2.2⟩, L⟩
    · refine s0 (x_move (v := .bool _) rfl) ?_
      refine gf rfl rfl rfl rfl ?_
      refine gf rfl rfl rfl rfl ?_
      refine s0 (x_pickf (v := .bool _) rfl rfl) ?_
      refine s0 (x_assign (v := .bool _) rfl) ?_
      refine c_end ?_
      refine n_then ?_
      refine wp_ret ?_
      refine f_ret rfl rfl ?_
      exact ⟨ret_f (fun h => h32 (by have := h.2.1; omega)), L⟩

end Go.Proofs.Ytdnckakaoageoaa
