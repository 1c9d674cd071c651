/- What each function of this part returns, for every argument that meets its premises. -/
import Derived.Test.YtdnckakaoageoaaProg
import Derived.Test.YtdnckakaoageoaaVSxF
import Derived.Test.YtdnckakaoageoaaVPlU
import Derived.Test.YtdnckakaoageoaaVF1
import Derived.Test.YtdnckakaoageoaaVF7
import Derived.Test.YtdnckakaoageoaaVF9
import Derived.Test.YtdnckakaoageoaaVHA
import Derived.Test.YtdnckakaoageoaaVHB
namespace Go.Proofs.Ytdnckakaoageoaa
open Go.Sx Go.Pl Go.RowKit
theorem cl104HE : Callable Try.prog 104 := callable Try.func104 (by kernel_rfl) rfl
theorem cl217HE : Callable Try.prog 217 := callable Try.func217 (by kernel_rfl) rfl
theorem cl218HE : Callable Try.prog 218 := callable Try.func218 (by kernel_rfl) rfl
theorem cl219HE : Callable Try.prog 219 := callable Try.func219 (by kernel_rfl) rfl
theorem cl220HE : Callable Try.prog 220 := callable Try.func220 (by kernel_rfl) rfl
theorem sc3HE : Sc Try.prog 3 := ⟨(.int .i64), by kernel_rfl, trivial⟩
theorem so22HE : SliceOf Try.prog 22 3 1 8 := ⟨by kernel_rfl, by kernel_rfl⟩
theorem un22HE : Try.prog.underlying 22 = some (.slice 3) := by kernel_rfl
/-- spec.l12Fits -/
theorem s_l12Fits (p : Option Addr) (xs : List Int) (c : Nat) (n : Nat) (w : World) (hp : Sl w p xs.length c 1 (ic xs)) (hl : xs.length ≤ 1099511627776) (hn : n ≤ 8) :
    Calls Try.prog 225 [.slice p xs.length c, .int .i64 (n : Int)].toArray w (Ret w (.bool (decide (fitsW xs (n * n))))) := by
  obtain ⟨N, hN⟩ : ∃ N : Nat, N = n * n := ⟨_, rfl⟩
  have hNi : (n : Int) * n = N := by rw [hN, Int.natCast_mul]
  have hN64 : N ≤ 64 := by rw [hN]; exact Nat.mul_le_mul hn hn
  have L : Exm [] w w := Exm.rfl'
  refine enter (n := 24) Try.func225 rfl rfl rfl ?_
  refine wp_seq ?_
  refine c_reg ?_
  refine s0 (x_assign (v := .bool _) rfl) ?_
  refine c_end ?_
  refine n_then ?_
  refine wp_seq ?_
  refine wp_seq ?_
  refine c_reg ?_
  refine s0 (x_assign (v := .int _ _) rfl) ?_
  refine c_end ?_
  refine n_then ?_
  refine wp_block ?_
  refine c_loop (γ := Nat) (fun k => xs.length - k) (fun (k : Nat) E wl => ∃ E0, E = upd (upd (upd E0 0 (.slice p xs.length c)) 1 (.int .i64 (n : Int))) 5 (.int .i64 (k : Int)) ∧ (Exm [] w wl) ∧ ((k : Int) ≤ xs.length) ∧ (∀ j : Nat, j < k → -1000000000 ≤ xs.getD j 0 ∧ xs.getD j 0 ≤ 1000000000)) 0 ⟨_, upd_self3 rfl rfl rfl, L, (by omega), (by intro j hj; omega)⟩ ?_
  rintro k E wl1 ⟨E0, rfl, L, hk, hall⟩
  have Lz0 := L.size
  refine wp_seq ?_
  refine wp_seq ?_
  refine c_reg ?_
  refine s0 (x_move (v := .int _ _) rfl) ?_
  refine s0 (x_move (v := .slice _ _ _) rfl) ?_
  refine s0 (x_lensl un22HE rfl) ?_
  refine sb (x_lss rfl rfl) (fun h9 => ?_) (fun h9 => ?_)
  · refine c_end ?_
    refine n_then ?_
    refine c_true rfl ?_
    refine c_skipn ?_
    refine n_then ?_
    refine wp_seq ?_
    refine wp_block ?_
    refine wp_seq ?_
    refine c_reg ?_
    refine s0 (x_move (v := .slice _ _ _) rfl) ?_
    refine s0 (x_move (v := .int _ _) rfl) ?_
    refine s0 (x_idx so22HE rfl rfl hp (by decide) (by omega) (by omega)) ?_
    refine st (x_ldi sc3HE rfl (hp.ext L) (by omega) (by omega)) ?_
    refine srb (zcall cl104HE rfl) (s_l1In _ _ _ _) (fun h16 w2 l3 => ?_) (fun h16 w2 l3 => ?_)
    · have z_l3 := l3.size
      have L := L.tr l3.up
      refine s0 (x_not rfl) ?_
      refine c_end ?_
      refine n_then ?_
      refine c_false rfl ?_
      refine c_skipn ?_
      refine n_block ?_
      refine n_then ?_
      refine c_reg ?_
      refine s0 (x_move (v := .int _ _) rfl) ?_
      refine s0 (x_add rfl rfl (by omega)) ?_
      refine s0 (x_assign (v := .int _ _) rfl) ?_
      refine c_end ?_
      exact c_round (g' := k + 1) (by omega) ⟨_, upd_self3 rfl rfl (vint (by omega)), L, (by omega), (upto_succ' hall (by simpa using h16))⟩
    · have z_l3 := l3.size
      have L := L.tr l3.up
      refine s0 (x_not rfl) ?_
      refine c_end ?_
      refine n_then ?_
      refine c_true rfl ?_
      refine wp_seq ?_
      refine c_reg ?_
      refine s0 (x_assign (v := .bool _) rfl) ?_
      refine c_end ?_
      refine n_then ?_
      refine wp_ret (r_block (r_then (r_then (r_block (r_then ?_)))))
      refine f_ret rfl rfl ?_
      exact ⟨ret_f (fun h => h16 (by simpa using h.2 k (by omega))), L⟩
  · refine c_end ?_
    refine n_then ?_
    refine c_false rfl ?_
    refine wp_exit (e_then (e_then (e_here ?_)))
    refine n_then ?_
    refine wp_seq ?_
    refine c_reg ?_
    refine s0 (x_move (v := .slice _ _ _) rfl) ?_
    refine s0 (x_lensl un22HE rfl) ?_
    refine s0 (x_move (v := .int _ _) rfl) ?_
    refine s0 (x_move (v := .int _ _) rfl) ?_
    refine s0 (x_mule (N : Int) rfl rfl hNi (by omega)) ?_
    refine s0 (x_eql rfl rfl) ?_
    refine s0 (x_assign (v := .bool _) rfl) ?_
    refine c_end ?_
    refine n_then ?_
    refine wp_ret ?_
    refine f_ret rfl rfl ?_
    exact ⟨ret_dec2 ⟨fun h => ⟨by omega, fun j hj => hall j (by omega)⟩, fun h => by have := h.1; omega⟩, L⟩

/-- impl.Inverse4 -/
theorem i_inv4 (p : Option Addr) (xs : List Int) (c : Nat) (w : World) (hp : Sl w p xs.length c 1 (ic xs)) (hl : xs.length ≤ 1099511627776) :
    Calls Try.prog 181 [.slice p xs.length c].toArray w (RetP w fun v w' => ∃ p c F, v = .slice p (prodG mAt xs 4).length c ∧ Own w' p (prodG mAt xs 4).length c 3 1 (ic (prodG mAt xs 4)) F ∧ Fr w.heap.size F) := by
  have hsm : smallMt (fun r k => mt matA k r) 4 := mAt_small
  have L : Exm [] w w := Exm.rfl'
  refine enter (n := 7) Try.func181 rfl rfl rfl ?_
  refine wp_seq ?_
  refine c_reg ?_
  refine s0 (x_assign (v := .slice _ _ _) rfl) ?_
  refine c_end ?_
  refine n_then ?_
  refine wp_seq ?_
  refine c_reg ?_
  refine sp (zcall cl219HE rfl) (i_matrixA _) ?_
  rintro v3 w1 l2 ⟨p3, c3, ls3, rfl, hM3⟩
  have z_l2 := l2.size
  have L := L.tr l2.up
  refine sp (zcall cl218HE rfl) (i_turned _ _ _ _ _ _ hM3 (by omega)) ?_
  rintro v4 w3 l4 ⟨p4, c4, ls4, rfl, hM4⟩
  have z_l4 := l4.size
  have L := L.tr l4.up
  refine s0 (x_move (v := .slice _ _ _) rfl) ?_
  refine sp (zcall cl217HE rfl) (i_product _ _ _ _ _ _ _ _ _ hM4 (hp.ext L) (by omega) (by omega) (by assumption)) ?_
  rintro v6 w5 l6 ⟨p6, c6, F6, rfl, o6, f6⟩
  have z_l6 := l6.size
  have L := L.tr l6.up
  have g6 := o6.lt
  refine s0 (x_assign (v := .slice _ _ _) rfl) ?_
  refine c_end ?_
  refine n_then ?_
  refine wp_ret ?_
  refine f_ret rfl rfl ?_
  exact ⟨_, rfl, L, _, _, _, rfl, o6, f6.mono (by omega)⟩

/-- impl.Inverse8 -/
theorem i_inv8 (p : Option Addr) (xs : List Int) (c : Nat) (w : World) (hp : Sl w p xs.length c 1 (ic xs)) (hl : xs.length ≤ 1099511627776) :
    Calls Try.prog 182 [.slice p xs.length c].toArray w (RetP w fun v w' => ∃ p c F, v = .slice p (prodG hEnt xs 8).length c ∧ Own w' p (prodG hEnt xs 8).length c 3 1 (ic (prodG hEnt xs 8)) F ∧ Fr w.heap.size F) := by
  have hsm := hEnt_small
  have L : Exm [] w w := Exm.rfl'
  refine enter (n := 6) Try.func182 rfl rfl rfl ?_
  refine wp_seq ?_
  refine c_reg ?_
  refine s0 (x_assign (v := .slice _ _ _) rfl) ?_
  refine c_end ?_
  refine n_then ?_
  refine wp_seq ?_
  refine c_reg ?_
  refine sp (zcall cl220HE rfl) (i_matrixH _) ?_
  rintro v3 w1 l2 ⟨p3, c3, ls3, rfl, hM3⟩
  have z_l2 := l2.size
  have L := L.tr l2.up
  refine s0 (x_move (v := .slice _ _ _) rfl) ?_
  refine sp (zcall cl217HE rfl) (i_product _ _ _ _ _ _ _ _ _ hM3 (hp.ext L) (by omega) (by omega) (by assumption)) ?_
  rintro v5 w3 l4 ⟨p5, c5, F5, rfl, o5, f5⟩
  have z_l4 := l4.size
  have L := L.tr l4.up
  have g5 := o5.lt
  refine s0 (x_assign (v := .slice _ _ _) rfl) ?_
  refine c_end ?_
  refine n_then ?_
  refine wp_ret ?_
  refine f_ret rfl rfl ?_
  exact ⟨_, rfl, L, _, _, _, rfl, o5, f5.mono (by omega)⟩

end Go.Proofs.Ytdnckakaoageoaa
