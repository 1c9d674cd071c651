/- What each function of this part returns, for every argument that meets its premises. -/
import Derived.Test.YtnehdmcilmlchaaProg
import Derived.Test.YtnehdmcilmlchaaVSxF
import Derived.Test.YtnehdmcilmlchaaVPlX
import Derived.Test.YtnehdmcilmlchaaVF1
import Derived.Test.YtnehdmcilmlchaaVF2
import Derived.Test.YtnehdmcilmlchaaVF4
import Derived.Test.YtnehdmcilmlchaaVF7
import Derived.Test.YtnehdmcilmlchaaVF8
import Derived.Test.YtnehdmcilmlchaaVF9
namespace Go.Proofs.Ytnehdmcilmlchaa
open Go.Sx Go.Pl Go.RowKit
theorem ag35FB : Ag Try.prog 35 2 := ⟨⟨_, Try.underlying35⟩, by kernel_rfl⟩
theorem cl102FB : Callable Try.prog 102 := callable Try.func102 (by kernel_rfl) rfl
theorem cl114FB : Callable Try.prog 114 := callable Try.func114 (by kernel_rfl) rfl
theorem cl121FB : Callable Try.prog 121 := callable Try.func121 (by kernel_rfl) rfl
theorem cl182FB : Callable Try.prog 182 := callable Try.func182 (by kernel_rfl) rfl
theorem cl237FB : Callable Try.prog 237 := callable Try.func237 (by kernel_rfl) rfl
theorem cl239FB : Callable Try.prog 239 := callable Try.func239 (by kernel_rfl) rfl
theorem sc3FB : Sc Try.prog 3 := ⟨(.int .i64), by kernel_rfl, trivial⟩
theorem so40FB : SliceOf Try.prog 40 3 1 8 := ⟨by kernel_rfl, by kernel_rfl⟩
theorem sz3FB : Sz Try.prog 3 1 := by unfold Sz; kernel_rfl
theorem sz35FB : Sz Try.prog 35 2 := by unfold Sz; kernel_rfl
theorem un40FB : Try.prog.underlying 40 = some (.slice 3) := by kernel_rfl
theorem zr3FB : ZeroV Try.prog 3 [.int .i64 0] := by unfold ZeroV; kernel_rfl
theorem zr35FB : ZeroV Try.prog 35 [.string .empty, .int .i64 0] := by unfold ZeroV; kernel_rfl
/-- impl.CodesOf -/
theorem i_codesOf (p : Option Addr) (xs : List Int) (c : Nat) (w : World) (hp : Sl w p xs.length c 1 (ic xs)) (hl : xs.length ≤ 1099511627776) :
    Calls Try.prog 239 [.slice p xs.length c].toArray w (RetP w fun v w' => ∃ p c F, v = .slice p (codesOf xs).length c ∧ Own w' p (codesOf xs).length c 3 1 (ic (codesOf xs)) F ∧ Fr w.heap.size F ∧ (p = none ↔ ¬ codeOk xs)) := by
  have L : Exm [] w w := Exm.rfl'
  refine enter (n := 36) Try.func239 rfl rfl rfl ?_
  refine wp_seq ?_
  refine c_reg ?_
  refine s0 (x_assign (v := .slice _ _ _) rfl) ?_
  refine c_end ?_
  refine n_then ?_
  refine wp_seq ?_
  refine wp_seq ?_
  refine c_reg ?_
  refine s0 (x_move (v := .slice _ _ _) rfl) ?_
  refine srb (zcall cl114FB rfl) (i_codeOk _ _ _ _ (hp.ext L) (by omega)) (fun h9 w1 l2 => ?_) (fun h9 w1 l2 => ?_)
  · have z_l2 := l2.size
    have L := L.tr l2.up
    refine s0 (x_not rfl) ?_
    refine c_end ?_
    refine n_then ?_
    refine c_false rfl ?_
    refine c_skipn ?_
    refine n_then ?_
    refine wp_seq ?_
    have hx6 := h9.2.1
    refine c_reg ?_
    refine s_bsi (xs := [_, _, _, _, _, _]) so40FB zr3FB (pts_cons rfl (pts_cons rfl (pts_cons rfl (pts_cons rfl (pts_cons rfl (pts_cons rfl pts_nil)))))) rfl rfl rfl ?_
    intro p11 F11 w3 l4 o11 f11 g11
    have z_l4 := l4.size
    have L := L.tr l4.up
    have hn11 := o11.n1
    refine s0 (x_assign (v := .slice _ _ _) rfl) ?_
    refine c_end ?_
    refine n_then ?_
    refine wp_seq ?_
    refine c_reg ?_
    refine s0 (x_assign (v := .int _ _) rfl) ?_
    refine c_end ?_
    refine n_then ?_
    refine wp_seq ?_
    refine wp_seq ?_
    refine c_reg ?_
    refine s0 (x_assign (v := .int _ _) rfl) ?_
    refine c_end ?_
    refine n_then ?_
    refine wp_block ?_
    refine c_loop (γ := Nat) (fun n => 7 - n) (fun (n : Nat) E wl => ∃ E0 pz3 cz3 Fz3, E = upd (upd (upd (upd E0 0 (.slice p xs.length c)) 3 (.slice pz3 (6) cz3)) 4 (.int .i64 (cOut xs n).2)) 5 (.int .i64 ((n : Int) + 1)) ∧ (Exm [] w wl) ∧ (w3.heap.size ≤ wl.heap.size) ∧ (Own wl pz3 (6) cz3 3 1 (ic ((cOut xs n).1)) Fz3) ∧ (Fr (w1.heap.size) Fz3) ∧ (Lt Fz3 wl.heap.size) ∧ (n ≤ 7)) 0 ⟨_, _, _, _, upd_self4 rfl rfl rfl rfl, L, (by omega), o11, (f11.mono (by omega)), (g11.mono (by omega)), (Nat.zero_le _)⟩ ?_
    rintro n E wl5 ⟨E0, pz3, cz3, Fz3, rfl, L, Lz, oz3, fz3, gz3, hn⟩
    have Lz0 := L.size
    have hr := cOut_range xs n
    have hpw := two_pow_le (n := n) (m := 7) (by omega)
    have e7 : (2 : Int) ^ 7 = 128 := rfl
    have hol := cOut_length xs n
    refine wp_seq ?_
    refine wp_seq ?_
    refine c_reg ?_
    refine s0 (x_move (v := .int _ _) rfl) ?_
    refine sb (x_leq rfl rfl) (fun h13 => ?_) (fun h13 => ?_)
    · refine c_end ?_
      refine n_then ?_
      refine c_true rfl ?_
      refine c_skipn ?_
      refine n_then ?_
      refine wp_seq ?_
      refine wp_block ?_
      refine wp_seq ?_
      refine c_reg ?_
      refine s0 (x_move (v := .int _ _) rfl) ?_
      refine s0 (x_shlc 1 2 rfl rfl (by decide) (by decide) (by omega)) ?_
      refine s0 (x_assign (v := .int _ _) rfl) ?_
      refine c_end ?_
      refine n_then ?_
      refine wp_seq ?_
      refine c_reg ?_
      refine s0 (x_move (v := .slice _ _ _) rfl) ?_
      refine s0 (x_lensl un40FB rfl) ?_
      refine s0 (x_move (v := .int _ _) rfl) ?_
      refine c_end ?_
      refine n_then ?_
      refine wp_block ?_
      refine c_loop (γ := Nat) (fun j => 6 - j) (fun (j : Nat) E wl => ∃ E0 pz3 cz3 Fz3, E = upd (upd (upd (upd (upd (upd (upd E0 0 (.slice p xs.length c)) 3 (.slice pz3 (6) cz3)) 4 (.int .i64 (cIn xs ((n : Int) + 1) ((cOut xs n).1, (cOut xs n).2 * 2) j).2)) 5 (.int .i64 ((n : Int) + 1))) 18 (.slice p xs.length c)) 19 (.int .i64 xs.length)) 20 (.int .i64 (j : Int)) ∧ (Exm [] w wl) ∧ (wl5.heap.size ≤ wl.heap.size) ∧ (Own wl pz3 (6) cz3 3 1 (ic ((cIn xs ((n : Int) + 1) ((cOut xs n).1, (cOut xs n).2 * 2) j).1)) Fz3) ∧ (Fr (w1.heap.size) Fz3) ∧ (Lt Fz3 wl.heap.size) ∧ ((j : Int) ≤ 6)) 0 ⟨_, _, _, _, upd_self7 rfl rfl rfl rfl rfl rfl rfl, L, (by omega), oz3, (fz3.mono (by omega)), (gz3.mono (by omega)), (by omega)⟩ ?_
      rintro j E wl6 ⟨E0, pz3, cz3, Fz3, rfl, L, Lz, oz3, fz3, gz3, hj⟩
      have Lz0 := L.size
      have hc : (cOut xs n).2 * 2 ≤ (cIn xs ((n : Int) + 1) ((cOut xs n).1, (cOut xs n).2 * 2) j).2 ∧ (cIn xs ((n : Int) + 1) ((cOut xs n).1, (cOut xs n).2 * 2) j).2 ≤ (cOut xs n).2 * 2 + j := cIn_range _ _ _ _
      have hil : (cIn xs ((n : Int) + 1) ((cOut xs n).1, (cOut xs n).2 * 2) j).1.length = 6 := by rw [cIn_length]; exact hol
      refine wp_seq ?_
      refine c_reg ?_
      refine sb (x_lss rfl rfl) (fun h21 => ?_) (fun h21 => ?_)
      · refine c_end ?_
        refine n_then ?_
        refine wp_seq ?_
        refine c_true rfl ?_
        refine c_skipn ?_
        refine n_then ?_
        refine wp_seq ?_
        refine wp_block ?_
        refine wp_seq ?_
        refine c_reg ?_
        refine s0 (x_move (v := .int _ _) rfl) ?_
        refine s0 (x_idx so40FB rfl rfl hp (by decide) (by omega) (by omega)) ?_
        refine st (x_ldi sc3FB rfl (hp.ext L) (by omega) (by omega)) ?_
        refine s0 (x_assign (v := .int _ _) rfl) ?_
        refine s0 (x_assign (v := .int _ _) rfl) ?_
        refine c_end ?_
        refine n_then ?_
        refine wp_seq ?_
        refine c_reg ?_
        refine s0 (x_move (v := .int _ _) rfl) ?_
        refine s0 (x_move (v := .int _ _) rfl) ?_
        refine sb (x_eql rfl rfl) (fun h27 => ?_) (fun h27 => ?_)
        · refine c_end ?_
          refine n_then ?_
          refine c_true rfl ?_
          refine wp_seq ?_
          refine c_reg ?_
          refine s0 (x_move (v := .slice _ _ _) rfl) ?_
          refine s0 (x_move (v := .int _ _) rfl) ?_
          refine s0 (x_move (v := .int _ _) rfl) ?_
          refine s0 (x_idx so40FB rfl rfl oz3.sl (by decide) (by omega) (by omega)) ?_
          refine s_stoi rfl sz3FB rfl rfl oz3 (by omega) (by omega) ?_
          intro w7 l8 el8 oz3
          have z_l8 := l8.size
          have L := L.freshL l8 fz3 (by omega)
          have hnl8 := oz3.n1
          refine c_end ?_
          refine n_then ?_
          refine c_reg ?_
          refine s0 (x_move (v := .int _ _) rfl) ?_
          refine s0 (x_add rfl rfl (by omega)) ?_
          refine s0 (x_assign (v := .int _ _) rfl) ?_
          refine c_end ?_
          refine n_block ?_
          refine n_then ?_
          refine c_reg ?_
          refine s0 (x_add rfl rfl (by omega)) ?_
          refine s0 (x_move (v := .int _ _) rfl) ?_
          refine c_end ?_
          rw [Int.toNat_natCast] at h27
          exact c_round (g' := j + 1) (by omega) ⟨_, _, _, _, upd_self7 rfl (by (skip); rfl) (vint (by rw [cIn]; first | rw [if_pos h27] | rw [if_neg h27])) rfl rfl rfl (vint (by omega)), L, (by omega), (by (rw [cIn]; first | rw [if_pos h27] | rw [if_neg h27]); exact oz3), (fz3.mono (by omega)), (gz3.mono (by omega)), (by omega)⟩
        · refine c_end ?_
          refine n_then ?_
          refine c_false rfl ?_
          refine c_skipn ?_
          refine n_block ?_
          refine n_then ?_
          refine c_reg ?_
          refine s0 (x_add rfl rfl (by omega)) ?_
          refine s0 (x_move (v := .int _ _) rfl) ?_
          refine c_end ?_
          rw [Int.toNat_natCast] at h27
          exact c_round (g' := j + 1) (by omega) ⟨_, _, _, _, upd_self7 rfl (by (skip); rfl) (vint (by rw [cIn]; first | rw [if_pos h27] | rw [if_neg h27])) rfl rfl rfl (vint (by omega)), L, (by omega), (by (rw [cIn]; first | rw [if_pos h27] | rw [if_neg h27]); exact oz3), (fz3.mono (by omega)), (gz3.mono (by omega)), (by omega)⟩
      · refine c_end ?_
        refine n_then ?_
        refine wp_seq ?_
        refine c_false rfl ?_
        refine wp_exit (e_then (e_then (e_here ?_)))
        refine n_block ?_
        refine n_then ?_
        refine c_reg ?_
        refine s0 (x_move (v := .int _ _) rfl) ?_
        refine s0 (x_add rfl rfl (by omega)) ?_
        refine s0 (x_assign (v := .int _ _) rfl) ?_
        refine c_end ?_
        obtain rfl : j = 6 := by omega
        exact c_round (g' := n + 1) (by omega) ⟨_, _, _, _, upd_self4 rfl (by (skip); rfl) rfl (vint (by omega)), L, (by omega), (by (skip); exact oz3), (fz3.mono (by omega)), (gz3.mono (by omega)), (by omega)⟩
    · refine c_end ?_
      refine n_then ?_
      refine c_false rfl ?_
      refine wp_exit (e_then (e_then (e_here ?_)))
      refine n_then ?_
      refine wp_seq ?_
      refine c_reg ?_
      refine s0 (x_move (v := .slice _ _ _) rfl) ?_
      refine s0 (x_assign (v := .slice _ _ _) rfl) ?_
      refine c_end ?_
      refine n_then ?_
      refine wp_ret ?_
      refine f_ret rfl rfl ?_
      obtain rfl : n = 7 := by omega
      have hce : codesOf xs = (cOut xs 7).1 := by unfold codesOf; rw [if_pos h9]
      rw [← hce] at oz3
      exact ⟨_, rfl, L, _, _, _, slice_len (codes_length h9), by rw [codes_length h9]; exact oz3, fz3.mono (by omega), (fun e => by have := (oz3.some_of (by rw [ic_length, codes_length h9]; decide)).1; rw [e] at this; cases this), (fun h => absurd h9 h)⟩
  · have z_l2 := l2.size
    have L := L.tr l2.up
    refine s0 (x_not rfl) ?_
    refine c_end ?_
    refine n_then ?_
    refine c_true rfl ?_
    refine wp_seq ?_
    refine c_reg ?_
    refine s0 (x_assign (v := .slice _ _ _) rfl) ?_
    refine c_end ?_
    refine n_then ?_
    refine wp_ret (r_then ?_)
    refine f_ret rfl rfl ?_
    have hce : codesOf xs = [] := by unfold codesOf; rw [if_neg h9]
    rw [hce]
    exact ⟨_, rfl, L, none, 0, [], rfl, Own.nil, Fr.no, by simp [h9]⟩

/-- spec.CodesOf -/
theorem s_codesOf (p : Option Addr) (xs : List Int) (c : Nat) (w : World) (hp : Sl w p xs.length c 1 (ic xs)) (hl : xs.length ≤ 1099511627776) :
    Calls Try.prog 237 [.slice p xs.length c].toArray w (RetP w fun v w' => ∃ p c F, v = .slice p (codesOf xs).length c ∧ Own w' p (codesOf xs).length c 3 1 (ic (codesOf xs)) F ∧ Fr w.heap.size F) := by
  have L : Exm [] w w := Exm.rfl'
  refine enter (n := 47) Try.func237 rfl rfl rfl ?_
  refine wp_seq ?_
  refine c_reg ?_
  refine s0 (x_assign (v := .slice _ _ _) rfl) ?_
  refine c_end ?_
  refine n_then ?_
  refine wp_seq ?_
  refine c_reg ?_
  refine s_bs0 so40FB ?_
  intro p8 F8 w1 l2 o8 f8 g8
  have o8 : Own w1 p8 0 0 3 1 (ic []) F8 := o8
  have z_l2 := l2.size
  have L := L.tr l2.up
  refine s0 (x_assign (v := .slice _ _ _) rfl) ?_
  refine c_end ?_
  refine n_then ?_
  refine wp_seq ?_
  refine wp_seq ?_
  refine c_reg ?_
  refine s0 (x_move (v := .slice _ _ _) rfl) ?_
  refine srb (zcall cl182FB rfl) (s_codeOk _ _ _ _ (hp.ext L) (by omega)) (fun h10 w3 l4 => ?_) (fun h10 w3 l4 => ?_)
  · have z_l4 := l4.size
    have L := L.tr l4.up
    have o8 := o8.ext l4
    refine s0 (x_not rfl) ?_
    refine c_end ?_
    refine n_then ?_
    refine c_false rfl ?_
    refine c_skipn ?_
    refine n_then ?_
    refine wp_seq ?_
    refine wp_seq ?_
    have hx6 := h10.2.1
    refine c_reg ?_
    refine s0 (x_assign (v := .int _ _) rfl) ?_
    refine c_end ?_
    refine n_then ?_
    refine wp_block ?_
    refine c_loop (γ := Nat) (fun k => 6 - k) (fun (k : Nat) E wl => ∃ E0 pz3 cz3 Fz3, E = upd (upd (upd E0 0 (.slice p xs.length c)) 3 (.slice pz3 ((List.replicate k (-1)).length) cz3)) 4 (.int .i64 (k : Int)) ∧ (Exm [] w wl) ∧ (w3.heap.size ≤ wl.heap.size) ∧ (Own wl pz3 ((List.replicate k (-1)).length) cz3 3 1 (ic (List.replicate k (-1))) Fz3) ∧ (Fr (w.heap.size) Fz3) ∧ (Lt Fz3 wl.heap.size) ∧ ((k : Int) ≤ 6)) 0 ⟨_, _, _, _, upd_self3 rfl rfl rfl, L, (by omega), o8, (f8.mono (by omega)), (g8.mono (by omega)), (by omega)⟩ ?_
    rintro k E wl5 ⟨E0, pz3, cz3, Fz3, rfl, L, Lz, oz3, fz3, gz3, hk⟩
    have Lz0 := L.size
    have hrl : (List.replicate k (-1 : Int)).length = k := List.length_replicate
    refine wp_seq ?_
    refine wp_seq ?_
    refine c_reg ?_
    refine s0 (x_move (v := .int _ _) rfl) ?_
    refine s0 (x_move (v := .slice _ _ _) rfl) ?_
    refine s0 (x_lensl un40FB rfl) ?_
    refine sb (x_lss rfl rfl) (fun h16 => ?_) (fun h16 => ?_)
    · refine c_end ?_
      refine n_then ?_
      refine c_true rfl ?_
      refine c_skipn ?_
      refine n_then ?_
      refine wp_seq ?_
      refine wp_block ?_
      refine c_reg ?_
      refine s0 (x_move (v := .slice _ _ _) rfl) ?_
      refine s_bsi (xs := [_]) so40FB zr3FB (pts_cons rfl pts_nil) rfl rfl rfl ?_
      intro p20 F20 w6 l7 o20 f20 g20
      have z_l7 := l7.size
      have L := L.tr l7.up
      have oz3 := oz3.ext l7
      have hn20 := o20.n1
      refine s_appi (B := w.heap.size) so40FB zr3FB rfl rfl (xs := _) oz3 o20.sl fz3 (by omega) (by omega) (by omega) ?_
      intro p21 c21 F21 w8 l9 o21 hn21 k21 f21 g21
      have z_l9 := l9.size
      have L := L.freshL l9 fz3 (by omega)
      have d20_21 : Dj F20 F21 := k21.dj (by first | assumption | exact Dj.symm (by assumption) | exact dj_of f20 g20 fz3 gz3 (by omega)) g20 (by omega)
      have o20 := o20.exm l9 (by first | assumption | exact Dj.symm (by assumption) | exact dj_of fz3 gz3 f20 g20 (by omega))
      refine s0 (x_assign (v := .slice _ _ _) rfl) ?_
      refine c_end ?_
      refine n_block ?_
      refine n_then ?_
      refine c_reg ?_
      refine s0 (x_move (v := .int _ _) rfl) ?_
      refine s0 (x_add rfl rfl (by omega)) ?_
      refine s0 (x_assign (v := .int _ _) rfl) ?_
      refine c_end ?_
      exact c_round (g' := k + 1) (by omega) ⟨_, _, _, _, upd_self3 rfl (by (rw [List.replicate_succ']); rfl) (vint (by omega)), L, (by omega), (by (rw [List.replicate_succ']); exact o21), (f21.mono (by omega)), (g21.mono (by omega)), (by omega)⟩
    · refine c_end ?_
      refine n_then ?_
      refine c_false rfl ?_
      refine wp_exit (e_then (e_then (e_here ?_)))
      refine n_then ?_
      refine wp_seq ?_
      refine c_reg ?_
      refine s0 (x_assign (v := .int _ _) rfl) ?_
      refine c_end ?_
      refine n_then ?_
      refine wp_seq ?_
      refine wp_seq ?_
      refine c_reg ?_
      refine s0 (x_assign (v := .int _ _) rfl) ?_
      refine c_end ?_
      refine n_then ?_
      refine wp_block ?_
      refine c_loop (γ := Nat) (fun n => 7 - n) (fun (n : Nat) E wl => ∃ E0 pz3 cz3 Fz3, E = upd (upd (upd (upd E0 0 (.slice p xs.length c)) 3 (.slice pz3 (6) cz3)) 5 (.int .i64 (cOut xs n).2)) 6 (.int .i64 ((n : Int) + 1)) ∧ (Exm [] w wl) ∧ (wl5.heap.size ≤ wl.heap.size) ∧ (Own wl pz3 (6) cz3 3 1 (ic ((cOut xs n).1)) Fz3) ∧ (Fr (w.heap.size) Fz3) ∧ (Lt Fz3 wl.heap.size) ∧ (n ≤ 7)) 0 ⟨_, _, _, _, upd_self4 rfl (slice_len (by omega)) rfl rfl, L, (by omega), (by have := oz3; rw [List.length_replicate, show k = 6 by omega] at this; exact this), (fz3.mono (by omega)), (gz3.mono (by omega)), (Nat.zero_le _)⟩ ?_
      rintro n E wl10 ⟨E0, pz3, cz3, Fz3, rfl, L, Lz, oz3, fz3, gz3, hn⟩
      have Lz0 := L.size
      have hr := cOut_range xs n
      have hpw := two_pow_le (n := n) (m := 7) (by omega)
      have e7 : (2 : Int) ^ 7 = 128 := rfl
      have hol := cOut_length xs n
      refine wp_seq ?_
      refine wp_seq ?_
      refine c_reg ?_
      refine s0 (x_move (v := .int _ _) rfl) ?_
      refine sb (x_leq rfl rfl) (fun h23 => ?_) (fun h23 => ?_)
      · refine c_end ?_
        refine n_then ?_
        refine c_true rfl ?_
        refine c_skipn ?_
        refine n_then ?_
        refine wp_seq ?_
        refine wp_block ?_
        refine wp_seq ?_
        refine c_reg ?_
        refine s0 (x_move (v := .int _ _) rfl) ?_
        refine s0 (x_mul rfl rfl (by omega)) ?_
        refine s0 (x_assign (v := .int _ _) rfl) ?_
        refine c_end ?_
        refine n_then ?_
        refine wp_seq ?_
        refine c_reg ?_
        refine s0 (x_assign (v := .int _ _) rfl) ?_
        refine c_end ?_
        refine n_then ?_
        refine wp_block ?_
        refine c_loop (γ := Nat) (fun j => 6 - j) (fun (j : Nat) E wl => ∃ E0 pz3 cz3 Fz3, E = upd (upd (upd (upd (upd E0 0 (.slice p xs.length c)) 3 (.slice pz3 (6) cz3)) 5 (.int .i64 (cIn xs ((n : Int) + 1) ((cOut xs n).1, (cOut xs n).2 * 2) j).2)) 6 (.int .i64 ((n : Int) + 1))) 7 (.int .i64 (j : Int)) ∧ (Exm [] w wl) ∧ (wl10.heap.size ≤ wl.heap.size) ∧ (Own wl pz3 (6) cz3 3 1 (ic ((cIn xs ((n : Int) + 1) ((cOut xs n).1, (cOut xs n).2 * 2) j).1)) Fz3) ∧ (Fr (w.heap.size) Fz3) ∧ (Lt Fz3 wl.heap.size) ∧ ((j : Int) ≤ 6)) 0 ⟨_, _, _, _, upd_self5 rfl rfl rfl rfl rfl, L, (by omega), oz3, (fz3.mono (by omega)), (gz3.mono (by omega)), (by omega)⟩ ?_
        rintro j E wl11 ⟨E0, pz3, cz3, Fz3, rfl, L, Lz, oz3, fz3, gz3, hj⟩
        have Lz0 := L.size
        have hc : (cOut xs n).2 * 2 ≤ (cIn xs ((n : Int) + 1) ((cOut xs n).1, (cOut xs n).2 * 2) j).2 ∧ (cIn xs ((n : Int) + 1) ((cOut xs n).1, (cOut xs n).2 * 2) j).2 ≤ (cOut xs n).2 * 2 + j := cIn_range _ _ _ _
        have hil : (cIn xs ((n : Int) + 1) ((cOut xs n).1, (cOut xs n).2 * 2) j).1.length = 6 := by rw [cIn_length]; exact hol
        refine wp_seq ?_
        refine wp_seq ?_
        refine c_reg ?_
        refine s0 (x_move (v := .int _ _) rfl) ?_
        refine s0 (x_move (v := .slice _ _ _) rfl) ?_
        refine s0 (x_lensl un40FB rfl) ?_
        refine sb (x_lss rfl rfl) (fun h31 => ?_) (fun h31 => ?_)
        · refine c_end ?_
          refine n_then ?_
          refine c_true rfl ?_
          refine c_skipn ?_
          refine n_then ?_
          refine wp_seq ?_
          refine wp_block ?_
          refine wp_seq ?_
          refine c_reg ?_
          refine s0 (x_move (v := .slice _ _ _) rfl) ?_
          refine s0 (x_move (v := .int _ _) rfl) ?_
          refine s0 (x_idx so40FB rfl rfl hp (by decide) (by omega) (by omega)) ?_
          refine st (x_ldi sc3FB rfl (hp.ext L) (by omega) (by omega)) ?_
          refine s0 (x_move (v := .int _ _) rfl) ?_
          refine sb (x_eql rfl rfl) (fun h39 => ?_) (fun h39 => ?_)
          · refine c_end ?_
            refine n_then ?_
            refine c_true rfl ?_
            refine wp_seq ?_
            refine c_reg ?_
            refine s0 (x_move (v := .slice _ _ _) rfl) ?_
            refine s0 (x_move (v := .int _ _) rfl) ?_
            refine s0 (x_move (v := .int _ _) rfl) ?_
            refine s0 (x_idx so40FB rfl rfl oz3.sl (by decide) (by omega) (by omega)) ?_
            refine s_stoi rfl sz3FB rfl rfl oz3 (by omega) (by omega) ?_
            intro w12 l13 el13 oz3
            have z_l13 := l13.size
            have L := L.freshL l13 fz3 (by omega)
            have hnl13 := oz3.n1
            refine c_end ?_
            refine n_then ?_
            refine c_reg ?_
            refine s0 (x_move (v := .int _ _) rfl) ?_
            refine s0 (x_add rfl rfl (by omega)) ?_
            refine s0 (x_assign (v := .int _ _) rfl) ?_
            refine c_end ?_
            refine n_block ?_
            refine n_then ?_
            refine c_reg ?_
            refine s0 (x_move (v := .int _ _) rfl) ?_
            refine s0 (x_add rfl rfl (by omega)) ?_
            refine s0 (x_assign (v := .int _ _) rfl) ?_
            refine c_end ?_
            rw [Int.toNat_natCast] at h39
            exact c_round (g' := j + 1) (by omega) ⟨_, _, _, _, upd_self5 rfl (by (skip); rfl) (vint (by rw [cIn]; first | rw [if_pos h39] | rw [if_neg h39])) rfl (vint (by omega)), L, (by omega), (by (rw [cIn]; first | rw [if_pos h39] | rw [if_neg h39]); exact oz3), (fz3.mono (by omega)), (gz3.mono (by omega)), (by omega)⟩
          · refine c_end ?_
            refine n_then ?_
            refine c_false rfl ?_
            refine c_skipn ?_
            refine n_block ?_
            refine n_then ?_
            refine c_reg ?_
            refine s0 (x_move (v := .int _ _) rfl) ?_
            refine s0 (x_add rfl rfl (by omega)) ?_
            refine s0 (x_assign (v := .int _ _) rfl) ?_
            refine c_end ?_
            rw [Int.toNat_natCast] at h39
            exact c_round (g' := j + 1) (by omega) ⟨_, _, _, _, upd_self5 rfl (by (skip); rfl) (vint (by rw [cIn]; first | rw [if_pos h39] | rw [if_neg h39])) rfl (vint (by omega)), L, (by omega), (by (rw [cIn]; first | rw [if_pos h39] | rw [if_neg h39]); exact oz3), (fz3.mono (by omega)), (gz3.mono (by omega)), (by omega)⟩
        · refine c_end ?_
          refine n_then ?_
          refine c_false rfl ?_
          refine wp_exit (e_then (e_then (e_here ?_)))
          refine n_block ?_
          refine n_then ?_
          refine c_reg ?_
          refine s0 (x_move (v := .int _ _) rfl) ?_
          refine s0 (x_add rfl rfl (by omega)) ?_
          refine s0 (x_assign (v := .int _ _) rfl) ?_
          refine c_end ?_
          obtain rfl : j = 6 := by omega
          exact c_round (g' := n + 1) (by omega) ⟨_, _, _, _, upd_self4 rfl (by (skip); rfl) rfl (vint (by omega)), L, (by omega), (by (skip); exact oz3), (fz3.mono (by omega)), (gz3.mono (by omega)), (by omega)⟩
      · refine c_end ?_
        refine n_then ?_
        refine c_false rfl ?_
        refine wp_exit (e_then (e_then (e_here ?_)))
        refine n_then ?_
        refine wp_seq ?_
        refine c_reg ?_
        refine s0 (x_move (v := .slice _ _ _) rfl) ?_
        refine s0 (x_assign (v := .slice _ _ _) rfl) ?_
        refine c_end ?_
        refine n_then ?_
        refine wp_ret ?_
        refine f_ret rfl rfl ?_
        obtain rfl : n = 7 := by omega
        have hce : codesOf xs = (cOut xs 7).1 := by unfold codesOf; rw [if_pos h10]
        rw [← hce] at oz3
        exact ⟨_, rfl, L, _, _, _, slice_len (codes_length h10), by rw [codes_length h10]; exact oz3, fz3.mono (by omega)⟩
  · have z_l4 := l4.size
    have L := L.tr l4.up
    have o8 := o8.ext l4
    refine s0 (x_not rfl) ?_
    refine c_end ?_
    refine n_then ?_
    refine c_true rfl ?_
    refine wp_seq ?_
    refine c_reg ?_
    refine s0 (x_move (v := .slice _ _ _) rfl) ?_
    refine s0 (x_assign (v := .slice _ _ _) rfl) ?_
    refine c_end ?_
    refine n_then ?_
    refine wp_ret (r_then ?_)
    refine f_ret rfl rfl ?_
    have hce : codesOf xs = [] := by unfold codesOf; rw [if_neg h10]
    rw [hce]
    exact ⟨_, rfl, L, _, _, _, rfl, o8, f8⟩

theorem rs_bad {s : ByteArray} {a : Int} {xs : List Int} (h : ¬ codeOk xs) : Ending.returned (.tuple [.agg [.string s, .int .i64 a].toArray, .int .i64 0, .int .i64 4].toArray) = .returned (.tuple [.agg [.string s, .int .i64 (rsAt s a xs)].toArray, .int .i64 (rsV s a xs), .int .i64 (rsE s a xs)].toArray) := by
  have h1 : ¬ rsOk s a xs := fun h2 => h h2.1
  simp only [rsAt, rsV, rsE, if_neg h1, if_neg h]
theorem rs_short {s : ByteArray} {a : Int} {xs : List Int} (h : codeOk xs) (h1 : ¬ rsOk s a xs) : Ending.returned (.tuple [.agg [.string s, .int .i64 a].toArray, .int .i64 0, .int .i64 1].toArray) = .returned (.tuple [.agg [.string s, .int .i64 (rsAt s a xs)].toArray, .int .i64 (rsV s a xs), .int .i64 (rsE s a xs)].toArray) := by
  simp only [rsAt, rsV, rsE, if_neg h1, if_pos h]
theorem rs_found {s : ByteArray} {a : Int} {xs : List Int} {k : Nat} {n : Int} (h : codeOk xs) (hk : k < 6) (hn : xs.getD k 0 = n) (h1 : rbOk s a n) (h2 : 0 < n) (h3 : (codesOf xs).getD k 0 = rbV s a n) : Ending.returned (.tuple [.agg [.string s, .int .i64 (rbAt s a n)].toArray, .int .i64 (k : Int), .int .i64 0].toArray) = .returned (.tuple [.agg [.string s, .int .i64 (rsAt s a xs)].toArray, .int .i64 (rsV s a xs), .int .i64 (rsE s a xs)].toArray) := by
  subst hn
  have e : rbV s a (xs.getD k 0) = bitsOf s a (xs.getD k 0).toNat := by unfold rbV; rw [if_pos h1]
  have hs : symAt s a xs = k := rs_at h ⟨hk, by omega⟩ (by rw [← e, h3])
  have hr : rsOk s a xs := ⟨h, by rw [hs]; exact h1⟩
  simp only [rsAt, rsV, rsE, if_pos hr, if_pos h, hs, rbAt, if_pos h1]
theorem rs_miss {s : ByteArray} {a : Int} {xs : List Int} (h : codeOk xs) (hall : ∀ j : Nat, j < 6 → ¬ (rbOk s a (xs.getD j 0) ∧ 0 < xs.getD j 0 ∧ rbV s a (xs.getD j 0) = (codesOf xs).getD j 0)) : ¬ rsOk s a xs := fun h1 => by
  obtain ⟨h2, h3⟩ := rs_sym (s := s) (a := a) h
  have e : rbV s a (xs.getD (symAt s a xs) 0) = bitsOf s a (xs.getD (symAt s a xs) 0).toNat := by unfold rbV; rw [if_pos h1.2]
  exact hall _ h2.1 ⟨h1.2, by omega, e.trans h3⟩
theorem rb_mono {s : ByteArray} {a n m : Int} (h : rbOk s a n) (h0 : 0 ≤ m) (hm : m ≤ n) : rbOk s a m := by
  obtain ⟨h1, h2, h3⟩ := h; exact ⟨h1, by omega, by omega⟩
theorem rs_none {s : ByteArray} {a : Int} {xs : List Int} {n : Int} (h : codeOk xs) (hn : ¬ rbOk s a n) (h1 : 1 ≤ n) (hall : ∀ m : Nat, m < 6 → 1 ≤ xs.getD m 0 → xs.getD m 0 < n → rbV s a (xs.getD m 0) ≠ (codesOf xs).getD m 0) : ¬ rsOk s a xs := fun h2 => by
  obtain ⟨h3, h4⟩ := rs_sym (s := s) (a := a) h
  have e : rbV s a (xs.getD (symAt s a xs) 0) = bitsOf s a (xs.getD (symAt s a xs) 0).toNat := by unfold rbV; rw [if_pos h2.2]
  rcases Int.lt_or_le (xs.getD (symAt s a xs) 0) n with h5 | h5
  · exact hall _ h3.1 h3.2 h5 (e.trans h4)
  · exact hn (rb_mono h2.2 (by omega) h5)
theorem rs_full {s : ByteArray} {a : Int} {xs : List Int} (h : codeOk xs) (hr : rbOk s a 7) (hall : ∀ m : Nat, m < 6 → 1 ≤ xs.getD m 0 → xs.getD m 0 < 8 → rbV s a (xs.getD m 0) ≠ (codesOf xs).getD m 0) : False := by
  obtain ⟨h3, h4⟩ := rs_sym (s := s) (a := a) h
  have h7 := codeOk_at h (symAt s a xs)
  have e : rbV s a (xs.getD (symAt s a xs) 0) = bitsOf s a (xs.getD (symAt s a xs) 0).toNat := by unfold rbV; rw [if_pos (rb_mono hr (by omega) h7.2)]
  exact hall _ h3.1 h3.2 (by omega) (e.trans h4)

/-- impl.ReadSym -/
theorem i_readSym (s : ByteArray) (a : Int) (p : Option Addr) (xs : List Int) (c : Nat) (w : World) (hp : Sl w p xs.length c 1 (ic xs)) (hl : xs.length ≤ 1099511627776) (hs : s.size ≤ 1048576) :
    Calls Try.prog 189 [.agg [.string s, .int .i64 a].toArray, .slice p xs.length c].toArray w (Ret w (.tuple [.agg [.string s, .int .i64 (rsAt s a xs)].toArray, .int .i64 (rsV s a xs), .int .i64 (rsE s a xs)].toArray)) := by
  have L : Exm [] w w := Exm.rfl'
  refine enter (n := 49) Try.func189 rfl rfl rfl ?_
  refine wp_seq ?_
  refine c_reg ?_
  refine s_box rfl rfl ?_
  intro b1 w2 lob1 hib1 l3 B1
  have z_l3 := l3.size
  have L := L.tr l3.up
  refine s_alloc zr35FB ?_
  intro b4 w5 lob4 hib4 l6 B4
  have z_l6 := l6.size
  have L := L.tr l6.up
  have B1 := B1.ext l6
  refine s0 (x_assign (v := .int _ _) rfl) ?_
  refine s0 (x_assign (v := .int _ _) rfl) ?_
  refine c_end ?_
  refine n_then ?_
  refine wp_seq ?_
  refine c_reg ?_
  refine s0 (x_move (v := .slice _ _ _) rfl) ?_
  refine sp (zcall cl239FB rfl) (i_codesOf _ _ _ _ (hp.ext L) (by omega)) ?_
  rintro v14 w7 l8 ⟨p14, c14, F14, rfl, o14, f14, hnil14⟩
  have z_l8 := l8.size
  have L := L.tr l8.up
  have B1 := B1.ext l8
  have B4 := B4.ext l8
  have g14 := o14.lt
  refine s0 (x_assign (v := .slice _ _ _) rfl) ?_
  refine c_end ?_
  refine n_then ?_
  refine wp_seq ?_
  refine wp_seq ?_
  refine c_reg ?_
  refine s0 (x_move (v := .slice _ _ _) rfl) ?_
  refine sb (x_eqnil un40FB rfl rfl) (fun h16 => ?_) (fun h16 => ?_)
  · refine c_end ?_
    refine n_then ?_
    refine c_true rfl ?_
    refine wp_seq ?_
    refine c_reg ?_
    refine st (x_loadAgB ag35FB rfl B1 rfl) ?_
    refine s_storeAg rfl sz35FB rfl rfl B4 rfl rfl rfl ?_
    intro w9 l10 el10 B4
    have z_l10 := l10.size
    have L := L.fresh l10 (by omega)
    have B1 := B1.ne l10 (by omega)
    have o14 := o14.ne l10 (by first | assumption | exact nin_of f14 g14 (by omega))
    refine s0 (x_assign (v := .int _ _) rfl) ?_
    refine s0 (x_assign (v := .int _ _) rfl) ?_
    refine c_end ?_
    refine n_then ?_
    refine wp_ret (r_then ?_)
    refine f_rets3 rfl (ro_cell rfl ag35FB B4 rfl) (ro_tmp rfl) (ro_tmp rfl) ?_
    exact ⟨rs_bad (hnil14.1 h16), L⟩
  · refine c_end ?_
    refine n_then ?_
    refine c_false rfl ?_
    refine c_skipn ?_
    refine n_then ?_
    refine wp_seq ?_
    refine wp_seq ?_
    have hok : codeOk xs := Classical.not_not.1 (fun h => h16 (hnil14.2 h))
    have hx6 := hok.2.1
    have hcl := codes_length hok
    refine c_reg ?_
    refine s0 (x_move (v := .slice _ _ _) rfl) ?_
    refine s0 (x_lensl un40FB rfl) ?_
    refine s0 (x_move (v := .int _ _) rfl) ?_
    refine c_end ?_
    refine n_then ?_
    refine wp_block ?_
    refine c_loop (γ := Nat) (fun k => 6 - k) (fun (k : Nat) E wl => ∃ E0, E = upd (upd (upd (upd (upd (upd E0 2 (pt b1 0)) 4 (pt b4 0)) 7 (.slice p14 (codesOf xs).length c14)) 18 (.slice p xs.length c)) 19 (.int .i64 xs.length)) 20 (.int .i64 (k : Int)) ∧ (Exm [] w wl) ∧ (w7.heap.size ≤ wl.heap.size) ∧ (Bx wl b1 [.string s, .int .i64 a] 35) ∧ (Bx wl b4 [.string .empty, .int .i64 0] 35) ∧ (Own wl p14 (codesOf xs).length c14 3 1 (ic (codesOf xs)) F14) ∧ ((k : Int) ≤ 6) ∧ (∀ j : Nat, j < k → ¬ (rbOk s a (xs.getD j 0) ∧ 0 < xs.getD j 0 ∧ rbV s a (xs.getD j 0) = (codesOf xs).getD j 0))) 0 ⟨_, upd_self6 rfl rfl rfl rfl rfl rfl, L, (by omega), B1, B4, o14, (by omega), (by intro j hj; omega)⟩ ?_
    rintro k E wl11 ⟨E0, rfl, L, Lz, B1, B4, o14, hk, hall⟩
    have Lz0 := L.size
    refine wp_seq ?_
    refine c_reg ?_
    refine sb (x_lss rfl rfl) (fun h21 => ?_) (fun h21 => ?_)
    · refine c_end ?_
      refine n_then ?_
      refine wp_seq ?_
      refine c_true rfl ?_
      refine c_skipn ?_
      refine n_then ?_
      refine wp_seq ?_
      refine wp_block ?_
      refine wp_seq ?_
      refine c_reg ?_
      refine s0 (x_move (v := .int _ _) rfl) ?_
      refine s0 (x_idx so40FB rfl rfl hp (by decide) (by omega) (by omega)) ?_
      refine st (x_ldi sc3FB rfl (hp.ext L) (by omega) (by omega)) ?_
      refine s0 (x_assign (v := .int _ _) rfl) ?_
      refine s0 (x_assign (v := .int _ _) rfl) ?_
      refine c_end ?_
      refine n_then ?_
      refine wp_seq ?_
      refine c_reg ?_
      refine st (x_loadAgB ag35FB rfl B1 rfl) ?_
      refine s0 (x_move (v := .int _ _) rfl) ?_
      refine sr (zcall cl121FB rfl) (i_readBits _ _ _ _ (by omega)) ?_
      intro w12 l13
      have z_l13 := l13.size
      have L := L.tr l13.up
      have B1 := B1.ext l13
      have B4 := B4.ext l13
      have o14 := o14.ext l13
      refine s0 (x_move (v := .tuple _) rfl) ?_
      refine s0 (x_extract rfl rfl) ?_
      refine s0 (x_extract rfl rfl) ?_
      refine sb (x_extract rfl rfl) (fun h31 => ?_) (fun h31 => ?_)
      · refine s_alloc zr35FB ?_
        intro b14 w15 lob14 hib14 l16 B14
        have z_l16 := l16.size
        have L := L.tr l16.up
        have B1 := B1.ext l16
        have B4 := B4.ext l16
        have o14 := o14.ext l16
        refine s_storeAg rfl sz35FB rfl rfl B14 rfl rfl rfl ?_
        intro w17 l18 el18 B14
        have z_l18 := l18.size
        have L := L.fresh l18 (by omega)
        have B1 := B1.ne l18 (by omega)
        have B4 := B4.ne l18 (by omega)
        have o14 := o14.ne l18 (by first | assumption | exact nin_of f14 g14 (by omega))
        refine s0 (x_assign (v := .int _ _) rfl) ?_
        refine s0 (x_assign (v := .bool _) rfl) ?_
        refine c_end ?_
        refine n_then ?_
        refine wp_seq ?_
        refine c_reg ?_
        refine s0 (x_move (v := .bool _) rfl) ?_
        refine s0 (x_move (v := .bool _) rfl) ?_
        refine gt rfl rfl rfl rfl ?_
        refine s0 (x_move (v := .int _ _) rfl) ?_
        refine gt rfl rfl rfl rfl ?_
        refine sb (x_gtr rfl rfl) (fun h35 => ?_) (fun h35 => ?_)
        · refine s0 (x_pickt (v := .bool _) rfl rfl) ?_
          refine s0 (x_move (v := .bool _) rfl) ?_
          refine gt rfl rfl rfl rfl ?_
          refine s0 (x_move (v := .int _ _) rfl) ?_
          refine gt rfl rfl rfl rfl ?_
          refine s0 (x_move (v := .slice _ _ _) rfl) ?_
          refine gt rfl rfl rfl rfl ?_
          refine s0 (x_move (v := .int _ _) rfl) ?_
          refine gt rfl rfl rfl rfl ?_
          refine s0 (x_idx so40FB rfl rfl o14.sl (by decide) (by omega) (by omega)) ?_
          refine gt rfl rfl rfl rfl ?_
          refine st (x_ldi sc3FB rfl o14.sl (by omega) (by omega)) ?_
          refine gt rfl rfl rfl rfl ?_
          refine sb (x_eql rfl rfl) (fun h43 => ?_) (fun h43 => ?_)
          · refine s0 (x_pickt (v := .bool _) rfl rfl) ?_
            refine c_end ?_
            refine n_then ?_
            refine c_true rfl ?_
            refine wp_seq ?_
            refine c_reg ?_
            refine st (x_loadAgB ag35FB rfl B14 rfl) ?_
            refine s0 (x_move (v := .int _ _) rfl) ?_
            refine s_storeAg rfl sz35FB rfl rfl B4 rfl rfl rfl ?_
            intro w19 l20 el20 B4
            have z_l20 := l20.size
            have L := L.fresh l20 (by omega)
            have B1 := B1.ne l20 (by omega)
            have B14 := B14.ne l20 (by omega)
            have o14 := o14.ne l20 (by first | assumption | exact nin_of f14 g14 (by omega))
            refine s0 (x_assign (v := .int _ _) rfl) ?_
            refine s0 (x_assign (v := .int _ _) rfl) ?_
            refine c_end ?_
            refine n_then ?_
            refine wp_ret (r_block (r_then (r_then (r_block (r_then ?_)))))
            refine f_rets3 rfl (ro_cell rfl ag35FB B4 rfl) (ro_tmp rfl) (ro_tmp rfl) ?_
            rw [Int.toNat_natCast] at h31 h35 h43
            exact ⟨rs_found hok (by omega) rfl h31 h35 h43.symm, L⟩
          · refine s0 (x_pickt (v := .bool _) rfl rfl) ?_
            refine c_end ?_
            refine n_then ?_
            refine c_false rfl ?_
            refine c_skipn ?_
            refine n_block ?_
            refine n_then ?_
            refine c_reg ?_
            refine s0 (x_add rfl rfl (by omega)) ?_
            refine s0 (x_move (v := .int _ _) rfl) ?_
            refine c_end ?_
            exact c_round (g' := k + 1) (by omega) ⟨_, upd_self6 rfl rfl rfl rfl rfl (vint (by omega)), L, (by omega), B1, B4, o14, (by omega), (upto_succ' hall (by rw [Int.toNat_natCast] at *; rintro ⟨a1, a2, a3⟩; first | exact h43 a3 | exact h35 a2 | exact h31 a1))⟩
        · refine s0 (x_pickt (v := .bool _) rfl rfl) ?_
          refine s0 (x_move (v := .bool _) rfl) ?_
          refine gf rfl rfl rfl rfl ?_
          refine gf rfl rfl rfl rfl ?_
          refine gf rfl rfl rfl rfl ?_
          refine gf rfl rfl rfl rfl ?_
          refine gf rfl rfl rfl rfl ?_
          refine gf rfl rfl rfl rfl ?_
          refine s0 (x_pickf (v := .bool _) rfl rfl) ?_
          refine c_end ?_
          refine n_then ?_
          refine c_false rfl ?_
          refine c_skipn ?_
          refine n_block ?_
          refine n_then ?_
          refine c_reg ?_
          refine s0 (x_add rfl rfl (by omega)) ?_
          refine s0 (x_move (v := .int _ _) rfl) ?_
          refine c_end ?_
          exact c_round (g' := k + 1) (by omega) ⟨_, upd_self6 rfl rfl rfl rfl rfl (vint (by omega)), L, (by omega), B1, B4, o14, (by omega), (upto_succ' hall (by rw [Int.toNat_natCast] at *; rintro ⟨a1, a2, a3⟩; first | exact h43 a3 | exact h35 a2 | exact h31 a1))⟩
      · refine s_alloc zr35FB ?_
        intro b21 w22 lob21 hib21 l23 B21
        have z_l23 := l23.size
        have L := L.tr l23.up
        have B1 := B1.ext l23
        have B4 := B4.ext l23
        have o14 := o14.ext l23
        refine s_storeAg rfl sz35FB rfl rfl B21 rfl rfl rfl ?_
        intro w24 l25 el25 B21
        have z_l25 := l25.size
        have L := L.fresh l25 (by omega)
        have B1 := B1.ne l25 (by omega)
        have B4 := B4.ne l25 (by omega)
        have o14 := o14.ne l25 (by first | assumption | exact nin_of f14 g14 (by omega))
        refine s0 (x_assign (v := .int _ _) rfl) ?_
        refine s0 (x_assign (v := .bool _) rfl) ?_
        refine c_end ?_
        refine n_then ?_
        refine wp_seq ?_
        refine c_reg ?_
        refine s0 (x_move (v := .bool _) rfl) ?_
        refine s0 (x_move (v := .bool _) rfl) ?_
        refine gf rfl rfl rfl rfl ?_
        refine gf rfl rfl rfl rfl ?_
        refine s0 (x_pickf (v := .bool _) rfl rfl) ?_
        refine s0 (x_move (v := .bool _) rfl) ?_
        refine gf rfl rfl rfl rfl ?_
        refine gf rfl rfl rfl rfl ?_
        refine gf rfl rfl rfl rfl ?_
        refine gf rfl rfl rfl rfl ?_
        refine gf rfl rfl rfl rfl ?_
        refine gf rfl rfl rfl rfl ?_
        refine s0 (x_pickf (v := .bool _) rfl rfl) ?_
        refine c_end ?_
        refine n_then ?_
        refine c_false rfl ?_
        refine c_skipn ?_
        refine n_block ?_
        refine n_then ?_
        refine c_reg ?_
        refine s0 (x_add rfl rfl (by omega)) ?_
        refine s0 (x_move (v := .int _ _) rfl) ?_
        refine c_end ?_
        exact c_round (g' := k + 1) (by omega) ⟨_, upd_self6 rfl rfl rfl rfl rfl (vint (by omega)), L, (by omega), B1, B4, o14, (by omega), (upto_succ' hall (by rw [Int.toNat_natCast] at *; rintro ⟨a1, a2, a3⟩; first | exact h43 a3 | exact h35 a2 | exact h31 a1))⟩
    · refine c_end ?_
      refine n_then ?_
      refine wp_seq ?_
      refine c_false rfl ?_
      refine wp_exit (e_then (e_then (e_here ?_)))
      refine n_then ?_
      refine wp_seq ?_
      refine c_reg ?_
      refine st (x_loadAgB ag35FB rfl B1 rfl) ?_
      refine s_storeAg rfl sz35FB rfl rfl B4 rfl rfl rfl ?_
      intro w26 l27 el27 B4
      have z_l27 := l27.size
      have L := L.fresh l27 (by omega)
      have B1 := B1.ne l27 (by omega)
      have o14 := o14.ne l27 (by first | assumption | exact nin_of f14 g14 (by omega))
      refine s0 (x_assign (v := .int _ _) rfl) ?_
      refine s0 (x_assign (v := .int _ _) rfl) ?_
      refine c_end ?_
      refine n_then ?_
      refine wp_ret ?_
      refine f_rets3 rfl (ro_cell rfl ag35FB B4 rfl) (ro_tmp rfl) (ro_tmp rfl) ?_
      exact ⟨rs_short hok (rs_miss hok fun j hj => hall j (by omega)), L⟩

/-- spec.ReadSym -/
theorem s_readSym (s : ByteArray) (a : Int) (p : Option Addr) (xs : List Int) (c : Nat) (w : World) (hp : Sl w p xs.length c 1 (ic xs)) (hl : xs.length ≤ 1099511627776) (hs : s.size ≤ 1048576) :
    Calls Try.prog 184 [.agg [.string s, .int .i64 a].toArray, .slice p xs.length c].toArray w (Ret w (.tuple [.agg [.string s, .int .i64 (rsAt s a xs)].toArray, .int .i64 (rsV s a xs), .int .i64 (rsE s a xs)].toArray)) := by
  have L : Exm [] w w := Exm.rfl'
  refine enter (n := 54) Try.func184 rfl rfl rfl ?_
  refine wp_seq ?_
  refine c_reg ?_
  refine s_box rfl rfl ?_
  intro b1 w2 lob1 hib1 l3 B1
  have z_l3 := l3.size
  have L := L.tr l3.up
  refine s_alloc zr35FB ?_
  intro b4 w5 lob4 hib4 l6 B4
  have z_l6 := l6.size
  have L := L.tr l6.up
  have B1 := B1.ext l6
  refine s0 (x_assign (v := .int _ _) rfl) ?_
  refine s0 (x_assign (v := .int _ _) rfl) ?_
  refine c_end ?_
  refine n_then ?_
  refine wp_seq ?_
  refine c_reg ?_
  refine s0 (x_move (v := .slice _ _ _) rfl) ?_
  refine sp (zcall cl237FB rfl) (s_codesOf _ _ _ _ (hp.ext L) (by omega)) ?_
  rintro v14 w7 l8 ⟨p14, c14, F14, rfl, o14, f14⟩
  have z_l8 := l8.size
  have L := L.tr l8.up
  have B1 := B1.ext l8
  have B4 := B4.ext l8
  have g14 := o14.lt
  refine s0 (x_assign (v := .slice _ _ _) rfl) ?_
  refine c_end ?_
  refine n_then ?_
  refine wp_seq ?_
  refine wp_seq ?_
  refine c_reg ?_
  refine s0 (x_move (v := .slice _ _ _) rfl) ?_
  refine s0 (x_lensl un40FB rfl) ?_
  refine sb (x_eql rfl rfl) (fun h17 => ?_) (fun h17 => ?_)
  · refine c_end ?_
    refine n_then ?_
    refine c_true rfl ?_
    refine wp_seq ?_
    refine c_reg ?_
    refine st (x_loadAgB ag35FB rfl B1 rfl) ?_
    refine s_storeAg rfl sz35FB rfl rfl B4 rfl rfl rfl ?_
    intro w9 l10 el10 B4
    have z_l10 := l10.size
    have L := L.fresh l10 (by omega)
    have B1 := B1.ne l10 (by omega)
    have o14 := o14.ne l10 (by first | assumption | exact nin_of f14 g14 (by omega))
    refine s0 (x_assign (v := .int _ _) rfl) ?_
    refine s0 (x_assign (v := .int _ _) rfl) ?_
    refine c_end ?_
    refine n_then ?_
    refine wp_ret (r_then ?_)
    refine f_rets3 rfl (ro_cell rfl ag35FB B4 rfl) (ro_tmp rfl) (ro_tmp rfl) ?_
    exact ⟨rs_bad (fun h => by have := codes_length h; omega), L⟩
  · refine c_end ?_
    refine n_then ?_
    refine c_false rfl ?_
    refine c_skipn ?_
    refine n_then ?_
    refine wp_seq ?_
    refine wp_seq ?_
    have hok : codeOk xs := Classical.byContradiction (fun h => h17 (by unfold codesOf; rw [if_neg h]; rfl))
    have hx6 := hok.2.1
    have hcl := codes_length hok
    refine c_reg ?_
    refine s0 (x_assign (v := .int _ _) rfl) ?_
    refine c_end ?_
    refine n_then ?_
    refine wp_block ?_
    refine c_loop (γ := Nat) (fun n => 7 - n) (fun (n : Nat) E wl => ∃ E0, E = upd (upd (upd (upd (upd E0 1 (.slice p xs.length c)) 2 (pt b1 0)) 4 (pt b4 0)) 7 (.slice p14 (codesOf xs).length c14)) 8 (.int .i64 ((n : Int) + 1)) ∧ (Exm [] w wl) ∧ (w7.heap.size ≤ wl.heap.size) ∧ (Bx wl b1 [.string s, .int .i64 a] 35) ∧ (Bx wl b4 [.string .empty, .int .i64 0] 35) ∧ (Own wl p14 (codesOf xs).length c14 3 1 (ic (codesOf xs)) F14) ∧ (n ≤ 7) ∧ (∀ m : Nat, m < 6 → 1 ≤ xs.getD m 0 → xs.getD m 0 < (n : Int) + 1 → rbV s a (xs.getD m 0) ≠ (codesOf xs).getD m 0) ∧ (1 ≤ n → rbOk s a n)) 0 ⟨_, upd_self5 rfl rfl rfl rfl rfl, L, (by omega), B1, B4, o14, (Nat.zero_le _), (fun m _ h1 h2 => by omega), (fun h => absurd h (by decide))⟩ ?_
    rintro n E wl11 ⟨E0, rfl, L, Lz, B1, B4, o14, hn, hw, hrb⟩
    have Lz0 := L.size
    refine wp_seq ?_
    refine wp_seq ?_
    refine c_reg ?_
    refine s0 (x_move (v := .int _ _) rfl) ?_
    refine sb (x_leq rfl rfl) (fun h20 => ?_) (fun h20 => ?_)
    · refine c_end ?_
      refine n_then ?_
      refine c_true rfl ?_
      refine c_skipn ?_
      refine n_then ?_
      refine wp_seq ?_
      refine wp_block ?_
      refine wp_seq ?_
      refine c_reg ?_
      refine st (x_loadAgB ag35FB rfl B1 rfl) ?_
      refine s0 (x_move (v := .int _ _) rfl) ?_
      refine sr (zcall cl102FB rfl) (s_readBits _ _ _ _ (by omega)) ?_
      intro w12 l13
      have z_l13 := l13.size
      have L := L.tr l13.up
      have B1 := B1.ext l13
      have B4 := B4.ext l13
      have o14 := o14.ext l13
      refine s0 (x_move (v := .tuple _) rfl) ?_
      refine s0 (x_extract rfl rfl) ?_
      refine s0 (x_extract rfl rfl) ?_
      refine sb (x_extract rfl rfl) (fun h29 => ?_) (fun h29 => ?_)
      · refine s_alloc zr35FB ?_
        intro b14 w15 lob14 hib14 l16 B14
        have z_l16 := l16.size
        have L := L.tr l16.up
        have B1 := B1.ext l16
        have B4 := B4.ext l16
        have o14 := o14.ext l16
        refine s_storeAg rfl sz35FB rfl rfl B14 rfl rfl rfl ?_
        intro w17 l18 el18 B14
        have z_l18 := l18.size
        have L := L.fresh l18 (by omega)
        have B1 := B1.ne l18 (by omega)
        have B4 := B4.ne l18 (by omega)
        have o14 := o14.ne l18 (by first | assumption | exact nin_of f14 g14 (by omega))
        refine s0 (x_assign (v := .int _ _) rfl) ?_
        refine s0 (x_assign (v := .bool _) rfl) ?_
        refine c_end ?_
        refine n_then ?_
        refine wp_seq ?_
        refine wp_seq ?_
        refine c_reg ?_
        refine s0 (x_move (v := .bool _) rfl) ?_
        refine s0 (x_not rfl) ?_
        refine c_end ?_
        refine n_then ?_
        refine c_false rfl ?_
        refine c_skipn ?_
        refine n_then ?_
        refine wp_seq ?_
        refine c_reg ?_
        refine s0 (x_assign (v := .int _ _) rfl) ?_
        refine c_end ?_
        refine n_then ?_
        refine wp_block ?_
        refine c_loop (γ := Nat) (fun j => 6 - j) (fun (j : Nat) E wl => ∃ E0, E = upd (upd (upd (upd (upd (upd (upd (upd E0 1 (.slice p xs.length c)) 2 (pt b1 0)) 4 (pt b4 0)) 7 (.slice p14 (codesOf xs).length c14)) 8 (.int .i64 ((n : Int) + 1))) 9 (pt b14 0)) 10 (.int .i64 (rbV s a ((n : Int) + 1)))) 12 (.int .i64 (j : Int)) ∧ (Exm [] w wl) ∧ (w17.heap.size ≤ wl.heap.size) ∧ (Bx wl b1 [.string s, .int .i64 a] 35) ∧ (Bx wl b4 [.string .empty, .int .i64 0] 35) ∧ (Bx wl b14 [.string s, .int .i64 (rbAt s a ((n : Int) + 1))] 35) ∧ (Own wl p14 (codesOf xs).length c14 3 1 (ic (codesOf xs)) F14) ∧ ((j : Int) ≤ 6) ∧ (∀ m : Nat, m < 6 → 1 ≤ xs.getD m 0 → xs.getD m 0 < (n : Int) + 2 → (m < j ∨ xs.getD m 0 < (n : Int) + 1) → rbV s a (xs.getD m 0) ≠ (codesOf xs).getD m 0)) 0 ⟨_, upd_self8 rfl rfl rfl rfl rfl rfl rfl rfl, L, (by omega), B1, B4, B14, o14, (by omega), (fun m hm h1 _ h3 => hw m hm h1 (by omega))⟩ ?_
        rintro j E wl19 ⟨E0, rfl, L, Lz, B1, B4, B14, o14, hj, hin⟩
        have Lz0 := L.size
        refine wp_seq ?_
        refine wp_seq ?_
        refine c_reg ?_
        refine s0 (x_move (v := .int _ _) rfl) ?_
        refine sb (x_lss rfl rfl) (fun h34 => ?_) (fun h34 => ?_)
        · refine c_end ?_
          refine n_then ?_
          refine c_true rfl ?_
          refine c_skipn ?_
          refine n_then ?_
          refine wp_seq ?_
          refine wp_block ?_
          refine wp_seq ?_
          refine c_reg ?_
          refine s0 (x_move (v := .slice _ _ _) rfl) ?_
          refine s0 (x_move (v := .int _ _) rfl) ?_
          refine s0 (x_idx so40FB rfl rfl hp (by decide) (by omega) (by omega)) ?_
          refine st (x_ldi sc3FB rfl (hp.ext L) (by omega) (by omega)) ?_
          refine s0 (x_move (v := .int _ _) rfl) ?_
          refine sb (x_eql rfl rfl) (fun h42 => ?_) (fun h42 => ?_)
          · refine s0 (x_move (v := .bool _) rfl) ?_
            refine gt rfl rfl rfl rfl ?_
            refine s0 (x_move (v := .slice _ _ _) rfl) ?_
            refine gt rfl rfl rfl rfl ?_
            refine s0 (x_move (v := .int _ _) rfl) ?_
            refine gt rfl rfl rfl rfl ?_
            refine s0 (x_idx so40FB rfl rfl o14.sl (by decide) (by omega) (by omega)) ?_
            refine gt rfl rfl rfl rfl ?_
            refine st (x_ldi sc3FB rfl o14.sl (by omega) (by omega)) ?_
            refine gt rfl rfl rfl rfl ?_
            refine s0 (x_move (v := .int _ _) rfl) ?_
            refine gt rfl rfl rfl rfl ?_
            refine sb (x_eql rfl rfl) (fun h49 => ?_) (fun h49 => ?_)
            · refine s0 (x_pickt (v := .bool _) rfl rfl) ?_
              refine c_end ?_
              refine n_then ?_
              refine c_true rfl ?_
              refine wp_seq ?_
              refine c_reg ?_
              refine st (x_loadAgB ag35FB rfl B14 rfl) ?_
              refine s0 (x_move (v := .int _ _) rfl) ?_
              refine s_storeAg rfl sz35FB rfl rfl B4 rfl rfl rfl ?_
              intro w20 l21 el21 B4
              have z_l21 := l21.size
              have L := L.fresh l21 (by omega)
              have B1 := B1.ne l21 (by omega)
              have B14 := B14.ne l21 (by omega)
              have o14 := o14.ne l21 (by first | assumption | exact nin_of f14 g14 (by omega))
              refine s0 (x_assign (v := .int _ _) rfl) ?_
              refine s0 (x_assign (v := .int _ _) rfl) ?_
              refine c_end ?_
              refine n_then ?_
              refine wp_ret (r_block (r_then (r_then (r_block (r_block (r_then (r_then (r_block (r_then ?_)))))))))
              refine f_rets3 rfl (ro_cell rfl ag35FB B4 rfl) (ro_tmp rfl) (ro_tmp rfl) ?_
              rw [Int.toNat_natCast] at h42 h49
              exact ⟨rs_found hok (by omega) h42 h29 (by omega) h49, L⟩
            · refine s0 (x_pickt (v := .bool _) rfl rfl) ?_
              refine c_end ?_
              refine n_then ?_
              refine c_false rfl ?_
              refine c_skipn ?_
              refine n_block ?_
              refine n_then ?_
              refine c_reg ?_
              refine s0 (x_move (v := .int _ _) rfl) ?_
              refine s0 (x_add rfl rfl (by omega)) ?_
              refine s0 (x_assign (v := .int _ _) rfl) ?_
              refine c_end ?_
              exact c_round (g' := j + 1) (by omega) ⟨_, upd_self8 rfl rfl rfl rfl rfl rfl rfl (vint (by omega)), L, (by omega), B1, B4, B14, o14, (by omega), (fun m hm h1 h2 h3 => if hmj : m = j then (by subst hmj; rw [Int.toNat_natCast] at h42; first | exact hin m hm h1 h2 (by omega) | (rw [Int.toNat_natCast] at h49; rw [h42]; exact fun h5 => h49 h5.symm)) else hin m hm h1 h2 (by omega))⟩
          · refine s0 (x_move (v := .bool _) rfl) ?_
            refine gf rfl rfl rfl rfl ?_
            refine gf rfl rfl rfl rfl ?_
            refine gf rfl rfl rfl rfl ?_
            refine gf rfl rfl rfl rfl ?_
            refine gf rfl rfl rfl rfl ?_
            refine gf rfl rfl rfl rfl ?_
            refine s0 (x_pickf (v := .bool _) rfl rfl) ?_
            refine c_end ?_
            refine n_then ?_
            refine c_false rfl ?_
            refine c_skipn ?_
            refine n_block ?_
            refine n_then ?_
            refine c_reg ?_
            refine s0 (x_move (v := .int _ _) rfl) ?_
            refine s0 (x_add rfl rfl (by omega)) ?_
            refine s0 (x_assign (v := .int _ _) rfl) ?_
            refine c_end ?_
            exact c_round (g' := j + 1) (by omega) ⟨_, upd_self8 rfl rfl rfl rfl rfl rfl rfl (vint (by omega)), L, (by omega), B1, B4, B14, o14, (by omega), (fun m hm h1 h2 h3 => if hmj : m = j then (by subst hmj; rw [Int.toNat_natCast] at h42; first | exact hin m hm h1 h2 (by omega) | (rw [Int.toNat_natCast] at h49; rw [h42]; exact fun h5 => h49 h5.symm)) else hin m hm h1 h2 (by omega))⟩
        · refine c_end ?_
          refine n_then ?_
          refine c_false rfl ?_
          refine wp_exit (e_then (e_then (e_here ?_)))
          refine n_block ?_
          refine n_then ?_
          refine c_reg ?_
          refine s0 (x_move (v := .int _ _) rfl) ?_
          refine s0 (x_add rfl rfl (by omega)) ?_
          refine s0 (x_assign (v := .int _ _) rfl) ?_
          refine c_end ?_
          exact c_round (g' := n + 1) (by omega) ⟨_, upd_self5 rfl rfl rfl rfl (vint (by omega)), L, (by omega), B1, B4, o14, (by omega), (fun m hm h1 h2 => hin m hm h1 (by omega) (by omega)), (fun _ => by rw [show ((n + 1 : Nat) : Int) = (n : Int) + 1 by omega]; exact h29)⟩
      · refine s_alloc zr35FB ?_
        intro b22 w23 lob22 hib22 l24 B22
        have z_l24 := l24.size
        have L := L.tr l24.up
        have B1 := B1.ext l24
        have B4 := B4.ext l24
        have o14 := o14.ext l24
        refine s_storeAg rfl sz35FB rfl rfl B22 rfl rfl rfl ?_
        intro w25 l26 el26 B22
        have z_l26 := l26.size
        have L := L.fresh l26 (by omega)
        have B1 := B1.ne l26 (by omega)
        have B4 := B4.ne l26 (by omega)
        have o14 := o14.ne l26 (by first | assumption | exact nin_of f14 g14 (by omega))
        refine s0 (x_assign (v := .int _ _) rfl) ?_
        refine s0 (x_assign (v := .bool _) rfl) ?_
        refine c_end ?_
        refine n_then ?_
        refine wp_seq ?_
        refine wp_seq ?_
        refine c_reg ?_
        refine s0 (x_move (v := .bool _) rfl) ?_
        refine s0 (x_not rfl) ?_
        refine c_end ?_
        refine n_then ?_
        refine c_true rfl ?_
        refine wp_seq ?_
        refine c_reg ?_
        refine st (x_loadAgB ag35FB rfl B1 rfl) ?_
        refine s_storeAg rfl sz35FB rfl rfl B4 rfl rfl rfl ?_
        intro w27 l28 el28 B4
        have z_l28 := l28.size
        have L := L.fresh l28 (by omega)
        have B1 := B1.ne l28 (by omega)
        have B22 := B22.ne l28 (by omega)
        have o14 := o14.ne l28 (by first | assumption | exact nin_of f14 g14 (by omega))
        refine s0 (x_assign (v := .int _ _) rfl) ?_
        refine s0 (x_assign (v := .int _ _) rfl) ?_
        refine c_end ?_
        refine n_then ?_
        refine wp_ret (r_then (r_block (r_then (r_then (r_block (r_then ?_))))))
        refine f_rets3 rfl (ro_cell rfl ag35FB B4 rfl) (ro_tmp rfl) (ro_tmp rfl) ?_
        exact ⟨rs_short hok (rs_none hok h29 (by omega) hw), L⟩
    · exact (rs_full hok (by have := hrb (by omega); rwa [show (n : Int) = 7 by omega] at this) (fun m hm h1 h2 => hw m hm h1 (by omega))).elim

/-- impl.SizeOk -/
theorem i_sizeOk (n : Int) (w : World) :
    Calls Try.prog 188 [.int .i64 n].toArray w (Ret w (.bool (decide (n = 4 ∨ n = 8)))) := by
  have L : Exm [] w w := Exm.rfl'
  refine enter (n := 9) Try.func188 rfl rfl rfl ?_
  refine wp_seq ?_
  refine c_reg ?_
  refine s0 (x_assign (v := .bool _) rfl) ?_
  refine c_end ?_
  refine n_then ?_
  refine wp_seq ?_
  refine c_reg ?_
  refine s0 (x_move (v := .int _ _) rfl) ?_
  refine sb (x_eql rfl rfl) (fun h4 => ?_) (fun h4 => ?_)
  · refine s0 (x_move (v := .bool _) rfl) ?_
    refine gf rfl rfl rfl rfl ?_
    refine gf rfl rfl rfl rfl ?_
    refine s0 (x_pickt (v := .bool _) rfl rfl) ?_
    refine s0 (x_assign (v := .bool _) rfl) ?_
    refine c_end ?_
    refine n_then ?_
    refine wp_ret ?_
    refine f_ret rfl rfl ?_
    exact ⟨ret_t (.inl h4), L⟩
  · refine s0 (x_move (v := .bool _) rfl) ?_
    refine gt rfl rfl rfl rfl ?_
    refine s0 (x_move (v := .int _ _) rfl) ?_
    refine gt rfl rfl rfl rfl ?_
    refine s0 (x_eql rfl rfl) ?_
    refine s0 (x_pickf (v := .bool _) rfl rfl) ?_
    refine s0 (x_assign (v := .bool _) rfl) ?_
    refine c_end ?_
    refine n_then ?_
    refine wp_ret ?_
    refine f_ret rfl rfl ?_
    exact ⟨ret_dec2 (by omega), L⟩

/-- spec.SizeOk -/
theorem s_sizeOk (n : Int) (w : World) :
    Calls Try.prog 183 [.int .i64 n].toArray w (Ret w (.bool (decide (n = 4 ∨ n = 8)))) := by
  have L : Exm [] w w := Exm.rfl'
  refine enter (n := 9) Try.func183 rfl rfl rfl ?_
  refine wp_seq ?_
  refine c_reg ?_
  refine s0 (x_assign (v := .bool _) rfl) ?_
  refine c_end ?_
  refine n_then ?_
  refine wp_seq ?_
  refine c_reg ?_
  refine s0 (x_move (v := .int _ _) rfl) ?_
  refine sb (x_eql rfl rfl) (fun h4 => ?_) (fun h4 => ?_)
  · refine s0 (x_move (v := .bool _) rfl) ?_
    refine gf rfl rfl rfl rfl ?_
    refine gf rfl rfl rfl rfl ?_
    refine s0 (x_pickt (v := .bool _) rfl rfl) ?_
    refine s0 (x_assign (v := .bool _) rfl) ?_
    refine c_end ?_
    refine n_then ?_
    refine wp_ret ?_
    refine f_ret rfl rfl ?_
    exact ⟨ret_t (.inl h4), L⟩
  · refine s0 (x_move (v := .bool _) rfl) ?_
    refine gt rfl rfl rfl rfl ?_
    refine s0 (x_move (v := .int _ _) rfl) ?_
    refine gt rfl rfl rfl rfl ?_
    refine s0 (x_eql rfl rfl) ?_
    refine s0 (x_pickf (v := .bool _) rfl rfl) ?_
    refine s0 (x_assign (v := .bool _) rfl) ?_
    refine c_end ?_
    refine n_then ?_
    refine wp_ret ?_
    refine f_ret rfl rfl ?_
    exact ⟨ret_dec2 (by omega), L⟩

end Go.Proofs.Ytnehdmcilmlchaa
